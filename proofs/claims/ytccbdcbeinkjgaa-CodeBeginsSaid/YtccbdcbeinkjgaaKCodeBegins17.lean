/- Part 17 of the proof of the law CodeBegins for every input: words, walks and plain laws. No condition. -/
import Derived.Test.YtccbdcbeinkjgaaKCodeBegins16
section
namespace Go.Proofs.Ytccbdcbeinkjgaa.XA
open Go.Proofs.Ytccbdcbeinkjgaa.Lift Go.RowKit Go.Proofs.YtccbdcbeinkjgaaW.PrintWords Go.Proofs.YtccbdcbeinkjgaaW.PrintLast Go.Proofs.YtccbdcbeinkjgaaW.PrintMore
attribute [local go_sem] max2_int min2_int max_two min_two max_three min_three max_four min_four
set_option linter.unusedVariables false
set_option linter.unusedSimpArgs false

/-! ### swagelaw17_CodeBegins: function 3 -/
mutual
def swagelaw17_CodeBegins.j0 : Nat → Bool → Int → Int → List (S48) → Int → Int → List (S63) → List Int → Int → Int → List (S63) → List Int → Int → Int → List (S63) → List Int → Int → Int → List (S48) → Int → Int → List (S63) → List Int → Int → Int → List (S63) → List Int → Int → Int → List (S63) → List Int → Option (Bool)
 | 0, _, _, _, _, _, _, _, _, _, _, _, _, _, _, _, _, _, _, _, _, _, _, _, _, _, _, _, _, _, _, _ => none
 | k + 1, x16, q2, q3, q4, q5, q6, q7, q8, q9, jA, jB, jC, jD, jE, jF, jG, jH, jI, jJ, jK, jL, jM, jN, jO, jP, jQ, jR, jS, jT, jU, jV => if x16 = true then (some true) else ((code_Encode.f k q2 q3 q4 q5 q6 q7 q8 q9 jA jB jC jD jE jF jG).bind fun bt542 => ((code_Encode.f k jH jI jJ jK jL jM jN jO jP jQ jR jS jT jU jV).bind fun bt546 => (if bt542.2 = 0 then (swagelaw17_CodeBegins.j1 k bt542.1 bt546.1 (bt546.2 != 0) q2 q3 q4 q5 q6 q7 q8 q9 jA jB jC jD jE jF jG jH jI jJ jK jL jM jN jO jP jQ jR jS jT jU jV) else (swagelaw17_CodeBegins.j1 k bt542.1 bt546.1 true q2 q3 q4 q5 q6 q7 q8 q9 jA jB jC jD jE jF jG jH jI jJ jK jL jM jN jO jP jQ jR jS jT jU jV))))
def swagelaw17_CodeBegins.j1 : Nat → List Int → List Int → Bool → Int → Int → List (S48) → Int → Int → List (S63) → List Int → Int → Int → List (S63) → List Int → Int → Int → List (S63) → List Int → Int → Int → List (S48) → Int → Int → List (S63) → List Int → Int → Int → List (S63) → List Int → Int → Int → List (S63) → List Int → Option (Bool)
 | 0, _, _, _, _, _, _, _, _, _, _, _, _, _, _, _, _, _, _, _, _, _, _, _, _, _, _, _, _, _, _, _, _, _ => none
 | k + 1, x5, x7, x32, q2, q3, q4, q5, q6, q7, q8, q9, jA, jB, jC, jD, jE, jF, jG, jH, jI, jJ, jK, jL, jM, jN, jO, jP, jQ, jR, jS, jT, jU, jV => if x32 = true then (some true) else ((bytes_HasPrefix.f x5 x7).bind fun qj => ((code_Same.f k q2 q3 q4 q5 q6 q7 q8 q9 jA jB jC jD jE jF jG jH jI jJ jK jL jM jN jO jP jQ jR jS jT jU jV).bind fun qi => (if (qj == qi) = true then ((bytes_HasPrefix.f x7 x5).bind fun jW => ((code_Same.f k q2 q3 q4 q5 q6 q7 q8 q9 jA jB jC jD jE jF jG jH jI jJ jK jL jM jN jO jP jQ jR jS jT jU jV).bind fun qv => (some (jW == qv)))) else (some false))))
end
def swagelaw17_CodeBegins.f (k : Nat) (qU : Int) (qV : Int) (qM : List (S48)) (qW : Int) (qX : Int) (qN : List (S63)) (qO : List Int) (qY : Int) (qZ : Int) (qP : List (S63)) (qC : List Int) (qI : Int) (qJ : Int) (qD : List (S63)) (qE : List Int) (qa : Int) (qb : Int) (qQ : List (S48)) (qc : Int) (qd : Int) (qR : List (S63)) (qS : List Int) (qe : Int) (qf : Int) (qT : List (S63)) (qF : List Int) (qK : Int) (qL : Int) (qG : List (S63)) (qH : List Int) : Option (Bool) := (swagelaw17_works.f k).bind fun yF => (if yF = true then ((swagelaw17_long.f qU qV qM qW qX qN qO qY qZ qP qC qI qJ qD qE).bind fun jf => (if jf = true then (swagelaw17_CodeBegins.j0 k true qU qV qM qW qX qN qO qY qZ qP qC qI qJ qD qE qa qb qQ qc qd qR qS qe qf qT qF qK qL qG qH) else ((swagelaw17_long.f qa qb qQ qc qd qR qS qe qf qT qF qK qL qG qH).bind fun qk => (swagelaw17_CodeBegins.j0 k qk qU qV qM qW qX qN qO qY qZ qP qC qI qJ qD qE qa qb qQ qc qd qR qS qe qf qT qF qK qL qG qH)))) else (some false))
theorem swagelaw17_CodeBegins.mono_l : ∀ k, (∀ y0 y1 y2 y3 y4 y5 y6 y7 y8 y9 y10 y11 y12 y13 y14 y15 y16 y17 y18 y19 y20 y21 y22 y23 y24 y25 y26 y27 y28 y29 y30, LeO (swagelaw17_CodeBegins.j0 k y0 y1 y2 y3 y4 y5 y6 y7 y8 y9 y10 y11 y12 y13 y14 y15 y16 y17 y18 y19 y20 y21 y22 y23 y24 y25 y26 y27 y28 y29 y30) (swagelaw17_CodeBegins.j0 (k + 1) y0 y1 y2 y3 y4 y5 y6 y7 y8 y9 y10 y11 y12 y13 y14 y15 y16 y17 y18 y19 y20 y21 y22 y23 y24 y25 y26 y27 y28 y29 y30)) ∧ (∀ y0 y1 y2 y3 y4 y5 y6 y7 y8 y9 y10 y11 y12 y13 y14 y15 y16 y17 y18 y19 y20 y21 y22 y23 y24 y25 y26 y27 y28 y29 y30 y31 y32, LeO (swagelaw17_CodeBegins.j1 k y0 y1 y2 y3 y4 y5 y6 y7 y8 y9 y10 y11 y12 y13 y14 y15 y16 y17 y18 y19 y20 y21 y22 y23 y24 y25 y26 y27 y28 y29 y30 y31 y32) (swagelaw17_CodeBegins.j1 (k + 1) y0 y1 y2 y3 y4 y5 y6 y7 y8 y9 y10 y11 y12 y13 y14 y15 y16 y17 y18 y19 y20 y21 y22 y23 y24 y25 y26 y27 y28 y29 y30 y31 y32))
 | 0 => ⟨fun _ _ _ _ _ _ _ _ _ _ _ _ _ _ _ _ _ _ _ _ _ _ _ _ _ _ _ _ _ _ _ r h => by simp [swagelaw17_CodeBegins.j0] at h, fun _ _ _ _ _ _ _ _ _ _ _ _ _ _ _ _ _ _ _ _ _ _ _ _ _ _ _ _ _ _ _ _ _ r h => by simp [swagelaw17_CodeBegins.j1] at h⟩
 | k + 1 => by
  obtain ⟨ih0, ih1⟩ := swagelaw17_CodeBegins.mono_l k
  refine ⟨?_, ?_⟩
  ·intro y0 y1 y2 y3 y4 y5 y6 y7 y8 y9 y10 y11 y12 y13 y14 y15 y16 y17 y18 y19 y20 y21 y22 y23 y24 y25 y26 y27 y28 y29 y30
   unfold swagelaw17_CodeBegins.j0
   have im0 := @code_Encode.mono; have im1 := @code_Same.mono; have im2 := @swagelaw17_works.mono; exact zM
  ·intro y0 y1 y2 y3 y4 y5 y6 y7 y8 y9 y10 y11 y12 y13 y14 y15 y16 y17 y18 y19 y20 y21 y22 y23 y24 y25 y26 y27 y28 y29 y30 y31 y32
   unfold swagelaw17_CodeBegins.j1
   have im0 := @code_Encode.mono; have im1 := @code_Same.mono; have im2 := @swagelaw17_works.mono; exact zM
theorem swagelaw17_CodeBegins.mono : ∀ a0 a1 a2 a3 a4 a5 a6 a7 a8 a9 a10 a11 a12 a13 a14 a15 a16 a17 a18 a19 a20 a21 a22 a23 a24 a25 a26 a27 a28 a29 k, LeO (swagelaw17_CodeBegins.f k a0 a1 a2 a3 a4 a5 a6 a7 a8 a9 a10 a11 a12 a13 a14 a15 a16 a17 a18 a19 a20 a21 a22 a23 a24 a25 a26 a27 a28 a29) (swagelaw17_CodeBegins.f (k + 1) a0 a1 a2 a3 a4 a5 a6 a7 a8 a9 a10 a11 a12 a13 a14 a15 a16 a17 a18 a19 a20 a21 a22 a23 a24 a25 a26 a27 a28 a29) := by
 intro a0 a1 a2 a3 a4 a5 a6 a7 a8 a9 a10 a11 a12 a13 a14 a15 a16 a17 a18 a19 a20 a21 a22 a23 a24 a25 a26 a27 a28 a29 k
 obtain ⟨ih0, ih1⟩ := swagelaw17_CodeBegins.mono_l k
 unfold swagelaw17_CodeBegins.f
 have im0 := @code_Encode.mono; have im1 := @code_Same.mono; have im2 := @swagelaw17_works.mono; exact zM
def swagelaw17_CodeBegins.T9 : Bool × List (List Nat × List Nat) := (true, [([], []), ([], []), ([0, 1], [0, 1]), ([], []), ([], []), ([3, 4, 2], [3, 4]), ([2, 5], [2, 5]), ([6, 5], [6]), ([7], [7]), ([7], [7]), ([8, 9, 7, 7], [7, 8, 9]), ([7], [7]), ([7], [7]), ([11, 12, 10, 7], [7, 11, 12]), ([10, 13, 7], [7, 10, 13]), ([7, 14], [7, 14]), ([15, 13, 0, 1, 2, 3, 4, 5, 6, 7, 8, 9, 10, 11, 12, 13, 14, 15], [15])])
def swagelaw17_CodeBegins.B9 : List Nat := [0, 0, 3, 0, 0, 31, 63, 127, 255, 255, 1023, 255, 255, 8191, 16383, 32767, 65535]
theorem swagelaw17_CodeBegins.tab9 : rtab .any (opsOf Try.f3 9) = swagelaw17_CodeBegins.T9 := by kernel_rfl
theorem swagelaw17_CodeBegins.bits9 : waitsOk swagelaw17_CodeBegins.T9.2 swagelaw17_CodeBegins.B9 = true := by kernel_rfl
set_option maxHeartbeats 8000000 in
set_option maxRecDepth 100000 in
theorem swagelaw17_CodeBegins.calls (k : Nat) (qU : Int) (qV : Int) (jX : Option Addr) (jY : Nat) (qM : List (S48)) (qW : Int) (qX : Int) (jZ : Option Addr) (ja : Nat) (qN : List (S63)) (jb : Option Addr) (jc : Nat) (qO : List Int) (qY : Int) (qZ : Int) (jd : Option Addr) (je : Nat) (qP : List (S63)) (qo : Option Addr) (qp : Nat) (qC : List Int) (qI : Int) (qJ : Int) (qq : Option Addr) (qr : Nat) (qD : List (S63)) (qs : Option Addr) (qt : Nat) (qE : List Int) (qa : Int) (qb : Int) (jg : Option Addr) (jh : Nat) (qQ : List (S48)) (qc : Int) (qd : Int) (ji : Option Addr) (jj : Nat) (qR : List (S63)) (jk : Option Addr) (jl : Nat) (qS : List Int) (qe : Int) (qf : Int) (jm : Option Addr) (jn : Nat) (qT : List (S63)) (qw : Option Addr) (qx : Nat) (qF : List Int) (qK : Int) (qL : Int) (qy : Option Addr) (qz : Nat) (qG : List (S63)) (q0 : Option Addr) (q1 : Nat) (qH : List Int) (r : Bool) (w : World) (yd : Kd.C k48 w jX qM.length qM) (ye : qM.length ≤ jY) (yf : Kd.C k63 w jZ qN.length qN) (yg : qN.length ≤ ja) (yh : Kd.C (Kd.int .i64) w jb qO.length qO) (yi : qO.length ≤ jc) (yj : Kd.C k63 w jd qP.length qP) (yk : qP.length ≤ je) (yP : Kd.C (Kd.int .i64) w qo qC.length qC) (yQ : qC.length ≤ qp) (yR : Kd.C k63 w qq qD.length qD) (yS : qD.length ≤ qr) (yT : Kd.C (Kd.int .i64) w qs qE.length qE) (yU : qE.length ≤ qt) (yl : Kd.C k48 w jg qQ.length qQ) (ym : qQ.length ≤ jh) (yn : Kd.C k63 w ji qR.length qR) (yo : qR.length ≤ jj) (yp : Kd.C (Kd.int .i64) w jk qS.length qS) (yq : qS.length ≤ jl) (yr : Kd.C k63 w jm qT.length qT) (ys : qT.length ≤ jn) (yV : Kd.C (Kd.int .i64) w qw qF.length qF) (yW : qF.length ≤ qx) (yX : Kd.C k63 w qy qG.length qG) (yY : qG.length ≤ qz) (yZ : Kd.C (Kd.int .i64) w q0 qH.length qH) (ya : qH.length ≤ q1) (hT : Aside0 (r = true)) (h : swagelaw17_CodeBegins.f k qU qV qM qW qX qN qO qY qZ qP qC qI qJ qD qE qa qb qQ qc qd qR qS qe qf qT qF qK qL qG qH = some r) :
  Calls Try.prog 3 #[.agg #[.int .i64 qU, .int .i64 qV, .slice jX qM.length jY, .int .i64 qW, .int .i64 qX, .slice jZ qN.length ja, .slice jb qO.length jc, .int .i64 qY, .int .i64 qZ, .slice jd qP.length je, .slice qo qC.length qp, .int .i64 qI, .int .i64 qJ, .slice qq qD.length qr, .slice qs qE.length qt], .agg #[.int .i64 qa, .int .i64 qb, .slice jg qQ.length jh, .int .i64 qc, .int .i64 qd, .slice ji qR.length jj, .slice jk qS.length jl, .int .i64 qe, .int .i64 qf, .slice jm qT.length jn, .slice qw qF.length qx, .int .i64 qK, .int .i64 qL, .slice qy qG.length qz, .slice q0 qH.length q1]] w fun e w' => e = .returned (.bool r) ∧ Below w.heap.size w w' := by
 have hu28 := Try.underlying28
 have jx := aM yd
 have jy := aM ye
 clear yd ye
 have jz := aM yf
 have j2 := aM yg
 clear yf yg
 have j3 := aM yh
 have j4 := aM yi
 clear yh yi
 have j5 := aM yj
 have j6 := aM yk
 clear yj yk
 have jo := aM yP
 have jp := aM yQ
 clear yP yQ
 have jq := aM yR
 have jr := aM yS
 clear yR yS
 have js := aM yT
 have jt := aM yU
 clear yT yU
 have yG := aM yl
 have yH := aM ym
 clear yl ym
 have yI := aM yn
 have yJ := aM yo
 clear yn yo
 have yK := aM yp
 have yL := aM yq
 clear yp yq
 have yM := aM yr
 have yN := aM ys
 clear yr ys
 have j7 := aM yV
 have j8 := aM yW
 clear yV yW
 have j9 := aM yX
 have yA := aM yY
 clear yX yY
 have yB := aM yZ
 have yC := aM ya
 clear yZ ya
 have HB := aM (Below.refl w.heap.size w)
 have H : ((swagelaw17_works.f k).bind fun yF => (if yF = true then ((swagelaw17_long.f qU qV qM qW qX qN qO qY qZ qP qC qI qJ qD qE).bind fun jf => (if jf = true then (swagelaw17_CodeBegins.j0 k true qU qV qM qW qX qN qO qY qZ qP qC qI qJ qD qE qa qb qQ qc qd qR qS qe qf qT qF qK qL qG qH) else ((swagelaw17_long.f qa qb qQ qc qd qR qS qe qf qT qF qK qL qG qH).bind fun qk => (swagelaw17_CodeBegins.j0 k qk qU qV qM qW qX qN qO qY qZ qP qC qI qJ qD qE qa qb qQ qc qd qR qS qe qf qT qF qK qL qG qH)))) else (some false))) = some r := h
 clear h
 replace H := Option.bind_eq_some_iff.mp H
 obtain ⟨yF, A30, H⟩ := H
 replace H : (if yF = true then ((swagelaw17_long.f qU qV qM qW qX qN qO qY qZ qP qC qI qJ qD qE).bind fun jf => (if jf = true then (swagelaw17_CodeBegins.j0 k true qU qV qM qW qX qN qO qY qZ qP qC qI qJ qD qE qa qb qQ qc qd qR qS qe qf qT qF qK qL qG qH) else ((swagelaw17_long.f qa qb qQ qc qd qR qS qe qf qT qF qK qL qG qH).bind fun qk => (swagelaw17_CodeBegins.j0 k qk qU qV qM qW qX qN qO qY qZ qP qC qI qJ qD qE qa qb qQ qc qd qR qS qe qf qT qF qK qL qG qH)))) else (some false)) = some r := H
 have A3 := aM A30
 clear A30
 by_cases c4 : yF = true
 ·subst c4
  have H1 : ((swagelaw17_long.f qU qV qM qW qX qN qO qY qZ qP qC qI qJ qD qE).bind fun jf => (if jf = true then (swagelaw17_CodeBegins.j0 k true qU qV qM qW qX qN qO qY qZ qP qC qI qJ qD qE qa qb qQ qc qd qR qS qe qf qT qF qK qL qG qH) else ((swagelaw17_long.f qa qb qQ qc qd qR qS qe qf qT qF qK qL qG qH).bind fun qk => (swagelaw17_CodeBegins.j0 k qk qU qV qM qW qX qN qO qY qZ qP qC qI qJ qD qE qa qb qQ qc qd qR qS qe qf qT qF qK qL qG qH)))) = some r := by rw [if_pos rfl] at H; exact H
  clear H
  have H := H1
  clear H1
  have HC5 := aM H
  clear H
  go_enter Try.func3, Try.ntmps3
  go_upto_region 3 with (first | ((with_reducible refine gate_dst (N := 2) rfl ?_); refine box_event rfl (N := 2) rfl (cs := #[.int .i64 qU, .int .i64 qV, .slice jX qM.length jY, .int .i64 qW, .int .i64 qX, .slice jZ qN.length ja, .slice jb qO.length jc, .int .i64 qY, .int .i64 qZ, .slice jd qP.length je, .slice qo qC.length qp, .int .i64 qI, .int .i64 qJ, .slice qq qD.length qr, .slice qs qE.length qt]) (t := 28) zG ?_; intro qg hg w6 hbox hb; have qA := aM (hbox); have qAI := aM ((by rw [hg]; exact (below_size (lB HB)) : w.heap.size ≤ qg)); have qAJ := aM ((by rw [hg]; exact (below_size (lB HB)) : w.heap.size ≤ qg)); replace HB := aM (below_step (lB HB) hb); clear hb hbox hg) | ((with_reducible refine gate_dst (N := 3) rfl ?_); refine box_event rfl (N := 3) rfl (cs := #[.int .i64 qa, .int .i64 qb, .slice jg qQ.length jh, .int .i64 qc, .int .i64 qd, .slice ji qR.length jj, .slice jk qS.length jl, .int .i64 qe, .int .i64 qf, .slice jm qT.length jn, .slice qw qF.length qx, .int .i64 qK, .int .i64 qL, .slice qy qG.length qz, .slice q0 qH.length q1]) (t := 28) zG ?_; intro qh hg w7 hbox hb; have qB := aM (hbox); have qAK := aM ((by rw [hg]; exact (below_size (zB HB)) : w.heap.size ≤ qh)); have qAL := aM ((by rw [hg]; exact (below_size (zB HB)) : w.heap.size ≤ qh)); replace HB := aM (below_step (zB HB) hb); have ju := aM ((by rw [hg]; exact Nat.ne_of_lt (blk_lt (g := qg) (lK qA)) : qg ≠ qh)); have jv := aM ((by rw [hg]; exact Nat.ne_of_gt (blk_lt (g := qg) (lK qA)) : qh ≠ qg)); replace qA := aM (blk_below (g := qg) (lK qA) hb); clear hb hbox hg) | ((with_reducible refine gate_callee (f := 10) rfl ?_); refine goesL_ (some 9) rfl rfl Try.func10 zk rfl #[] rfl zA ?_; (with_reducible refine (swagelaw17_works.calls k  true _ A3.out).mono ?_); rintro e w8 ⟨rfl, hb⟩; refine ⟨_, rfl, ?_⟩; replace qA := aM (blk_below (g := qg) (lK qA) hb); replace qB := aM (blk_below (g := qh) (lK qB) hb); replace HB := aM (below_step (zB HB) hb); (try clear hb)))
  (try simp only [Act.put, List.setIfInBounds_toArray, List.set_cons_zero, List.set_cons_succ])
  go_cut [16] (fun v16 wc => ∃ (kq : Nat) (yO : Bool), v16 = .bool yO ∧ Aside0 (swagelaw17_CodeBegins.j0 kq yO qU qV qM qW qX qN qO qY qZ qP qC qI qJ qD qE qa qb qQ qc qd qR qS qe qf qT qF qK qL qG qH = some r) ∧ Aside0 (kq ≤ k) ∧ Aside0 (wc.heap[qg]? = some (.cells #[.int .i64 qU, .int .i64 qV, (.slice jX qM.length jY), .int .i64 qW, .int .i64 qX, (.slice jZ qN.length ja), (.slice jb qO.length jc), .int .i64 qY, .int .i64 qZ, (.slice jd qP.length je), (.slice qo qC.length qp), .int .i64 qI, .int .i64 qJ, (.slice qq qD.length qr), (.slice qs qE.length qt)] 28 (0, 0))) ∧ Aside0 (wc.heap[qh]? = some (.cells #[.int .i64 qa, .int .i64 qb, (.slice jg qQ.length jh), .int .i64 qc, .int .i64 qd, (.slice ji qR.length jj), (.slice jk qS.length jl), .int .i64 qe, .int .i64 qf, (.slice jm qT.length jn), (.slice qw qF.length qx), .int .i64 qK, .int .i64 qL, (.slice qy qG.length qz), (.slice q0 qH.length q1)] 28 (0, 0))) ∧ Aside0 (Below w.heap.size w wc))
  case first =>
   have H := HC5.out
   clear HC5
   replace H := Option.bind_eq_some_iff.mp H
   obtain ⟨jf, A90, H⟩ := H
   replace H : (if jf = true then (swagelaw17_CodeBegins.j0 k true qU qV qM qW qX qN qO qY qZ qP qC qI qJ qD qE qa qb qQ qc qd qR qS qe qf qT qF qK qL qG qH) else ((swagelaw17_long.f qa qb qQ qc qd qR qS qe qf qT qF qK qL qG qH).bind fun qk => (swagelaw17_CodeBegins.j0 k qk qU qV qM qW qX qN qO qY qZ qP qC qI qJ qD qE qa qb qQ qc qd qR qS qe qf qT qF qK qL qG qH))) = some r := H
   have A9 := aM A90
   clear A90
   by_cases c10 : jf = true
   ·subst c10
    have H1 : (swagelaw17_CodeBegins.j0 k true qU qV qM qW qX qN qO qY qZ qP qC qI qJ qD qE qa qb qQ qc qd qR qS qe qf qT qF qK qL qG qH) = some r := by rw [if_pos rfl] at H; exact H
    clear H
    have H := H1
    clear H1
    have H' := aM H
    clear H
    have qAM := ju.out
    have qAN := jv.out
    have yy := zc15 qA.out
    have yz := fun i_ : Nat => blk_frozen qA.out i_
    go_wp2_with (first | ((with_reducible refine gate_callee (f := 11) rfl ?_); refine goesL_ (some 12) rfl rfl Try.func11 zk rfl #[.agg #[.int .i64 qU, .int .i64 qV, .slice jX qM.length jY, .int .i64 qW, .int .i64 qX, .slice jZ qN.length ja, .slice jb qO.length jc, .int .i64 qY, .int .i64 qZ, .slice jd qP.length je, .slice qo qC.length qp, .int .i64 qI, .int .i64 qJ, .slice qq qD.length qr, .slice qs qE.length qt]] rfl zA ?_; (with_reducible refine (swagelaw17_long.calls qU qV _ _ qM qW qX _ _ qN _ _ qO qY qZ _ _ qP _ _ qC qI qJ _ _ qD _ _ qE true _ ?side1 ?side2 ?side3 ?side4 ?side5 ?side6 ?side7 ?side8 ?side9 ?side10 ?side11 ?side12 ?side13 ?side14 A9.out).mono ?_); (case side1 => refine lY ?_; exact (Kd.C_below jx.out HB.out)); (case side2 => exact jy.out); (case side3 => refine lY ?_; exact (Kd.C_below jz.out HB.out)); (case side4 => exact j2.out); (case side5 => refine lY ?_; exact (Kd.C_below j3.out HB.out)); (case side6 => exact j4.out); (case side7 => refine lY ?_; exact (Kd.C_below j5.out HB.out)); (case side8 => exact j6.out); (case side9 => refine lY ?_; exact (Kd.C_below jo.out HB.out)); (case side10 => exact jp.out); (case side11 => refine lY ?_; exact (Kd.C_below jq.out HB.out)); (case side12 => exact jr.out); (case side13 => refine lY ?_; exact (Kd.C_below js.out HB.out)); (case side14 => exact jt.out); rintro e w13 ⟨rfl, hb⟩; refine ⟨_, rfl, ?_⟩; replace qA := aM (blk_below (g := qg) (lK qA) hb); replace qB := aM (blk_below (g := qh) (lK qB) hb); replace HB := aM (below_step (zB HB) hb); (try clear hb)))
    go_meet
    case rel => exact ⟨_, (true), zT, H', ⟨zO⟩, ⟨zb qA⟩, ⟨zb qB⟩, ⟨zB HB⟩⟩
   ·replace c10 := Bool.eq_false_iff.mpr c10
    subst c10
    have H1 : ((swagelaw17_long.f qa qb qQ qc qd qR qS qe qf qT qF qK qL qG qH).bind fun qk => (swagelaw17_CodeBegins.j0 k qk qU qV qM qW qX qN qO qY qZ qP qC qI qJ qD qE qa qb qQ qc qd qR qS qe qf qT qF qK qL qG qH)) = some r := by rw [if_neg (show ¬ (false = true) by decide)] at H; exact H
    clear H
    have H := H1
    clear H1
    replace H := Option.bind_eq_some_iff.mp H
    obtain ⟨qk, A140, H⟩ := H
    replace H : (swagelaw17_CodeBegins.j0 k qk qU qV qM qW qX qN qO qY qZ qP qC qI qJ qD qE qa qb qQ qc qd qR qS qe qf qT qF qK qL qG qH) = some r := H
    have A14 := aM A140
    clear A140
    have H' := aM H
    clear H
    have qAO := ju.out
    have qAP := jv.out
    have qAA := zc15 qA.out
    have qAB := fun i_ : Nat => blk_frozen qA.out i_
    go_wp2_with (first | ((with_reducible refine gate_callee (f := 11) rfl ?_); refine goesL_ (some 12) rfl rfl Try.func11 zk rfl #[.agg #[.int .i64 qU, .int .i64 qV, .slice jX qM.length jY, .int .i64 qW, .int .i64 qX, .slice jZ qN.length ja, .slice jb qO.length jc, .int .i64 qY, .int .i64 qZ, .slice jd qP.length je, .slice qo qC.length qp, .int .i64 qI, .int .i64 qJ, .slice qq qD.length qr, .slice qs qE.length qt]] rfl zA ?_; (with_reducible refine (swagelaw17_long.calls qU qV _ _ qM qW qX _ _ qN _ _ qO qY qZ _ _ qP _ _ qC qI qJ _ _ qD _ _ qE false _ ?side1 ?side2 ?side3 ?side4 ?side5 ?side6 ?side7 ?side8 ?side9 ?side10 ?side11 ?side12 ?side13 ?side14 A9.out).mono ?_); (case side1 => refine lY ?_; exact (Kd.C_below jx.out HB.out)); (case side2 => exact jy.out); (case side3 => refine lY ?_; exact (Kd.C_below jz.out HB.out)); (case side4 => exact j2.out); (case side5 => refine lY ?_; exact (Kd.C_below j3.out HB.out)); (case side6 => exact j4.out); (case side7 => refine lY ?_; exact (Kd.C_below j5.out HB.out)); (case side8 => exact j6.out); (case side9 => refine lY ?_; exact (Kd.C_below jo.out HB.out)); (case side10 => exact jp.out); (case side11 => refine lY ?_; exact (Kd.C_below jq.out HB.out)); (case side12 => exact jr.out); (case side13 => refine lY ?_; exact (Kd.C_below js.out HB.out)); (case side14 => exact jt.out); rintro e w17 ⟨rfl, hb⟩; refine ⟨_, rfl, ?_⟩; replace qA := aM (blk_below (g := qg) (lK qA) hb); replace qB := aM (blk_below (g := qh) (lK qB) hb); replace HB := aM (below_step (zB HB) hb); (try clear hb); have qAC := zc15 qB.out; have qAD := fun i_ : Nat => blk_frozen qB.out i_) | (go_at_call 11; (with_reducible refine (swagelaw17_long.calls qa qb _ _ qQ qc qd _ _ qR _ _ qS qe qf _ _ qT _ _ qF qK qL _ _ qG _ _ qH qk _ ?side1 ?side2 ?side3 ?side4 ?side5 ?side6 ?side7 ?side8 ?side9 ?side10 ?side11 ?side12 ?side13 ?side14 A14.out).mono ?_); (case side1 => refine lY ?_; exact (Kd.C_below yG.out HB.out)); (case side2 => exact yH.out); (case side3 => refine lY ?_; exact (Kd.C_below yI.out HB.out)); (case side4 => exact yJ.out); (case side5 => refine lY ?_; exact (Kd.C_below yK.out HB.out)); (case side6 => exact yL.out); (case side7 => refine lY ?_; exact (Kd.C_below yM.out HB.out)); (case side8 => exact yN.out); (case side9 => refine lY ?_; exact (Kd.C_below j7.out HB.out)); (case side10 => exact j8.out); (case side11 => refine lY ?_; exact (Kd.C_below j9.out HB.out)); (case side12 => exact yA.out); (case side13 => refine lY ?_; exact (Kd.C_below yB.out HB.out)); (case side14 => exact yC.out); rintro e w19 ⟨rfl, hb⟩; replace qA := aM (blk_below (g := qg) (lK qA) hb); replace qB := aM (blk_below (g := qh) (lK qB) hb); replace HB := aM (below_step (zB HB) hb); (try clear hb)))
    go_meet
    case rel => exact ⟨_, (qk), zT, H', ⟨zO⟩, ⟨zb qA⟩, ⟨zb qB⟩, ⟨zB HB⟩⟩
  case rest =>
   clear HC5
   try clear c4
   obtain ⟨kq, yO, rfl, HA, HJ4, qA, qB, HB⟩ := hcut
   cases kq with
   | zero => exact absurd HA.out (by simp [swagelaw17_CodeBegins.j0])
   | succ kj4 =>
    have H := HA.out
    clear HA
    simp only [swagelaw17_CodeBegins.j0] at H
    by_cases c20 : yO = true
    ·subst c20
     have H1 : (some true) = some r := by rw [if_pos rfl] at H; exact H
     clear H
     have H := H1
     clear H1
     obtain rfl := Option.some.inj H
     go_wp2
     go_ret
     exact ⟨zE, zB HB⟩
    ·replace c20 := Bool.eq_false_iff.mpr c20
     subst c20
     have H1 : ((code_Encode.f kj4 qU qV qM qW qX qN qO qY qZ qP qC qI qJ qD qE).bind fun bt542 => ((code_Encode.f kj4 qa qb qQ qc qd qR qS qe qf qT qF qK qL qG qH).bind fun bt546 => (if bt542.2 = 0 then (swagelaw17_CodeBegins.j1 kj4 bt542.1 bt546.1 (bt546.2 != 0) qU qV qM qW qX qN qO qY qZ qP qC qI qJ qD qE qa qb qQ qc qd qR qS qe qf qT qF qK qL qG qH) else (swagelaw17_CodeBegins.j1 kj4 bt542.1 bt546.1 true qU qV qM qW qX qN qO qY qZ qP qC qI qJ qD qE qa qb qQ qc qd qR qS qe qf qT qF qK qL qG qH)))) = some r := by rw [if_neg (show ¬ (false = true) by decide)] at H; exact H
     clear H
     have H := H1
     clear H1
     replace H := Option.bind_eq_some_iff.mp H
     obtain ⟨⟨ql, jw⟩, A210, H⟩ := H
     replace H : ((code_Encode.f kj4 qa qb qQ qc qd qR qS qe qf qT qF qK qL qG qH).bind fun bt546 => (if jw = 0 then (swagelaw17_CodeBegins.j1 kj4 ql bt546.1 (bt546.2 != 0) qU qV qM qW qX qN qO qY qZ qP qC qI qJ qD qE qa qb qQ qc qd qR qS qe qf qT qF qK qL qG qH) else (swagelaw17_CodeBegins.j1 kj4 ql bt546.1 true qU qV qM qW qX qN qO qY qZ qP qC qI qJ qD qE qa qb qQ qc qd qR qS qe qf qT qF qK qL qG qH))) = some r := H
     have A21 := aM A210
     clear A210
     replace H := Option.bind_eq_some_iff.mp H
     obtain ⟨⟨qu, yb⟩, A220, H⟩ := H
     replace H : (if jw = 0 then (swagelaw17_CodeBegins.j1 kj4 ql qu (yb != 0) qU qV qM qW qX qN qO qY qZ qP qC qI qJ qD qE qa qb qQ qc qd qR qS qe qf qT qF qK qL qG qH) else (swagelaw17_CodeBegins.j1 kj4 ql qu true qU qV qM qW qX qN qO qY qZ qP qC qI qJ qD qE qa qb qQ qc qd qR qS qe qf qT qF qK qL qG qH)) = some r := H
     have A22 := aM A220
     clear A220
     have yc := aM H
     clear H
     have qAQ := ju.out
     have qAR := jv.out
     have qAE := zc15 qA.out
     have qAF := fun i_ : Nat => blk_frozen qA.out i_
     go_upto_region 7 with (first | ((with_reducible refine gate_callee (f := 12) rfl ?_); refine goesL_ (some 19) rfl rfl Try.func12 zk rfl #[.agg #[.int .i64 qU, .int .i64 qV, .slice jX qM.length jY, .int .i64 qW, .int .i64 qX, .slice jZ qN.length ja, .slice jb qO.length jc, .int .i64 qY, .int .i64 qZ, .slice jd qP.length je, .slice qo qC.length qp, .int .i64 qI, .int .i64 qJ, .slice qq qD.length qr, .slice qs qE.length qt]] rfl zA ?_; (with_reducible refine (code_Encode.calls kj4 qU qV _ _ qM qW qX _ _ qN _ _ qO qY qZ _ _ qP _ _ qC qI qJ _ _ qD _ _ qE ql jw _ ?side1 ?side2 ?side3 ?side4 ?side5 ?side6 ?side7 ?side8 ?side9 ?side10 ?side11 ?side12 ?side13 ?side14 A21.out).mono ?_); (case side1 => refine lY ?_; exact (Kd.C_below jx.out HB.out)); (case side2 => exact jy.out); (case side3 => refine lY ?_; exact (Kd.C_below jz.out HB.out)); (case side4 => exact j2.out); (case side5 => refine lY ?_; exact (Kd.C_below j3.out HB.out)); (case side6 => exact j4.out); (case side7 => refine lY ?_; exact (Kd.C_below j5.out HB.out)); (case side8 => exact j6.out); (case side9 => refine lY ?_; exact (Kd.C_below jo.out HB.out)); (case side10 => exact jp.out); (case side11 => refine lY ?_; exact (Kd.C_below jq.out HB.out)); (case side12 => exact jr.out); (case side13 => refine lY ?_; exact (Kd.C_below js.out HB.out)); (case side14 => exact jt.out); rintro e w26 ⟨v543, rfl, ho0, hb⟩; refine ⟨_, rfl, ?_⟩; have yD := aM (Kd.R_lower ho0 (below_size (zB HB))); replace qA := aM (blk_below (g := qg) (lK qA) hb); replace qB := aM (blk_below (g := qh) (lK qB) hb); replace HB := aM (below_step (zB HB) hb); (try clear hb); (try clear ho0); have qAG := zc15 qB.out; have qAH := fun i_ : Nat => blk_frozen qB.out i_) | ((with_reducible refine gate_callee (f := 12) rfl ?_); refine goesL_ (some 24) rfl rfl Try.func12 zk rfl #[.agg #[.int .i64 qa, .int .i64 qb, .slice jg qQ.length jh, .int .i64 qc, .int .i64 qd, .slice ji qR.length jj, .slice jk qS.length jl, .int .i64 qe, .int .i64 qf, .slice jm qT.length jn, .slice qw qF.length qx, .int .i64 qK, .int .i64 qL, .slice qy qG.length qz, .slice q0 qH.length q1]] rfl zA ?_; (with_reducible refine (code_Encode.calls kj4 qa qb _ _ qQ qc qd _ _ qR _ _ qS qe qf _ _ qT _ _ qF qK qL _ _ qG _ _ qH qu yb _ ?side1 ?side2 ?side3 ?side4 ?side5 ?side6 ?side7 ?side8 ?side9 ?side10 ?side11 ?side12 ?side13 ?side14 A22.out).mono ?_); (case side1 => refine lY ?_; exact (Kd.C_below yG.out HB.out)); (case side2 => exact yH.out); (case side3 => refine lY ?_; exact (Kd.C_below yI.out HB.out)); (case side4 => exact yJ.out); (case side5 => refine lY ?_; exact (Kd.C_below yK.out HB.out)); (case side6 => exact yL.out); (case side7 => refine lY ?_; exact (Kd.C_below yM.out HB.out)); (case side8 => exact yN.out); (case side9 => refine lY ?_; exact (Kd.C_below j7.out HB.out)); (case side10 => exact j8.out); (case side11 => refine lY ?_; exact (Kd.C_below j9.out HB.out)); (case side12 => exact yA.out); (case side13 => refine lY ?_; exact (Kd.C_below yB.out HB.out)); (case side14 => exact yC.out); rintro e w28 ⟨v547, rfl, ho0, hb⟩; refine ⟨_, rfl, ?_⟩; have yt := aM (Kd.R_lower (Kd.R_new' ho0 (Kd.R_lt (lR yD))) (below_size (zB HB))); replace yD := aM (Kd.R_elder' (lR yD) (Kd.R_base ho0) hb); replace qA := aM (blk_below (g := qg) (lK qA) hb); replace qB := aM (blk_below (g := qh) (lK qB) hb); replace HB := aM (below_step (zB HB) hb); (try clear hb); (try clear ho0)))
     (try simp only [Act.put, List.setIfInBounds_toArray, List.set_cons_zero, List.set_cons_succ])
     go_cut [32] (fun v32 wc => ∃ (kq : Nat) (yE : Bool), v32 = .bool yE ∧ Aside0 (swagelaw17_CodeBegins.j1 kq ql qu yE qU qV qM qW qX qN qO qY qZ qP qC qI qJ qD qE qa qb qQ qc qd qR qS qe qf qT qF qK qL qG qH = some r) ∧ Aside0 (kq ≤ kj4) ∧ Aside0 (Kd.R (Kd.int .u8) 5 wc w.heap.size (fun k_ => some k_ ≠ (v547 : Value).ownBlock) v543 ql) ∧ Aside0 (Kd.R (Kd.int .u8) 5 wc w.heap.size (fun k_ => some k_ ≠ (v543 : Value).ownBlock) v547 qu) ∧ Aside0 (wc.heap[qg]? = some (.cells #[.int .i64 qU, .int .i64 qV, (.slice jX qM.length jY), .int .i64 qW, .int .i64 qX, (.slice jZ qN.length ja), (.slice jb qO.length jc), .int .i64 qY, .int .i64 qZ, (.slice jd qP.length je), (.slice qo qC.length qp), .int .i64 qI, .int .i64 qJ, (.slice qq qD.length qr), (.slice qs qE.length qt)] 28 (0, 0))) ∧ Aside0 (wc.heap[qh]? = some (.cells #[.int .i64 qa, .int .i64 qb, (.slice jg qQ.length jh), .int .i64 qc, .int .i64 qd, (.slice ji qR.length jj), (.slice jk qS.length jl), .int .i64 qe, .int .i64 qf, (.slice jm qT.length jn), (.slice qw qF.length qx), .int .i64 qK, .int .i64 qL, (.slice qy qG.length qz), (.slice q0 qH.length q1)] 28 (0, 0))) ∧ Aside0 (Below w.heap.size w wc))
     case first =>
      have H := yc.out
      clear yc
      by_cases c29 : jw = 0
      ·rw [if_pos c29] at H
       have c29b0 : (jw == 0) = true := beq_iff_eq.mpr c29
       have c29b1 : (jw != 0) = false := bne_eq_false_iff_eq.mpr c29
       clear c29
       (first | rw [c29b0] | (simp only [i64_w, i32_w]; rw [c29b0]) | skip)
       have H' := aM H
       clear H
       go_wp2
       go_meet
       case rel => exact ⟨_, ((yb != 0)), zT, H', ⟨by have := HJ4.out; first | omega | exact Nat.le_refl _⟩, ⟨by apply rX; exact Kd.R_mono yD.out (fun _ hk => hk.2)⟩, ⟨by apply rX; exact Kd.R_mono yt.out (fun _ hk => hk.2)⟩, ⟨zb qA⟩, ⟨zb qB⟩, ⟨zB HB⟩⟩
      ·rw [if_neg c29] at H
       have c29b0 : (jw == 0) = false := beq_eq_false_iff_ne.mpr c29
       have c29b1 : (jw != 0) = true := bne_iff_ne.mpr c29
       (first | rw [c29b0] | (simp only [i64_w, i32_w]; rw [c29b0]) | skip)
       have H' := aM H
       clear H
       go_wp2
       go_meet
       case rel => exact ⟨_, (true), zT, H', ⟨by have := HJ4.out; first | omega | exact Nat.le_refl _⟩, ⟨by apply rX; exact Kd.R_mono yD.out (fun _ hk => hk.2)⟩, ⟨by apply rX; exact Kd.R_mono yt.out (fun _ hk => hk.2)⟩, ⟨zb qA⟩, ⟨zb qB⟩, ⟨zB HB⟩⟩
     case rest =>
      clear yc
      try clear c4
      try clear c20
      obtain ⟨kq, yE, rfl, HA, HJ22, qm, qn, qA, qB, HB⟩ := hcut
      cases kq with
      | zero => exact absurd HA.out (by simp [swagelaw17_CodeBegins.j1])
      | succ kj22 =>
       have H := HA.out
       clear HA
       simp only [swagelaw17_CodeBegins.j1] at H
       by_cases c30 : yE = true
       ·subst c30
        have H1 : (some true) = some r := by rw [if_pos rfl] at H; exact H
        clear H
        have H := H1
        clear H1
        obtain rfl := Option.some.inj H
        go_wp2
        go_ret
        exact ⟨zE, zB HB⟩
       ·replace c30 := Bool.eq_false_iff.mpr c30
        subst c30
        have H1 : ((bytes_HasPrefix.f ql qu).bind fun qj => ((code_Same.f kj22 qU qV qM qW qX qN qO qY qZ qP qC qI qJ qD qE qa qb qQ qc qd qR qS qe qf qT qF qK qL qG qH).bind fun qi => (if (qj == qi) = true then ((bytes_HasPrefix.f qu ql).bind fun jW => ((code_Same.f kj22 qU qV qM qW qX qN qO qY qZ qP qC qI qJ qD qE qa qb qQ qc qd qR qS qe qf qT qF qK qL qG qH).bind fun qv => (some (jW == qv)))) else (some false)))) = some r := by rw [if_neg (show ¬ (false = true) by decide)] at H; exact H
        clear H
        have H := H1
        clear H1
        replace H := Option.bind_eq_some_iff.mp H
        obtain ⟨qj, A310, H⟩ := H
        replace H : ((code_Same.f kj22 qU qV qM qW qX qN qO qY qZ qP qC qI qJ qD qE qa qb qQ qc qd qR qS qe qf qT qF qK qL qG qH).bind fun qi => (if (qj == qi) = true then ((bytes_HasPrefix.f qu ql).bind fun jW => ((code_Same.f kj22 qU qV qM qW qX qN qO qY qZ qP qC qI qJ qD qE qa qb qQ qc qd qR qS qe qf qT qF qK qL qG qH).bind fun qv => (some (jW == qv)))) else (some false))) = some r := H
        have A31 := aM A310
        clear A310
        replace H := Option.bind_eq_some_iff.mp H
        obtain ⟨qi, A320, H⟩ := H
        replace H : (if (qj == qi) = true then ((bytes_HasPrefix.f qu ql).bind fun jW => ((code_Same.f kj22 qU qV qM qW qX qN qO qY qZ qP qC qI qJ qD qE qa qb qQ qc qd qR qS qe qf qT qF qK qL qG qH).bind fun qv => (some (jW == qv)))) else (some false)) = some r := H
        have A32 := aM A320
        clear A320
        by_cases c33 : (qj == qi) = true
        ·rw [if_pos c33] at H
         have c33b0 : (qj == qi) = true := c33
         (try (have c33b1 : decide (qj = qi) = true := by simpa using c33))
         (try (have c33b2 : (qj == qi) = true := by simpa using c33))
         clear c33
         replace H := Option.bind_eq_some_iff.mp H
         obtain ⟨jW, A340, H⟩ := H
         replace H : ((code_Same.f kj22 qU qV qM qW qX qN qO qY qZ qP qC qI qJ qD qE qa qb qQ qc qd qR qS qe qf qT qF qK qL qG qH).bind fun qv => (some (jW == qv))) = some r := H
         have A34 := aM A340
         clear A340
         replace H := Option.bind_eq_some_iff.mp H
         obtain ⟨qv, A350, H⟩ := H
         replace H : (some (jW == qv)) = some r := H
         have A35 := aM A350
         clear A350
         obtain rfl := Option.some.inj H
         try go_wp2
         have n0_ := aM (Kd.R_drew qm.out)
         have n1_ := aM (Kd.R_drew qn.out)
         have n2_ := aM (blk_drew qA.out)
         have n3_ := aM (blk_drew qB.out)
         have n4_ := aM (below_drew1 HB.out)
         clear qm
         clear qn
         clear qA
         clear qB
         clear HB
         have qm := n0_
         have qn := n1_
         have qA := n2_
         have qB := n3_
         have HB := n4_
         clear n0_ n1_ n2_ n3_ n4_
         obtain ⟨yu, yv, eo37⟩ := Kd.R_slice qm.out
         (first | subst eo37 | (injection eo37 with f1_ f2_ f3_; have f4_ := f1_.symm; have f5_ := f3_.symm; clear f1_ f2_ f3_; subst f4_; subst f5_))
         obtain ⟨yw, yx, eo38⟩ := Kd.R_slice qn.out
         (first | subst eo38 | (injection eo38 with f1_ f2_ f3_; have f4_ := f1_.symm; have f5_ := f3_.symm; clear f1_ f2_ f3_; subst f4_; subst f5_))
         refine start_ (n := 17) (S := fun w' => w'.cell? ⟨qg, 0, none⟩ = some (.int .i64 qU) ∧ w'.cell? ⟨qg, 1, none⟩ = some (.int .i64 qV) ∧ w'.cell? ⟨qg, 2, none⟩ = some (.slice jX qM.length jY) ∧ w'.cell? ⟨qg, 3, none⟩ = some (.int .i64 qW) ∧ w'.cell? ⟨qg, 4, none⟩ = some (.int .i64 qX) ∧ w'.cell? ⟨qg, 5, none⟩ = some (.slice jZ qN.length ja) ∧ w'.cell? ⟨qg, 6, none⟩ = some (.slice jb qO.length jc) ∧ w'.cell? ⟨qg, 7, none⟩ = some (.int .i64 qY) ∧ w'.cell? ⟨qg, 8, none⟩ = some (.int .i64 qZ) ∧ w'.cell? ⟨qg, 9, none⟩ = some (.slice jd qP.length je) ∧ w'.cell? ⟨qg, 10, none⟩ = some (.slice qo qC.length qp) ∧ w'.cell? ⟨qg, 11, none⟩ = some (.int .i64 qI) ∧ w'.cell? ⟨qg, 12, none⟩ = some (.int .i64 qJ) ∧ w'.cell? ⟨qg, 13, none⟩ = some (.slice qq qD.length qr) ∧ w'.cell? ⟨qg, 14, none⟩ = some (.slice qs qE.length qt) ∧ w'.cell? ⟨qh, 0, none⟩ = some (.int .i64 qa) ∧ w'.cell? ⟨qh, 1, none⟩ = some (.int .i64 qb) ∧ w'.cell? ⟨qh, 2, none⟩ = some (.slice jg qQ.length jh) ∧ w'.cell? ⟨qh, 3, none⟩ = some (.int .i64 qc) ∧ w'.cell? ⟨qh, 4, none⟩ = some (.int .i64 qd) ∧ w'.cell? ⟨qh, 5, none⟩ = some (.slice ji qR.length jj) ∧ w'.cell? ⟨qh, 6, none⟩ = some (.slice jk qS.length jl) ∧ w'.cell? ⟨qh, 7, none⟩ = some (.int .i64 qe) ∧ w'.cell? ⟨qh, 8, none⟩ = some (.int .i64 qf) ∧ w'.cell? ⟨qh, 9, none⟩ = some (.slice jm qT.length jn) ∧ w'.cell? ⟨qh, 10, none⟩ = some (.slice qw qF.length qx) ∧ w'.cell? ⟨qh, 11, none⟩ = some (.int .i64 qK) ∧ w'.cell? ⟨qh, 12, none⟩ = some (.int .i64 qL) ∧ w'.cell? ⟨qh, 13, none⟩ = some (.slice qy qG.length qz) ∧ w'.cell? ⟨qh, 14, none⟩ = some (.slice q0 qH.length q1)) (ds := []) (bs 17 0) zk rfl rfl ⟨(blk_cell qA.out 0).trans rfl, (blk_cell qA.out 1).trans rfl, (blk_cell qA.out 2).trans rfl, (blk_cell qA.out 3).trans rfl, (blk_cell qA.out 4).trans rfl, (blk_cell qA.out 5).trans rfl, (blk_cell qA.out 6).trans rfl, (blk_cell qA.out 7).trans rfl, (blk_cell qA.out 8).trans rfl, (blk_cell qA.out 9).trans rfl, (blk_cell qA.out 10).trans rfl, (blk_cell qA.out 11).trans rfl, (blk_cell qA.out 12).trans rfl, (blk_cell qA.out 13).trans rfl, (blk_cell qA.out 14).trans rfl, (blk_cell qB.out 0).trans rfl, (blk_cell qB.out 1).trans rfl, (blk_cell qB.out 2).trans rfl, (blk_cell qB.out 3).trans rfl, (blk_cell qB.out 4).trans rfl, (blk_cell qB.out 5).trans rfl, (blk_cell qB.out 6).trans rfl, (blk_cell qB.out 7).trans rfl, (blk_cell qB.out 8).trans rfl, (blk_cell qB.out 9).trans rfl, (blk_cell qB.out 10).trans rfl, (blk_cell qB.out 11).trans rfl, (blk_cell qB.out 12).trans rfl, (blk_cell qB.out 13).trans rfl, (blk_cell qB.out 14).trans rfl⟩ (fun hHeld => ?_); refine with_tabW swagelaw17_CodeBegins.tab9 swagelaw17_CodeBegins.bits9 (fun HT_ HW_ => ?_)
         generalize wc.drew = w36 at qm qn qA qB HB hHeld ⊢
         refine pQ 0 33 17 1 ?_
         refine pQ 1 34 17 3 ?_
         refine take_ (i := 3) (N := some 36) (v := ?_) (a' := ?_) (bs 17 11) rfl rfl (take_ofW HT_.out HW_.out zk) (fun _ _ _ h => h) (Or.inl ⟨by rfl, ?_⟩) hHeld ?_ ?_
         rotate_left
         ·rintro w' ⟨s0, s1, s2, s3, s4, s5, s6, s7, s8, s9, s10, s11, s12, s13, s14, s15, s16, s17, s18, s19, s20, s21, s22, s23, s24, s25, s26, s27, s28, s29⟩
          go_simp
          with_reducible rfl
         rotate_left
         ·simp only [Act.put, List.setIfInBounds_toArray, List.set_cons_zero, List.set_cons_succ, i64_w, i32_w]
          rfl
         refine take_ (i := 4) (N := some 37) (v := ?_) (a' := ?_) (bs 17 27) rfl rfl (take_ofW HT_.out HW_.out zk) (fun _ _ _ h => h) (Or.inl ⟨by rfl, ?_⟩) hHeld ?_ ?_
         rotate_left
         ·rintro w' ⟨s0, s1, s2, s3, s4, s5, s6, s7, s8, s9, s10, s11, s12, s13, s14, s15, s16, s17, s18, s19, s20, s21, s22, s23, s24, s25, s26, s27, s28, s29⟩
          go_simp
          with_reducible rfl
         rotate_left
         ·simp only [Act.put, List.setIfInBounds_toArray, List.set_cons_zero, List.set_cons_succ, i64_w, i32_w]
          rfl
         refine one_ (i := 2) (N := some 35) (bs 17 31) rfl rfl (one_of HT_.out zk) (by decide) (fun K hK => ?_)
         refine goes_ Try.func13 zk rfl #[.slice yu ql.length yv, .slice yw qu.length yx] (by rfl) rfl rfl zA ?_
         with_reducible refine (bytes_HasPrefix.calls _ _ ql _ _ qu qj _ ?side1 ?side2 ?side3 ?side4 A31.out).mono ?_
         (case side1 => refine lY ?_; exact (Kd.R_reads' qm.out).2.2)
         (case side2 => exact (Kd.R_reads' qm.out).2.1)
         (case side3 => refine lY ?_; exact (Kd.R_reads' qn.out).2.2)
         (case side4 => exact (Kd.R_reads' qn.out).2.1)
         rintro e w' ⟨rfl, ⟨nd, rfl⟩⟩
         refine ⟨_, rfl, ?_⟩
         refine hK.out _ _ ⟨(blk_cell qA.out 0).trans rfl, (blk_cell qA.out 1).trans rfl, (blk_cell qA.out 2).trans rfl, (blk_cell qA.out 3).trans rfl, (blk_cell qA.out 4).trans rfl, (blk_cell qA.out 5).trans rfl, (blk_cell qA.out 6).trans rfl, (blk_cell qA.out 7).trans rfl, (blk_cell qA.out 8).trans rfl, (blk_cell qA.out 9).trans rfl, (blk_cell qA.out 10).trans rfl, (blk_cell qA.out 11).trans rfl, (blk_cell qA.out 12).trans rfl, (blk_cell qA.out 13).trans rfl, (blk_cell qA.out 14).trans rfl, (blk_cell qB.out 0).trans rfl, (blk_cell qB.out 1).trans rfl, (blk_cell qB.out 2).trans rfl, (blk_cell qB.out 3).trans rfl, (blk_cell qB.out 4).trans rfl, (blk_cell qB.out 5).trans rfl, (blk_cell qB.out 6).trans rfl, (blk_cell qB.out 7).trans rfl, (blk_cell qB.out 8).trans rfl, (blk_cell qB.out 9).trans rfl, (blk_cell qB.out 10).trans rfl, (blk_cell qB.out 11).trans rfl, (blk_cell qB.out 12).trans rfl, (blk_cell qB.out 13).trans rfl, (blk_cell qB.out 14).trans rfl⟩ (fun hHeld => ?_)
         clear hK K
         refine norm_ (a' := ?_) ?_ ?_
         rotate_left
         ·show Act.put _ (some 35) _ = _
          simp only [Act.put, List.setIfInBounds_toArray, List.set_cons_zero, List.set_cons_succ, i64_w, i32_w]
          rfl
         refine one_ (i := 5) (N := some 38) (bs 17 63) rfl rfl (one_of HT_.out zk) (by decide) (fun K hK => ?_)
         refine goes_ Try.func14 zk rfl #[.agg #[.int .i64 qU, .int .i64 qV, .slice jX qM.length jY, .int .i64 qW, .int .i64 qX, .slice jZ qN.length ja, .slice jb qO.length jc, .int .i64 qY, .int .i64 qZ, .slice jd qP.length je, .slice qo qC.length qp, .int .i64 qI, .int .i64 qJ, .slice qq qD.length qr, .slice qs qE.length qt], .agg #[.int .i64 qa, .int .i64 qb, .slice jg qQ.length jh, .int .i64 qc, .int .i64 qd, .slice ji qR.length jj, .slice jk qS.length jl, .int .i64 qe, .int .i64 qf, .slice jm qT.length jn, .slice qw qF.length qx, .int .i64 qK, .int .i64 qL, .slice qy qG.length qz, .slice q0 qH.length q1]] (by rfl) rfl rfl zA ?_
         with_reducible refine (code_Same.calls kj22 qU qV _ _ qM qW qX _ _ qN _ _ qO qY qZ _ _ qP _ _ qC qI qJ _ _ qD _ _ qE qa qb _ _ qQ qc qd _ _ qR _ _ qS qe qf _ _ qT _ _ qF qK qL _ _ qG _ _ qH qi _ ?side1 ?side2 ?side3 ?side4 ?side5 ?side6 ?side7 ?side8 ?side9 ?side10 ?side11 ?side12 ?side13 ?side14 ?side15 ?side16 ?side17 ?side18 ?side19 ?side20 ?side21 ?side22 ?side23 ?side24 ?side25 ?side26 ?side27 ?side28 A32.out).mono ?_
         (case side1 => refine lY ?_; exact (Kd.C_below jx.out (zB HB)))
         (case side2 => exact jy.out)
         (case side3 => refine lY ?_; exact (Kd.C_below jz.out (zB HB)))
         (case side4 => exact j2.out)
         (case side5 => refine lY ?_; exact (Kd.C_below j3.out (zB HB)))
         (case side6 => exact j4.out)
         (case side7 => refine lY ?_; exact (Kd.C_below j5.out (zB HB)))
         (case side8 => exact j6.out)
         (case side9 => refine lY ?_; exact (Kd.C_below jo.out (zB HB)))
         (case side10 => exact jp.out)
         (case side11 => refine lY ?_; exact (Kd.C_below jq.out (zB HB)))
         (case side12 => exact jr.out)
         (case side13 => refine lY ?_; exact (Kd.C_below js.out (zB HB)))
         (case side14 => exact jt.out)
         (case side15 => refine lY ?_; exact (Kd.C_below yG.out (zB HB)))
         (case side16 => exact yH.out)
         (case side17 => refine lY ?_; exact (Kd.C_below yI.out (zB HB)))
         (case side18 => exact yJ.out)
         (case side19 => refine lY ?_; exact (Kd.C_below yK.out (zB HB)))
         (case side20 => exact yL.out)
         (case side21 => refine lY ?_; exact (Kd.C_below yM.out (zB HB)))
         (case side22 => exact yN.out)
         (case side23 => refine lY ?_; exact (Kd.C_below j7.out (zB HB)))
         (case side24 => exact j8.out)
         (case side25 => refine lY ?_; exact (Kd.C_below j9.out (zB HB)))
         (case side26 => exact yA.out)
         (case side27 => refine lY ?_; exact (Kd.C_below yB.out (zB HB)))
         (case side28 => exact yC.out)
         rintro e w39 ⟨rfl, hb⟩
         refine ⟨_, rfl, ?_⟩
         have n0_ := aM (Kd.R_below (lR qm) hb)
         have n1_ := aM (Kd.R_below (lR qn) hb)
         have n2_ := aM (blk_below (g := qg) (lK qA) hb)
         have n3_ := aM (blk_below (g := qh) (lK qB) hb)
         have n4_ := aM (below_step (zB HB) hb)
         clear qm
         clear qn
         clear qA
         clear qB
         clear HB
         have qm := n0_
         have qn := n1_
         have qA := n2_
         have qB := n3_
         have HB := n4_
         clear n0_ n1_ n2_ n3_ n4_
         (try clear hb)
         (try clear hb2)
         (try clear hk)
         (try clear hi)
         refine hK.out _ _ ⟨(blk_cell qA.out 0).trans rfl, (blk_cell qA.out 1).trans rfl, (blk_cell qA.out 2).trans rfl, (blk_cell qA.out 3).trans rfl, (blk_cell qA.out 4).trans rfl, (blk_cell qA.out 5).trans rfl, (blk_cell qA.out 6).trans rfl, (blk_cell qA.out 7).trans rfl, (blk_cell qA.out 8).trans rfl, (blk_cell qA.out 9).trans rfl, (blk_cell qA.out 10).trans rfl, (blk_cell qA.out 11).trans rfl, (blk_cell qA.out 12).trans rfl, (blk_cell qA.out 13).trans rfl, (blk_cell qA.out 14).trans rfl, (blk_cell qB.out 0).trans rfl, (blk_cell qB.out 1).trans rfl, (blk_cell qB.out 2).trans rfl, (blk_cell qB.out 3).trans rfl, (blk_cell qB.out 4).trans rfl, (blk_cell qB.out 5).trans rfl, (blk_cell qB.out 6).trans rfl, (blk_cell qB.out 7).trans rfl, (blk_cell qB.out 8).trans rfl, (blk_cell qB.out 9).trans rfl, (blk_cell qB.out 10).trans rfl, (blk_cell qB.out 11).trans rfl, (blk_cell qB.out 12).trans rfl, (blk_cell qB.out 13).trans rfl, (blk_cell qB.out 14).trans rfl⟩ (fun hHeld => ?_)
         clear hK K
         refine norm_ (a' := ?_) ?_ ?_
         rotate_left
         ·show Act.put _ (some 38) _ = _
          simp only [Act.put, List.setIfInBounds_toArray, List.set_cons_zero, List.set_cons_succ, i64_w, i32_w]
          rfl
         refine pQ 6 39 17 127 ?_
         refine pQ 7 40 17 255 ?_
         refine pQ 8 41 17 511 ?_
         refine pQ 9 42 17 1023 ?_
         refine take_ (i := 11) (N := some 44) (v := ?_) (a' := ?_) (bs 17 3071) rfl rfl (take_ofW HT_.out HW_.out zk) (fun _ _ _ h => h) (Or.inl ⟨by rfl, ?_⟩) hHeld ?_ ?_
         rotate_left
         ·rintro w' ⟨s0, s1, s2, s3, s4, s5, s6, s7, s8, s9, s10, s11, s12, s13, s14, s15, s16, s17, s18, s19, s20, s21, s22, s23, s24, s25, s26, s27, s28, s29⟩
          go_simp
          with_reducible rfl
         rotate_left
         ·simp only [Act.put, List.setIfInBounds_toArray, List.set_cons_zero, List.set_cons_succ, i64_w, i32_w]
          rfl
         refine take_ (i := 12) (N := some 45) (v := ?_) (a' := ?_) (bs 17 7167) rfl rfl (take_ofW HT_.out HW_.out zk) (fun _ _ _ h => h) (Or.inl ⟨by rfl, ?_⟩) hHeld ?_ ?_
         rotate_left
         ·rintro w' ⟨s0, s1, s2, s3, s4, s5, s6, s7, s8, s9, s10, s11, s12, s13, s14, s15, s16, s17, s18, s19, s20, s21, s22, s23, s24, s25, s26, s27, s28, s29⟩
          go_simp
          with_reducible rfl
         rotate_left
         ·simp only [Act.put, List.setIfInBounds_toArray, List.set_cons_zero, List.set_cons_succ, i64_w, i32_w]
          rfl
         refine one_ (i := 10) (N := some 43) (bs 17 8191) rfl rfl (one_of HT_.out zk) (by decide) (fun K hK => ?_)
         refine goes_ Try.func13 zk rfl #[.slice yw qu.length yx, .slice yu ql.length yv] (by rfl) rfl rfl zA ?_
         with_reducible refine (bytes_HasPrefix.calls _ _ qu _ _ ql jW _ ?side1 ?side2 ?side3 ?side4 A34.out).mono ?_
         (case side1 => refine lY ?_; exact (Kd.R_reads' qn.out).2.2)
         (case side2 => exact (Kd.R_reads' qn.out).2.1)
         (case side3 => refine lY ?_; exact (Kd.R_reads' qm.out).2.2)
         (case side4 => exact (Kd.R_reads' qm.out).2.1)
         rintro e w' ⟨rfl, ⟨nd, rfl⟩⟩
         refine ⟨_, rfl, ?_⟩
         refine hK.out _ _ ⟨(blk_cell qA.out 0).trans rfl, (blk_cell qA.out 1).trans rfl, (blk_cell qA.out 2).trans rfl, (blk_cell qA.out 3).trans rfl, (blk_cell qA.out 4).trans rfl, (blk_cell qA.out 5).trans rfl, (blk_cell qA.out 6).trans rfl, (blk_cell qA.out 7).trans rfl, (blk_cell qA.out 8).trans rfl, (blk_cell qA.out 9).trans rfl, (blk_cell qA.out 10).trans rfl, (blk_cell qA.out 11).trans rfl, (blk_cell qA.out 12).trans rfl, (blk_cell qA.out 13).trans rfl, (blk_cell qA.out 14).trans rfl, (blk_cell qB.out 0).trans rfl, (blk_cell qB.out 1).trans rfl, (blk_cell qB.out 2).trans rfl, (blk_cell qB.out 3).trans rfl, (blk_cell qB.out 4).trans rfl, (blk_cell qB.out 5).trans rfl, (blk_cell qB.out 6).trans rfl, (blk_cell qB.out 7).trans rfl, (blk_cell qB.out 8).trans rfl, (blk_cell qB.out 9).trans rfl, (blk_cell qB.out 10).trans rfl, (blk_cell qB.out 11).trans rfl, (blk_cell qB.out 12).trans rfl, (blk_cell qB.out 13).trans rfl, (blk_cell qB.out 14).trans rfl⟩ (fun hHeld => ?_)
         clear hK K
         refine norm_ (a' := ?_) ?_ ?_
         rotate_left
         ·show Act.put _ (some 43) _ = _
          simp only [Act.put, List.setIfInBounds_toArray, List.set_cons_zero, List.set_cons_succ, i64_w, i32_w]
          rfl
         refine one_ (i := 13) (N := some 46) (bs 17 16383) rfl rfl (one_of HT_.out zk) (by decide) (fun K hK => ?_)
         refine goes_ Try.func14 zk rfl #[.agg #[.int .i64 qU, .int .i64 qV, .slice jX qM.length jY, .int .i64 qW, .int .i64 qX, .slice jZ qN.length ja, .slice jb qO.length jc, .int .i64 qY, .int .i64 qZ, .slice jd qP.length je, .slice qo qC.length qp, .int .i64 qI, .int .i64 qJ, .slice qq qD.length qr, .slice qs qE.length qt], .agg #[.int .i64 qa, .int .i64 qb, .slice jg qQ.length jh, .int .i64 qc, .int .i64 qd, .slice ji qR.length jj, .slice jk qS.length jl, .int .i64 qe, .int .i64 qf, .slice jm qT.length jn, .slice qw qF.length qx, .int .i64 qK, .int .i64 qL, .slice qy qG.length qz, .slice q0 qH.length q1]] (by rfl) rfl rfl zA ?_
         with_reducible refine (code_Same.calls kj22 qU qV _ _ qM qW qX _ _ qN _ _ qO qY qZ _ _ qP _ _ qC qI qJ _ _ qD _ _ qE qa qb _ _ qQ qc qd _ _ qR _ _ qS qe qf _ _ qT _ _ qF qK qL _ _ qG _ _ qH qv _ ?side1 ?side2 ?side3 ?side4 ?side5 ?side6 ?side7 ?side8 ?side9 ?side10 ?side11 ?side12 ?side13 ?side14 ?side15 ?side16 ?side17 ?side18 ?side19 ?side20 ?side21 ?side22 ?side23 ?side24 ?side25 ?side26 ?side27 ?side28 A35.out).mono ?_
         (case side1 => refine lY ?_; exact (Kd.C_below jx.out (zB HB)))
         (case side2 => exact jy.out)
         (case side3 => refine lY ?_; exact (Kd.C_below jz.out (zB HB)))
         (case side4 => exact j2.out)
         (case side5 => refine lY ?_; exact (Kd.C_below j3.out (zB HB)))
         (case side6 => exact j4.out)
         (case side7 => refine lY ?_; exact (Kd.C_below j5.out (zB HB)))
         (case side8 => exact j6.out)
         (case side9 => refine lY ?_; exact (Kd.C_below jo.out (zB HB)))
         (case side10 => exact jp.out)
         (case side11 => refine lY ?_; exact (Kd.C_below jq.out (zB HB)))
         (case side12 => exact jr.out)
         (case side13 => refine lY ?_; exact (Kd.C_below js.out (zB HB)))
         (case side14 => exact jt.out)
         (case side15 => refine lY ?_; exact (Kd.C_below yG.out (zB HB)))
         (case side16 => exact yH.out)
         (case side17 => refine lY ?_; exact (Kd.C_below yI.out (zB HB)))
         (case side18 => exact yJ.out)
         (case side19 => refine lY ?_; exact (Kd.C_below yK.out (zB HB)))
         (case side20 => exact yL.out)
         (case side21 => refine lY ?_; exact (Kd.C_below yM.out (zB HB)))
         (case side22 => exact yN.out)
         (case side23 => refine lY ?_; exact (Kd.C_below j7.out (zB HB)))
         (case side24 => exact j8.out)
         (case side25 => refine lY ?_; exact (Kd.C_below j9.out (zB HB)))
         (case side26 => exact yA.out)
         (case side27 => refine lY ?_; exact (Kd.C_below yB.out (zB HB)))
         (case side28 => exact yC.out)
         rintro e w40 ⟨rfl, hb⟩
         refine ⟨_, rfl, ?_⟩
         have n0_ := aM (Kd.R_below (lR qm) hb)
         have n1_ := aM (Kd.R_below (lR qn) hb)
         have n2_ := aM (blk_below (g := qg) (lK qA) hb)
         have n3_ := aM (blk_below (g := qh) (lK qB) hb)
         have n4_ := aM (below_step (zB HB) hb)
         clear qm
         clear qn
         clear qA
         clear qB
         clear HB
         have qm := n0_
         have qn := n1_
         have qA := n2_
         have qB := n3_
         have HB := n4_
         clear n0_ n1_ n2_ n3_ n4_
         (try clear hb)
         (try clear hb2)
         (try clear hk)
         (try clear hi)
         refine hK.out _ _ ⟨(blk_cell qA.out 0).trans rfl, (blk_cell qA.out 1).trans rfl, (blk_cell qA.out 2).trans rfl, (blk_cell qA.out 3).trans rfl, (blk_cell qA.out 4).trans rfl, (blk_cell qA.out 5).trans rfl, (blk_cell qA.out 6).trans rfl, (blk_cell qA.out 7).trans rfl, (blk_cell qA.out 8).trans rfl, (blk_cell qA.out 9).trans rfl, (blk_cell qA.out 10).trans rfl, (blk_cell qA.out 11).trans rfl, (blk_cell qA.out 12).trans rfl, (blk_cell qA.out 13).trans rfl, (blk_cell qA.out 14).trans rfl, (blk_cell qB.out 0).trans rfl, (blk_cell qB.out 1).trans rfl, (blk_cell qB.out 2).trans rfl, (blk_cell qB.out 3).trans rfl, (blk_cell qB.out 4).trans rfl, (blk_cell qB.out 5).trans rfl, (blk_cell qB.out 6).trans rfl, (blk_cell qB.out 7).trans rfl, (blk_cell qB.out 8).trans rfl, (blk_cell qB.out 9).trans rfl, (blk_cell qB.out 10).trans rfl, (blk_cell qB.out 11).trans rfl, (blk_cell qB.out 12).trans rfl, (blk_cell qB.out 13).trans rfl, (blk_cell qB.out 14).trans rfl⟩ (fun hHeld => ?_)
         clear hK K
         refine norm_ (a' := ?_) ?_ ?_
         rotate_left
         ·show Act.put _ (some 46) _ = _
          simp only [Act.put, List.setIfInBounds_toArray, List.set_cons_zero, List.set_cons_succ, i64_w, i32_w]
          rfl
         refine pQ 14 47 17 32767 ?_
         refine pQ 15 48 17 65535 ?_
         refine pQ 16 4 17 131071 ?_
         refine done_ (done_of HT_.out zk) ?_
         try go_wp2
         go_ret
         exact ⟨zE, zB HB⟩
        ·rw [if_neg c33] at H
         have c33b0 : (qj == qi) = false := by simpa using c33
         (try (have c33b1 : decide (qj = qi) = false := by simpa using c33))
         (try (have c33b2 : (qj == qi) = false := by simpa using c33))
         (try (have c33b3 : ¬ (qj = qi) := by simpa using c33))
         clear c33
         obtain rfl := Option.some.inj H
         exact absurd hT.out (by simp)
 ·replace c4 := Bool.eq_false_iff.mpr c4
  subst c4
  have H1 : (some false) = some r := by rw [if_neg (show ¬ (false = true) by decide)] at H; exact H
  clear H
  have H := H1
  clear H1
  obtain rfl := Option.some.inj H
  exact absurd hT.out (by simp)

end Go.Proofs.Ytccbdcbeinkjgaa.XA
end
