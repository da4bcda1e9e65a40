/- Part 11 of the proof of the law CodeDecodes for every input: words, walks and plain laws. No condition. -/
import Derived.Test.YtccbdcbeinkjgaaKCodeDecodes10
set_option linter.unusedVariables false
set_option linter.unusedSimpArgs false
set_option maxHeartbeats 8000000
set_option maxRecDepth 100000
section
namespace Go.Proofs.Ytccbdcbeinkjgaa.XA
open Go.Proofs.Ytccbdcbeinkjgaa.Lift Go.RowKit Go.Proofs.YtccbdcbeinkjgaaW.PrintWords Go.Proofs.YtccbdcbeinkjgaaW.PrintLast Go.Proofs.YtccbdcbeinkjgaaW.PrintMore
attribute [local go_sem] max2_int min2_int max_two min_two max_three min_three max_four min_four
attribute [local go_sem high] eqA48
mutual
def sR_Same.j0 : Nat → Bool → Int → Int → List (S48) → Int → Int → List (S63) → List Int → Int → Int → List (S63) → List Int → Int → Int → List (S63) → List Int → Int → Int → List (S48) → Int → Int → List (S63) → List Int → Int → Int → List (S63) → List Int → Int → Int → List (S63) → List Int → Option (Bool)
 | 0, _, _, _, _, _, _, _, _, _, _, _, _, _, _, _, _, _, _, _, _, _, _, _, _, _, _, _, _, _, _, _ => none
 | k + 1, x26, jv, jw, qu, jD, jE, jF, jG, jH, jI, jJ, jK, jL, jM, jN, jO, jx, jy, qv, jP, jQ, jR, jS, jT, jU, jV, jW, jX, jY, jZ, ja => if x26 = true then (some false) else (sR_Same.l0 k 0 jv jw qu jD jE jF jG jH jI jJ jK jL jM jN jO jx jy qv jP jQ jR jS jT jU jV jW jX jY jZ ja)
def sR_Same.l0 : Nat → Int → Int → Int → List (S48) → Int → Int → List (S63) → List Int → Int → Int → List (S63) → List Int → Int → Int → List (S63) → List Int → Int → Int → List (S48) → Int → Int → List (S63) → List Int → Int → Int → List (S63) → List Int → Int → Int → List (S63) → List Int → Option (Bool)
 | 0, _, _, _, _, _, _, _, _, _, _, _, _, _, _, _, _, _, _, _, _, _, _, _, _, _, _, _, _, _, _, _ => none
 | k + 1, x5, jv, jw, qu, jD, jE, jF, jG, jH, jI, jJ, jK, jL, jM, jN, jO, jx, jy, qv, jP, jQ, jR, jS, jT, jU, jV, jW, jX, jY, jZ, ja => if x5 < (qu.length : Int) then (if 0 ≤ x5 then (if x5 < (qv.length : Int) then (if (!(((rd_T48 qu x5).f0) == ((rd_T48 qv x5).f0)) || (!(((rd_T48 qu x5).f1) == ((rd_T48 qv x5).f1)))) = true then (some false) else (sR_Same.l0 k (wrap64 (x5 + 1)) jv jw qu jD jE jF jG jH jI jJ jK jL jM jN jO jx jy qv jP jQ jR jS jT jU jV jW jX jY jZ ja)) else (none)) else (none)) else ((sP_Same.f k jD jE jF jG jP jQ jR jS).bind fun qAr => (if qAr = true then ((sP_Same.f k jH jI jJ jK jT jU jV jW).bind fun jC => (if jC = true then ((sP_Same.f k jL jM jN jO jX jY jZ ja).bind fun ql => (some ql)) else (some false))) else (some false)))
end
def sR_Same.f (k : Nat) (qf : Int) (qg : Int) (qK : List (S48)) (qX : Int) (qY : Int) (qR : List (S63)) (qS : List Int) (qb : Int) (qc : Int) (qV : List (S63)) (qE : List Int) (qN : Int) (qO : Int) (qG : List (S63)) (qH : List Int) (qh : Int) (qi : Int) (qL : List (S48)) (qZ : Int) (qa : Int) (qT : List (S63)) (qU : List Int) (qd : Int) (qe : Int) (qW : List (S63)) (qF : List Int) (qP : Int) (qQ : Int) (qI : List (S63)) (qJ : List Int) : Option (Bool) := if qf = qh then (if qg = qi then (sR_Same.j0 k ((qK.length : Int) != (qL.length : Int)) qf qg qK qX qY qR qS qb qc qV qE qN qO qG qH qh qi qL qZ qa qT qU qd qe qW qF qP qQ qI qJ) else (sR_Same.j0 k true qf qg qK qX qY qR qS qb qc qV qE qN qO qG qH qh qi qL qZ qa qT qU qd qe qW qF qP qQ qI qJ)) else (sR_Same.j0 k true qf qg qK qX qY qR qS qb qc qV qE qN qO qG qH qh qi qL qZ qa qT qU qd qe qW qF qP qQ qI qJ)
theorem sR_Same.mono_l : ∀ k, (∀ y0 y1 y2 y3 y4 y5 y6 y7 y8 y9 y10 y11 y12 y13 y14 y15 y16 y17 y18 y19 y20 y21 y22 y23 y24 y25 y26 y27 y28 y29 y30, LeO (sR_Same.j0 k y0 y1 y2 y3 y4 y5 y6 y7 y8 y9 y10 y11 y12 y13 y14 y15 y16 y17 y18 y19 y20 y21 y22 y23 y24 y25 y26 y27 y28 y29 y30) (sR_Same.j0 (k + 1) y0 y1 y2 y3 y4 y5 y6 y7 y8 y9 y10 y11 y12 y13 y14 y15 y16 y17 y18 y19 y20 y21 y22 y23 y24 y25 y26 y27 y28 y29 y30)) ∧ (∀ y0 y1 y2 y3 y4 y5 y6 y7 y8 y9 y10 y11 y12 y13 y14 y15 y16 y17 y18 y19 y20 y21 y22 y23 y24 y25 y26 y27 y28 y29 y30, LeO (sR_Same.l0 k y0 y1 y2 y3 y4 y5 y6 y7 y8 y9 y10 y11 y12 y13 y14 y15 y16 y17 y18 y19 y20 y21 y22 y23 y24 y25 y26 y27 y28 y29 y30) (sR_Same.l0 (k + 1) y0 y1 y2 y3 y4 y5 y6 y7 y8 y9 y10 y11 y12 y13 y14 y15 y16 y17 y18 y19 y20 y21 y22 y23 y24 y25 y26 y27 y28 y29 y30))
 | 0 => ⟨fun _ _ _ _ _ _ _ _ _ _ _ _ _ _ _ _ _ _ _ _ _ _ _ _ _ _ _ _ _ _ _ r h => by simp [sR_Same.j0] at h, fun _ _ _ _ _ _ _ _ _ _ _ _ _ _ _ _ _ _ _ _ _ _ _ _ _ _ _ _ _ _ _ r h => by simp [sR_Same.l0] at h⟩
 | k + 1 => by
  obtain ⟨ih0, ih1⟩ := sR_Same.mono_l k
  refine ⟨?_, ?_⟩
  ·intro y0 y1 y2 y3 y4 y5 y6 y7 y8 y9 y10 y11 y12 y13 y14 y15 y16 y17 y18 y19 y20 y21 y22 y23 y24 y25 y26 y27 y28 y29 y30
   unfold sR_Same.j0
   have im0 := @sP_Same.mono; exact zM
  ·intro y0 y1 y2 y3 y4 y5 y6 y7 y8 y9 y10 y11 y12 y13 y14 y15 y16 y17 y18 y19 y20 y21 y22 y23 y24 y25 y26 y27 y28 y29 y30
   unfold sR_Same.l0
   have im0 := @sP_Same.mono; exact zM
theorem sR_Same.mono : ∀ a0 a1 a2 a3 a4 a5 a6 a7 a8 a9 a10 a11 a12 a13 a14 a15 a16 a17 a18 a19 a20 a21 a22 a23 a24 a25 a26 a27 a28 a29 k, LeO (sR_Same.f k a0 a1 a2 a3 a4 a5 a6 a7 a8 a9 a10 a11 a12 a13 a14 a15 a16 a17 a18 a19 a20 a21 a22 a23 a24 a25 a26 a27 a28 a29) (sR_Same.f (k + 1) a0 a1 a2 a3 a4 a5 a6 a7 a8 a9 a10 a11 a12 a13 a14 a15 a16 a17 a18 a19 a20 a21 a22 a23 a24 a25 a26 a27 a28 a29) := by
 intro a0 a1 a2 a3 a4 a5 a6 a7 a8 a9 a10 a11 a12 a13 a14 a15 a16 a17 a18 a19 a20 a21 a22 a23 a24 a25 a26 a27 a28 a29 k
 obtain ⟨ih0, ih1⟩ := sR_Same.mono_l k
 unfold sR_Same.f
 have im0 := @sP_Same.mono; exact zM
theorem sR_Same.calls (k : Nat) (qf : Int) (qg : Int) (jf : Option Addr) (jg : Nat) (qK : List (S48)) (qX : Int) (qY : Int) (jh : Option Addr) (ji : Nat) (qR : List (S63)) (jj : Option Addr) (jk : Nat) (qS : List Int) (qb : Int) (qc : Int) (jl : Option Addr) (jm : Nat) (qV : List (S63)) (q0 : Option Addr) (q1 : Nat) (qE : List Int) (qN : Int) (qO : Int) (q2 : Option Addr) (q3 : Nat) (qG : List (S63)) (q4 : Option Addr) (q5 : Nat) (qH : List Int) (qh : Int) (qi : Int) (jn : Option Addr) (jo : Nat) (qL : List (S48)) (qZ : Int) (qa : Int) (jp : Option Addr) (jq : Nat) (qT : List (S63)) (jr : Option Addr) (js : Nat) (qU : List Int) (qd : Int) (qe : Int) (jt : Option Addr) (ju : Nat) (qW : List (S63)) (q6 : Option Addr) (q7 : Nat) (qF : List Int) (qP : Int) (qQ : Int) (q8 : Option Addr) (q9 : Nat) (qI : List (S63)) (jA : Option Addr) (jB : Nat) (qJ : List Int) (r : Bool) (w : World) (qA4 : Kd.C k48 w jf qK.length qK) (qA5 : qK.length ≤ jg) (qA6 : Kd.C k63 w jh qR.length qR) (qA7 : qR.length ≤ ji) (qA8 : Kd.C (Kd.int .i64) w jj qS.length qS) (qA9 : qS.length ≤ jk) (qBA : Kd.C k63 w jl qV.length qV) (qBB : qV.length ≤ jm) (qAs : Kd.C (Kd.int .i64) w q0 qE.length qE) (qAt : qE.length ≤ q1) (qAu : Kd.C k63 w q2 qG.length qG) (qAv : qG.length ≤ q3) (qAw : Kd.C (Kd.int .i64) w q4 qH.length qH) (qAx : qH.length ≤ q5) (qBC : Kd.C k48 w jn qL.length qL) (qBD : qL.length ≤ jo) (qBE : Kd.C k63 w jp qT.length qT) (qBF : qT.length ≤ jq) (qBG : Kd.C (Kd.int .i64) w jr qU.length qU) (qBH : qU.length ≤ js) (qBI : Kd.C k63 w jt qW.length qW) (qBJ : qW.length ≤ ju) (qAy : Kd.C (Kd.int .i64) w q6 qF.length qF) (qAz : qF.length ≤ q7) (qA0 : Kd.C k63 w q8 qI.length qI) (qA1 : qI.length ≤ q9) (qA2 : Kd.C (Kd.int .i64) w jA qJ.length qJ) (qA3 : qJ.length ≤ jB) (h : sR_Same.f k qf qg qK qX qY qR qS qb qc qV qE qN qO qG qH qh qi qL qZ qa qT qU qd qe qW qF qP qQ qI qJ = some r) :
  Calls Try.prog 25 #[.agg #[.int .i64 qf, .int .i64 qg, .slice jf qK.length jg, .int .i64 qX, .int .i64 qY, .slice jh qR.length ji, .slice jj qS.length jk, .int .i64 qb, .int .i64 qc, .slice jl qV.length jm, .slice q0 qE.length q1, .int .i64 qN, .int .i64 qO, .slice q2 qG.length q3, .slice q4 qH.length q5], .agg #[.int .i64 qh, .int .i64 qi, .slice jn qL.length jo, .int .i64 qZ, .int .i64 qa, .slice jp qT.length jq, .slice jr qU.length js, .int .i64 qd, .int .i64 qe, .slice jt qW.length ju, .slice q6 qF.length q7, .int .i64 qP, .int .i64 qQ, .slice q8 qI.length q9, .slice jA qJ.length jB]] w fun e w' => e = .returned (.bool r) ∧ Below w.heap.size w w' := by
 have hu28 := Try.underlying28
 have hu48 := Try.underlying48
 have hu26 := Try.underlying26
 have qBK := aM qA4
 have qBw := aM qA5
 clear qA4 qA5
 have qm := aM qA6
 have qn := aM qA7
 clear qA6 qA7
 have qo := aM qA8
 have qp := aM qA9
 clear qA8 qA9
 have jb := aM qBA
 have jc := aM qBB
 clear qBA qBB
 have qw := aM qAs
 have qx := aM qAt
 clear qAs qAt
 have j1 := aM qAu
 have j2 := aM qAv
 clear qAu qAv
 have j3 := aM qAw
 have j4 := aM qAx
 clear qAw qAx
 have qBL := aM qBC
 have qBx := aM qBD
 clear qBC qBD
 have qq := aM qBE
 have qr := aM qBF
 clear qBE qBF
 have qs := aM qBG
 have qt := aM qBH
 clear qBG qBH
 have jd := aM qBI
 have je := aM qBJ
 clear qBI qBJ
 have qy := aM qAy
 have qz := aM qAz
 clear qAy qAz
 have j5 := aM qA0
 have j6 := aM qA1
 clear qA0 qA1
 have j7 := aM qA2
 have j8 := aM qA3
 clear qA2 qA3
 have HB := aM (Below.refl w.heap.size w)
 have H : (if qf = qh then (if qg = qi then (sR_Same.j0 k ((qK.length : Int) != (qL.length : Int)) qf qg qK qX qY qR qS qb qc qV qE qN qO qG qH qh qi qL qZ qa qT qU qd qe qW qF qP qQ qI qJ) else (sR_Same.j0 k true qf qg qK qX qY qR qS qb qc qV qE qN qO qG qH qh qi qL qZ qa qT qU qd qe qW qF qP qQ qI qJ)) else (sR_Same.j0 k true qf qg qK qX qY qR qS qb qc qV qE qN qO qG qH qh qi qL qZ qa qT qU qd qe qW qF qP qQ qI qJ)) = some r := h
 clear h
 have HC3 := aM H
 clear H
 go_enter Try.func25, Try.ntmps25
 go_upto_region 1 with (first | ((with_reducible refine gate_dst (N := 2) rfl ?_); (try (refine gate_guard (by rfl) ?_; dsimp only)); refine z16_ rfl (N := 2) rfl (cs := #[.int .i64 qf, .int .i64 qg, .slice jf qK.length jg, .int .i64 qX, .int .i64 qY, .slice jh qR.length ji, .slice jj qS.length jk, .int .i64 qb, .int .i64 qc, .slice jl qV.length jm, .slice q0 qE.length q1, .int .i64 qN, .int .i64 qO, .slice q2 qG.length q3, .slice q4 qH.length q5]) (t := 28) zG ?_; intro qC hg w4 hbox hb; have qA := aM (hbox); have qBM := aM ((by rw [hg]; exact (z4_ (lB HB)) : w.heap.size ≤ qC)); have qBN := aM ((by rw [hg]; exact (z4_ (lB HB)) : w.heap.size ≤ qC)); replace HB := aM (z6_ (lB HB) hb); clear hb hbox hg) | ((with_reducible refine gate_dst (N := 3) rfl ?_); (try (refine gate_guard (by rfl) ?_; dsimp only)); refine z16_ rfl (N := 3) rfl (cs := #[.int .i64 qh, .int .i64 qi, .slice jn qL.length jo, .int .i64 qZ, .int .i64 qa, .slice jp qT.length jq, .slice jr qU.length js, .int .i64 qd, .int .i64 qe, .slice jt qW.length ju, .slice q6 qF.length q7, .int .i64 qP, .int .i64 qQ, .slice q8 qI.length q9, .slice jA qJ.length jB]) (t := 28) zG ?_; intro qD hg w5 hbox hb; have qB := aM (hbox); have qBO := aM ((by rw [hg]; exact (z4_ (zB HB)) : w.heap.size ≤ qD)); have qBP := aM ((by rw [hg]; exact (z4_ (zB HB)) : w.heap.size ≤ qD)); replace HB := aM (z6_ (zB HB) hb); have qj := aM ((by rw [hg]; exact Nat.ne_of_lt (z19_ (g := qC) (lK qA)) : qC ≠ qD)); have qk := aM ((by rw [hg]; exact Nat.ne_of_gt (z19_ (g := qC) (lK qA)) : qD ≠ qC)); replace qA := aM (z5_ (g := qC) (lK qA) hb); clear hb hbox hg))
 repeat (go_quiet (first | ((with_reducible refine gate_dst (N := 2) rfl ?_); (try (refine gate_guard (by rfl) ?_; dsimp only)); refine z16_ rfl (N := 2) rfl (cs := #[.int .i64 qf, .int .i64 qg, .slice jf qK.length jg, .int .i64 qX, .int .i64 qY, .slice jh qR.length ji, .slice jj qS.length jk, .int .i64 qb, .int .i64 qc, .slice jl qV.length jm, .slice q0 qE.length q1, .int .i64 qN, .int .i64 qO, .slice q2 qG.length q3, .slice q4 qH.length q5]) (t := 28) zG ?_; intro qC hg w4 hbox hb; have qA := aM (hbox); have qBM := aM ((by rw [hg]; exact (z4_ (lB HB)) : w.heap.size ≤ qC)); have qBN := aM ((by rw [hg]; exact (z4_ (lB HB)) : w.heap.size ≤ qC)); replace HB := aM (z6_ (lB HB) hb); clear hb hbox hg) | ((with_reducible refine gate_dst (N := 3) rfl ?_); (try (refine gate_guard (by rfl) ?_; dsimp only)); refine z16_ rfl (N := 3) rfl (cs := #[.int .i64 qh, .int .i64 qi, .slice jn qL.length jo, .int .i64 qZ, .int .i64 qa, .slice jp qT.length jq, .slice jr qU.length js, .int .i64 qd, .int .i64 qe, .slice jt qW.length ju, .slice q6 qF.length q7, .int .i64 qP, .int .i64 qQ, .slice q8 qI.length q9, .slice jA qJ.length jB]) (t := 28) zG ?_; intro qD hg w5 hbox hb; have qB := aM (hbox); have qBO := aM ((by rw [hg]; exact (z4_ (zB HB)) : w.heap.size ≤ qD)); have qBP := aM ((by rw [hg]; exact (z4_ (zB HB)) : w.heap.size ≤ qD)); replace HB := aM (z6_ (zB HB) hb); have qj := aM ((by rw [hg]; exact Nat.ne_of_lt (z19_ (g := qC) (lK qA)) : qC ≠ qD)); have qk := aM ((by rw [hg]; exact Nat.ne_of_gt (z19_ (g := qC) (lK qA)) : qD ≠ qC)); replace qA := aM (z5_ (g := qC) (lK qA) hb); clear hb hbox hg)); go_upto_region 1 with (first | ((with_reducible refine gate_dst (N := 2) rfl ?_); (try (refine gate_guard (by rfl) ?_; dsimp only)); refine z16_ rfl (N := 2) rfl (cs := #[.int .i64 qf, .int .i64 qg, .slice jf qK.length jg, .int .i64 qX, .int .i64 qY, .slice jh qR.length ji, .slice jj qS.length jk, .int .i64 qb, .int .i64 qc, .slice jl qV.length jm, .slice q0 qE.length q1, .int .i64 qN, .int .i64 qO, .slice q2 qG.length q3, .slice q4 qH.length q5]) (t := 28) zG ?_; intro qC hg w4 hbox hb; have qA := aM (hbox); have qBM := aM ((by rw [hg]; exact (z4_ (lB HB)) : w.heap.size ≤ qC)); have qBN := aM ((by rw [hg]; exact (z4_ (lB HB)) : w.heap.size ≤ qC)); replace HB := aM (z6_ (lB HB) hb); clear hb hbox hg) | ((with_reducible refine gate_dst (N := 3) rfl ?_); (try (refine gate_guard (by rfl) ?_; dsimp only)); refine z16_ rfl (N := 3) rfl (cs := #[.int .i64 qh, .int .i64 qi, .slice jn qL.length jo, .int .i64 qZ, .int .i64 qa, .slice jp qT.length jq, .slice jr qU.length js, .int .i64 qd, .int .i64 qe, .slice jt qW.length ju, .slice q6 qF.length q7, .int .i64 qP, .int .i64 qQ, .slice q8 qI.length q9, .slice jA qJ.length jB]) (t := 28) zG ?_; intro qD hg w5 hbox hb; have qB := aM (hbox); have qBO := aM ((by rw [hg]; exact (z4_ (zB HB)) : w.heap.size ≤ qD)); have qBP := aM ((by rw [hg]; exact (z4_ (zB HB)) : w.heap.size ≤ qD)); replace HB := aM (z6_ (zB HB) hb); have qj := aM ((by rw [hg]; exact Nat.ne_of_lt (z19_ (g := qC) (lK qA)) : qC ≠ qD)); have qk := aM ((by rw [hg]; exact Nat.ne_of_gt (z19_ (g := qC) (lK qA)) : qD ≠ qC)); replace qA := aM (z5_ (g := qC) (lK qA) hb); clear hb hbox hg)))
 (try simp only [Act.put, List.setIfInBounds_toArray, List.set_cons_zero, List.set_cons_succ])
 go_cut [26] (fun v26 wc => ∃ (kq : Nat) (jz : Bool), v26 = .bool jz ∧ Aside0 (sR_Same.j0 kq jz qf qg qK qX qY qR qS qb qc qV qE qN qO qG qH qh qi qL qZ qa qT qU qd qe qW qF qP qQ qI qJ = some r) ∧ Aside0 (kq ≤ k) ∧ Aside0 (wc.heap[qC]? = some (.cells #[.int .i64 qf, .int .i64 qg, (.slice jf qK.length jg), .int .i64 qX, .int .i64 qY, (.slice jh qR.length ji), (.slice jj qS.length jk), .int .i64 qb, .int .i64 qc, (.slice jl qV.length jm), (.slice q0 qE.length q1), .int .i64 qN, .int .i64 qO, (.slice q2 qG.length q3), (.slice q4 qH.length q5)] 28 (0, 0))) ∧ Aside0 (wc.heap[qD]? = some (.cells #[.int .i64 qh, .int .i64 qi, (.slice jn qL.length jo), .int .i64 qZ, .int .i64 qa, (.slice jp qT.length jq), (.slice jr qU.length js), .int .i64 qd, .int .i64 qe, (.slice jt qW.length ju), (.slice q6 qF.length q7), .int .i64 qP, .int .i64 qQ, (.slice q8 qI.length q9), (.slice jA qJ.length jB)] 28 (0, 0))) ∧ Aside0 (Below w.heap.size w wc))
 case first =>
  have H := HC3.out
  clear HC3
  by_cases c6 : qf = qh
  ·rw [if_pos c6] at H
   have c6b0 : (qf == qh) = true := beq_iff_eq.mpr c6
   have c6b1 : (qf != qh) = false := bne_eq_false_iff_eq.mpr c6
   clear c6
   (first | rw [c6b0] | (simp only [i64_w, i32_w]; rw [c6b0]) | skip)
   by_cases c7 : qg = qi
   ·rw [if_pos c7] at H
    have c7b0 : (qg == qi) = true := beq_iff_eq.mpr c7
    have c7b1 : (qg != qi) = false := bne_eq_false_iff_eq.mpr c7
    clear c7
    have H' := aM H
    clear H
    have qCC := qj.out
    have qCD := qk.out
    have qBu := zc15 qA.out
    have qBv := fun i_ : Nat => z1_ qA.out i_
    have qBQ := zc15 qB.out
    have qBR := fun i_ : Nat => z1_ qB.out i_
    go_wp2
    repeat (go_quiet (fail); try go_wp2)
    go_meet
    case rel => exact ⟨_, (((qK.length : Int) != (qL.length : Int))), zT, H', ⟨zO⟩, ⟨zb qA⟩, ⟨zb qB⟩, ⟨zB HB⟩⟩
   ·rw [if_neg c7] at H
    have c7b0 : (qg == qi) = false := beq_eq_false_iff_ne.mpr c7
    have c7b1 : (qg != qi) = true := bne_iff_ne.mpr c7
    have H' := aM H
    clear H
    have qBy := qj.out
    have qBz := qk.out
    have qBS := zc15 qA.out
    have qBT := fun i_ : Nat => z1_ qA.out i_
    have qBU := zc15 qB.out
    have qBV := fun i_ : Nat => z1_ qB.out i_
    go_wp2
    repeat (go_quiet (fail); try go_wp2)
    go_meet
    case rel => exact ⟨_, (true), zT, H', ⟨zO⟩, ⟨zb qA⟩, ⟨zb qB⟩, ⟨zB HB⟩⟩
  ·rw [if_neg c6] at H
   have c6b0 : (qf == qh) = false := beq_eq_false_iff_ne.mpr c6
   have c6b1 : (qf != qh) = true := bne_iff_ne.mpr c6
   (first | rw [c6b0] | (simp only [i64_w, i32_w]; rw [c6b0]) | skip)
   have H' := aM H
   clear H
   have qB0 := qj.out
   have qB1 := qk.out
   have qBW := zc15 qA.out
   have qBX := fun i_ : Nat => z1_ qA.out i_
   have qBY := zc15 qB.out
   have qBZ := fun i_ : Nat => z1_ qB.out i_
   go_wp2
   repeat (go_quiet (fail); try go_wp2)
   go_meet
   case rel => exact ⟨_, (true), zT, H', ⟨zO⟩, ⟨zb qA⟩, ⟨zb qB⟩, ⟨zB HB⟩⟩
 case rest =>
  clear HC3
  obtain ⟨kq, jz, rfl, HA, HJ2, qA, qB, HB⟩ := hcut
  cases kq with
  | zero => exact absurd HA.out (by simp [sR_Same.j0])
  | succ kj2 =>
   have H := HA.out
   clear HA
   simp only [sR_Same.j0] at H
   by_cases c17 : jz = true
   ·subst c17
    have H1 : (some false) = some r := by rw [if_pos rfl] at H; exact H
    clear H
    have H := H1
    clear H1
    obtain rfl := Option.some.inj H
    go_wp2
    repeat (go_quiet (fail); try go_wp2)
    go_ret
    exact ⟨zE, zB HB⟩
   ·replace c17 := Bool.eq_false_iff.mpr c17
    subst c17
    have H1 : (sR_Same.l0 kj2 0 qf qg qK qX qY qR qS qb qc qV qE qN qO qG qH qh qi qL qZ qa qT qU qd qe qW qF qP qQ qI qJ) = some r := by rw [if_neg (show ¬ (false = true) by decide)] at H; exact H
    clear H
    have H := H1
    clear H1
    have H' := aM H
    clear H
    go_wp2
    repeat (go_quiet (fail); try go_wp2)
    go_loopg [5] kj2 (fun kq v5 w' => ∃ (qM : Int), v5 = .int .i64 qM ∧ Aside0 (sR_Same.l0 kq qM qf qg qK qX qY qR qS qb qc qV qE qN qO qG qH qh qi qL qZ qa qT qU qd qe qW qF qP qQ qI qJ = some r) ∧ Aside0 (kq ≤ kj2) ∧ Aside0 (w'.heap[qC]? = some (.cells #[.int .i64 qf, .int .i64 qg, (.slice jf qK.length jg), .int .i64 qX, .int .i64 qY, (.slice jh qR.length ji), (.slice jj qS.length jk), .int .i64 qb, .int .i64 qc, (.slice jl qV.length jm), (.slice q0 qE.length q1), .int .i64 qN, .int .i64 qO, (.slice q2 qG.length q3), (.slice q4 qH.length q5)] 28 (0, 0))) ∧ Aside0 (w'.heap[qD]? = some (.cells #[.int .i64 qh, .int .i64 qi, (.slice jn qL.length jo), .int .i64 qZ, .int .i64 qa, (.slice jp qT.length jq), (.slice jr qU.length js), .int .i64 qd, .int .i64 qe, (.slice jt qW.length ju), (.slice q6 qF.length q7), .int .i64 qP, .int .i64 qQ, (.slice q8 qI.length q9), (.slice jA qJ.length jB)] 28 (0, 0))) ∧ Aside0 (Below w.heap.size w w'))
    case atStart => exact ⟨(0), zT, H', ⟨Nat.le_refl _⟩, ⟨zb qA⟩, ⟨zb qB⟩, ⟨zB HB⟩⟩
    case round =>
     clear H'
     try clear c17
     obtain ⟨qM, rfl, HA, HK2, qA, qB, HB⟩ := hrel
     cases gk with
     | zero => exact absurd HA.out (by simp [sR_Same.l0])
     | succ k2 =>
      have H := HA.out
      clear HA
      simp only [sR_Same.l0] at H
      by_cases c18 : qM < (qK.length : Int)
      ·rw [if_pos c18] at H
       have c18b0 := decide_eq_true c18
       clear c18
       by_cases c19 : 0 ≤ qM
       ·rw [if_pos c19] at H
        have c19b0 := decide_eq_true c19
        clear c19
        by_cases c20 : qM < (qL.length : Int)
        ·rw [if_pos c20] at H
         have c20b0 := decide_eq_true c20
         clear c20
         by_cases c21 : (!(((rd_T48 qK qM).f0) == ((rd_T48 qL qM).f0)) || (!(((rd_T48 qK qM).f1) == ((rd_T48 qL qM).f1)))) = true
         ·rw [if_pos c21] at H
          have c21b0 : (!(((rd_T48 qK qM).f0) == ((rd_T48 qL qM).f0)) || (!(((rd_T48 qK qM).f1) == ((rd_T48 qL qM).f1)))) = true := c21
          clear c21
          obtain rfl := Option.some.inj H
          have qB2 := qj.out
          have qB3 := qk.out
          have qBa := zc15 qA.out
          have qBb := fun i_ : Nat => z1_ qA.out i_
          have p451 : 0 ≤ (qM : Int) := of_decide_eq_true za
          have q451 : qM < (qK.length : Int) := of_decide_eq_true za
          obtain ⟨ad451, e451, hx451_0, hx451_1⟩ := at_T48 qBK.out qM p451 q451
          cases e451
          replace hx451_0 := (HB.out.cell (World.block_lt_of_cell? w _ hx451_0)).trans hx451_0
          replace hx451_1 := (HB.out.cell (World.block_lt_of_cell? w _ hx451_1)).trans hx451_1
          replace p451 := eq_true p451
          replace q451 := eq_true q451
          have qBc := zc15 qB.out
          have qBd := fun i_ : Nat => z1_ qB.out i_
          have p452 : 0 ≤ (qM : Int) := of_decide_eq_true za
          have q452 : qM < (qL.length : Int) := of_decide_eq_true za
          obtain ⟨ad452, e452, hx452_0, hx452_1⟩ := at_T48 qBL.out qM p452 q452
          cases e452
          replace hx452_0 := (HB.out.cell (World.block_lt_of_cell? w _ hx452_0)).trans hx452_0
          replace hx452_1 := (HB.out.cell (World.block_lt_of_cell? w _ hx452_1)).trans hx452_1
          replace p452 := eq_true p452
          replace q452 := eq_true q452
          go_wp2
          repeat (go_quiet (fail); try go_wp2)
          go_ret
          exact ⟨zE, zB HB⟩
         ·rw [if_neg c21] at H
          have c21b0 : (!(((rd_T48 qK qM).f0) == ((rd_T48 qL qM).f0)) || (!(((rd_T48 qK qM).f1) == ((rd_T48 qL qM).f1)))) = false := by simpa using c21
          clear c21
          have H' := aM H
          clear H
          have qB4 := qj.out
          have qB5 := qk.out
          have qBe := zc15 qA.out
          have qBf := fun i_ : Nat => z1_ qA.out i_
          have p451 : 0 ≤ (qM : Int) := of_decide_eq_true za
          have q451 : qM < (qK.length : Int) := of_decide_eq_true za
          obtain ⟨ad451, e451, hx451_0, hx451_1⟩ := at_T48 qBK.out qM p451 q451
          cases e451
          replace hx451_0 := (HB.out.cell (World.block_lt_of_cell? w _ hx451_0)).trans hx451_0
          replace hx451_1 := (HB.out.cell (World.block_lt_of_cell? w _ hx451_1)).trans hx451_1
          replace p451 := eq_true p451
          replace q451 := eq_true q451
          have qBg := zc15 qB.out
          have qBh := fun i_ : Nat => z1_ qB.out i_
          have p452 : 0 ≤ (qM : Int) := of_decide_eq_true za
          have q452 : qM < (qL.length : Int) := of_decide_eq_true za
          obtain ⟨ad452, e452, hx452_0, hx452_1⟩ := at_T48 qBL.out qM p452 q452
          cases e452
          replace hx452_0 := (HB.out.cell (World.block_lt_of_cell? w _ hx452_0)).trans hx452_0
          replace hx452_1 := (HB.out.cell (World.block_lt_of_cell? w _ hx452_1)).trans hx452_1
          replace p452 := eq_true p452
          replace q452 := eq_true q452
          go_wp2
          repeat (go_quiet (fail); try go_wp2)
          go_roundg k2
          case measure => have := HJ2.out; have := HK2.out; omega
          case rel => exact ⟨(wrap64 (qM + 1)), zT, H', ⟨by have := HJ2.out; have := HK2.out; omega⟩, ⟨zb qA⟩, ⟨zb qB⟩, ⟨zB HB⟩⟩
        ·rw [if_neg c20] at H
         exact absurd H (by simp)
       ·rw [if_neg c19] at H
        exact absurd H (by simp)
      ·rw [if_neg c18] at H
       have c18b0 := decide_eq_false c18
       clear c18
       replace H := zbs H
       obtain ⟨qAr, A280, H⟩ := H
       replace H : (if qAr = true then ((sP_Same.f k2 qb qc qV qE qd qe qW qF).bind fun jC => (if jC = true then ((sP_Same.f k2 qN qO qG qH qP qQ qI qJ).bind fun ql => (some ql)) else (some false))) else (some false)) = some r := H
       have A28 := aM A280
       clear A280
       by_cases c29 : qAr = true
       ·subst c29
        have H1 : ((sP_Same.f k2 qb qc qV qE qd qe qW qF).bind fun jC => (if jC = true then ((sP_Same.f k2 qN qO qG qH qP qQ qI qJ).bind fun ql => (some ql)) else (some false))) = some r := by rw [if_pos rfl] at H; exact H
        clear H
        have H := H1
        clear H1
        replace H := zbs H
        obtain ⟨jC, A300, H⟩ := H
        replace H : (if jC = true then ((sP_Same.f k2 qN qO qG qH qP qQ qI qJ).bind fun ql => (some ql)) else (some false)) = some r := H
        have A30 := aM A300
        clear A300
        by_cases c31 : jC = true
        ·subst c31
         have H1 : ((sP_Same.f k2 qN qO qG qH qP qQ qI qJ).bind fun ql => (some ql)) = some r := by rw [if_pos rfl] at H; exact H
         clear H
         have H := H1
         clear H1
         replace H := zbs H
         obtain ⟨ql, A320, H⟩ := H
         replace H : (some ql) = some r := H
         have A32 := aM A320
         clear A320
         obtain rfl := Option.some.inj H
         have qB6 := qj.out
         have qB7 := qk.out
         have qBi := zc15 qA.out
         have qBj := fun i_ : Nat => z1_ qA.out i_
         have qBk := zc15 qB.out
         have qBl := fun i_ : Nat => z1_ qB.out i_
         go_wp2_with (first | (go_at_call 48; (with_reducible refine (sP_Same.calls k2 qX qY _ _ qR _ _ qS qZ qa _ _ qT _ _ qU true _ ?side1 ?side2 ?side3 ?side4 ?side5 ?side6 ?side7 ?side8 A28.out).mono ?_); (case side1 => refine lY ?_; exact (Kd.z8_ qm.out HB.out)); (case side2 => exact qn.out); (case side3 => refine lY ?_; exact (Kd.z8_ qo.out HB.out)); (case side4 => exact qp.out); (case side5 => refine lY ?_; exact (Kd.z8_ qq.out HB.out)); (case side6 => exact qr.out); (case side7 => refine lY ?_; exact (Kd.z8_ qs.out HB.out)); (case side8 => exact qt.out); rintro e w36 ⟨rfl, hb⟩; replace qA := aM (z5_ (g := qC) (lK qA) hb); replace qB := aM (z5_ (g := qD) (lK qB) hb); replace HB := aM (z6_ (zB HB) hb); (try clear hb); obtain ⟨yd, ye, yf, yg, yh, yi, yj, yk, yl, ym, j9, yA, yB, yC, yD⟩ := zc15 qA.out; have yn := fun i_ : Nat => z1_ qA.out i_; obtain ⟨yo, yp, yq, yr, ys, yt, yu, yv, yw, yx, yE, yF, yG, yH, yI⟩ := zc15 qB.out; have yy := fun i_ : Nat => z1_ qB.out i_) | (go_at_call 48; (with_reducible refine (sP_Same.calls k2 qb qc _ _ qV _ _ qE qd qe _ _ qW _ _ qF true _ ?side1 ?side2 ?side3 ?side4 ?side5 ?side6 ?side7 ?side8 A30.out).mono ?_); (case side1 => refine lY ?_; exact (Kd.z8_ jb.out HB.out)); (case side2 => exact jc.out); (case side3 => refine lY ?_; exact (Kd.z8_ qw.out HB.out)); (case side4 => exact qx.out); (case side5 => refine lY ?_; exact (Kd.z8_ jd.out HB.out)); (case side6 => exact je.out); (case side7 => refine lY ?_; exact (Kd.z8_ qy.out HB.out)); (case side8 => exact qz.out); rintro e w39 ⟨rfl, hb⟩; replace qA := aM (z5_ (g := qC) (lK qA) hb); replace qB := aM (z5_ (g := qD) (lK qB) hb); replace HB := aM (z6_ (zB HB) hb); (try clear hb); obtain ⟨yz, qAA, qAB, qAC, qAD, qAE, qAF, qAG, qAH, qAI, yJ, yK, yL, yM, yN⟩ := zc15 qA.out; have qAJ := fun i_ : Nat => z1_ qA.out i_; obtain ⟨qAK, qAL, qAM, qAN, qAO, qAP, qAQ, qAR, qAS, qAT, yO, yP, yQ, yR, yS⟩ := zc15 qB.out; have qAU := fun i_ : Nat => z1_ qB.out i_) | (go_at_call 48; (with_reducible refine (sP_Same.calls k2 qN qO _ _ qG _ _ qH qP qQ _ _ qI _ _ qJ ql _ ?side1 ?side2 ?side3 ?side4 ?side5 ?side6 ?side7 ?side8 A32.out).mono ?_); (case side1 => refine lY ?_; exact (Kd.z8_ j1.out HB.out)); (case side2 => exact j2.out); (case side3 => refine lY ?_; exact (Kd.z8_ j3.out HB.out)); (case side4 => exact j4.out); (case side5 => refine lY ?_; exact (Kd.z8_ j5.out HB.out)); (case side6 => exact j6.out); (case side7 => refine lY ?_; exact (Kd.z8_ j7.out HB.out)); (case side8 => exact j8.out); rintro e w42 ⟨rfl, hb⟩; replace qA := aM (z5_ (g := qC) (lK qA) hb); replace qB := aM (z5_ (g := qD) (lK qB) hb); replace HB := aM (z6_ (zB HB) hb); (try clear hb)))
         repeat (go_quiet (first | (go_at_call 48; (with_reducible refine (sP_Same.calls k2 qX qY _ _ qR _ _ qS qZ qa _ _ qT _ _ qU true _ ?side1 ?side2 ?side3 ?side4 ?side5 ?side6 ?side7 ?side8 A28.out).mono ?_); (case side1 => refine lY ?_; exact (Kd.z8_ qm.out HB.out)); (case side2 => exact qn.out); (case side3 => refine lY ?_; exact (Kd.z8_ qo.out HB.out)); (case side4 => exact qp.out); (case side5 => refine lY ?_; exact (Kd.z8_ qq.out HB.out)); (case side6 => exact qr.out); (case side7 => refine lY ?_; exact (Kd.z8_ qs.out HB.out)); (case side8 => exact qt.out); rintro e w36 ⟨rfl, hb⟩; replace qA := aM (z5_ (g := qC) (lK qA) hb); replace qB := aM (z5_ (g := qD) (lK qB) hb); replace HB := aM (z6_ (zB HB) hb); (try clear hb); obtain ⟨yd, ye, yf, yg, yh, yi, yj, yk, yl, ym, j9, yA, yB, yC, yD⟩ := zc15 qA.out; have yn := fun i_ : Nat => z1_ qA.out i_; obtain ⟨yo, yp, yq, yr, ys, yt, yu, yv, yw, yx, yE, yF, yG, yH, yI⟩ := zc15 qB.out; have yy := fun i_ : Nat => z1_ qB.out i_) | (go_at_call 48; (with_reducible refine (sP_Same.calls k2 qb qc _ _ qV _ _ qE qd qe _ _ qW _ _ qF true _ ?side1 ?side2 ?side3 ?side4 ?side5 ?side6 ?side7 ?side8 A30.out).mono ?_); (case side1 => refine lY ?_; exact (Kd.z8_ jb.out HB.out)); (case side2 => exact jc.out); (case side3 => refine lY ?_; exact (Kd.z8_ qw.out HB.out)); (case side4 => exact qx.out); (case side5 => refine lY ?_; exact (Kd.z8_ jd.out HB.out)); (case side6 => exact je.out); (case side7 => refine lY ?_; exact (Kd.z8_ qy.out HB.out)); (case side8 => exact qz.out); rintro e w39 ⟨rfl, hb⟩; replace qA := aM (z5_ (g := qC) (lK qA) hb); replace qB := aM (z5_ (g := qD) (lK qB) hb); replace HB := aM (z6_ (zB HB) hb); (try clear hb); obtain ⟨yz, qAA, qAB, qAC, qAD, qAE, qAF, qAG, qAH, qAI, yJ, yK, yL, yM, yN⟩ := zc15 qA.out; have qAJ := fun i_ : Nat => z1_ qA.out i_; obtain ⟨qAK, qAL, qAM, qAN, qAO, qAP, qAQ, qAR, qAS, qAT, yO, yP, yQ, yR, yS⟩ := zc15 qB.out; have qAU := fun i_ : Nat => z1_ qB.out i_) | (go_at_call 48; (with_reducible refine (sP_Same.calls k2 qN qO _ _ qG _ _ qH qP qQ _ _ qI _ _ qJ ql _ ?side1 ?side2 ?side3 ?side4 ?side5 ?side6 ?side7 ?side8 A32.out).mono ?_); (case side1 => refine lY ?_; exact (Kd.z8_ j1.out HB.out)); (case side2 => exact j2.out); (case side3 => refine lY ?_; exact (Kd.z8_ j3.out HB.out)); (case side4 => exact j4.out); (case side5 => refine lY ?_; exact (Kd.z8_ j5.out HB.out)); (case side6 => exact j6.out); (case side7 => refine lY ?_; exact (Kd.z8_ j7.out HB.out)); (case side8 => exact j8.out); rintro e w42 ⟨rfl, hb⟩; replace qA := aM (z5_ (g := qC) (lK qA) hb); replace qB := aM (z5_ (g := qD) (lK qB) hb); replace HB := aM (z6_ (zB HB) hb); (try clear hb))); try go_wp2_with (first | (go_at_call 48; (with_reducible refine (sP_Same.calls k2 qX qY _ _ qR _ _ qS qZ qa _ _ qT _ _ qU true _ ?side1 ?side2 ?side3 ?side4 ?side5 ?side6 ?side7 ?side8 A28.out).mono ?_); (case side1 => refine lY ?_; exact (Kd.z8_ qm.out HB.out)); (case side2 => exact qn.out); (case side3 => refine lY ?_; exact (Kd.z8_ qo.out HB.out)); (case side4 => exact qp.out); (case side5 => refine lY ?_; exact (Kd.z8_ qq.out HB.out)); (case side6 => exact qr.out); (case side7 => refine lY ?_; exact (Kd.z8_ qs.out HB.out)); (case side8 => exact qt.out); rintro e w36 ⟨rfl, hb⟩; replace qA := aM (z5_ (g := qC) (lK qA) hb); replace qB := aM (z5_ (g := qD) (lK qB) hb); replace HB := aM (z6_ (zB HB) hb); (try clear hb); obtain ⟨yd, ye, yf, yg, yh, yi, yj, yk, yl, ym, j9, yA, yB, yC, yD⟩ := zc15 qA.out; have yn := fun i_ : Nat => z1_ qA.out i_; obtain ⟨yo, yp, yq, yr, ys, yt, yu, yv, yw, yx, yE, yF, yG, yH, yI⟩ := zc15 qB.out; have yy := fun i_ : Nat => z1_ qB.out i_) | (go_at_call 48; (with_reducible refine (sP_Same.calls k2 qb qc _ _ qV _ _ qE qd qe _ _ qW _ _ qF true _ ?side1 ?side2 ?side3 ?side4 ?side5 ?side6 ?side7 ?side8 A30.out).mono ?_); (case side1 => refine lY ?_; exact (Kd.z8_ jb.out HB.out)); (case side2 => exact jc.out); (case side3 => refine lY ?_; exact (Kd.z8_ qw.out HB.out)); (case side4 => exact qx.out); (case side5 => refine lY ?_; exact (Kd.z8_ jd.out HB.out)); (case side6 => exact je.out); (case side7 => refine lY ?_; exact (Kd.z8_ qy.out HB.out)); (case side8 => exact qz.out); rintro e w39 ⟨rfl, hb⟩; replace qA := aM (z5_ (g := qC) (lK qA) hb); replace qB := aM (z5_ (g := qD) (lK qB) hb); replace HB := aM (z6_ (zB HB) hb); (try clear hb); obtain ⟨yz, qAA, qAB, qAC, qAD, qAE, qAF, qAG, qAH, qAI, yJ, yK, yL, yM, yN⟩ := zc15 qA.out; have qAJ := fun i_ : Nat => z1_ qA.out i_; obtain ⟨qAK, qAL, qAM, qAN, qAO, qAP, qAQ, qAR, qAS, qAT, yO, yP, yQ, yR, yS⟩ := zc15 qB.out; have qAU := fun i_ : Nat => z1_ qB.out i_) | (go_at_call 48; (with_reducible refine (sP_Same.calls k2 qN qO _ _ qG _ _ qH qP qQ _ _ qI _ _ qJ ql _ ?side1 ?side2 ?side3 ?side4 ?side5 ?side6 ?side7 ?side8 A32.out).mono ?_); (case side1 => refine lY ?_; exact (Kd.z8_ j1.out HB.out)); (case side2 => exact j2.out); (case side3 => refine lY ?_; exact (Kd.z8_ j3.out HB.out)); (case side4 => exact j4.out); (case side5 => refine lY ?_; exact (Kd.z8_ j5.out HB.out)); (case side6 => exact j6.out); (case side7 => refine lY ?_; exact (Kd.z8_ j7.out HB.out)); (case side8 => exact j8.out); rintro e w42 ⟨rfl, hb⟩; replace qA := aM (z5_ (g := qC) (lK qA) hb); replace qB := aM (z5_ (g := qD) (lK qB) hb); replace HB := aM (z6_ (zB HB) hb); (try clear hb))))
         go_ret
         exact ⟨zE, zB HB⟩
        ·replace c31 := Bool.eq_false_iff.mpr c31
         subst c31
         have H1 : (some false) = some r := by rw [if_neg (show ¬ (false = true) by decide)] at H; exact H
         clear H
         have H := H1
         clear H1
         obtain rfl := Option.some.inj H
         have qB8 := qj.out
         have qB9 := qk.out
         have qBm := zc15 qA.out
         have qBn := fun i_ : Nat => z1_ qA.out i_
         have qBo := zc15 qB.out
         have qBp := fun i_ : Nat => z1_ qB.out i_
         go_wp2_with (first | (go_at_call 48; (with_reducible refine (sP_Same.calls k2 qX qY _ _ qR _ _ qS qZ qa _ _ qT _ _ qU true _ ?side1 ?side2 ?side3 ?side4 ?side5 ?side6 ?side7 ?side8 A28.out).mono ?_); (case side1 => refine lY ?_; exact (Kd.z8_ qm.out HB.out)); (case side2 => exact qn.out); (case side3 => refine lY ?_; exact (Kd.z8_ qo.out HB.out)); (case side4 => exact qp.out); (case side5 => refine lY ?_; exact (Kd.z8_ qq.out HB.out)); (case side6 => exact qr.out); (case side7 => refine lY ?_; exact (Kd.z8_ qs.out HB.out)); (case side8 => exact qt.out); rintro e w46 ⟨rfl, hb⟩; replace qA := aM (z5_ (g := qC) (lK qA) hb); replace qB := aM (z5_ (g := qD) (lK qB) hb); replace HB := aM (z6_ (zB HB) hb); (try clear hb); obtain ⟨qAV, qAW, qAX, qAY, qAZ, qAa, qAb, qAc, qAd, qAe, yT, yU, yV, yW, yX⟩ := zc15 qA.out; have qAf := fun i_ : Nat => z1_ qA.out i_; obtain ⟨qAg, qAh, qAi, qAj, qAk, qAl, qAm, qAn, qAo, qAp, yY, yZ, ya, yb, yc⟩ := zc15 qB.out; have qAq := fun i_ : Nat => z1_ qB.out i_) | (go_at_call 48; (with_reducible refine (sP_Same.calls k2 qb qc _ _ qV _ _ qE qd qe _ _ qW _ _ qF false _ ?side1 ?side2 ?side3 ?side4 ?side5 ?side6 ?side7 ?side8 A30.out).mono ?_); (case side1 => refine lY ?_; exact (Kd.z8_ jb.out HB.out)); (case side2 => exact jc.out); (case side3 => refine lY ?_; exact (Kd.z8_ qw.out HB.out)); (case side4 => exact qx.out); (case side5 => refine lY ?_; exact (Kd.z8_ jd.out HB.out)); (case side6 => exact je.out); (case side7 => refine lY ?_; exact (Kd.z8_ qy.out HB.out)); (case side8 => exact qz.out); rintro e w49 ⟨rfl, hb⟩; replace qA := aM (z5_ (g := qC) (lK qA) hb); replace qB := aM (z5_ (g := qD) (lK qB) hb); replace HB := aM (z6_ (zB HB) hb); (try clear hb)))
         repeat (go_quiet (first | (go_at_call 48; (with_reducible refine (sP_Same.calls k2 qX qY _ _ qR _ _ qS qZ qa _ _ qT _ _ qU true _ ?side1 ?side2 ?side3 ?side4 ?side5 ?side6 ?side7 ?side8 A28.out).mono ?_); (case side1 => refine lY ?_; exact (Kd.z8_ qm.out HB.out)); (case side2 => exact qn.out); (case side3 => refine lY ?_; exact (Kd.z8_ qo.out HB.out)); (case side4 => exact qp.out); (case side5 => refine lY ?_; exact (Kd.z8_ qq.out HB.out)); (case side6 => exact qr.out); (case side7 => refine lY ?_; exact (Kd.z8_ qs.out HB.out)); (case side8 => exact qt.out); rintro e w46 ⟨rfl, hb⟩; replace qA := aM (z5_ (g := qC) (lK qA) hb); replace qB := aM (z5_ (g := qD) (lK qB) hb); replace HB := aM (z6_ (zB HB) hb); (try clear hb); obtain ⟨qAV, qAW, qAX, qAY, qAZ, qAa, qAb, qAc, qAd, qAe, yT, yU, yV, yW, yX⟩ := zc15 qA.out; have qAf := fun i_ : Nat => z1_ qA.out i_; obtain ⟨qAg, qAh, qAi, qAj, qAk, qAl, qAm, qAn, qAo, qAp, yY, yZ, ya, yb, yc⟩ := zc15 qB.out; have qAq := fun i_ : Nat => z1_ qB.out i_) | (go_at_call 48; (with_reducible refine (sP_Same.calls k2 qb qc _ _ qV _ _ qE qd qe _ _ qW _ _ qF false _ ?side1 ?side2 ?side3 ?side4 ?side5 ?side6 ?side7 ?side8 A30.out).mono ?_); (case side1 => refine lY ?_; exact (Kd.z8_ jb.out HB.out)); (case side2 => exact jc.out); (case side3 => refine lY ?_; exact (Kd.z8_ qw.out HB.out)); (case side4 => exact qx.out); (case side5 => refine lY ?_; exact (Kd.z8_ jd.out HB.out)); (case side6 => exact je.out); (case side7 => refine lY ?_; exact (Kd.z8_ qy.out HB.out)); (case side8 => exact qz.out); rintro e w49 ⟨rfl, hb⟩; replace qA := aM (z5_ (g := qC) (lK qA) hb); replace qB := aM (z5_ (g := qD) (lK qB) hb); replace HB := aM (z6_ (zB HB) hb); (try clear hb))); try go_wp2_with (first | (go_at_call 48; (with_reducible refine (sP_Same.calls k2 qX qY _ _ qR _ _ qS qZ qa _ _ qT _ _ qU true _ ?side1 ?side2 ?side3 ?side4 ?side5 ?side6 ?side7 ?side8 A28.out).mono ?_); (case side1 => refine lY ?_; exact (Kd.z8_ qm.out HB.out)); (case side2 => exact qn.out); (case side3 => refine lY ?_; exact (Kd.z8_ qo.out HB.out)); (case side4 => exact qp.out); (case side5 => refine lY ?_; exact (Kd.z8_ qq.out HB.out)); (case side6 => exact qr.out); (case side7 => refine lY ?_; exact (Kd.z8_ qs.out HB.out)); (case side8 => exact qt.out); rintro e w46 ⟨rfl, hb⟩; replace qA := aM (z5_ (g := qC) (lK qA) hb); replace qB := aM (z5_ (g := qD) (lK qB) hb); replace HB := aM (z6_ (zB HB) hb); (try clear hb); obtain ⟨qAV, qAW, qAX, qAY, qAZ, qAa, qAb, qAc, qAd, qAe, yT, yU, yV, yW, yX⟩ := zc15 qA.out; have qAf := fun i_ : Nat => z1_ qA.out i_; obtain ⟨qAg, qAh, qAi, qAj, qAk, qAl, qAm, qAn, qAo, qAp, yY, yZ, ya, yb, yc⟩ := zc15 qB.out; have qAq := fun i_ : Nat => z1_ qB.out i_) | (go_at_call 48; (with_reducible refine (sP_Same.calls k2 qb qc _ _ qV _ _ qE qd qe _ _ qW _ _ qF false _ ?side1 ?side2 ?side3 ?side4 ?side5 ?side6 ?side7 ?side8 A30.out).mono ?_); (case side1 => refine lY ?_; exact (Kd.z8_ jb.out HB.out)); (case side2 => exact jc.out); (case side3 => refine lY ?_; exact (Kd.z8_ qw.out HB.out)); (case side4 => exact qx.out); (case side5 => refine lY ?_; exact (Kd.z8_ jd.out HB.out)); (case side6 => exact je.out); (case side7 => refine lY ?_; exact (Kd.z8_ qy.out HB.out)); (case side8 => exact qz.out); rintro e w49 ⟨rfl, hb⟩; replace qA := aM (z5_ (g := qC) (lK qA) hb); replace qB := aM (z5_ (g := qD) (lK qB) hb); replace HB := aM (z6_ (zB HB) hb); (try clear hb))))
         go_ret
         exact ⟨zE, zB HB⟩
       ·replace c29 := Bool.eq_false_iff.mpr c29
        subst c29
        have H1 : (some false) = some r := by rw [if_neg (show ¬ (false = true) by decide)] at H; exact H
        clear H
        have H := H1
        clear H1
        obtain rfl := Option.some.inj H
        have qCA := qj.out
        have qCB := qk.out
        have qBq := zc15 qA.out
        have qBr := fun i_ : Nat => z1_ qA.out i_
        have qBs := zc15 qB.out
        have qBt := fun i_ : Nat => z1_ qB.out i_
        go_wp2_with (first | (go_at_call 48; (with_reducible refine (sP_Same.calls k2 qX qY _ _ qR _ _ qS qZ qa _ _ qT _ _ qU false _ ?side1 ?side2 ?side3 ?side4 ?side5 ?side6 ?side7 ?side8 A28.out).mono ?_); (case side1 => refine lY ?_; exact (Kd.z8_ qm.out HB.out)); (case side2 => exact qn.out); (case side3 => refine lY ?_; exact (Kd.z8_ qo.out HB.out)); (case side4 => exact qp.out); (case side5 => refine lY ?_; exact (Kd.z8_ qq.out HB.out)); (case side6 => exact qr.out); (case side7 => refine lY ?_; exact (Kd.z8_ qs.out HB.out)); (case side8 => exact qt.out); rintro e w53 ⟨rfl, hb⟩; replace qA := aM (z5_ (g := qC) (lK qA) hb); replace qB := aM (z5_ (g := qD) (lK qB) hb); replace HB := aM (z6_ (zB HB) hb); (try clear hb)))
        repeat (go_quiet (first | (go_at_call 48; (with_reducible refine (sP_Same.calls k2 qX qY _ _ qR _ _ qS qZ qa _ _ qT _ _ qU false _ ?side1 ?side2 ?side3 ?side4 ?side5 ?side6 ?side7 ?side8 A28.out).mono ?_); (case side1 => refine lY ?_; exact (Kd.z8_ qm.out HB.out)); (case side2 => exact qn.out); (case side3 => refine lY ?_; exact (Kd.z8_ qo.out HB.out)); (case side4 => exact qp.out); (case side5 => refine lY ?_; exact (Kd.z8_ qq.out HB.out)); (case side6 => exact qr.out); (case side7 => refine lY ?_; exact (Kd.z8_ qs.out HB.out)); (case side8 => exact qt.out); rintro e w53 ⟨rfl, hb⟩; replace qA := aM (z5_ (g := qC) (lK qA) hb); replace qB := aM (z5_ (g := qD) (lK qB) hb); replace HB := aM (z6_ (zB HB) hb); (try clear hb))); try go_wp2_with (first | (go_at_call 48; (with_reducible refine (sP_Same.calls k2 qX qY _ _ qR _ _ qS qZ qa _ _ qT _ _ qU false _ ?side1 ?side2 ?side3 ?side4 ?side5 ?side6 ?side7 ?side8 A28.out).mono ?_); (case side1 => refine lY ?_; exact (Kd.z8_ qm.out HB.out)); (case side2 => exact qn.out); (case side3 => refine lY ?_; exact (Kd.z8_ qo.out HB.out)); (case side4 => exact qp.out); (case side5 => refine lY ?_; exact (Kd.z8_ qq.out HB.out)); (case side6 => exact qr.out); (case side7 => refine lY ?_; exact (Kd.z8_ qs.out HB.out)); (case side8 => exact qt.out); rintro e w53 ⟨rfl, hb⟩; replace qA := aM (z5_ (g := qC) (lK qA) hb); replace qB := aM (z5_ (g := qD) (lK qB) hb); replace HB := aM (z6_ (zB HB) hb); (try clear hb))))
        go_ret
        exact ⟨zE, zB HB⟩
end Go.Proofs.Ytccbdcbeinkjgaa.XA
end
