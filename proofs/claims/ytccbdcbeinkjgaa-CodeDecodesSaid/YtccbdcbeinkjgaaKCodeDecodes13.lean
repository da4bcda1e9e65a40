/- Part 13 of the proof of the law CodeDecodes for every input: words, walks and plain laws. No condition. -/
import Derived.Lib.SlBytesConst
import Derived.Test.YtccbdcbeinkjgaaKCodeDecodes12
set_option linter.unusedVariables false
set_option linter.unusedSimpArgs false
set_option maxHeartbeats 8000000
set_option maxRecDepth 100000
section
namespace Go.Proofs.Ytccbdcbeinkjgaa.XA
open Go.Proofs.Ytccbdcbeinkjgaa.Lift Go.RowKit Go.Proofs.YtccbdcbeinkjgaaW.PrintWords Go.Proofs.YtccbdcbeinkjgaaW.PrintLast Go.Proofs.YtccbdcbeinkjgaaW.PrintMore
attribute [local go_sem] max2_int min2_int max_two min_two max_three min_three max_four min_four
--IMPORT Derived.Lib.SlBytesConst
mutual
def code_Encode.l0 : Nat → List Int → List (S48) → Int → Int → Int → Int → List (S48) → Int → Int → List (S63) → List Int → Int → Int → List (S63) → List Int → Int → Int → List (S63) → List Int → Option (List Int × Int)
 | 0, _, _, _, _, _, _, _, _, _, _, _, _, _, _, _, _, _, _, _ => none
 | k + 1, x5, x34, x35, x36, qg, qh, qi, qa, qb, qU, qV, qc, qd, qW, qX, qe, qf, qY, qZ => if x36 < x35 then (if 0 ≤ x36 then (if x36 < (x34.length : Int) then ((some (([((rd_T48 x34 x36).f0) % 256, ((rd_T48 x34 x36).f1) % 256] : List Int) : List Int)).bind fun y165 => (if x5.length + y165.length < 140737488355328 then (code_Encode.l0 k (x5 ++ y165) x34 x35 (wrap64 (x36 + 1)) qg qh qi qa qb qU qV qc qd qW qX qe qf qY qZ) else (none))) else (none)) else (none)) else ((code_programs.f 158).bind fun yV => (code_Encode.l1 k x5 0 qg qh qi qa qb qU qV qc qd qW qX qe qf qY qZ))
def code_Encode.l1 : Nat → List Int → Int → Int → Int → List (S48) → Int → Int → List (S63) → List Int → Int → Int → List (S63) → List Int → Int → Int → List (S63) → List Int → Option (List Int × Int)
 | 0, _, _, _, _, _, _, _, _, _, _, _, _, _, _, _, _, _ => none
 | k + 1, x5, x51, qg, qh, qi, qa, qb, qU, qV, qc, qd, qW, qX, qe, qf, qY, qZ => if x51 < 3 then (if x51 = 0 then ((some (([(qa) % 256, (qb) % 256] : List Int) : List Int)).bind fun y176 => (if x5.length + y176.length < 140737488355328 then ((code_pair.f (x5 ++ y176) (qU.length : Int)).bind fun jF => (code_Encode.l2 k jF 0 qU (qU.length : Int) 0 qg qh qi qa qb qU qV qc qd qW qX qe qf qY qZ)) else (none))) else (if x51 = 1 then ((some (([(qc) % 256, (qd) % 256] : List Int) : List Int)).bind fun y203 => (if x5.length + y203.length < 140737488355328 then ((code_pair.f (x5 ++ y203) (qW.length : Int)).bind fun jG => (code_Encode.l4 k jG 1 qW (qW.length : Int) 0 qg qh qi qa qb qU qV qc qd qW qX qe qf qY qZ)) else (none))) else (if x51 = 2 then ((some (([(qe) % 256, (qf) % 256] : List Int) : List Int)).bind fun y230 => (if x5.length + y230.length < 140737488355328 then ((code_pair.f (x5 ++ y230) (qY.length : Int)).bind fun jH => (code_Encode.l6 k jH 2 qY (qY.length : Int) 0 qg qh qi qa qb qU qV qc qd qW qX qe qf qY qZ)) else (none))) else (none)))) else ((code_check.f k x5).bind fun jV => ((code_pair.f x5 jV).bind fun jW => (some (jW, 0))))
def code_Encode.l2 : Nat → List Int → Int → List (S63) → Int → Int → Int → Int → List (S48) → Int → Int → List (S63) → List Int → Int → Int → List (S63) → List Int → Int → Int → List (S63) → List Int → Option (List Int × Int)
 | 0, _, _, _, _, _, _, _, _, _, _, _, _, _, _, _, _, _, _, _, _ => none
 | k + 1, x5, x51, x77, x78, x79, qg, qh, qi, qa, qb, qU, qV, qc, qd, qW, qX, qe, qf, qY, qZ => if x79 < x78 then (if 0 ≤ x79 then (if x79 < (x77.length : Int) then ((some (([((rd_T63 x77 x79).f0) % 256, ((rd_T63 x77 x79).f1) % 256, ((rd_T63 x77 x79).f2) % 256, ((rd_T63 x77 x79).f3) % 256] : List Int) : List Int)).bind fun y187 => (if x5.length + y187.length < 140737488355328 then ((code_pair.f (x5 ++ y187) ((rd_T63 x77 x79).f4)).bind fun jI => (code_Encode.l2 k jI x51 x77 x78 (wrap64 (x79 + 1)) qg qh qi qa qb qU qV qc qd qW qX qe qf qY qZ)) else (none))) else (none)) else (none)) else (if x5.length < 140737488355328 then (code_Encode.l3 k (x5 ++ [((qV.length : Int)) % 256]) x51 qV (qV.length : Int) 0 qg qh qi qa qb qU qV qc qd qW qX qe qf qY qZ) else (none))
def code_Encode.l3 : Nat → List Int → Int → List Int → Int → Int → Int → Int → List (S48) → Int → Int → List (S63) → List Int → Int → Int → List (S63) → List Int → Int → Int → List (S63) → List Int → Option (List Int × Int)
 | 0, _, _, _, _, _, _, _, _, _, _, _, _, _, _, _, _, _, _, _, _ => none
 | k + 1, x5, x51, jD, jM, qy, qg, qh, qi, qa, qb, qU, qV, qc, qd, qW, qX, qe, qf, qY, qZ => if qy < jM then (if 0 ≤ qy then (if qy < (jD.length : Int) then (if x5.length < 140737488355328 then (code_Encode.l3 k (x5 ++ [(rd jD qy) % 256]) x51 jD jM (wrap64 (qy + 1)) qg qh qi qa qb qU qV qc qd qW qX qe qf qY qZ) else (none)) else (none)) else (none)) else (code_Encode.l1 k x5 (wrap64 (x51 + 1)) qg qh qi qa qb qU qV qc qd qW qX qe qf qY qZ)
def code_Encode.l4 : Nat → List Int → Int → List (S63) → Int → Int → Int → Int → List (S48) → Int → Int → List (S63) → List Int → Int → Int → List (S63) → List Int → Int → Int → List (S63) → List Int → Option (List Int × Int)
 | 0, _, _, _, _, _, _, _, _, _, _, _, _, _, _, _, _, _, _, _, _ => none
 | k + 1, x5, x51, x77, x78, x79, qg, qh, qi, qa, qb, qU, qV, qc, qd, qW, qX, qe, qf, qY, qZ => if x79 < x78 then (if 0 ≤ x79 then (if x79 < (x77.length : Int) then ((some (([((rd_T63 x77 x79).f0) % 256, ((rd_T63 x77 x79).f1) % 256, ((rd_T63 x77 x79).f2) % 256, ((rd_T63 x77 x79).f3) % 256] : List Int) : List Int)).bind fun y214 => (if x5.length + y214.length < 140737488355328 then ((code_pair.f (x5 ++ y214) ((rd_T63 x77 x79).f4)).bind fun jJ => (code_Encode.l4 k jJ x51 x77 x78 (wrap64 (x79 + 1)) qg qh qi qa qb qU qV qc qd qW qX qe qf qY qZ)) else (none))) else (none)) else (none)) else (if x5.length < 140737488355328 then (code_Encode.l5 k (x5 ++ [((qX.length : Int)) % 256]) x51 qX (qX.length : Int) 0 qg qh qi qa qb qU qV qc qd qW qX qe qf qY qZ) else (none))
def code_Encode.l5 : Nat → List Int → Int → List Int → Int → Int → Int → Int → List (S48) → Int → Int → List (S63) → List Int → Int → Int → List (S63) → List Int → Int → Int → List (S63) → List Int → Option (List Int × Int)
 | 0, _, _, _, _, _, _, _, _, _, _, _, _, _, _, _, _, _, _, _, _ => none
 | k + 1, x5, x51, jD, jM, qy, qg, qh, qi, qa, qb, qU, qV, qc, qd, qW, qX, qe, qf, qY, qZ => if qy < jM then (if 0 ≤ qy then (if qy < (jD.length : Int) then (if x5.length < 140737488355328 then (code_Encode.l5 k (x5 ++ [(rd jD qy) % 256]) x51 jD jM (wrap64 (qy + 1)) qg qh qi qa qb qU qV qc qd qW qX qe qf qY qZ) else (none)) else (none)) else (none)) else (code_Encode.l1 k x5 (wrap64 (x51 + 1)) qg qh qi qa qb qU qV qc qd qW qX qe qf qY qZ)
def code_Encode.l6 : Nat → List Int → Int → List (S63) → Int → Int → Int → Int → List (S48) → Int → Int → List (S63) → List Int → Int → Int → List (S63) → List Int → Int → Int → List (S63) → List Int → Option (List Int × Int)
 | 0, _, _, _, _, _, _, _, _, _, _, _, _, _, _, _, _, _, _, _, _ => none
 | k + 1, x5, x51, x77, x78, x79, qg, qh, qi, qa, qb, qU, qV, qc, qd, qW, qX, qe, qf, qY, qZ => if x79 < x78 then (if 0 ≤ x79 then (if x79 < (x77.length : Int) then ((some (([((rd_T63 x77 x79).f0) % 256, ((rd_T63 x77 x79).f1) % 256, ((rd_T63 x77 x79).f2) % 256, ((rd_T63 x77 x79).f3) % 256] : List Int) : List Int)).bind fun y241 => (if x5.length + y241.length < 140737488355328 then ((code_pair.f (x5 ++ y241) ((rd_T63 x77 x79).f4)).bind fun jK => (code_Encode.l6 k jK x51 x77 x78 (wrap64 (x79 + 1)) qg qh qi qa qb qU qV qc qd qW qX qe qf qY qZ)) else (none))) else (none)) else (none)) else (if x5.length < 140737488355328 then (code_Encode.l7 k (x5 ++ [((qZ.length : Int)) % 256]) x51 qZ (qZ.length : Int) 0 qg qh qi qa qb qU qV qc qd qW qX qe qf qY qZ) else (none))
def code_Encode.l7 : Nat → List Int → Int → List Int → Int → Int → Int → Int → List (S48) → Int → Int → List (S63) → List Int → Int → Int → List (S63) → List Int → Int → Int → List (S63) → List Int → Option (List Int × Int)
 | 0, _, _, _, _, _, _, _, _, _, _, _, _, _, _, _, _, _, _, _, _ => none
 | k + 1, x5, x51, jD, jM, qy, qg, qh, qi, qa, qb, qU, qV, qc, qd, qW, qX, qe, qf, qY, qZ => if qy < jM then (if 0 ≤ qy then (if qy < (jD.length : Int) then (if x5.length < 140737488355328 then (code_Encode.l7 k (x5 ++ [(rd jD qy) % 256]) x51 jD jM (wrap64 (qy + 1)) qg qh qi qa qb qU qV qc qd qW qX qe qf qY qZ) else (none)) else (none)) else (none)) else (code_Encode.l1 k x5 (wrap64 (x51 + 1)) qg qh qi qa qb qU qV qc qd qW qX qe qf qY qZ)
end
def code_Encode.f (k : Nat) (qN : Int) (qO : Int) (qG : List (S48)) (qQ : Int) (qR : Int) (qE : List (S63)) (qM : List Int) (qS : Int) (qT : Int) (qF : List (S63)) (qI : List Int) (qK : Int) (qL : Int) (qC : List (S63)) (qJ : List Int) : Option (List Int × Int) := (code_May.f k qN qO qG qQ qR qE qM qS qT qF qI qK qL qC qJ).bind fun q5 => (if q5 = 0 then (code_Encode.l0 k (([65, 78, 86, 49, (qN) % 256, (qO) % 256, ((qG.length : Int)) % 256] : List Int)) qG (qG.length : Int) 0 qN qO qG qQ qR qE qM qS qT qF qI qK qL qC qJ) else (some (([] : List Int), q5)))
theorem code_Encode.mono_l : ∀ k, (∀ y0 y1 y2 y3 y4 y5 y6 y7 y8 y9 y10 y11 y12 y13 y14 y15 y16 y17 y18, LeO (code_Encode.l0 k y0 y1 y2 y3 y4 y5 y6 y7 y8 y9 y10 y11 y12 y13 y14 y15 y16 y17 y18) (code_Encode.l0 (k + 1) y0 y1 y2 y3 y4 y5 y6 y7 y8 y9 y10 y11 y12 y13 y14 y15 y16 y17 y18)) ∧ (∀ y0 y1 y2 y3 y4 y5 y6 y7 y8 y9 y10 y11 y12 y13 y14 y15 y16, LeO (code_Encode.l1 k y0 y1 y2 y3 y4 y5 y6 y7 y8 y9 y10 y11 y12 y13 y14 y15 y16) (code_Encode.l1 (k + 1) y0 y1 y2 y3 y4 y5 y6 y7 y8 y9 y10 y11 y12 y13 y14 y15 y16)) ∧ (∀ y0 y1 y2 y3 y4 y5 y6 y7 y8 y9 y10 y11 y12 y13 y14 y15 y16 y17 y18 y19, LeO (code_Encode.l2 k y0 y1 y2 y3 y4 y5 y6 y7 y8 y9 y10 y11 y12 y13 y14 y15 y16 y17 y18 y19) (code_Encode.l2 (k + 1) y0 y1 y2 y3 y4 y5 y6 y7 y8 y9 y10 y11 y12 y13 y14 y15 y16 y17 y18 y19)) ∧ (∀ y0 y1 y2 y3 y4 y5 y6 y7 y8 y9 y10 y11 y12 y13 y14 y15 y16 y17 y18 y19, LeO (code_Encode.l3 k y0 y1 y2 y3 y4 y5 y6 y7 y8 y9 y10 y11 y12 y13 y14 y15 y16 y17 y18 y19) (code_Encode.l3 (k + 1) y0 y1 y2 y3 y4 y5 y6 y7 y8 y9 y10 y11 y12 y13 y14 y15 y16 y17 y18 y19)) ∧ (∀ y0 y1 y2 y3 y4 y5 y6 y7 y8 y9 y10 y11 y12 y13 y14 y15 y16 y17 y18 y19, LeO (code_Encode.l4 k y0 y1 y2 y3 y4 y5 y6 y7 y8 y9 y10 y11 y12 y13 y14 y15 y16 y17 y18 y19) (code_Encode.l4 (k + 1) y0 y1 y2 y3 y4 y5 y6 y7 y8 y9 y10 y11 y12 y13 y14 y15 y16 y17 y18 y19)) ∧ (∀ y0 y1 y2 y3 y4 y5 y6 y7 y8 y9 y10 y11 y12 y13 y14 y15 y16 y17 y18 y19, LeO (code_Encode.l5 k y0 y1 y2 y3 y4 y5 y6 y7 y8 y9 y10 y11 y12 y13 y14 y15 y16 y17 y18 y19) (code_Encode.l5 (k + 1) y0 y1 y2 y3 y4 y5 y6 y7 y8 y9 y10 y11 y12 y13 y14 y15 y16 y17 y18 y19)) ∧ (∀ y0 y1 y2 y3 y4 y5 y6 y7 y8 y9 y10 y11 y12 y13 y14 y15 y16 y17 y18 y19, LeO (code_Encode.l6 k y0 y1 y2 y3 y4 y5 y6 y7 y8 y9 y10 y11 y12 y13 y14 y15 y16 y17 y18 y19) (code_Encode.l6 (k + 1) y0 y1 y2 y3 y4 y5 y6 y7 y8 y9 y10 y11 y12 y13 y14 y15 y16 y17 y18 y19)) ∧ (∀ y0 y1 y2 y3 y4 y5 y6 y7 y8 y9 y10 y11 y12 y13 y14 y15 y16 y17 y18 y19, LeO (code_Encode.l7 k y0 y1 y2 y3 y4 y5 y6 y7 y8 y9 y10 y11 y12 y13 y14 y15 y16 y17 y18 y19) (code_Encode.l7 (k + 1) y0 y1 y2 y3 y4 y5 y6 y7 y8 y9 y10 y11 y12 y13 y14 y15 y16 y17 y18 y19))
 | 0 => ⟨fun _ _ _ _ _ _ _ _ _ _ _ _ _ _ _ _ _ _ _ r h => by simp [code_Encode.l0] at h, fun _ _ _ _ _ _ _ _ _ _ _ _ _ _ _ _ _ r h => by simp [code_Encode.l1] at h, fun _ _ _ _ _ _ _ _ _ _ _ _ _ _ _ _ _ _ _ _ r h => by simp [code_Encode.l2] at h, fun _ _ _ _ _ _ _ _ _ _ _ _ _ _ _ _ _ _ _ _ r h => by simp [code_Encode.l3] at h, fun _ _ _ _ _ _ _ _ _ _ _ _ _ _ _ _ _ _ _ _ r h => by simp [code_Encode.l4] at h, fun _ _ _ _ _ _ _ _ _ _ _ _ _ _ _ _ _ _ _ _ r h => by simp [code_Encode.l5] at h, fun _ _ _ _ _ _ _ _ _ _ _ _ _ _ _ _ _ _ _ _ r h => by simp [code_Encode.l6] at h, fun _ _ _ _ _ _ _ _ _ _ _ _ _ _ _ _ _ _ _ _ r h => by simp [code_Encode.l7] at h⟩
 | k + 1 => by
  obtain ⟨ih0, ih1, ih2, ih3, ih4, ih5, ih6, ih7⟩ := code_Encode.mono_l k
  refine ⟨?_, ?_, ?_, ?_, ?_, ?_, ?_, ?_⟩
  ·intro y0 y1 y2 y3 y4 y5 y6 y7 y8 y9 y10 y11 y12 y13 y14 y15 y16 y17 y18
   unfold code_Encode.l0
   have im0 := @code_May.mono; have im1 := @code_check.mono; exact zM
  ·intro y0 y1 y2 y3 y4 y5 y6 y7 y8 y9 y10 y11 y12 y13 y14 y15 y16
   unfold code_Encode.l1
   have im0 := @code_May.mono; have im1 := @code_check.mono; exact zM
  ·intro y0 y1 y2 y3 y4 y5 y6 y7 y8 y9 y10 y11 y12 y13 y14 y15 y16 y17 y18 y19
   unfold code_Encode.l2
   have im0 := @code_May.mono; have im1 := @code_check.mono; exact zM
  ·intro y0 y1 y2 y3 y4 y5 y6 y7 y8 y9 y10 y11 y12 y13 y14 y15 y16 y17 y18 y19
   unfold code_Encode.l3
   have im0 := @code_May.mono; have im1 := @code_check.mono; exact zM
  ·intro y0 y1 y2 y3 y4 y5 y6 y7 y8 y9 y10 y11 y12 y13 y14 y15 y16 y17 y18 y19
   unfold code_Encode.l4
   have im0 := @code_May.mono; have im1 := @code_check.mono; exact zM
  ·intro y0 y1 y2 y3 y4 y5 y6 y7 y8 y9 y10 y11 y12 y13 y14 y15 y16 y17 y18 y19
   unfold code_Encode.l5
   have im0 := @code_May.mono; have im1 := @code_check.mono; exact zM
  ·intro y0 y1 y2 y3 y4 y5 y6 y7 y8 y9 y10 y11 y12 y13 y14 y15 y16 y17 y18 y19
   unfold code_Encode.l6
   have im0 := @code_May.mono; have im1 := @code_check.mono; exact zM
  ·intro y0 y1 y2 y3 y4 y5 y6 y7 y8 y9 y10 y11 y12 y13 y14 y15 y16 y17 y18 y19
   unfold code_Encode.l7
   have im0 := @code_May.mono; have im1 := @code_check.mono; exact zM
theorem code_Encode.mono : ∀ a0 a1 a2 a3 a4 a5 a6 a7 a8 a9 a10 a11 a12 a13 a14 k, LeO (code_Encode.f k a0 a1 a2 a3 a4 a5 a6 a7 a8 a9 a10 a11 a12 a13 a14) (code_Encode.f (k + 1) a0 a1 a2 a3 a4 a5 a6 a7 a8 a9 a10 a11 a12 a13 a14) := by
 intro a0 a1 a2 a3 a4 a5 a6 a7 a8 a9 a10 a11 a12 a13 a14 k
 obtain ⟨ih0, ih1, ih2, ih3, ih4, ih5, ih6, ih7⟩ := code_Encode.mono_l k
 unfold code_Encode.f
 have im0 := @code_May.mono; have im1 := @code_check.mono; exact zM
def code_Encode.T13 : Bool × List (List Nat × List Nat) := (true, [([], []), ([], []), ([1], [1]), ([2], [2]), ([3], [3]), ([4], [4]), ([], []), ([6], [6]), ([7], [7]), ([8], [8]), ([9], [9]), ([5, 10], [5, 10]), ([0, 11], [0, 11]), ([12, 12, 0, 1, 2, 3, 4, 5, 6, 7, 8, 9, 10, 11, 12], [0, 12])])
def code_Encode.B13 : List Nat := [0, 0, 2, 6, 14, 30, 0, 64, 192, 448, 960, 2046, 4095, 8191]
theorem code_Encode.tab13 : rtab .any (opsOf Try.f12 13) = code_Encode.T13 := by kernel_rfl
theorem code_Encode.bits13 : waitsOk code_Encode.T13.2 code_Encode.B13 = true := by kernel_rfl
theorem code_Encode.calls (k : Nat) (qN : Int) (qO : Int) (qt : Option Addr) (qu : Nat) (qG : List (S48)) (qQ : Int) (qR : Int) (qz : Option Addr) (q0 : Nat) (qE : List (S63)) (q1 : Option Addr) (q2 : Nat) (qM : List Int) (qS : Int) (qT : Int) (q3 : Option Addr) (q4 : Nat) (qF : List (S63)) (qn : Option Addr) (qo : Nat) (qI : List Int) (qK : Int) (qL : Int) (qp : Option Addr) (qq : Nat) (qC : List (S63)) (qr : Option Addr) (qs : Nat) (qJ : List Int) (r1 : List Int) (r2 : Int) (w : World) (yC : Kd.C k48 w qt qG.length qG) (yD : qG.length ≤ qu) (yE : Kd.C k63 w qz qE.length qE) (yF : qE.length ≤ q0) (yG : Kd.C (Kd.int .i64) w q1 qM.length qM) (yH : qM.length ≤ q2) (yI : Kd.C k63 w q3 qF.length qF) (yJ : qF.length ≤ q4) (jn : Kd.C (Kd.int .i64) w qn qI.length qI) (jo : qI.length ≤ qo) (jp : Kd.C k63 w qp qC.length qC) (jq : qC.length ≤ qq) (jr : Kd.C (Kd.int .i64) w qr qJ.length qJ) (js : qJ.length ≤ qs) (h : code_Encode.f k qN qO qG qQ qR qE qM qS qT qF qI qK qL qC qJ = some (r1, r2)) :
  Calls Try.prog 12 #[.agg #[.int .i64 qN, .int .i64 qO, .slice qt qG.length qu, .int .i64 qQ, .int .i64 qR, .slice qz qE.length q0, .slice q1 qM.length q2, .int .i64 qS, .int .i64 qT, .slice q3 qF.length q4, .slice qn qI.length qo, .int .i64 qK, .int .i64 qL, .slice qp qC.length qq, .slice qr qJ.length qs]] w fun e w' => ∃ v0_ : Value, e = .returned (.tuple #[v0_, .int .i64 r2]) ∧ Kd.R (Kd.int .u8) 5 w' w.heap.size (fun _ => True) v0_ r1 ∧ Below w.heap.size w w' := by
 have hu28 := Try.underlying28
 have hu48 := Try.underlying48
 have hu63 := Try.underlying63
 have jf := aM yC
 have yK := aM yD
 clear yC yD
 have jg := aM yE
 have yL := aM yF
 clear yE yF
 have jh := aM yG
 have yM := aM yH
 clear yG yH
 have ji := aM yI
 have yN := aM yJ
 clear yI yJ
 have jc := aM jn
 have jt := aM jo
 clear jn jo
 have jd := aM jp
 have ju := aM jq
 clear jp jq
 have je := aM jr
 have jv := aM js
 clear jr js
 have HB := aM (Below.refl w.heap.size w)
 have H : ((code_May.f k qN qO qG qQ qR qE qM qS qT qF qI qK qL qC qJ).bind fun q5 => (if q5 = 0 then (code_Encode.l0 k (([65, 78, 86, 49, (qN) % 256, (qO) % 256, ((qG.length : Int)) % 256] : List Int)) qG (qG.length : Int) 0 qN qO qG qQ qR qE qM qS qT qF qI qK qL qC qJ) else (some (([] : List Int), q5)))) = some (r1, r2) := h
 clear h
 replace H := zbs H
 obtain ⟨q5, A20, H⟩ := H
 replace H : (if q5 = 0 then (code_Encode.l0 k (([65, 78, 86, 49, (qN) % 256, (qO) % 256, ((qG.length : Int)) % 256] : List Int)) qG (qG.length : Int) 0 qN qO qG qQ qR qE qM qS qT qF qI qK qL qC qJ) else (some (([] : List Int), q5))) = some (r1, r2) := H
 have A2 := aM A20
 clear A20
 by_cases c3 : q5 = 0
 ·rw [if_pos c3] at H
  have c3b0 : (q5 == 0) = true := beq_iff_eq.mpr c3
  have c3b1 : (q5 != 0) = false := bne_eq_false_iff_eq.mpr c3
  clear c3
  obtain ⟨y160, hy160⟩ : ∃ y_ : List Int, y_ = (([65, 78, 86, 49, (qN) % 256, (qO) % 256, ((qG.length : Int)) % 256] : List Int)) := ⟨_, rfl⟩
  replace H : (code_Encode.l0 k y160 qG (qG.length : Int) 0 qN qO qG qQ qR qE qM qS qT qF qI qK qL qC qJ) = some (r1, r2) := zH hy160 H
  have Ny160 := aM hy160
  clear hy160
  have H' := aM H
  clear H
  have yS : ∀ (g_ : Nat) (W : World), Sem.run Try.prog (Instr.index 58 (.agg #[.pointer (some ⟨g_, 3, none⟩), .pointer (some ⟨g_, 7, none⟩), .pointer (some ⟨g_, 11, none⟩)]) (.int .i64 0)) W = .ok (.pointer (some ⟨g_, 3, none⟩)) W := fun _ _ => by kernel_rfl
  have yT : ∀ (g_ : Nat) (W : World), Sem.run Try.prog (Instr.index 58 (.agg #[.pointer (some ⟨g_, 3, none⟩), .pointer (some ⟨g_, 7, none⟩), .pointer (some ⟨g_, 11, none⟩)]) (.int .i64 1)) W = .ok (.pointer (some ⟨g_, 7, none⟩)) W := fun _ _ => by kernel_rfl
  have yU : ∀ (g_ : Nat) (W : World), Sem.run Try.prog (Instr.index 58 (.agg #[.pointer (some ⟨g_, 3, none⟩), .pointer (some ⟨g_, 7, none⟩), .pointer (some ⟨g_, 11, none⟩)]) (.int .i64 2)) W = .ok (.pointer (some ⟨g_, 11, none⟩)) W := fun _ _ => by kernel_rfl
  have kcB := fun (w : World) (C : Array Value) (n c : Nat) => Lib.run_convert_bytes_const (P := Try.prog) w 31 5 C n c Try.underlying31 Try.underlying5
  go_enter Try.func12, Try.ntmps12
  go_wp2_with (first | ((with_reducible refine gate_dst (N := 1) rfl ?_); refine z16_ rfl (N := 1) rfl (cs := #[.int .i64 qN, .int .i64 qO, .slice qt qG.length qu, .int .i64 qQ, .int .i64 qR, .slice qz qE.length q0, .slice q1 qM.length q2, .int .i64 qS, .int .i64 qT, .slice q3 qF.length q4, .slice qn qI.length qo, .int .i64 qK, .int .i64 qL, .slice qp qC.length qq, .slice qr qJ.length qs]) (t := 28) zG ?_; intro qD hg w4 hbox hb; have qA := aM (hbox); have ye := aM ((by rw [hg]; exact (z4_ (lB HB)) : w.heap.size ≤ qD)); have yf := aM ((by rw [hg]; exact (z4_ (lB HB)) : w.heap.size ≤ qD)); replace HB := aM (z6_ (lB HB) hb); clear hb hbox hg; have qAn := zc15 qA.out; have qAo := fun i_ : Nat => z1_ qA.out i_) | ((with_reducible refine gate_callee (f := 20) rfl ?_); refine z13_ (some 15) rfl rfl Try.func20 zk rfl #[.agg #[.int .i64 qN, .int .i64 qO, .slice qt qG.length qu, .int .i64 qQ, .int .i64 qR, .slice qz qE.length q0, .slice q1 qM.length q2, .int .i64 qS, .int .i64 qT, .slice q3 qF.length q4, .slice qn qI.length qo, .int .i64 qK, .int .i64 qL, .slice qp qC.length qq, .slice qr qJ.length qs]] rfl zA ?_; (with_reducible refine (code_May.calls k qN qO _ _ qG qQ qR _ _ qE _ _ qM qS qT _ _ qF _ _ qI qK qL _ _ qC _ _ qJ q5 _ ?side1 ?side2 ?side3 ?side4 ?side5 ?side6 ?side7 ?side8 ?side9 ?side10 ?side11 ?side12 ?side13 ?side14 A2.out).mono ?_); (case side1 => refine lY ?_; exact (Kd.z8_ jf.out HB.out)); (case side2 => exact yK.out); (case side3 => refine lY ?_; exact (Kd.z8_ jg.out HB.out)); (case side4 => exact yL.out); (case side5 => refine lY ?_; exact (Kd.z8_ jh.out HB.out)); (case side6 => exact yM.out); (case side7 => refine lY ?_; exact (Kd.z8_ ji.out HB.out)); (case side8 => exact yN.out); (case side9 => refine lY ?_; exact (Kd.z8_ jc.out HB.out)); (case side10 => exact jt.out); (case side11 => refine lY ?_; exact (Kd.z8_ jd.out HB.out)); (case side12 => exact ju.out); (case side13 => refine lY ?_; exact (Kd.z8_ je.out HB.out)); (case side14 => exact jv.out); rintro e w6 ⟨rfl, hb⟩; refine ⟨_, rfl, ?_⟩; replace qA := aM (z5_ (g := qD) (lK qA) hb); replace HB := aM (z6_ (zB HB) hb); (try clear hb); have qAp := zc15 qA.out; have qAq := fun i_ : Nat => z1_ qA.out i_) | ((with_reducible refine gate_dst (N := 20) rfl ?_); have hm0_ := (show World.cell? (World.alloc w6 (.cells #[.int .u8 65, .int .u8 78, .int .u8 86, .int .u8 49] 5 (4, 5))) ⟨qD, 0, none⟩ = some (.int .i64 qN) from (z2_ (z11_ qA.out (.cells #[.int .u8 65, .int .u8 78, .int .u8 86, .int .u8 49] 5 (4, 5))) 0).trans rfl); have hm1_ := (show World.cell? (World.alloc w6 (.cells #[.int .u8 65, .int .u8 78, .int .u8 86, .int .u8 49] 5 (4, 5))) ⟨qD, 1, none⟩ = some (.int .i64 qO) from (z2_ (z11_ qA.out (.cells #[.int .u8 65, .int .u8 78, .int .u8 86, .int .u8 49] 5 (4, 5))) 1).trans rfl); have hm2_ := (show World.cell? (World.alloc w6 (.cells #[.int .u8 65, .int .u8 78, .int .u8 86, .int .u8 49] 5 (4, 5))) ⟨qD, 2, none⟩ = some (.slice qt qG.length qu) from (z2_ (z11_ qA.out (.cells #[.int .u8 65, .int .u8 78, .int .u8 86, .int .u8 49] 5 (4, 5))) 2).trans rfl); refine Kd.event_run (v := .slice (some ⟨w6.heap.size, 0, none⟩) 4 4) (w1 := World.alloc w6 (.cells #[.int .u8 65, .int .u8 78, .int .u8 86, .int .u8 49] 5 (4, 5))) rfl ?hr ?_; (case hr => first | (go_simp; done) | (go_simp; rfl))) | ((with_reducible refine gate_dst (N := 32) rfl ?_); refine code_marked.app (x := (qN) % 256) (y := (qO) % 256) (z := ((qG.length : Int)) % 256) rfl (.tmp 20) (.tmp 31) rfl Try.underlying31 info5 ?hs ?hx ?_; (case hs => first | (go_simp; done) | (go_simp; rfl)); (case hx => first | (go_simp; done) | (go_simp; rfl)); intro v161 w8 ho9 hb hg_ hnew_; clear hg_ hnew_; (first | rw [← Ny160.out] at ho9 | (simp only [Int.reduceToNat] at ho9; rw [← Ny160.out] at ho9)); have yg := aM (Kd.z20_ ho9 (z4_ (zB HB))); replace qA := aM (z5_ (g := qD) (lK qA) hb); replace HB := aM (z6_ (zB HB) hb); clear hb ho9; have qAL := zc15 qA.out; have qAM := fun i_ : Nat => z1_ qA.out i_))
  go_loopg [5, 36] k (fun kq v5 v36 w' => ∃ (jE : List Int) (qk : Int), v36 = .int .i64 qk ∧ Aside0 (code_Encode.l0 kq jE qG (qG.length : Int) qk qN qO qG qQ qR qE qM qS qT qF qI qK qL qC qJ = some (r1, r2)) ∧ Aside0 (kq ≤ k) ∧ Aside0 (Kd.R (Kd.int .u8) 5 w' w.heap.size (fun _ => True) v5 jE) ∧ Aside0 (w'.heap[qD]? = some (.cells #[.int .i64 qN, .int .i64 qO, (.slice qt qG.length qu), .int .i64 qQ, .int .i64 qR, (.slice qz qE.length q0), (.slice q1 qM.length q2), .int .i64 qS, .int .i64 qT, (.slice q3 qF.length q4), (.slice qn qI.length qo), .int .i64 qK, .int .i64 qL, (.slice qp qC.length qq), (.slice qr qJ.length qs)] 28 (0, 0))) ∧ Aside0 (Below w.heap.size w w'))
  case atStart => exact ⟨(y160), (0), (by first | rfl | (simp; done) | (simp [*]; done) | (simp [wrap64]; done)), H', ⟨Nat.le_refl _⟩, ⟨lR yg⟩, ⟨zb qA⟩, ⟨zB HB⟩⟩
  case round =>
   clear H'
   try clear c3
   obtain ⟨jE, qk, rfl, HA, HK1, qH, qA, HB⟩ := hrel
   cases gk with
   | zero => exact absurd HA.out (by simp [code_Encode.l0])
   | succ k1 =>
    have H := HA.out
    clear HA
    simp only [code_Encode.l0] at H
    by_cases c11 : qk < (qG.length : Int)
    ·rw [if_pos c11] at H
     have c11b0 := decide_eq_true c11
     clear c11
     by_cases c12 : 0 ≤ qk
     ·rw [if_pos c12] at H
      have c12b0 := decide_eq_true c12
      clear c12
      by_cases c13 : qk < (qG.length : Int)
      ·rw [if_pos c13] at H
       have c13b0 := decide_eq_true c13
       clear c13
       obtain ⟨y165, hy165⟩ : ∃ y_ : List Int, y_ = (([((rd_T48 qG qk).f0) % 256, ((rd_T48 qG qk).f1) % 256] : List Int)) := ⟨_, rfl⟩
       replace H : (if jE.length + y165.length < 140737488355328 then (code_Encode.l0 k1 (jE ++ y165) qG (qG.length : Int) (wrap64 (qk + 1)) qN qO qG qQ qR qE qM qS qT qF qI qK qL qC qJ) else (none)) = some (r1, r2) := zH hy165 H
       have Ny165 := aM hy165
       clear hy165
       by_cases c14 : jE.length + y165.length < 140737488355328
       ·rw [if_pos c14] at H
        have LMc14 := aM c14
        clear c14
        obtain ⟨y168, hy168⟩ : ∃ y_ : List Int, y_ = (jE ++ y165) := ⟨_, rfl⟩
        replace H : (code_Encode.l0 k1 y168 qG (qG.length : Int) (wrap64 (qk + 1)) qN qO qG qQ qR qE qM qS qT qF qI qK qL qC qJ) = some (r1, r2) := zH hy168 H
        have Ny168 := aM hy168
        clear hy168
        have H' := aM H
        clear H
        have p163 : 0 ≤ (qk : Int) := of_decide_eq_true za
        have q163 : qk < (qG.length : Int) := of_decide_eq_true za
        obtain ⟨ad163, e163, hx163_0, hx163_1⟩ := at_T48 jf.out qk p163 q163
        cases e163
        replace hx163_0 := (HB.out.cell (World.block_lt_of_cell? w _ hx163_0)).trans hx163_0
        replace hx163_1 := (HB.out.cell (World.block_lt_of_cell? w _ hx163_1)).trans hx163_1
        replace p163 := eq_true p163
        replace q163 := eq_true q163
        go_wp2_with (first | ((with_reducible refine gate_dst (N := 7) rfl ?_); refine z16_ rfl (N := 7) rfl (cs := #[.int .i64 0, .int .i64 0]) (t := 48) zG ?_; intro jN hg w15 hbox hb; replace qH := aM (Kd.z7_ (lR qH) hb); have q6 := aM (hbox); have qAt := aM ((by rw [hg]; exact (z4_ (zB HB)) : w.heap.size ≤ jN)); have qAu := aM ((by rw [hg]; exact (z4_ (zB HB)) : w.heap.size ≤ jN)); replace HB := aM (z6_ (zB HB) hb); have jw := aM ((by rw [hg]; exact Nat.ne_of_lt (z19_ (g := qD) (lK qA)) : qD ≠ jN)); have jx := aM ((by rw [hg]; exact Nat.ne_of_gt (z19_ (g := qD) (lK qA)) : jN ≠ qD)); replace qA := aM (z5_ (g := qD) (lK qA) hb); clear hb hbox hg; have qAv := jx.out; have qAw := jw.out; have qAN := zc2 q6.out; have qAO := fun i_ : Nat => z1_ q6.out i_) | ((with_reducible refine gate_dst (N := 47) rfl ?_); refine Kd.R_lit (Kd.int .u8) _ 5 ?hg (N := 47) ?hd (xs := ([((rd_T48 qG qk).f0) % 256, ((rd_T48 qG qk).f1) % 256] : List Int)) (inner := [.int .u8 (((rd_T48 qG qk).f0) % 256), .int .u8 (((rd_T48 qG qk).f1) % 256)]) (ok := fun _ => True) (okp := fun _ => True) ?hr ?hp (fun _ hk => hk) trivial (Below.refl _ _) (Nat.le_refl _) (by simp) ?_; (case hd => rfl); (case hg => rfl); (case hr => first | (go_simp; done) | (go_simp; rfl)); (case hp => exact (Reps.one (show Kd.M (Kd.int .u8) _ _ _ (((rd_T48 qG qk).f0) % 256) [.int .u8 (((rd_T48 qG qk).f0) % 256)] from rfl) (Reps.one (show Kd.M (Kd.int .u8) _ _ _ (((rd_T48 qG qk).f1) % 256) [.int .u8 (((rd_T48 qG qk).f1) % 256)] from rfl) (Reps.none _ _)))); intro v166 w18 ho19 hb hg_ hnew_; clear hg_ hnew_; (first | rw [← Ny165.out] at ho19 | (simp only [Int.reduceToNat] at ho19; rw [← Ny165.out] at ho19)); have jR := aM (Kd.z20_ (Kd.z21_ ho19 (Kd.R_lt (by apply rX; exact (Kd.z0_ (fA (fA (Kd.z3_ qH.out q6.out (by decide)))) (fun _ h_ => h_.1))))) (z4_ (zB HB))); replace qH := aM (Kd.z17_ (by apply rX; exact (Kd.z0_ (fA (fA (Kd.z3_ qH.out q6.out (by decide)))) (fun _ h_ => h_.1))) (Kd.R_base ho19) hb); replace qA := aM (z5_ (g := qD) (zb qA) hb); replace q6 := aM (z5_ (g := jN) (o := .cells #[.int .i64 ((rd_T48 qG qk).f0), .int .i64 ((rd_T48 qG qk).f1)] 48 (0, 0)) (by refine lZ ?_; refine blk_put (cs := #[.int .i64 ((rd_T48 qG qk).f0), .int .i64 0]) ?_ 1 _ rfl; refine lZ ?_; refine blk_put (cs := #[.int .i64 0, .int .i64 0]) ?_ 0 _ rfl; refine lZ ?_; exact q6.out) hb); replace HB := aM (z6_ (zB HB) hb); clear hb ho19; obtain ⟨yv, yw, eo21⟩ := Kd.R_slice jR.out; subst eo21) | ((with_reducible refine gate_builtin (b := .append) (xs := #[.tmp 40, .tmp 47]) rfl ?_); at_builtin; refine Kd.R_append_rows (Kd.int .u8) (w0 := w) w.heap.size rfl (.tmp 40) (.tmp 47) 31 5 (.int .u8 0) 1 rfl Try.underlying31 info5 rfl (by decide) (by omega) u5 jE y165 _ _ _ (fun k_ => some k_ ≠ (.slice yv y165.length yw : Value).ownBlock) (fun _ => False) rfl rfl ?aO ?aR (fun _ _ h => h) (fun _ h => h.elim) ?aF ?aB ?aS ?aL ?_; (case aR => repeat (first | exact (Kd.z9_ jR.out).2.2 | (with_reducible refine Kd.C_alloc ?_ _) | (with_reducible refine Kd.C_drewN ?_ _) | (with_reducible refine Kd.C_drew ?_))); (case aB => exact (zB HB)); (case aF => exact (fun k_ hk => Kd.fresh' (Kd.R_lt (lR jR)) k_ hk)); (case aO => exact (by apply rX; exact Kd.z0_ qH.out (fun _ hk => hk.2))); (case aS => exact (z4_ (zB HB))); (case aL => have := LMc14.out; omega); intro v169 w20 ho hb hg hat; rw [← Ny168.out] at ho; replace qA := aM (blk_grown (g := qD) (lK qA) hg (Kd.R_ne qH.out qA.out (by decide))); replace q6 := aM (blk_grown (g := jN) (lK q6) hg (Kd.R_ne qH.out q6.out (by decide))); replace jR := aM (Kd.R_after (ok := (fun _ => True)) (lR jR) hg hat); replace HB := aM (hb); have yh := aM (ho); clear qH; clear ho hb hg hat))
        go_roundg k1
        case measure => have := HK1.out; omega
        case rel => exact ⟨(y168), (wrap64 (qk + 1)), (by first | rfl | (simp; done) | (simp [*]; done) | (simp [wrap64]; done)), H', ⟨by have := HK1.out; omega⟩, ⟨by apply rX; exact Kd.z0_ yh.out (fun _ hk => trivial)⟩, ⟨zb qA⟩, ⟨zB HB⟩⟩
       ·rw [if_neg c14] at H
        exact absurd H (by simp)
      ·rw [if_neg c13] at H
       exact absurd H (by simp)
     ·rw [if_neg c12] at H
      exact absurd H (by simp)
    ·rw [if_neg c11] at H
     have c11b0 := decide_eq_false c11
     clear c11
     replace H := zbs H
     obtain ⟨yV, A220, H⟩ := H
     replace H : (code_Encode.l1 k1 jE 0 qN qO qG qQ qR qE qM qS qT qF qI qK qL qC qJ) = some (r1, r2) := H
     have A22 := aM A220
     clear A220
     have H' := aM H
     clear H
     go_wp2_with (first | ((with_reducible refine gate_callee (f := 27) rfl ?_); refine z13_ (some 50) rfl rfl Try.func27 zk rfl #[.pointer (some ⟨qD, 0, none⟩)] rfl zA ?_; (with_reducible refine (code_programs.calls 158 yV qD _ A22.out).mono ?_); rintro e w23 ⟨rfl, hb⟩; refine ⟨_, rfl, ?_⟩; replace qH := aM (Kd.z7_ (lR qH) hb); replace qA := aM (z5_ (g := qD) (lK qA) hb); replace HB := aM (z6_ (zB HB) hb); (try clear hb)))
     go_loopg [5, 51] k1 (fun kq v5 v51 w' => ∃ (ql : List Int) (jL : Int), v51 = .int .i64 jL ∧ Aside0 (code_Encode.l1 kq ql jL qN qO qG qQ qR qE qM qS qT qF qI qK qL qC qJ = some (r1, r2)) ∧ Aside0 (kq ≤ k1) ∧ Aside0 (Kd.R (Kd.int .u8) 5 w' w.heap.size (fun _ => True) v5 ql) ∧ Aside0 (w'.heap[qD]? = some (.cells #[.int .i64 qN, .int .i64 qO, (.slice qt qG.length qu), .int .i64 qQ, .int .i64 qR, (.slice qz qE.length q0), (.slice q1 qM.length q2), .int .i64 qS, .int .i64 qT, (.slice q3 qF.length q4), (.slice qn qI.length qo), .int .i64 qK, .int .i64 qL, (.slice qp qC.length qq), (.slice qr qJ.length qs)] 28 (0, 0))) ∧ Aside0 (Below w.heap.size w w'))
     case atStart => exact ⟨(jE), (0), (by first | rfl | (simp; done) | (simp [*]; done) | (simp [wrap64]; done)), H', ⟨Nat.le_refl _⟩, ⟨lR qH⟩, ⟨zb qA⟩, ⟨zB HB⟩⟩
     case round =>
      clear H'
      try clear c3
      try clear c11
      obtain ⟨ql, jL, rfl, HA, HK2, qH, qA, HB⟩ := hrel
      cases gk with
      | zero => exact absurd HA.out (by simp [code_Encode.l1])
      | succ k2 =>
       have H := HA.out
       clear HA
       simp only [code_Encode.l1] at H
       by_cases c24 : jL < 3
       ·rw [if_pos c24] at H
        have c24b0 := decide_eq_true c24
        clear c24
        by_cases c25 : jL = 0
        ·rw [if_pos c25] at H
         (first | rw [c25] | skip)
         obtain ⟨y176, hy176⟩ : ∃ y_ : List Int, y_ = (([(qQ) % 256, (qR) % 256] : List Int)) := ⟨_, rfl⟩
         replace H : (if ql.length + y176.length < 140737488355328 then ((code_pair.f (ql ++ y176) (qE.length : Int)).bind fun jF => (code_Encode.l2 k2 jF 0 qE (qE.length : Int) 0 qN qO qG qQ qR qE qM qS qT qF qI qK qL qC qJ)) else (none)) = some (r1, r2) := zH hy176 H
         have Ny176 := aM hy176
         clear hy176
         by_cases c26 : ql.length + y176.length < 140737488355328
         ·rw [if_pos c26] at H
          have LMc26 := aM c26
          clear c26
          obtain ⟨y179, hy179⟩ : ∃ y_ : List Int, y_ = (ql ++ y176) := ⟨_, rfl⟩
          replace H : ((code_pair.f y179 (qE.length : Int)).bind fun jF => (code_Encode.l2 k2 jF 0 qE (qE.length : Int) 0 qN qO qG qQ qR qE qM qS qT qF qI qK qL qC qJ)) = some (r1, r2) := zH hy179 H
          have Ny179 := aM hy179
          clear hy179
          replace H := zbs H
          obtain ⟨jF, A270, H⟩ := H
          replace H : (code_Encode.l2 k2 jF 0 qE (qE.length : Int) 0 qN qO qG qQ qR qE qM qS qT qF qI qK qL qC qJ) = some (r1, r2) := H
          have A27 := aM A270
          clear A270
          have H' := aM H
          clear H
          try go_wp2
          replace qH := aM (Kd.R_drew qH.out)
          replace qA := aM (blk_drew qA.out)
          replace HB := aM (below_drew1 HB.out)
          refine start_ (n := 14) (S := fun w' => w'.cell? ⟨qD, 0, none⟩ = some (.int .i64 qN) ∧ w'.cell? ⟨qD, 1, none⟩ = some (.int .i64 qO) ∧ w'.cell? ⟨qD, 2, none⟩ = some (.slice qt qG.length qu) ∧ w'.cell? ⟨qD, 3, none⟩ = some (.int .i64 qQ) ∧ w'.cell? ⟨qD, 4, none⟩ = some (.int .i64 qR) ∧ w'.cell? ⟨qD, 5, none⟩ = some (.slice qz qE.length q0) ∧ w'.cell? ⟨qD, 6, none⟩ = some (.slice q1 qM.length q2) ∧ w'.cell? ⟨qD, 7, none⟩ = some (.int .i64 qS) ∧ w'.cell? ⟨qD, 8, none⟩ = some (.int .i64 qT) ∧ w'.cell? ⟨qD, 9, none⟩ = some (.slice q3 qF.length q4) ∧ w'.cell? ⟨qD, 10, none⟩ = some (.slice qn qI.length qo) ∧ w'.cell? ⟨qD, 11, none⟩ = some (.int .i64 qK) ∧ w'.cell? ⟨qD, 12, none⟩ = some (.int .i64 qL) ∧ w'.cell? ⟨qD, 13, none⟩ = some (.slice qp qC.length qq) ∧ w'.cell? ⟨qD, 14, none⟩ = some (.slice qr qJ.length qs)) (ds := []) (bs 14 0) zk rfl rfl ⟨(z2_ qA.out 0).trans rfl, (z2_ qA.out 1).trans rfl, (z2_ qA.out 2).trans rfl, (z2_ qA.out 3).trans rfl, (z2_ qA.out 4).trans rfl, (z2_ qA.out 5).trans rfl, (z2_ qA.out 6).trans rfl, (z2_ qA.out 7).trans rfl, (z2_ qA.out 8).trans rfl, (z2_ qA.out 9).trans rfl, (z2_ qA.out 10).trans rfl, (z2_ qA.out 11).trans rfl, (z2_ qA.out 12).trans rfl, (z2_ qA.out 13).trans rfl, (z2_ qA.out 14).trans rfl⟩ (fun hHeld => ?_); refine with_tabW code_Encode.tab13 code_Encode.bits13 (fun HT_ HW_ => ?_)
          generalize wr.drew = w28 at qH qA HB hHeld ⊢
          refine pQ 0 54 14 1 ?_
          refine pQ 1 55 14 3 ?_
          refine pQ 2 56 14 7 ?_
          refine pQ 3 57 14 15 ?_
          refine pQ 6 60 14 79 ?_
          refine pQ 7 61 14 207 ?_
          refine pQ 8 62 14 463 ?_
          refine take_ (i := 4) (N := some 58) (v := ?_) (a' := ?_) (bs 14 479) rfl rfl (take_ofW HT_.out HW_.out zk) (fun _ _ _ h => h) (Or.inl ⟨by rfl, ?_⟩) hHeld ?_ ?_
          rotate_left
          ·rintro w' ⟨s0, s1, s2, s3, s4, s5, s6, s7, s8, s9, s10, s11, s12, s13, s14⟩
           go_simp
           with_reducible rfl
          rotate_left
          ·simp only [Act.put, List.setIfInBounds_toArray, List.set_cons_zero, List.set_cons_succ, i64_w, i32_w]
           rfl
          refine pQ 5 59 14 511 ?_
          refine take_ (i := 9) (N := some 63) (v := ?_) (a' := ?_) (bs 14 1023) rfl rfl (take_ofW HT_.out HW_.out zk) (fun _ _ _ h => h) (Or.inl ⟨by rfl, ?_⟩) hHeld ?_ ?_
          rotate_left
          ·rintro w' ⟨s0, s1, s2, s3, s4, s5, s6, s7, s8, s9, s10, s11, s12, s13, s14⟩
           go_simp
           with_reducible rfl
          rotate_left
          ·simp only [Act.put, List.setIfInBounds_toArray, List.set_cons_zero, List.set_cons_succ, i64_w, i32_w]
           rfl
          refine pQ 10 64 14 2047 ?_
          refine one_ (i := 11) (N := some 65) (bs 14 4095) rfl rfl (one_of HT_.out zk) (by decide) (fun K hK => ?_)
          refine Kd.R_lit_step (Kd.int .u8) _ 5 ?hg (N := 65) ?hd (xs := ([(qQ) % 256, (qR) % 256] : List Int)) (inner := [.int .u8 ((qQ) % 256), .int .u8 ((qR) % 256)]) (ok := fun _ => True) (okp := fun _ => True) ?hr ?hp (fun _ hk => hk) trivial (Below.refl _ _) (Nat.le_refl _) (by simp) ?_; (case hd => rfl); (case hg => rfl); (case hr => first | (go_simp; done) | (go_simp; rfl)); (case hp => exact (Reps.one (show Kd.M (Kd.int .u8) _ _ _ ((qQ) % 256) [.int .u8 ((qQ) % 256)] from rfl) (Reps.one (show Kd.M (Kd.int .u8) _ _ _ ((qR) % 256) [.int .u8 ((qR) % 256)] from rfl) (Reps.none _ _))))
          intro v177 w29 ho30 hb hg_ hnew_
          clear hg_ hnew_
          (first | rw [← Ny176.out] at ho30 | (simp only [Int.reduceToNat] at ho30; rw [← Ny176.out] at ho30))
          have q7 := aM (Kd.z20_ (Kd.z21_ ho30 (Kd.R_lt (lR qH))) (z4_ (zB HB)))
          replace qH := aM (Kd.z17_ (lR qH) (Kd.R_base ho30) hb)
          replace qA := aM (z5_ (g := qD) (lK qA) hb)
          replace HB := aM (z6_ (zB HB) hb)
          clear hb ho30
          obtain ⟨yW, yX, eo32⟩ := Kd.R_slice q7.out
          (first | subst eo32 | (injection eo32 with f1_ f2_ f3_; have f4_ := f1_.symm; have f5_ := f3_.symm; clear f1_ f2_ f3_; subst f4_; subst f5_))
          refine hK.out _ _ (zc15 qA.out) (fun hHeld => ?_)
          clear hK K
          refine norm_ (a' := ?_) ?_ ?_
          rotate_left
          ·show Act.put _ (some 65) _ = _
           simp only [Act.put, List.setIfInBounds_toArray, List.set_cons_zero, List.set_cons_succ, i64_w, i32_w]
           rfl
          refine one_ (i := 12) (N := some 66) (bs 14 8191) rfl rfl (one_of HT_.out zk) (by decide) (fun K hK => ?_)
          refine Kd.R_append_rows_step (Kd.int .u8) (w0 := w) w.heap.size (by rfl) (.tmp 54) (.tmp 65) 31 5 (.int .u8 0) 1 rfl Try.underlying31 info5 rfl (by decide) (by omega) u5 ql y176 _ _ _ (fun k_ => some k_ ≠ (.slice yW y176.length yX : Value).ownBlock) (fun _ => False) rfl rfl ?aO ?aR (fun _ _ h => h) (fun _ h => h.elim) ?aF ?aB ?aS ?aL ?_
          (case aR => repeat (first | exact (Kd.z9_ q7.out).2.2 | (with_reducible refine Kd.C_alloc ?_ _) | (with_reducible refine Kd.C_drewN ?_ _) | (with_reducible refine Kd.C_drew ?_)))
          (case aB => exact (zB HB))
          (case aF => exact (fun k_ hk => Kd.fresh' (Kd.R_lt (lR q7)) k_ hk))
          (case aO => exact (by apply rX; exact Kd.z0_ qH.out (fun _ hk => hk.2)))
          (case aS => exact (z4_ (zB HB)))
          (case aL => have := LMc26.out; omega)
          intro v180 w31 ho hb hg hat
          rw [← Ny179.out] at ho
          replace qA := aM (blk_grown (g := qD) (lK qA) hg (Kd.R_ne qH.out qA.out (by decide)))
          replace q7 := aM (Kd.R_after (ok := (fun _ => True)) (lR q7) hg hat)
          replace HB := aM (hb)
          have jX := aM (ho)
          clear qH
          clear ho hb hg hat
          refine hK.out _ _ (zc15 qA.out) (fun hHeld => ?_)
          clear hK K
          refine norm_ (a' := ?_) ?_ ?_
          rotate_left
          ·show Act.put _ (some 66) _ = _
           simp only [Act.put, List.setIfInBounds_toArray, List.set_cons_zero, List.set_cons_succ, i64_w, i32_w]
           rfl
          refine pQ 13 5 14 16383 ?_
          refine done_ (done_of HT_.out zk) ?_
          have qAP := zc15 qA.out
          have qAQ := fun i_ : Nat => z1_ qA.out i_
          obtain ⟨j4, j5, eo34⟩ := Kd.R_slice jX.out
          subst eo34
          try go_wp2_with (first | ((with_reducible refine gate_callee (f := 28) rfl ?_); refine z13_ (some 73) rfl rfl Try.func28 zk rfl #[.slice j4 y179.length j5, .int .i64 (qE.length : Int)] rfl zA ?_; (with_reducible refine (code_pair.calls (fun k_ => some k_ = (.slice j4 y179.length j5 : Value).ownBlock) (.slice j4 y179.length j5) y179 (qE.length : Int) jF w _ ?side1 ?side2 A27.out).mono ?_); (case side1 => exact (zB HB)); (case side2 => exact Kd.R_tight rfl jX.out); rintro e w35 ⟨v183, rfl, ho0, hb, hkp⟩; refine ⟨_, rfl, ?_⟩; replace qA := aM (blk_kept (lK qA) hkp (fun hs_ => (fun e_ => (Kd.R_ne jX.out qA.out (by decide)) e_) hs_)); have yi := aM (Kd.z0_ (ok' := fun k_ => some k_ ≠ (.slice yW y176.length yX : Value).ownBlock) ho0 (fun k_ hk_ => Or.elim hk_ (fun hs_ => fun e_ => (((q7.out).1 k_ e_.symm).2) hs_) (fun hn_ => (Kd.fresh' (Kd.R_lt (lR q7)) k_ hn_)))); replace q7 := aM (Kd.z0_ (ok' := fun k_ => some k_ ≠ (v183 : Value).ownBlock) (Kd.R_keptB (q7.out) hkp (fun k_ hk_ hs_ => (hk_.2) hs_)) (fun k_ hk_ => fun e_ => Or.elim (ho0.1 k_ e_.symm) (fun hs_ => hk_.2.1 hs_) (fun hn_ => Nat.not_le.2 hk_.2.2 hn_))); replace HB := aM (hb); clear jX; (try clear hb); (try clear hkp); (try clear ho0); have qAR := zc15 qA.out; have qAS := fun i_ : Nat => z1_ qA.out i_))
          go_loopg [5, 79] k2 (fun kq v5 v79 w' => ∃ (qj : List Int) (qB : Int), v79 = .int .i64 qB ∧ Aside0 (code_Encode.l2 kq qj 0 qE (qE.length : Int) qB qN qO qG qQ qR qE qM qS qT qF qI qK qL qC qJ = some (r1, r2)) ∧ Aside0 (kq ≤ k2) ∧ Aside0 (Kd.R (Kd.int .u8) 5 w' w.heap.size (fun _ => True) v5 qj) ∧ Aside0 (w'.heap[qD]? = some (.cells #[.int .i64 qN, .int .i64 qO, (.slice qt qG.length qu), .int .i64 qQ, .int .i64 qR, (.slice qz qE.length q0), (.slice q1 qM.length q2), .int .i64 qS, .int .i64 qT, (.slice q3 qF.length q4), (.slice qn qI.length qo), .int .i64 qK, .int .i64 qL, (.slice qp qC.length qq), (.slice qr qJ.length qs)] 28 (0, 0))) ∧ Aside0 (Below w.heap.size w w'))
          case atStart => exact ⟨(jF), (0), (by first | rfl | (simp; done) | (simp [*]; done) | (simp [wrap64]; done)), H', ⟨Nat.le_refl _⟩, ⟨by apply rX; exact Kd.z0_ yi.out (fun _ hk => trivial)⟩, ⟨zb qA⟩, ⟨zB HB⟩⟩
          case round =>
           clear H'
           try clear c3
           try clear c11
           try clear c24
           try clear c25
           try clear c26
           obtain ⟨qj, qB, rfl, HA, HK3, qH, qA, HB⟩ := hrel
           cases gk with
           | zero => exact absurd HA.out (by simp [code_Encode.l2])
           | succ k3 =>
            have H := HA.out
            clear HA
            simp only [code_Encode.l2] at H
            by_cases c37 : qB < (qE.length : Int)
            ·rw [if_pos c37] at H
             have c37b0 := decide_eq_true c37
             clear c37
             by_cases c38 : 0 ≤ qB
             ·rw [if_pos c38] at H
              have c38b0 := decide_eq_true c38
              clear c38
              by_cases c39 : qB < (qE.length : Int)
              ·rw [if_pos c39] at H
               have c39b0 := decide_eq_true c39
               clear c39
               obtain ⟨y187, hy187⟩ : ∃ y_ : List Int, y_ = (([((rd_T63 qE qB).f0) % 256, ((rd_T63 qE qB).f1) % 256, ((rd_T63 qE qB).f2) % 256, ((rd_T63 qE qB).f3) % 256] : List Int)) := ⟨_, rfl⟩
               replace H : (if qj.length + y187.length < 140737488355328 then ((code_pair.f (qj ++ y187) ((rd_T63 qE qB).f4)).bind fun jI => (code_Encode.l2 k3 jI 0 qE (qE.length : Int) (wrap64 (qB + 1)) qN qO qG qQ qR qE qM qS qT qF qI qK qL qC qJ)) else (none)) = some (r1, r2) := zH hy187 H
               have Ny187 := aM hy187
               clear hy187
               by_cases c40 : qj.length + y187.length < 140737488355328
               ·rw [if_pos c40] at H
                have LMc40 := aM c40
                clear c40
                obtain ⟨y190, hy190⟩ : ∃ y_ : List Int, y_ = (qj ++ y187) := ⟨_, rfl⟩
                replace H : ((code_pair.f y190 ((rd_T63 qE qB).f4)).bind fun jI => (code_Encode.l2 k3 jI 0 qE (qE.length : Int) (wrap64 (qB + 1)) qN qO qG qQ qR qE qM qS qT qF qI qK qL qC qJ)) = some (r1, r2) := zH hy190 H
                have Ny190 := aM hy190
                clear hy190
                replace H := zbs H
                obtain ⟨jI, A410, H⟩ := H
                replace H : (code_Encode.l2 k3 jI 0 qE (qE.length : Int) (wrap64 (qB + 1)) qN qO qG qQ qR qE qM qS qT qF qI qK qL qC qJ) = some (r1, r2) := H
                have A41 := aM A410
                clear A410
                have H' := aM H
                clear H
                have p185 : 0 ≤ (qB : Int) := of_decide_eq_true za
                have q185 : qB < (qE.length : Int) := of_decide_eq_true za
                obtain ⟨ad185, e185, hx185_0, hx185_1, hx185_2, hx185_3, hx185_4⟩ := at_T63 jg.out qB p185 q185
                cases e185
                replace hx185_0 := (HB.out.cell (World.block_lt_of_cell? w _ hx185_0)).trans hx185_0
                replace hx185_1 := (HB.out.cell (World.block_lt_of_cell? w _ hx185_1)).trans hx185_1
                replace hx185_2 := (HB.out.cell (World.block_lt_of_cell? w _ hx185_2)).trans hx185_2
                replace hx185_3 := (HB.out.cell (World.block_lt_of_cell? w _ hx185_3)).trans hx185_3
                replace hx185_4 := (HB.out.cell (World.block_lt_of_cell? w _ hx185_4)).trans hx185_4
                replace p185 := eq_true p185
                replace q185 := eq_true q185
                go_wp2_with (first | ((with_reducible refine gate_dst (N := 11) rfl ?_); refine z16_ rfl (N := 11) rfl (cs := #[.int .i64 0, .int .i64 0, .int .i64 0, .int .i64 0, .int .i64 0]) (t := 63) zG ?_; intro jO hg w42 hbox hb; replace qH := aM (Kd.z7_ (lR qH) hb); have qv := aM (hbox); have qAx := aM ((by rw [hg]; exact (z4_ (zB HB)) : w.heap.size ≤ jO)); have qAy := aM ((by rw [hg]; exact (z4_ (zB HB)) : w.heap.size ≤ jO)); replace HB := aM (z6_ (zB HB) hb); have jy := aM ((by rw [hg]; exact Nat.ne_of_lt (z19_ (g := qD) (lK qA)) : qD ≠ jO)); have jz := aM ((by rw [hg]; exact Nat.ne_of_gt (z19_ (g := qD) (lK qA)) : jO ≠ qD)); replace qA := aM (z5_ (g := qD) (lK qA) hb); clear hb hbox hg; have qAz := jz.out; have qA0 := jy.out; have qAT := zc5 qv.out; have qAU := fun i_ : Nat => z1_ qv.out i_) | ((with_reducible refine gate_dst (N := 96) rfl ?_); refine Kd.R_lit (Kd.int .u8) _ 5 ?hg (N := 96) ?hd (xs := ([((rd_T63 qE qB).f0) % 256, ((rd_T63 qE qB).f1) % 256, ((rd_T63 qE qB).f2) % 256, ((rd_T63 qE qB).f3) % 256] : List Int)) (inner := [.int .u8 (((rd_T63 qE qB).f0) % 256), .int .u8 (((rd_T63 qE qB).f1) % 256), .int .u8 (((rd_T63 qE qB).f2) % 256), .int .u8 (((rd_T63 qE qB).f3) % 256)]) (ok := fun _ => True) (okp := fun _ => True) ?hr ?hp (fun _ hk => hk) trivial (Below.refl _ _) (Nat.le_refl _) (by simp) ?_; (case hd => rfl); (case hg => rfl); (case hr => first | (go_simp; done) | (go_simp; rfl)); (case hp => exact (Reps.one (show Kd.M (Kd.int .u8) _ _ _ (((rd_T63 qE qB).f0) % 256) [.int .u8 (((rd_T63 qE qB).f0) % 256)] from rfl) (Reps.one (show Kd.M (Kd.int .u8) _ _ _ (((rd_T63 qE qB).f1) % 256) [.int .u8 (((rd_T63 qE qB).f1) % 256)] from rfl) (Reps.one (show Kd.M (Kd.int .u8) _ _ _ (((rd_T63 qE qB).f2) % 256) [.int .u8 (((rd_T63 qE qB).f2) % 256)] from rfl) (Reps.one (show Kd.M (Kd.int .u8) _ _ _ (((rd_T63 qE qB).f3) % 256) [.int .u8 (((rd_T63 qE qB).f3) % 256)] from rfl) (Reps.none _ _)))))); intro v188 w45 ho46 hb hg_ hnew_; clear hg_ hnew_; (first | rw [← Ny187.out] at ho46 | (simp only [Int.reduceToNat] at ho46; rw [← Ny187.out] at ho46)); have q8 := aM (Kd.z20_ (Kd.z21_ ho46 (Kd.R_lt (by apply rX; exact (Kd.z0_ (fA (fA (fA (fA (fA (Kd.z3_ qH.out qv.out (by decide))))))) (fun _ h_ => h_.1))))) (z4_ (zB HB))); replace qH := aM (Kd.z17_ (by apply rX; exact (Kd.z0_ (fA (fA (fA (fA (fA (Kd.z3_ qH.out qv.out (by decide))))))) (fun _ h_ => h_.1))) (Kd.R_base ho46) hb); replace qA := aM (z5_ (g := qD) (zb qA) hb); replace qv := aM (z5_ (g := jO) (o := .cells #[.int .i64 ((rd_T63 qE qB).f0), .int .i64 ((rd_T63 qE qB).f1), .int .i64 ((rd_T63 qE qB).f2), .int .i64 ((rd_T63 qE qB).f3), .int .i64 ((rd_T63 qE qB).f4)] 63 (0, 0)) (by refine lZ ?_; refine blk_put (cs := #[.int .i64 ((rd_T63 qE qB).f0), .int .i64 ((rd_T63 qE qB).f1), .int .i64 ((rd_T63 qE qB).f2), .int .i64 ((rd_T63 qE qB).f3), .int .i64 0]) ?_ 4 _ rfl; refine lZ ?_; refine blk_put (cs := #[.int .i64 ((rd_T63 qE qB).f0), .int .i64 ((rd_T63 qE qB).f1), .int .i64 ((rd_T63 qE qB).f2), .int .i64 0, .int .i64 0]) ?_ 3 _ rfl; refine lZ ?_; refine blk_put (cs := #[.int .i64 ((rd_T63 qE qB).f0), .int .i64 ((rd_T63 qE qB).f1), .int .i64 0, .int .i64 0, .int .i64 0]) ?_ 2 _ rfl; refine lZ ?_; refine blk_put (cs := #[.int .i64 ((rd_T63 qE qB).f0), .int .i64 0, .int .i64 0, .int .i64 0, .int .i64 0]) ?_ 1 _ rfl; refine lZ ?_; refine blk_put (cs := #[.int .i64 0, .int .i64 0, .int .i64 0, .int .i64 0, .int .i64 0]) ?_ 0 _ rfl; refine lZ ?_; exact qv.out) hb); replace HB := aM (z6_ (zB HB) hb); clear hb ho46; obtain ⟨yY, yZ, eo48⟩ := Kd.R_slice q8.out; subst eo48) | ((with_reducible refine gate_builtin (b := .append) (xs := #[.tmp 83, .tmp 96]) rfl ?_); at_builtin; refine Kd.R_append_rows (Kd.int .u8) (w0 := w) w.heap.size rfl (.tmp 83) (.tmp 96) 31 5 (.int .u8 0) 1 rfl Try.underlying31 info5 rfl (by decide) (by omega) u5 qj y187 _ _ _ (fun k_ => some k_ ≠ (.slice yY y187.length yZ : Value).ownBlock) (fun _ => False) rfl rfl ?aO ?aR (fun _ _ h => h) (fun _ h => h.elim) ?aF ?aB ?aS ?aL ?_; (case aR => repeat (first | exact (Kd.z9_ q8.out).2.2 | (with_reducible refine Kd.C_alloc ?_ _) | (with_reducible refine Kd.C_drewN ?_ _) | (with_reducible refine Kd.C_drew ?_))); (case aB => exact (zB HB)); (case aF => exact (fun k_ hk => Kd.fresh' (Kd.R_lt (lR q8)) k_ hk)); (case aO => exact (by apply rX; exact Kd.z0_ qH.out (fun _ hk => hk.2))); (case aS => exact (z4_ (zB HB))); (case aL => have := LMc40.out; omega); intro v191 w47 ho hb hg hat; rw [← Ny190.out] at ho; replace qA := aM (blk_grown (g := qD) (lK qA) hg (Kd.R_ne qH.out qA.out (by decide))); replace qv := aM (blk_grown (g := jO) (lK qv) hg (Kd.R_ne qH.out qv.out (by decide))); replace q8 := aM (Kd.R_after (ok := (fun _ => True)) (lR q8) hg hat); replace HB := aM (hb); have jS := aM (ho); clear qH; clear ho hb hg hat; have qAV := zc5 qv.out; have qAW := fun i_ : Nat => z1_ qv.out i_; obtain ⟨j6, j7, eo50⟩ := Kd.R_slice jS.out; subst eo50) | ((with_reducible refine gate_callee (f := 28) rfl ?_); refine z13_ (some 101) rfl rfl Try.func28 zk rfl #[.slice j6 y190.length j7, .int .i64 ((rd_T63 qE qB).f4)] rfl zA ?_; (with_reducible refine (code_pair.calls (fun k_ => some k_ = (.slice j6 y190.length j7 : Value).ownBlock) (.slice j6 y190.length j7) y190 ((rd_T63 qE qB).f4) jI w _ ?side1 ?side2 A41.out).mono ?_); (case side1 => exact (zB HB)); (case side2 => exact Kd.R_tight rfl jS.out); rintro e w51 ⟨v194, rfl, ho0, hb, hkp⟩; refine ⟨_, rfl, ?_⟩; replace qA := aM (blk_kept (lK qA) hkp (fun hs_ => (fun e_ => (Kd.R_ne jS.out qA.out (by decide)) e_) hs_)); replace qv := aM (blk_kept (lK qv) hkp (fun hs_ => (fun e_ => (Kd.R_ne jS.out qv.out (by decide)) e_) hs_)); have yj := aM (Kd.z0_ (ok' := fun k_ => some k_ ≠ (.slice yY y187.length yZ : Value).ownBlock) ho0 (fun k_ hk_ => Or.elim hk_ (fun hs_ => fun e_ => (((q8.out).1 k_ e_.symm).2) hs_) (fun hn_ => (Kd.fresh' (Kd.R_lt (lR q8)) k_ hn_)))); replace q8 := aM (Kd.z0_ (ok' := fun k_ => some k_ ≠ (v194 : Value).ownBlock) (Kd.R_keptB (q8.out) hkp (fun k_ hk_ hs_ => (hk_.2) hs_)) (fun k_ hk_ => fun e_ => Or.elim (ho0.1 k_ e_.symm) (fun hs_ => hk_.2.1 hs_) (fun hn_ => Nat.not_le.2 hk_.2.2 hn_))); replace HB := aM (hb); clear jS; (try clear hb); (try clear hkp); (try clear ho0)))
                go_roundg k3
                case measure => have := HK1.out; have := HK2.out; have := HK3.out; omega
                case rel => exact ⟨(jI), (wrap64 (qB + 1)), (by first | rfl | (simp; done) | (simp [*]; done) | (simp [wrap64]; done)), H', ⟨by have := HK1.out; have := HK2.out; have := HK3.out; omega⟩, ⟨by apply rX; exact Kd.z0_ yj.out (fun _ hk => trivial)⟩, ⟨zb qA⟩, ⟨zB HB⟩⟩
               ·rw [if_neg c40] at H
                exact absurd H (by simp)
              ·rw [if_neg c39] at H
               exact absurd H (by simp)
             ·rw [if_neg c38] at H
              exact absurd H (by simp)
            ·rw [if_neg c37] at H
             have c37b0 := decide_eq_false c37
             clear c37
             by_cases c52 : qj.length < 140737488355328
             ·rw [if_pos c52] at H
              have LMc52 := aM c52
              clear c52
              obtain ⟨y196, hy196⟩ : ∃ y_ : List Int, y_ = (qj ++ [((qM.length : Int)) % 256]) := ⟨_, rfl⟩
              replace H : (code_Encode.l3 k3 y196 0 qM (qM.length : Int) 0 qN qO qG qQ qR qE qM qS qT qF qI qK qL qC qJ) = some (r1, r2) := zH hy196 H
              have Ny196 := aM hy196
              clear hy196
              have H' := aM H
              clear H
              have qAX := zc15 qA.out
              have qAY := fun i_ : Nat => z1_ qA.out i_
              go_wp2_with (first | ((with_reducible refine gate_builtin (b := .append) (xs := #[.tmp 103, .tmp 110]) rfl ?_); at_builtin; refine Kd.R_append (Kd.int .u8) (w0 := w) w.heap.size rfl (.tmp 103) (.tmp 110) 31 5 (.int .u8 0) 1 rfl Try.underlying31 info5 rfl (by decide) (by omega) u5 qj (((qM.length : Int)) % 256) [.int .u8 (((qM.length : Int)) % 256)] (fun _ => True) (fun _ => False) rfl rfl ?aP (fun _ hk => hk.elim) ?aF ?aO ?aB ?aS ?aL ?_; (case aP => exact rfl); (case aB => exact (zB HB)); (case aF => exact (fun _ _ => trivial)); (case aO => exact (lR qH)); (case aS => exact (z4_ (zB HB))); (case aL => have := LMc52.out; omega); intro v197 w54 ho hb hg hat; rw [← Ny196.out] at ho; replace qA := aM (blk_grown (g := qD) (lK qA) hg (Kd.R_ne qH.out qA.out (by decide))); replace HB := aM (hb); have yk := aM (ho); clear qH; clear ho hb hg hat; have qAZ := zc15 qA.out; have qAa := fun i_ : Nat => z1_ qA.out i_))
              go_loopg [5, 117] k3 (fun kq v5 v117 w' => ∃ (qm : List Int) (qP : Int), v117 = .int .i64 qP ∧ Aside0 (code_Encode.l3 kq qm 0 qM (qM.length : Int) qP qN qO qG qQ qR qE qM qS qT qF qI qK qL qC qJ = some (r1, r2)) ∧ Aside0 (kq ≤ k3) ∧ Aside0 (Kd.R (Kd.int .u8) 5 w' w.heap.size (fun _ => True) v5 qm) ∧ Aside0 (w'.heap[qD]? = some (.cells #[.int .i64 qN, .int .i64 qO, (.slice qt qG.length qu), .int .i64 qQ, .int .i64 qR, (.slice qz qE.length q0), (.slice q1 qM.length q2), .int .i64 qS, .int .i64 qT, (.slice q3 qF.length q4), (.slice qn qI.length qo), .int .i64 qK, .int .i64 qL, (.slice qp qC.length qq), (.slice qr qJ.length qs)] 28 (0, 0))) ∧ Aside0 (Below w.heap.size w w'))
              case atStart => exact ⟨(y196), (0), (by first | rfl | (simp; done) | (simp [*]; done) | (simp [wrap64]; done)), H', ⟨Nat.le_refl _⟩, ⟨lR yk⟩, ⟨zb qA⟩, ⟨zB HB⟩⟩
              case round =>
               clear H'
               try clear c3
               try clear c11
               try clear c24
               try clear c25
               try clear c26
               try clear c37
               try clear c52
               obtain ⟨qm, qP, rfl, HA, HK4, qH, qA, HB⟩ := hrel
               cases gk with
               | zero => exact absurd HA.out (by simp [code_Encode.l3])
               | succ k4 =>
                have H := HA.out
                clear HA
                simp only [code_Encode.l3] at H
                by_cases c56 : qP < (qM.length : Int)
                ·rw [if_pos c56] at H
                 have c56b0 := decide_eq_true c56
                 clear c56
                 by_cases c57 : 0 ≤ qP
                 ·rw [if_pos c57] at H
                  have c57b0 := decide_eq_true c57
                  clear c57
                  by_cases c58 : qP < (qM.length : Int)
                  ·rw [if_pos c58] at H
                   have c58b0 := decide_eq_true c58
                   clear c58
                   by_cases c59 : qm.length < 140737488355328
                   ·rw [if_pos c59] at H
                    have LMc59 := aM c59
                    clear c59
                    obtain ⟨y200, hy200⟩ : ∃ y_ : List Int, y_ = (qm ++ [(rd qM qP) % 256]) := ⟨_, rfl⟩
                    replace H : (code_Encode.l3 k4 y200 0 qM (qM.length : Int) (wrap64 (qP + 1)) qN qO qG qQ qR qE qM qS qT qF qI qK qL qC qJ) = some (r1, r2) := zH hy200 H
                    have Ny200 := aM hy200
                    clear hy200
                    have H' := aM H
                    clear H
                    have p199 : 0 ≤ (qP : Int) := of_decide_eq_true za
                    have q199 : qP < (qM.length : Int) := of_decide_eq_true za
                    obtain ⟨ad199, e199, hx199_0⟩ := Kd.at_int jh.out qP p199 q199
                    cases e199
                    replace hx199_0 := (HB.out.cell (World.block_lt_of_cell? w _ hx199_0)).trans hx199_0
                    replace p199 := eq_true p199
                    replace q199 := eq_true q199
                    go_wp2_with (first | ((with_reducible refine gate_builtin (b := .append) (xs := #[.tmp 121, .tmp 124]) rfl ?_); at_builtin; refine Kd.R_append (Kd.int .u8) (w0 := w) w.heap.size rfl (.tmp 121) (.tmp 124) 31 5 (.int .u8 0) 1 rfl Try.underlying31 info5 rfl (by decide) (by omega) u5 qm ((rd qM qP) % 256) [.int .u8 ((rd qM qP) % 256)] (fun _ => True) (fun _ => False) rfl rfl ?aP (fun _ hk => hk.elim) ?aF ?aO ?aB ?aS ?aL ?_; (case aP => exact rfl); (case aB => exact (zB HB)); (case aF => exact (fun _ _ => trivial)); (case aO => exact (lR qH)); (case aS => exact (z4_ (zB HB))); (case aL => have := LMc59.out; omega); intro v201 w60 ho hb hg hat; rw [← Ny200.out] at ho; replace qA := aM (blk_grown (g := qD) (lK qA) hg (Kd.R_ne qH.out qA.out (by decide))); replace HB := aM (hb); have yl := aM (ho); clear qH; clear ho hb hg hat))
                    go_roundg k4
                    case measure => have := HK1.out; have := HK2.out; have := HK3.out; have := HK4.out; omega
                    case rel => exact ⟨(y200), (wrap64 (qP + 1)), (by first | rfl | (simp; done) | (simp [*]; done) | (simp [wrap64]; done)), H', ⟨by have := HK1.out; have := HK2.out; have := HK3.out; have := HK4.out; omega⟩, ⟨lR yl⟩, ⟨zb qA⟩, ⟨zB HB⟩⟩
                   ·rw [if_neg c59] at H
                    exact absurd H (by simp)
                  ·rw [if_neg c58] at H
                   exact absurd H (by simp)
                 ·rw [if_neg c57] at H
                  exact absurd H (by simp)
                ·rw [if_neg c56] at H
                 have c56b0 := decide_eq_false c56
                 clear c56
                 have H' := aM H
                 clear H
                 go_wp2
                 go_roundg k4
                 case measure => have := HK1.out; have := HK2.out; have := HK3.out; have := HK4.out; omega
                 case rel => exact ⟨(qm), (wrap64 (0 + 1)), (by first | rfl | (simp; done) | (simp [*]; done) | (simp [wrap64]; done)), H', ⟨by have := HK1.out; have := HK2.out; have := HK3.out; have := HK4.out; omega⟩, ⟨lR qH⟩, ⟨zb qA⟩, ⟨zB HB⟩⟩
             ·rw [if_neg c52] at H
              exact absurd H (by simp)
         ·rw [if_neg c26] at H
          exact absurd H (by simp)
        ·rw [if_neg c25] at H
         by_cases c61 : jL = 1
         ·rw [if_pos c61] at H
          (first | rw [c61] | skip)
          obtain ⟨y203, hy203⟩ : ∃ y_ : List Int, y_ = (([(qS) % 256, (qT) % 256] : List Int)) := ⟨_, rfl⟩
          replace H : (if ql.length + y203.length < 140737488355328 then ((code_pair.f (ql ++ y203) (qF.length : Int)).bind fun jG => (code_Encode.l4 k2 jG 1 qF (qF.length : Int) 0 qN qO qG qQ qR qE qM qS qT qF qI qK qL qC qJ)) else (none)) = some (r1, r2) := zH hy203 H
          have Ny203 := aM hy203
          clear hy203
          by_cases c62 : ql.length + y203.length < 140737488355328
          ·rw [if_pos c62] at H
           have LMc62 := aM c62
           clear c62
           obtain ⟨y206, hy206⟩ : ∃ y_ : List Int, y_ = (ql ++ y203) := ⟨_, rfl⟩
           replace H : ((code_pair.f y206 (qF.length : Int)).bind fun jG => (code_Encode.l4 k2 jG 1 qF (qF.length : Int) 0 qN qO qG qQ qR qE qM qS qT qF qI qK qL qC qJ)) = some (r1, r2) := zH hy206 H
           have Ny206 := aM hy206
           clear hy206
           replace H := zbs H
           obtain ⟨jG, A630, H⟩ := H
           replace H : (code_Encode.l4 k2 jG 1 qF (qF.length : Int) 0 qN qO qG qQ qR qE qM qS qT qF qI qK qL qC qJ) = some (r1, r2) := H
           have A63 := aM A630
           clear A630
           have H' := aM H
           clear H
           try go_wp2
           replace qH := aM (Kd.R_drew qH.out)
           replace qA := aM (blk_drew qA.out)
           replace HB := aM (below_drew1 HB.out)
           refine start_ (n := 14) (S := fun w' => w'.cell? ⟨qD, 0, none⟩ = some (.int .i64 qN) ∧ w'.cell? ⟨qD, 1, none⟩ = some (.int .i64 qO) ∧ w'.cell? ⟨qD, 2, none⟩ = some (.slice qt qG.length qu) ∧ w'.cell? ⟨qD, 3, none⟩ = some (.int .i64 qQ) ∧ w'.cell? ⟨qD, 4, none⟩ = some (.int .i64 qR) ∧ w'.cell? ⟨qD, 5, none⟩ = some (.slice qz qE.length q0) ∧ w'.cell? ⟨qD, 6, none⟩ = some (.slice q1 qM.length q2) ∧ w'.cell? ⟨qD, 7, none⟩ = some (.int .i64 qS) ∧ w'.cell? ⟨qD, 8, none⟩ = some (.int .i64 qT) ∧ w'.cell? ⟨qD, 9, none⟩ = some (.slice q3 qF.length q4) ∧ w'.cell? ⟨qD, 10, none⟩ = some (.slice qn qI.length qo) ∧ w'.cell? ⟨qD, 11, none⟩ = some (.int .i64 qK) ∧ w'.cell? ⟨qD, 12, none⟩ = some (.int .i64 qL) ∧ w'.cell? ⟨qD, 13, none⟩ = some (.slice qp qC.length qq) ∧ w'.cell? ⟨qD, 14, none⟩ = some (.slice qr qJ.length qs)) (ds := []) (bs 14 0) zk rfl rfl ⟨(z2_ qA.out 0).trans rfl, (z2_ qA.out 1).trans rfl, (z2_ qA.out 2).trans rfl, (z2_ qA.out 3).trans rfl, (z2_ qA.out 4).trans rfl, (z2_ qA.out 5).trans rfl, (z2_ qA.out 6).trans rfl, (z2_ qA.out 7).trans rfl, (z2_ qA.out 8).trans rfl, (z2_ qA.out 9).trans rfl, (z2_ qA.out 10).trans rfl, (z2_ qA.out 11).trans rfl, (z2_ qA.out 12).trans rfl, (z2_ qA.out 13).trans rfl, (z2_ qA.out 14).trans rfl⟩ (fun hHeld => ?_); refine with_tabW code_Encode.tab13 code_Encode.bits13 (fun HT_ HW_ => ?_)
           generalize wr.drew = w64 at qH qA HB hHeld ⊢
           refine pQ 0 54 14 1 ?_
           refine pQ 1 55 14 3 ?_
           refine pQ 2 56 14 7 ?_
           refine pQ 3 57 14 15 ?_
           refine pQ 6 60 14 79 ?_
           refine pQ 7 61 14 207 ?_
           refine pQ 8 62 14 463 ?_
           refine take_ (i := 4) (N := some 58) (v := ?_) (a' := ?_) (bs 14 479) rfl rfl (take_ofW HT_.out HW_.out zk) (fun _ _ _ h => h) (Or.inl ⟨by rfl, ?_⟩) hHeld ?_ ?_
           rotate_left
           ·rintro w' ⟨s0, s1, s2, s3, s4, s5, s6, s7, s8, s9, s10, s11, s12, s13, s14⟩
            go_simp
            with_reducible rfl
           rotate_left
           ·simp only [Act.put, List.setIfInBounds_toArray, List.set_cons_zero, List.set_cons_succ, i64_w, i32_w]
            rfl
           refine pQ 5 59 14 511 ?_
           refine take_ (i := 9) (N := some 63) (v := ?_) (a' := ?_) (bs 14 1023) rfl rfl (take_ofW HT_.out HW_.out zk) (fun _ _ _ h => h) (Or.inl ⟨by rfl, ?_⟩) hHeld ?_ ?_
           rotate_left
           ·rintro w' ⟨s0, s1, s2, s3, s4, s5, s6, s7, s8, s9, s10, s11, s12, s13, s14⟩
            go_simp
            with_reducible rfl
           rotate_left
           ·simp only [Act.put, List.setIfInBounds_toArray, List.set_cons_zero, List.set_cons_succ, i64_w, i32_w]
            rfl
           refine pQ 10 64 14 2047 ?_
           refine one_ (i := 11) (N := some 65) (bs 14 4095) rfl rfl (one_of HT_.out zk) (by decide) (fun K hK => ?_)
           refine Kd.R_lit_step (Kd.int .u8) _ 5 ?hg (N := 65) ?hd (xs := ([(qS) % 256, (qT) % 256] : List Int)) (inner := [.int .u8 ((qS) % 256), .int .u8 ((qT) % 256)]) (ok := fun _ => True) (okp := fun _ => True) ?hr ?hp (fun _ hk => hk) trivial (Below.refl _ _) (Nat.le_refl _) (by simp) ?_; (case hd => rfl); (case hg => rfl); (case hr => first | (go_simp; done) | (go_simp; rfl)); (case hp => exact (Reps.one (show Kd.M (Kd.int .u8) _ _ _ ((qS) % 256) [.int .u8 ((qS) % 256)] from rfl) (Reps.one (show Kd.M (Kd.int .u8) _ _ _ ((qT) % 256) [.int .u8 ((qT) % 256)] from rfl) (Reps.none _ _))))
           intro v204 w65 ho66 hb hg_ hnew_
           clear hg_ hnew_
           (first | rw [← Ny203.out] at ho66 | (simp only [Int.reduceToNat] at ho66; rw [← Ny203.out] at ho66))
           have q9 := aM (Kd.z20_ (Kd.z21_ ho66 (Kd.R_lt (lR qH))) (z4_ (zB HB)))
           replace qH := aM (Kd.z17_ (lR qH) (Kd.R_base ho66) hb)
           replace qA := aM (z5_ (g := qD) (lK qA) hb)
           replace HB := aM (z6_ (zB HB) hb)
           clear hb ho66
           obtain ⟨ya, yb, eo68⟩ := Kd.R_slice q9.out
           (first | subst eo68 | (injection eo68 with f1_ f2_ f3_; have f4_ := f1_.symm; have f5_ := f3_.symm; clear f1_ f2_ f3_; subst f4_; subst f5_))
           refine hK.out _ _ (zc15 qA.out) (fun hHeld => ?_)
           clear hK K
           refine norm_ (a' := ?_) ?_ ?_
           rotate_left
           ·show Act.put _ (some 65) _ = _
            simp only [Act.put, List.setIfInBounds_toArray, List.set_cons_zero, List.set_cons_succ, i64_w, i32_w]
            rfl
           refine one_ (i := 12) (N := some 66) (bs 14 8191) rfl rfl (one_of HT_.out zk) (by decide) (fun K hK => ?_)
           refine Kd.R_append_rows_step (Kd.int .u8) (w0 := w) w.heap.size (by rfl) (.tmp 54) (.tmp 65) 31 5 (.int .u8 0) 1 rfl Try.underlying31 info5 rfl (by decide) (by omega) u5 ql y203 _ _ _ (fun k_ => some k_ ≠ (.slice ya y203.length yb : Value).ownBlock) (fun _ => False) rfl rfl ?aO ?aR (fun _ _ h => h) (fun _ h => h.elim) ?aF ?aB ?aS ?aL ?_
           (case aR => repeat (first | exact (Kd.z9_ q9.out).2.2 | (with_reducible refine Kd.C_alloc ?_ _) | (with_reducible refine Kd.C_drewN ?_ _) | (with_reducible refine Kd.C_drew ?_)))
           (case aB => exact (zB HB))
           (case aF => exact (fun k_ hk => Kd.fresh' (Kd.R_lt (lR q9)) k_ hk))
           (case aO => exact (by apply rX; exact Kd.z0_ qH.out (fun _ hk => hk.2)))
           (case aS => exact (z4_ (zB HB)))
           (case aL => have := LMc62.out; omega)
           intro v207 w67 ho hb hg hat
           rw [← Ny206.out] at ho
           replace qA := aM (blk_grown (g := qD) (lK qA) hg (Kd.R_ne qH.out qA.out (by decide)))
           replace q9 := aM (Kd.R_after (ok := (fun _ => True)) (lR q9) hg hat)
           replace HB := aM (hb)
           have jY := aM (ho)
           clear qH
           clear ho hb hg hat
           refine hK.out _ _ (zc15 qA.out) (fun hHeld => ?_)
           clear hK K
           refine norm_ (a' := ?_) ?_ ?_
           rotate_left
           ·show Act.put _ (some 66) _ = _
            simp only [Act.put, List.setIfInBounds_toArray, List.set_cons_zero, List.set_cons_succ, i64_w, i32_w]
            rfl
           refine pQ 13 5 14 16383 ?_
           refine done_ (done_of HT_.out zk) ?_
           have qAb := zc15 qA.out
           have qAc := fun i_ : Nat => z1_ qA.out i_
           obtain ⟨j8, j9, eo70⟩ := Kd.R_slice jY.out
           subst eo70
           try go_wp2_with (first | ((with_reducible refine gate_callee (f := 28) rfl ?_); refine z13_ (some 73) rfl rfl Try.func28 zk rfl #[.slice j8 y206.length j9, .int .i64 (qF.length : Int)] rfl zA ?_; (with_reducible refine (code_pair.calls (fun k_ => some k_ = (.slice j8 y206.length j9 : Value).ownBlock) (.slice j8 y206.length j9) y206 (qF.length : Int) jG w _ ?side1 ?side2 A63.out).mono ?_); (case side1 => exact (zB HB)); (case side2 => exact Kd.R_tight rfl jY.out); rintro e w71 ⟨v210, rfl, ho0, hb, hkp⟩; refine ⟨_, rfl, ?_⟩; replace qA := aM (blk_kept (lK qA) hkp (fun hs_ => (fun e_ => (Kd.R_ne jY.out qA.out (by decide)) e_) hs_)); have ym := aM (Kd.z0_ (ok' := fun k_ => some k_ ≠ (.slice ya y203.length yb : Value).ownBlock) ho0 (fun k_ hk_ => Or.elim hk_ (fun hs_ => fun e_ => (((q9.out).1 k_ e_.symm).2) hs_) (fun hn_ => (Kd.fresh' (Kd.R_lt (lR q9)) k_ hn_)))); replace q9 := aM (Kd.z0_ (ok' := fun k_ => some k_ ≠ (v210 : Value).ownBlock) (Kd.R_keptB (q9.out) hkp (fun k_ hk_ hs_ => (hk_.2) hs_)) (fun k_ hk_ => fun e_ => Or.elim (ho0.1 k_ e_.symm) (fun hs_ => hk_.2.1 hs_) (fun hn_ => Nat.not_le.2 hk_.2.2 hn_))); replace HB := aM (hb); clear jY; (try clear hb); (try clear hkp); (try clear ho0); have qAd := zc15 qA.out; have qAe := fun i_ : Nat => z1_ qA.out i_))
           go_loopg [5, 79] k2 (fun kq v5 v79 w' => ∃ (qj : List Int) (qB : Int), v79 = .int .i64 qB ∧ Aside0 (code_Encode.l4 kq qj 1 qF (qF.length : Int) qB qN qO qG qQ qR qE qM qS qT qF qI qK qL qC qJ = some (r1, r2)) ∧ Aside0 (kq ≤ k2) ∧ Aside0 (Kd.R (Kd.int .u8) 5 w' w.heap.size (fun _ => True) v5 qj) ∧ Aside0 (w'.heap[qD]? = some (.cells #[.int .i64 qN, .int .i64 qO, (.slice qt qG.length qu), .int .i64 qQ, .int .i64 qR, (.slice qz qE.length q0), (.slice q1 qM.length q2), .int .i64 qS, .int .i64 qT, (.slice q3 qF.length q4), (.slice qn qI.length qo), .int .i64 qK, .int .i64 qL, (.slice qp qC.length qq), (.slice qr qJ.length qs)] 28 (0, 0))) ∧ Aside0 (Below w.heap.size w w'))
           case atStart => exact ⟨(jG), (0), (by first | rfl | (simp; done) | (simp [*]; done) | (simp [wrap64]; done)), H', ⟨Nat.le_refl _⟩, ⟨by apply rX; exact Kd.z0_ ym.out (fun _ hk => trivial)⟩, ⟨zb qA⟩, ⟨zB HB⟩⟩
           case round =>
            clear H'
            try clear c3
            try clear c11
            try clear c24
            try clear c25
            try clear c61
            try clear c62
            obtain ⟨qj, qB, rfl, HA, HK3, qH, qA, HB⟩ := hrel
            cases gk with
            | zero => exact absurd HA.out (by simp [code_Encode.l4])
            | succ k3 =>
             have H := HA.out
             clear HA
             simp only [code_Encode.l4] at H
             by_cases c73 : qB < (qF.length : Int)
             ·rw [if_pos c73] at H
              have c73b0 := decide_eq_true c73
              clear c73
              by_cases c74 : 0 ≤ qB
              ·rw [if_pos c74] at H
               have c74b0 := decide_eq_true c74
               clear c74
               by_cases c75 : qB < (qF.length : Int)
               ·rw [if_pos c75] at H
                have c75b0 := decide_eq_true c75
                clear c75
                obtain ⟨y214, hy214⟩ : ∃ y_ : List Int, y_ = (([((rd_T63 qF qB).f0) % 256, ((rd_T63 qF qB).f1) % 256, ((rd_T63 qF qB).f2) % 256, ((rd_T63 qF qB).f3) % 256] : List Int)) := ⟨_, rfl⟩
                replace H : (if qj.length + y214.length < 140737488355328 then ((code_pair.f (qj ++ y214) ((rd_T63 qF qB).f4)).bind fun jJ => (code_Encode.l4 k3 jJ 1 qF (qF.length : Int) (wrap64 (qB + 1)) qN qO qG qQ qR qE qM qS qT qF qI qK qL qC qJ)) else (none)) = some (r1, r2) := zH hy214 H
                have Ny214 := aM hy214
                clear hy214
                by_cases c76 : qj.length + y214.length < 140737488355328
                ·rw [if_pos c76] at H
                 have LMc76 := aM c76
                 clear c76
                 obtain ⟨y217, hy217⟩ : ∃ y_ : List Int, y_ = (qj ++ y214) := ⟨_, rfl⟩
                 replace H : ((code_pair.f y217 ((rd_T63 qF qB).f4)).bind fun jJ => (code_Encode.l4 k3 jJ 1 qF (qF.length : Int) (wrap64 (qB + 1)) qN qO qG qQ qR qE qM qS qT qF qI qK qL qC qJ)) = some (r1, r2) := zH hy217 H
                 have Ny217 := aM hy217
                 clear hy217
                 replace H := zbs H
                 obtain ⟨jJ, A770, H⟩ := H
                 replace H : (code_Encode.l4 k3 jJ 1 qF (qF.length : Int) (wrap64 (qB + 1)) qN qO qG qQ qR qE qM qS qT qF qI qK qL qC qJ) = some (r1, r2) := H
                 have A77 := aM A770
                 clear A770
                 have H' := aM H
                 clear H
                 have p212 : 0 ≤ (qB : Int) := of_decide_eq_true za
                 have q212 : qB < (qF.length : Int) := of_decide_eq_true za
                 obtain ⟨ad212, e212, hx212_0, hx212_1, hx212_2, hx212_3, hx212_4⟩ := at_T63 ji.out qB p212 q212
                 cases e212
                 replace hx212_0 := (HB.out.cell (World.block_lt_of_cell? w _ hx212_0)).trans hx212_0
                 replace hx212_1 := (HB.out.cell (World.block_lt_of_cell? w _ hx212_1)).trans hx212_1
                 replace hx212_2 := (HB.out.cell (World.block_lt_of_cell? w _ hx212_2)).trans hx212_2
                 replace hx212_3 := (HB.out.cell (World.block_lt_of_cell? w _ hx212_3)).trans hx212_3
                 replace hx212_4 := (HB.out.cell (World.block_lt_of_cell? w _ hx212_4)).trans hx212_4
                 replace p212 := eq_true p212
                 replace q212 := eq_true q212
                 go_wp2_with (first | ((with_reducible refine gate_dst (N := 11) rfl ?_); refine z16_ rfl (N := 11) rfl (cs := #[.int .i64 0, .int .i64 0, .int .i64 0, .int .i64 0, .int .i64 0]) (t := 63) zG ?_; intro jP hg w78 hbox hb; replace qH := aM (Kd.z7_ (lR qH) hb); have qw := aM (hbox); have qA1 := aM ((by rw [hg]; exact (z4_ (zB HB)) : w.heap.size ≤ jP)); have qA2 := aM ((by rw [hg]; exact (z4_ (zB HB)) : w.heap.size ≤ jP)); replace HB := aM (z6_ (zB HB) hb); have j0 := aM ((by rw [hg]; exact Nat.ne_of_lt (z19_ (g := qD) (lK qA)) : qD ≠ jP)); have j1 := aM ((by rw [hg]; exact Nat.ne_of_gt (z19_ (g := qD) (lK qA)) : jP ≠ qD)); replace qA := aM (z5_ (g := qD) (lK qA) hb); clear hb hbox hg; have qA3 := j1.out; have qA4 := j0.out; have qAf := zc5 qw.out; have qAg := fun i_ : Nat => z1_ qw.out i_) | ((with_reducible refine gate_dst (N := 96) rfl ?_); refine Kd.R_lit (Kd.int .u8) _ 5 ?hg (N := 96) ?hd (xs := ([((rd_T63 qF qB).f0) % 256, ((rd_T63 qF qB).f1) % 256, ((rd_T63 qF qB).f2) % 256, ((rd_T63 qF qB).f3) % 256] : List Int)) (inner := [.int .u8 (((rd_T63 qF qB).f0) % 256), .int .u8 (((rd_T63 qF qB).f1) % 256), .int .u8 (((rd_T63 qF qB).f2) % 256), .int .u8 (((rd_T63 qF qB).f3) % 256)]) (ok := fun _ => True) (okp := fun _ => True) ?hr ?hp (fun _ hk => hk) trivial (Below.refl _ _) (Nat.le_refl _) (by simp) ?_; (case hd => rfl); (case hg => rfl); (case hr => first | (go_simp; done) | (go_simp; rfl)); (case hp => exact (Reps.one (show Kd.M (Kd.int .u8) _ _ _ (((rd_T63 qF qB).f0) % 256) [.int .u8 (((rd_T63 qF qB).f0) % 256)] from rfl) (Reps.one (show Kd.M (Kd.int .u8) _ _ _ (((rd_T63 qF qB).f1) % 256) [.int .u8 (((rd_T63 qF qB).f1) % 256)] from rfl) (Reps.one (show Kd.M (Kd.int .u8) _ _ _ (((rd_T63 qF qB).f2) % 256) [.int .u8 (((rd_T63 qF qB).f2) % 256)] from rfl) (Reps.one (show Kd.M (Kd.int .u8) _ _ _ (((rd_T63 qF qB).f3) % 256) [.int .u8 (((rd_T63 qF qB).f3) % 256)] from rfl) (Reps.none _ _)))))); intro v215 w81 ho82 hb hg_ hnew_; clear hg_ hnew_; (first | rw [← Ny214.out] at ho82 | (simp only [Int.reduceToNat] at ho82; rw [← Ny214.out] at ho82)); have jA := aM (Kd.z20_ (Kd.z21_ ho82 (Kd.R_lt (by apply rX; exact (Kd.z0_ (fA (fA (fA (fA (fA (Kd.z3_ qH.out qw.out (by decide))))))) (fun _ h_ => h_.1))))) (z4_ (zB HB))); replace qH := aM (Kd.z17_ (by apply rX; exact (Kd.z0_ (fA (fA (fA (fA (fA (Kd.z3_ qH.out qw.out (by decide))))))) (fun _ h_ => h_.1))) (Kd.R_base ho82) hb); replace qA := aM (z5_ (g := qD) (zb qA) hb); replace qw := aM (z5_ (g := jP) (o := .cells #[.int .i64 ((rd_T63 qF qB).f0), .int .i64 ((rd_T63 qF qB).f1), .int .i64 ((rd_T63 qF qB).f2), .int .i64 ((rd_T63 qF qB).f3), .int .i64 ((rd_T63 qF qB).f4)] 63 (0, 0)) (by refine lZ ?_; refine blk_put (cs := #[.int .i64 ((rd_T63 qF qB).f0), .int .i64 ((rd_T63 qF qB).f1), .int .i64 ((rd_T63 qF qB).f2), .int .i64 ((rd_T63 qF qB).f3), .int .i64 0]) ?_ 4 _ rfl; refine lZ ?_; refine blk_put (cs := #[.int .i64 ((rd_T63 qF qB).f0), .int .i64 ((rd_T63 qF qB).f1), .int .i64 ((rd_T63 qF qB).f2), .int .i64 0, .int .i64 0]) ?_ 3 _ rfl; refine lZ ?_; refine blk_put (cs := #[.int .i64 ((rd_T63 qF qB).f0), .int .i64 ((rd_T63 qF qB).f1), .int .i64 0, .int .i64 0, .int .i64 0]) ?_ 2 _ rfl; refine lZ ?_; refine blk_put (cs := #[.int .i64 ((rd_T63 qF qB).f0), .int .i64 0, .int .i64 0, .int .i64 0, .int .i64 0]) ?_ 1 _ rfl; refine lZ ?_; refine blk_put (cs := #[.int .i64 0, .int .i64 0, .int .i64 0, .int .i64 0, .int .i64 0]) ?_ 0 _ rfl; refine lZ ?_; exact qw.out) hb); replace HB := aM (z6_ (zB HB) hb); clear hb ho82; obtain ⟨yc, yd, eo84⟩ := Kd.R_slice jA.out; subst eo84) | ((with_reducible refine gate_builtin (b := .append) (xs := #[.tmp 83, .tmp 96]) rfl ?_); at_builtin; refine Kd.R_append_rows (Kd.int .u8) (w0 := w) w.heap.size rfl (.tmp 83) (.tmp 96) 31 5 (.int .u8 0) 1 rfl Try.underlying31 info5 rfl (by decide) (by omega) u5 qj y214 _ _ _ (fun k_ => some k_ ≠ (.slice yc y214.length yd : Value).ownBlock) (fun _ => False) rfl rfl ?aO ?aR (fun _ _ h => h) (fun _ h => h.elim) ?aF ?aB ?aS ?aL ?_; (case aR => repeat (first | exact (Kd.z9_ jA.out).2.2 | (with_reducible refine Kd.C_alloc ?_ _) | (with_reducible refine Kd.C_drewN ?_ _) | (with_reducible refine Kd.C_drew ?_))); (case aB => exact (zB HB)); (case aF => exact (fun k_ hk => Kd.fresh' (Kd.R_lt (lR jA)) k_ hk)); (case aO => exact (by apply rX; exact Kd.z0_ qH.out (fun _ hk => hk.2))); (case aS => exact (z4_ (zB HB))); (case aL => have := LMc76.out; omega); intro v218 w83 ho hb hg hat; rw [← Ny217.out] at ho; replace qA := aM (blk_grown (g := qD) (lK qA) hg (Kd.R_ne qH.out qA.out (by decide))); replace qw := aM (blk_grown (g := jP) (lK qw) hg (Kd.R_ne qH.out qw.out (by decide))); replace jA := aM (Kd.R_after (ok := (fun _ => True)) (lR jA) hg hat); replace HB := aM (hb); have jT := aM (ho); clear qH; clear ho hb hg hat; have qAh := zc5 qw.out; have qAi := fun i_ : Nat => z1_ qw.out i_; obtain ⟨yA, yB, eo86⟩ := Kd.R_slice jT.out; subst eo86) | ((with_reducible refine gate_callee (f := 28) rfl ?_); refine z13_ (some 101) rfl rfl Try.func28 zk rfl #[.slice yA y217.length yB, .int .i64 ((rd_T63 qF qB).f4)] rfl zA ?_; (with_reducible refine (code_pair.calls (fun k_ => some k_ = (.slice yA y217.length yB : Value).ownBlock) (.slice yA y217.length yB) y217 ((rd_T63 qF qB).f4) jJ w _ ?side1 ?side2 A77.out).mono ?_); (case side1 => exact (zB HB)); (case side2 => exact Kd.R_tight rfl jT.out); rintro e w87 ⟨v221, rfl, ho0, hb, hkp⟩; refine ⟨_, rfl, ?_⟩; replace qA := aM (blk_kept (lK qA) hkp (fun hs_ => (fun e_ => (Kd.R_ne jT.out qA.out (by decide)) e_) hs_)); replace qw := aM (blk_kept (lK qw) hkp (fun hs_ => (fun e_ => (Kd.R_ne jT.out qw.out (by decide)) e_) hs_)); have yn := aM (Kd.z0_ (ok' := fun k_ => some k_ ≠ (.slice yc y214.length yd : Value).ownBlock) ho0 (fun k_ hk_ => Or.elim hk_ (fun hs_ => fun e_ => (((jA.out).1 k_ e_.symm).2) hs_) (fun hn_ => (Kd.fresh' (Kd.R_lt (lR jA)) k_ hn_)))); replace jA := aM (Kd.z0_ (ok' := fun k_ => some k_ ≠ (v221 : Value).ownBlock) (Kd.R_keptB (jA.out) hkp (fun k_ hk_ hs_ => (hk_.2) hs_)) (fun k_ hk_ => fun e_ => Or.elim (ho0.1 k_ e_.symm) (fun hs_ => hk_.2.1 hs_) (fun hn_ => Nat.not_le.2 hk_.2.2 hn_))); replace HB := aM (hb); clear jT; (try clear hb); (try clear hkp); (try clear ho0)))
                 go_roundg k3
                 case measure => have := HK1.out; have := HK2.out; have := HK3.out; omega
                 case rel => exact ⟨(jJ), (wrap64 (qB + 1)), (by first | rfl | (simp; done) | (simp [*]; done) | (simp [wrap64]; done)), H', ⟨by have := HK1.out; have := HK2.out; have := HK3.out; omega⟩, ⟨by apply rX; exact Kd.z0_ yn.out (fun _ hk => trivial)⟩, ⟨zb qA⟩, ⟨zB HB⟩⟩
                ·rw [if_neg c76] at H
                 exact absurd H (by simp)
               ·rw [if_neg c75] at H
                exact absurd H (by simp)
              ·rw [if_neg c74] at H
               exact absurd H (by simp)
             ·rw [if_neg c73] at H
              have c73b0 := decide_eq_false c73
              clear c73
              by_cases c88 : qj.length < 140737488355328
              ·rw [if_pos c88] at H
               have LMc88 := aM c88
               clear c88
               obtain ⟨y223, hy223⟩ : ∃ y_ : List Int, y_ = (qj ++ [((qI.length : Int)) % 256]) := ⟨_, rfl⟩
               replace H : (code_Encode.l5 k3 y223 1 qI (qI.length : Int) 0 qN qO qG qQ qR qE qM qS qT qF qI qK qL qC qJ) = some (r1, r2) := zH hy223 H
               have Ny223 := aM hy223
               clear hy223
               have H' := aM H
               clear H
               have qAj := zc15 qA.out
               have qAk := fun i_ : Nat => z1_ qA.out i_
               go_wp2_with (first | ((with_reducible refine gate_builtin (b := .append) (xs := #[.tmp 103, .tmp 110]) rfl ?_); at_builtin; refine Kd.R_append (Kd.int .u8) (w0 := w) w.heap.size rfl (.tmp 103) (.tmp 110) 31 5 (.int .u8 0) 1 rfl Try.underlying31 info5 rfl (by decide) (by omega) u5 qj (((qI.length : Int)) % 256) [.int .u8 (((qI.length : Int)) % 256)] (fun _ => True) (fun _ => False) rfl rfl ?aP (fun _ hk => hk.elim) ?aF ?aO ?aB ?aS ?aL ?_; (case aP => exact rfl); (case aB => exact (zB HB)); (case aF => exact (fun _ _ => trivial)); (case aO => exact (lR qH)); (case aS => exact (z4_ (zB HB))); (case aL => have := LMc88.out; omega); intro v224 w90 ho hb hg hat; rw [← Ny223.out] at ho; replace qA := aM (blk_grown (g := qD) (lK qA) hg (Kd.R_ne qH.out qA.out (by decide))); replace HB := aM (hb); have yo := aM (ho); clear qH; clear ho hb hg hat; have qAl := zc15 qA.out; have qAm := fun i_ : Nat => z1_ qA.out i_))
               go_loopg [5, 117] k3 (fun kq v5 v117 w' => ∃ (qm : List Int) (qP : Int), v117 = .int .i64 qP ∧ Aside0 (code_Encode.l5 kq qm 1 qI (qI.length : Int) qP qN qO qG qQ qR qE qM qS qT qF qI qK qL qC qJ = some (r1, r2)) ∧ Aside0 (kq ≤ k3) ∧ Aside0 (Kd.R (Kd.int .u8) 5 w' w.heap.size (fun _ => True) v5 qm) ∧ Aside0 (w'.heap[qD]? = some (.cells #[.int .i64 qN, .int .i64 qO, (.slice qt qG.length qu), .int .i64 qQ, .int .i64 qR, (.slice qz qE.length q0), (.slice q1 qM.length q2), .int .i64 qS, .int .i64 qT, (.slice q3 qF.length q4), (.slice qn qI.length qo), .int .i64 qK, .int .i64 qL, (.slice qp qC.length qq), (.slice qr qJ.length qs)] 28 (0, 0))) ∧ Aside0 (Below w.heap.size w w'))
               case atStart => exact ⟨(y223), (0), (by first | rfl | (simp; done) | (simp [*]; done) | (simp [wrap64]; done)), H', ⟨Nat.le_refl _⟩, ⟨lR yo⟩, ⟨zb qA⟩, ⟨zB HB⟩⟩
               case round =>
                clear H'
                try clear c3
                try clear c11
                try clear c24
                try clear c25
                try clear c61
                try clear c62
                try clear c73
                try clear c88
                obtain ⟨qm, qP, rfl, HA, HK4, qH, qA, HB⟩ := hrel
                cases gk with
                | zero => exact absurd HA.out (by simp [code_Encode.l5])
                | succ k4 =>
                 have H := HA.out
                 clear HA
                 simp only [code_Encode.l5] at H
                 by_cases c92 : qP < (qI.length : Int)
                 ·rw [if_pos c92] at H
                  have c92b0 := decide_eq_true c92
                  clear c92
                  by_cases c93 : 0 ≤ qP
                  ·rw [if_pos c93] at H
                   have c93b0 := decide_eq_true c93
                   clear c93
                   by_cases c94 : qP < (qI.length : Int)
                   ·rw [if_pos c94] at H
                    have c94b0 := decide_eq_true c94
                    clear c94
                    by_cases c95 : qm.length < 140737488355328
                    ·rw [if_pos c95] at H
                     have LMc95 := aM c95
                     clear c95
                     obtain ⟨y227, hy227⟩ : ∃ y_ : List Int, y_ = (qm ++ [(rd qI qP) % 256]) := ⟨_, rfl⟩
                     replace H : (code_Encode.l5 k4 y227 1 qI (qI.length : Int) (wrap64 (qP + 1)) qN qO qG qQ qR qE qM qS qT qF qI qK qL qC qJ) = some (r1, r2) := zH hy227 H
                     have Ny227 := aM hy227
                     clear hy227
                     have H' := aM H
                     clear H
                     have p226 : 0 ≤ (qP : Int) := of_decide_eq_true za
                     have q226 : qP < (qI.length : Int) := of_decide_eq_true za
                     obtain ⟨ad226, e226, hx226_0⟩ := Kd.at_int jc.out qP p226 q226
                     cases e226
                     replace hx226_0 := (HB.out.cell (World.block_lt_of_cell? w _ hx226_0)).trans hx226_0
                     replace p226 := eq_true p226
                     replace q226 := eq_true q226
                     go_wp2_with (first | ((with_reducible refine gate_builtin (b := .append) (xs := #[.tmp 121, .tmp 124]) rfl ?_); at_builtin; refine Kd.R_append (Kd.int .u8) (w0 := w) w.heap.size rfl (.tmp 121) (.tmp 124) 31 5 (.int .u8 0) 1 rfl Try.underlying31 info5 rfl (by decide) (by omega) u5 qm ((rd qI qP) % 256) [.int .u8 ((rd qI qP) % 256)] (fun _ => True) (fun _ => False) rfl rfl ?aP (fun _ hk => hk.elim) ?aF ?aO ?aB ?aS ?aL ?_; (case aP => exact rfl); (case aB => exact (zB HB)); (case aF => exact (fun _ _ => trivial)); (case aO => exact (lR qH)); (case aS => exact (z4_ (zB HB))); (case aL => have := LMc95.out; omega); intro v228 w96 ho hb hg hat; rw [← Ny227.out] at ho; replace qA := aM (blk_grown (g := qD) (lK qA) hg (Kd.R_ne qH.out qA.out (by decide))); replace HB := aM (hb); have yp := aM (ho); clear qH; clear ho hb hg hat))
                     go_roundg k4
                     case measure => have := HK1.out; have := HK2.out; have := HK3.out; have := HK4.out; omega
                     case rel => exact ⟨(y227), (wrap64 (qP + 1)), (by first | rfl | (simp; done) | (simp [*]; done) | (simp [wrap64]; done)), H', ⟨by have := HK1.out; have := HK2.out; have := HK3.out; have := HK4.out; omega⟩, ⟨lR yp⟩, ⟨zb qA⟩, ⟨zB HB⟩⟩
                    ·rw [if_neg c95] at H
                     exact absurd H (by simp)
                   ·rw [if_neg c94] at H
                    exact absurd H (by simp)
                  ·rw [if_neg c93] at H
                   exact absurd H (by simp)
                 ·rw [if_neg c92] at H
                  have c92b0 := decide_eq_false c92
                  clear c92
                  have H' := aM H
                  clear H
                  go_wp2
                  go_roundg k4
                  case measure => have := HK1.out; have := HK2.out; have := HK3.out; have := HK4.out; omega
                  case rel => exact ⟨(qm), (wrap64 (1 + 1)), (by first | rfl | (simp; done) | (simp [*]; done) | (simp [wrap64]; done)), H', ⟨by have := HK1.out; have := HK2.out; have := HK3.out; have := HK4.out; omega⟩, ⟨lR qH⟩, ⟨zb qA⟩, ⟨zB HB⟩⟩
              ·rw [if_neg c88] at H
               exact absurd H (by simp)
          ·rw [if_neg c62] at H
           exact absurd H (by simp)
         ·rw [if_neg c61] at H
          by_cases c97 : jL = 2
          ·rw [if_pos c97] at H
           (first | rw [c97] | skip)
           obtain ⟨y230, hy230⟩ : ∃ y_ : List Int, y_ = (([(qK) % 256, (qL) % 256] : List Int)) := ⟨_, rfl⟩
           replace H : (if ql.length + y230.length < 140737488355328 then ((code_pair.f (ql ++ y230) (qC.length : Int)).bind fun jH => (code_Encode.l6 k2 jH 2 qC (qC.length : Int) 0 qN qO qG qQ qR qE qM qS qT qF qI qK qL qC qJ)) else (none)) = some (r1, r2) := zH hy230 H
           have Ny230 := aM hy230
           clear hy230
           by_cases c98 : ql.length + y230.length < 140737488355328
           ·rw [if_pos c98] at H
            have LMc98 := aM c98
            clear c98
            obtain ⟨y233, hy233⟩ : ∃ y_ : List Int, y_ = (ql ++ y230) := ⟨_, rfl⟩
            replace H : ((code_pair.f y233 (qC.length : Int)).bind fun jH => (code_Encode.l6 k2 jH 2 qC (qC.length : Int) 0 qN qO qG qQ qR qE qM qS qT qF qI qK qL qC qJ)) = some (r1, r2) := zH hy233 H
            have Ny233 := aM hy233
            clear hy233
            replace H := zbs H
            obtain ⟨jH, A990, H⟩ := H
            replace H : (code_Encode.l6 k2 jH 2 qC (qC.length : Int) 0 qN qO qG qQ qR qE qM qS qT qF qI qK qL qC qJ) = some (r1, r2) := H
            have A99 := aM A990
            clear A990
            have H' := aM H
            clear H
            try go_wp2
            replace qH := aM (Kd.R_drew qH.out)
            replace qA := aM (blk_drew qA.out)
            replace HB := aM (below_drew1 HB.out)
            refine start_ (n := 14) (S := fun w' => w'.cell? ⟨qD, 0, none⟩ = some (.int .i64 qN) ∧ w'.cell? ⟨qD, 1, none⟩ = some (.int .i64 qO) ∧ w'.cell? ⟨qD, 2, none⟩ = some (.slice qt qG.length qu) ∧ w'.cell? ⟨qD, 3, none⟩ = some (.int .i64 qQ) ∧ w'.cell? ⟨qD, 4, none⟩ = some (.int .i64 qR) ∧ w'.cell? ⟨qD, 5, none⟩ = some (.slice qz qE.length q0) ∧ w'.cell? ⟨qD, 6, none⟩ = some (.slice q1 qM.length q2) ∧ w'.cell? ⟨qD, 7, none⟩ = some (.int .i64 qS) ∧ w'.cell? ⟨qD, 8, none⟩ = some (.int .i64 qT) ∧ w'.cell? ⟨qD, 9, none⟩ = some (.slice q3 qF.length q4) ∧ w'.cell? ⟨qD, 10, none⟩ = some (.slice qn qI.length qo) ∧ w'.cell? ⟨qD, 11, none⟩ = some (.int .i64 qK) ∧ w'.cell? ⟨qD, 12, none⟩ = some (.int .i64 qL) ∧ w'.cell? ⟨qD, 13, none⟩ = some (.slice qp qC.length qq) ∧ w'.cell? ⟨qD, 14, none⟩ = some (.slice qr qJ.length qs)) (ds := []) (bs 14 0) zk rfl rfl ⟨(z2_ qA.out 0).trans rfl, (z2_ qA.out 1).trans rfl, (z2_ qA.out 2).trans rfl, (z2_ qA.out 3).trans rfl, (z2_ qA.out 4).trans rfl, (z2_ qA.out 5).trans rfl, (z2_ qA.out 6).trans rfl, (z2_ qA.out 7).trans rfl, (z2_ qA.out 8).trans rfl, (z2_ qA.out 9).trans rfl, (z2_ qA.out 10).trans rfl, (z2_ qA.out 11).trans rfl, (z2_ qA.out 12).trans rfl, (z2_ qA.out 13).trans rfl, (z2_ qA.out 14).trans rfl⟩ (fun hHeld => ?_); refine with_tabW code_Encode.tab13 code_Encode.bits13 (fun HT_ HW_ => ?_)
            generalize wr.drew = w100 at qH qA HB hHeld ⊢
            refine pQ 0 54 14 1 ?_
            refine pQ 1 55 14 3 ?_
            refine pQ 2 56 14 7 ?_
            refine pQ 3 57 14 15 ?_
            refine pQ 6 60 14 79 ?_
            refine pQ 7 61 14 207 ?_
            refine pQ 8 62 14 463 ?_
            refine take_ (i := 4) (N := some 58) (v := ?_) (a' := ?_) (bs 14 479) rfl rfl (take_ofW HT_.out HW_.out zk) (fun _ _ _ h => h) (Or.inl ⟨by rfl, ?_⟩) hHeld ?_ ?_
            rotate_left
            ·rintro w' ⟨s0, s1, s2, s3, s4, s5, s6, s7, s8, s9, s10, s11, s12, s13, s14⟩
             go_simp
             with_reducible rfl
            rotate_left
            ·simp only [Act.put, List.setIfInBounds_toArray, List.set_cons_zero, List.set_cons_succ, i64_w, i32_w]
             rfl
            refine pQ 5 59 14 511 ?_
            refine take_ (i := 9) (N := some 63) (v := ?_) (a' := ?_) (bs 14 1023) rfl rfl (take_ofW HT_.out HW_.out zk) (fun _ _ _ h => h) (Or.inl ⟨by rfl, ?_⟩) hHeld ?_ ?_
            rotate_left
            ·rintro w' ⟨s0, s1, s2, s3, s4, s5, s6, s7, s8, s9, s10, s11, s12, s13, s14⟩
             go_simp
             with_reducible rfl
            rotate_left
            ·simp only [Act.put, List.setIfInBounds_toArray, List.set_cons_zero, List.set_cons_succ, i64_w, i32_w]
             rfl
            refine pQ 10 64 14 2047 ?_
            refine one_ (i := 11) (N := some 65) (bs 14 4095) rfl rfl (one_of HT_.out zk) (by decide) (fun K hK => ?_)
            refine Kd.R_lit_step (Kd.int .u8) _ 5 ?hg (N := 65) ?hd (xs := ([(qK) % 256, (qL) % 256] : List Int)) (inner := [.int .u8 ((qK) % 256), .int .u8 ((qL) % 256)]) (ok := fun _ => True) (okp := fun _ => True) ?hr ?hp (fun _ hk => hk) trivial (Below.refl _ _) (Nat.le_refl _) (by simp) ?_; (case hd => rfl); (case hg => rfl); (case hr => first | (go_simp; done) | (go_simp; rfl)); (case hp => exact (Reps.one (show Kd.M (Kd.int .u8) _ _ _ ((qK) % 256) [.int .u8 ((qK) % 256)] from rfl) (Reps.one (show Kd.M (Kd.int .u8) _ _ _ ((qL) % 256) [.int .u8 ((qL) % 256)] from rfl) (Reps.none _ _))))
            intro v231 w101 ho102 hb hg_ hnew_
            clear hg_ hnew_
            (first | rw [← Ny230.out] at ho102 | (simp only [Int.reduceToNat] at ho102; rw [← Ny230.out] at ho102))
            have jB := aM (Kd.z20_ (Kd.z21_ ho102 (Kd.R_lt (lR qH))) (z4_ (zB HB)))
            replace qH := aM (Kd.z17_ (lR qH) (Kd.R_base ho102) hb)
            replace qA := aM (z5_ (g := qD) (lK qA) hb)
            replace HB := aM (z6_ (zB HB) hb)
            clear hb ho102
            obtain ⟨yO, yP, eo104⟩ := Kd.R_slice jB.out
            (first | subst eo104 | (injection eo104 with f1_ f2_ f3_; have f4_ := f1_.symm; have f5_ := f3_.symm; clear f1_ f2_ f3_; subst f4_; subst f5_))
            refine hK.out _ _ (zc15 qA.out) (fun hHeld => ?_)
            clear hK K
            refine norm_ (a' := ?_) ?_ ?_
            rotate_left
            ·show Act.put _ (some 65) _ = _
             simp only [Act.put, List.setIfInBounds_toArray, List.set_cons_zero, List.set_cons_succ, i64_w, i32_w]
             rfl
            refine one_ (i := 12) (N := some 66) (bs 14 8191) rfl rfl (one_of HT_.out zk) (by decide) (fun K hK => ?_)
            refine Kd.R_append_rows_step (Kd.int .u8) (w0 := w) w.heap.size (by rfl) (.tmp 54) (.tmp 65) 31 5 (.int .u8 0) 1 rfl Try.underlying31 info5 rfl (by decide) (by omega) u5 ql y230 _ _ _ (fun k_ => some k_ ≠ (.slice yO y230.length yP : Value).ownBlock) (fun _ => False) rfl rfl ?aO ?aR (fun _ _ h => h) (fun _ h => h.elim) ?aF ?aB ?aS ?aL ?_
            (case aR => repeat (first | exact (Kd.z9_ jB.out).2.2 | (with_reducible refine Kd.C_alloc ?_ _) | (with_reducible refine Kd.C_drewN ?_ _) | (with_reducible refine Kd.C_drew ?_)))
            (case aB => exact (zB HB))
            (case aF => exact (fun k_ hk => Kd.fresh' (Kd.R_lt (lR jB)) k_ hk))
            (case aO => exact (by apply rX; exact Kd.z0_ qH.out (fun _ hk => hk.2)))
            (case aS => exact (z4_ (zB HB)))
            (case aL => have := LMc98.out; omega)
            intro v234 w103 ho hb hg hat
            rw [← Ny233.out] at ho
            replace qA := aM (blk_grown (g := qD) (lK qA) hg (Kd.R_ne qH.out qA.out (by decide)))
            replace jB := aM (Kd.R_after (ok := (fun _ => True)) (lR jB) hg hat)
            replace HB := aM (hb)
            have jZ := aM (ho)
            clear qH
            clear ho hb hg hat
            refine hK.out _ _ (zc15 qA.out) (fun hHeld => ?_)
            clear hK K
            refine norm_ (a' := ?_) ?_ ?_
            rotate_left
            ·show Act.put _ (some 66) _ = _
             simp only [Act.put, List.setIfInBounds_toArray, List.set_cons_zero, List.set_cons_succ, i64_w, i32_w]
             rfl
            refine pQ 13 5 14 16383 ?_
            refine done_ (done_of HT_.out zk) ?_
            have yx := zc15 qA.out
            have yy := fun i_ : Nat => z1_ qA.out i_
            obtain ⟨jj, jk, eo106⟩ := Kd.R_slice jZ.out
            subst eo106
            try go_wp2_with (first | ((with_reducible refine gate_callee (f := 28) rfl ?_); refine z13_ (some 73) rfl rfl Try.func28 zk rfl #[.slice jj y233.length jk, .int .i64 (qC.length : Int)] rfl zA ?_; (with_reducible refine (code_pair.calls (fun k_ => some k_ = (.slice jj y233.length jk : Value).ownBlock) (.slice jj y233.length jk) y233 (qC.length : Int) jH w _ ?side1 ?side2 A99.out).mono ?_); (case side1 => exact (zB HB)); (case side2 => exact Kd.R_tight rfl jZ.out); rintro e w107 ⟨v237, rfl, ho0, hb, hkp⟩; refine ⟨_, rfl, ?_⟩; replace qA := aM (blk_kept (lK qA) hkp (fun hs_ => (fun e_ => (Kd.R_ne jZ.out qA.out (by decide)) e_) hs_)); have yq := aM (Kd.z0_ (ok' := fun k_ => some k_ ≠ (.slice yO y230.length yP : Value).ownBlock) ho0 (fun k_ hk_ => Or.elim hk_ (fun hs_ => fun e_ => (((jB.out).1 k_ e_.symm).2) hs_) (fun hn_ => (Kd.fresh' (Kd.R_lt (lR jB)) k_ hn_)))); replace jB := aM (Kd.z0_ (ok' := fun k_ => some k_ ≠ (v237 : Value).ownBlock) (Kd.R_keptB (jB.out) hkp (fun k_ hk_ hs_ => (hk_.2) hs_)) (fun k_ hk_ => fun e_ => Or.elim (ho0.1 k_ e_.symm) (fun hs_ => hk_.2.1 hs_) (fun hn_ => Nat.not_le.2 hk_.2.2 hn_))); replace HB := aM (hb); clear jZ; (try clear hb); (try clear hkp); (try clear ho0); have yz := zc15 qA.out; have qAA := fun i_ : Nat => z1_ qA.out i_))
            go_loopg [5, 79] k2 (fun kq v5 v79 w' => ∃ (qj : List Int) (qB : Int), v79 = .int .i64 qB ∧ Aside0 (code_Encode.l6 kq qj 2 qC (qC.length : Int) qB qN qO qG qQ qR qE qM qS qT qF qI qK qL qC qJ = some (r1, r2)) ∧ Aside0 (kq ≤ k2) ∧ Aside0 (Kd.R (Kd.int .u8) 5 w' w.heap.size (fun _ => True) v5 qj) ∧ Aside0 (w'.heap[qD]? = some (.cells #[.int .i64 qN, .int .i64 qO, (.slice qt qG.length qu), .int .i64 qQ, .int .i64 qR, (.slice qz qE.length q0), (.slice q1 qM.length q2), .int .i64 qS, .int .i64 qT, (.slice q3 qF.length q4), (.slice qn qI.length qo), .int .i64 qK, .int .i64 qL, (.slice qp qC.length qq), (.slice qr qJ.length qs)] 28 (0, 0))) ∧ Aside0 (Below w.heap.size w w'))
            case atStart => exact ⟨(jH), (0), (by first | rfl | (simp; done) | (simp [*]; done) | (simp [wrap64]; done)), H', ⟨Nat.le_refl _⟩, ⟨by apply rX; exact Kd.z0_ yq.out (fun _ hk => trivial)⟩, ⟨zb qA⟩, ⟨zB HB⟩⟩
            case round =>
             clear H'
             try clear c61
             try clear c97
             try clear c98
             obtain ⟨qj, qB, rfl, HA, HK3, qH, qA, HB⟩ := hrel
             cases gk with
             | zero => exact absurd HA.out (by simp [code_Encode.l6])
             | succ k3 =>
              have H := HA.out
              clear HA
              simp only [code_Encode.l6] at H
              by_cases c109 : qB < (qC.length : Int)
              ·rw [if_pos c109] at H
               have c109b0 := decide_eq_true c109
               clear c109
               by_cases c110 : 0 ≤ qB
               ·rw [if_pos c110] at H
                have c110b0 := decide_eq_true c110
                clear c110
                by_cases c111 : qB < (qC.length : Int)
                ·rw [if_pos c111] at H
                 have c111b0 := decide_eq_true c111
                 clear c111
                 obtain ⟨y241, hy241⟩ : ∃ y_ : List Int, y_ = (([((rd_T63 qC qB).f0) % 256, ((rd_T63 qC qB).f1) % 256, ((rd_T63 qC qB).f2) % 256, ((rd_T63 qC qB).f3) % 256] : List Int)) := ⟨_, rfl⟩
                 replace H : (if qj.length + y241.length < 140737488355328 then ((code_pair.f (qj ++ y241) ((rd_T63 qC qB).f4)).bind fun jK => (code_Encode.l6 k3 jK 2 qC (qC.length : Int) (wrap64 (qB + 1)) qN qO qG qQ qR qE qM qS qT qF qI qK qL qC qJ)) else (none)) = some (r1, r2) := zH hy241 H
                 have Ny241 := aM hy241
                 clear hy241
                 by_cases c112 : qj.length + y241.length < 140737488355328
                 ·rw [if_pos c112] at H
                  have LMc112 := aM c112
                  clear c112
                  obtain ⟨y244, hy244⟩ : ∃ y_ : List Int, y_ = (qj ++ y241) := ⟨_, rfl⟩
                  replace H : ((code_pair.f y244 ((rd_T63 qC qB).f4)).bind fun jK => (code_Encode.l6 k3 jK 2 qC (qC.length : Int) (wrap64 (qB + 1)) qN qO qG qQ qR qE qM qS qT qF qI qK qL qC qJ)) = some (r1, r2) := zH hy244 H
                  have Ny244 := aM hy244
                  clear hy244
                  replace H := zbs H
                  obtain ⟨jK, A1130, H⟩ := H
                  replace H : (code_Encode.l6 k3 jK 2 qC (qC.length : Int) (wrap64 (qB + 1)) qN qO qG qQ qR qE qM qS qT qF qI qK qL qC qJ) = some (r1, r2) := H
                  have A113 := aM A1130
                  clear A1130
                  have H' := aM H
                  clear H
                  have p239 : 0 ≤ (qB : Int) := of_decide_eq_true za
                  have q239 : qB < (qC.length : Int) := of_decide_eq_true za
                  obtain ⟨ad239, e239, hx239_0, hx239_1, hx239_2, hx239_3, hx239_4⟩ := at_T63 jd.out qB p239 q239
                  cases e239
                  replace hx239_0 := (HB.out.cell (World.block_lt_of_cell? w _ hx239_0)).trans hx239_0
                  replace hx239_1 := (HB.out.cell (World.block_lt_of_cell? w _ hx239_1)).trans hx239_1
                  replace hx239_2 := (HB.out.cell (World.block_lt_of_cell? w _ hx239_2)).trans hx239_2
                  replace hx239_3 := (HB.out.cell (World.block_lt_of_cell? w _ hx239_3)).trans hx239_3
                  replace hx239_4 := (HB.out.cell (World.block_lt_of_cell? w _ hx239_4)).trans hx239_4
                  replace p239 := eq_true p239
                  replace q239 := eq_true q239
                  go_wp2_with (first | ((with_reducible refine gate_dst (N := 11) rfl ?_); refine z16_ rfl (N := 11) rfl (cs := #[.int .i64 0, .int .i64 0, .int .i64 0, .int .i64 0, .int .i64 0]) (t := 63) zG ?_; intro jQ hg w114 hbox hb; replace qH := aM (Kd.z7_ (lR qH) hb); have qx := aM (hbox); have qA5 := aM ((by rw [hg]; exact (z4_ (zB HB)) : w.heap.size ≤ jQ)); have qA6 := aM ((by rw [hg]; exact (z4_ (zB HB)) : w.heap.size ≤ jQ)); replace HB := aM (z6_ (zB HB) hb); have j2 := aM ((by rw [hg]; exact Nat.ne_of_lt (z19_ (g := qD) (lK qA)) : qD ≠ jQ)); have j3 := aM ((by rw [hg]; exact Nat.ne_of_gt (z19_ (g := qD) (lK qA)) : jQ ≠ qD)); replace qA := aM (z5_ (g := qD) (lK qA) hb); clear hb hbox hg; have qAr := j3.out; have qAs := j2.out; have qAB := zc5 qx.out; have qAC := fun i_ : Nat => z1_ qx.out i_) | ((with_reducible refine gate_dst (N := 96) rfl ?_); refine Kd.R_lit (Kd.int .u8) _ 5 ?hg (N := 96) ?hd (xs := ([((rd_T63 qC qB).f0) % 256, ((rd_T63 qC qB).f1) % 256, ((rd_T63 qC qB).f2) % 256, ((rd_T63 qC qB).f3) % 256] : List Int)) (inner := [.int .u8 (((rd_T63 qC qB).f0) % 256), .int .u8 (((rd_T63 qC qB).f1) % 256), .int .u8 (((rd_T63 qC qB).f2) % 256), .int .u8 (((rd_T63 qC qB).f3) % 256)]) (ok := fun _ => True) (okp := fun _ => True) ?hr ?hp (fun _ hk => hk) trivial (Below.refl _ _) (Nat.le_refl _) (by simp) ?_; (case hd => rfl); (case hg => rfl); (case hr => first | (go_simp; done) | (go_simp; rfl)); (case hp => exact (Reps.one (show Kd.M (Kd.int .u8) _ _ _ (((rd_T63 qC qB).f0) % 256) [.int .u8 (((rd_T63 qC qB).f0) % 256)] from rfl) (Reps.one (show Kd.M (Kd.int .u8) _ _ _ (((rd_T63 qC qB).f1) % 256) [.int .u8 (((rd_T63 qC qB).f1) % 256)] from rfl) (Reps.one (show Kd.M (Kd.int .u8) _ _ _ (((rd_T63 qC qB).f2) % 256) [.int .u8 (((rd_T63 qC qB).f2) % 256)] from rfl) (Reps.one (show Kd.M (Kd.int .u8) _ _ _ (((rd_T63 qC qB).f3) % 256) [.int .u8 (((rd_T63 qC qB).f3) % 256)] from rfl) (Reps.none _ _)))))); intro v242 w117 ho118 hb hg_ hnew_; clear hg_ hnew_; (first | rw [← Ny241.out] at ho118 | (simp only [Int.reduceToNat] at ho118; rw [← Ny241.out] at ho118)); have jC := aM (Kd.z20_ (Kd.z21_ ho118 (Kd.R_lt (by apply rX; exact (Kd.z0_ (fA (fA (fA (fA (fA (Kd.z3_ qH.out qx.out (by decide))))))) (fun _ h_ => h_.1))))) (z4_ (zB HB))); replace qH := aM (Kd.z17_ (by apply rX; exact (Kd.z0_ (fA (fA (fA (fA (fA (Kd.z3_ qH.out qx.out (by decide))))))) (fun _ h_ => h_.1))) (Kd.R_base ho118) hb); replace qA := aM (z5_ (g := qD) (zb qA) hb); replace qx := aM (z5_ (g := jQ) (o := .cells #[.int .i64 ((rd_T63 qC qB).f0), .int .i64 ((rd_T63 qC qB).f1), .int .i64 ((rd_T63 qC qB).f2), .int .i64 ((rd_T63 qC qB).f3), .int .i64 ((rd_T63 qC qB).f4)] 63 (0, 0)) (by refine lZ ?_; refine blk_put (cs := #[.int .i64 ((rd_T63 qC qB).f0), .int .i64 ((rd_T63 qC qB).f1), .int .i64 ((rd_T63 qC qB).f2), .int .i64 ((rd_T63 qC qB).f3), .int .i64 0]) ?_ 4 _ rfl; refine lZ ?_; refine blk_put (cs := #[.int .i64 ((rd_T63 qC qB).f0), .int .i64 ((rd_T63 qC qB).f1), .int .i64 ((rd_T63 qC qB).f2), .int .i64 0, .int .i64 0]) ?_ 3 _ rfl; refine lZ ?_; refine blk_put (cs := #[.int .i64 ((rd_T63 qC qB).f0), .int .i64 ((rd_T63 qC qB).f1), .int .i64 0, .int .i64 0, .int .i64 0]) ?_ 2 _ rfl; refine lZ ?_; refine blk_put (cs := #[.int .i64 ((rd_T63 qC qB).f0), .int .i64 0, .int .i64 0, .int .i64 0, .int .i64 0]) ?_ 1 _ rfl; refine lZ ?_; refine blk_put (cs := #[.int .i64 0, .int .i64 0, .int .i64 0, .int .i64 0, .int .i64 0]) ?_ 0 _ rfl; refine lZ ?_; exact qx.out) hb); replace HB := aM (z6_ (zB HB) hb); clear hb ho118; obtain ⟨yQ, yR, eo120⟩ := Kd.R_slice jC.out; subst eo120) | ((with_reducible refine gate_builtin (b := .append) (xs := #[.tmp 83, .tmp 96]) rfl ?_); at_builtin; refine Kd.R_append_rows (Kd.int .u8) (w0 := w) w.heap.size rfl (.tmp 83) (.tmp 96) 31 5 (.int .u8 0) 1 rfl Try.underlying31 info5 rfl (by decide) (by omega) u5 qj y241 _ _ _ (fun k_ => some k_ ≠ (.slice yQ y241.length yR : Value).ownBlock) (fun _ => False) rfl rfl ?aO ?aR (fun _ _ h => h) (fun _ h => h.elim) ?aF ?aB ?aS ?aL ?_; (case aR => repeat (first | exact (Kd.z9_ jC.out).2.2 | (with_reducible refine Kd.C_alloc ?_ _) | (with_reducible refine Kd.C_drewN ?_ _) | (with_reducible refine Kd.C_drew ?_))); (case aB => exact (zB HB)); (case aF => exact (fun k_ hk => Kd.fresh' (Kd.R_lt (lR jC)) k_ hk)); (case aO => exact (by apply rX; exact Kd.z0_ qH.out (fun _ hk => hk.2))); (case aS => exact (z4_ (zB HB))); (case aL => have := LMc112.out; omega); intro v245 w119 ho hb hg hat; rw [← Ny244.out] at ho; replace qA := aM (blk_grown (g := qD) (lK qA) hg (Kd.R_ne qH.out qA.out (by decide))); replace qx := aM (blk_grown (g := jQ) (lK qx) hg (Kd.R_ne qH.out qx.out (by decide))); replace jC := aM (Kd.R_after (ok := (fun _ => True)) (lR jC) hg hat); replace HB := aM (hb); have jU := aM (ho); clear qH; clear ho hb hg hat; have qAD := zc5 qx.out; have qAE := fun i_ : Nat => z1_ qx.out i_; obtain ⟨jl, jm, eo122⟩ := Kd.R_slice jU.out; subst eo122) | ((with_reducible refine gate_callee (f := 28) rfl ?_); refine z13_ (some 101) rfl rfl Try.func28 zk rfl #[.slice jl y244.length jm, .int .i64 ((rd_T63 qC qB).f4)] rfl zA ?_; (with_reducible refine (code_pair.calls (fun k_ => some k_ = (.slice jl y244.length jm : Value).ownBlock) (.slice jl y244.length jm) y244 ((rd_T63 qC qB).f4) jK w _ ?side1 ?side2 A113.out).mono ?_); (case side1 => exact (zB HB)); (case side2 => exact Kd.R_tight rfl jU.out); rintro e w123 ⟨v248, rfl, ho0, hb, hkp⟩; refine ⟨_, rfl, ?_⟩; replace qA := aM (blk_kept (lK qA) hkp (fun hs_ => (fun e_ => (Kd.R_ne jU.out qA.out (by decide)) e_) hs_)); replace qx := aM (blk_kept (lK qx) hkp (fun hs_ => (fun e_ => (Kd.R_ne jU.out qx.out (by decide)) e_) hs_)); have yr := aM (Kd.z0_ (ok' := fun k_ => some k_ ≠ (.slice yQ y241.length yR : Value).ownBlock) ho0 (fun k_ hk_ => Or.elim hk_ (fun hs_ => fun e_ => (((jC.out).1 k_ e_.symm).2) hs_) (fun hn_ => (Kd.fresh' (Kd.R_lt (lR jC)) k_ hn_)))); replace jC := aM (Kd.z0_ (ok' := fun k_ => some k_ ≠ (v248 : Value).ownBlock) (Kd.R_keptB (jC.out) hkp (fun k_ hk_ hs_ => (hk_.2) hs_)) (fun k_ hk_ => fun e_ => Or.elim (ho0.1 k_ e_.symm) (fun hs_ => hk_.2.1 hs_) (fun hn_ => Nat.not_le.2 hk_.2.2 hn_))); replace HB := aM (hb); clear jU; (try clear hb); (try clear hkp); (try clear ho0)))
                  go_roundg k3
                  case measure => have := HK1.out; have := HK2.out; have := HK3.out; omega
                  case rel => exact ⟨(jK), (wrap64 (qB + 1)), (by first | rfl | (simp; done) | (simp [*]; done) | (simp [wrap64]; done)), H', ⟨by have := HK1.out; have := HK2.out; have := HK3.out; omega⟩, ⟨by apply rX; exact Kd.z0_ yr.out (fun _ hk => trivial)⟩, ⟨zb qA⟩, ⟨zB HB⟩⟩
                 ·rw [if_neg c112] at H
                  exact absurd H (by simp)
                ·rw [if_neg c111] at H
                 exact absurd H (by simp)
               ·rw [if_neg c110] at H
                exact absurd H (by simp)
              ·rw [if_neg c109] at H
               have c109b0 := decide_eq_false c109
               clear c109
               by_cases c124 : qj.length < 140737488355328
               ·rw [if_pos c124] at H
                have LMc124 := aM c124
                clear c124
                obtain ⟨y250, hy250⟩ : ∃ y_ : List Int, y_ = (qj ++ [((qJ.length : Int)) % 256]) := ⟨_, rfl⟩
                replace H : (code_Encode.l7 k3 y250 2 qJ (qJ.length : Int) 0 qN qO qG qQ qR qE qM qS qT qF qI qK qL qC qJ) = some (r1, r2) := zH hy250 H
                have Ny250 := aM hy250
                clear hy250
                have H' := aM H
                clear H
                have qAF := zc15 qA.out
                have qAG := fun i_ : Nat => z1_ qA.out i_
                go_wp2_with (first | ((with_reducible refine gate_builtin (b := .append) (xs := #[.tmp 103, .tmp 110]) rfl ?_); at_builtin; refine Kd.R_append (Kd.int .u8) (w0 := w) w.heap.size rfl (.tmp 103) (.tmp 110) 31 5 (.int .u8 0) 1 rfl Try.underlying31 info5 rfl (by decide) (by omega) u5 qj (((qJ.length : Int)) % 256) [.int .u8 (((qJ.length : Int)) % 256)] (fun _ => True) (fun _ => False) rfl rfl ?aP (fun _ hk => hk.elim) ?aF ?aO ?aB ?aS ?aL ?_; (case aP => exact rfl); (case aB => exact (zB HB)); (case aF => exact (fun _ _ => trivial)); (case aO => exact (lR qH)); (case aS => exact (z4_ (zB HB))); (case aL => have := LMc124.out; omega); intro v251 w126 ho hb hg hat; rw [← Ny250.out] at ho; replace qA := aM (blk_grown (g := qD) (lK qA) hg (Kd.R_ne qH.out qA.out (by decide))); replace HB := aM (hb); have ys := aM (ho); clear qH; clear ho hb hg hat; have qAH := zc15 qA.out; have qAI := fun i_ : Nat => z1_ qA.out i_))
                go_loopg [5, 117] k3 (fun kq v5 v117 w' => ∃ (qm : List Int) (qP : Int), v117 = .int .i64 qP ∧ Aside0 (code_Encode.l7 kq qm 2 qJ (qJ.length : Int) qP qN qO qG qQ qR qE qM qS qT qF qI qK qL qC qJ = some (r1, r2)) ∧ Aside0 (kq ≤ k3) ∧ Aside0 (Kd.R (Kd.int .u8) 5 w' w.heap.size (fun _ => True) v5 qm) ∧ Aside0 (w'.heap[qD]? = some (.cells #[.int .i64 qN, .int .i64 qO, (.slice qt qG.length qu), .int .i64 qQ, .int .i64 qR, (.slice qz qE.length q0), (.slice q1 qM.length q2), .int .i64 qS, .int .i64 qT, (.slice q3 qF.length q4), (.slice qn qI.length qo), .int .i64 qK, .int .i64 qL, (.slice qp qC.length qq), (.slice qr qJ.length qs)] 28 (0, 0))) ∧ Aside0 (Below w.heap.size w w'))
                case atStart => exact ⟨(y250), (0), (by first | rfl | (simp; done) | (simp [*]; done) | (simp [wrap64]; done)), H', ⟨Nat.le_refl _⟩, ⟨lR ys⟩, ⟨zb qA⟩, ⟨zB HB⟩⟩
                case round =>
                 clear H'
                 try clear c11
                 try clear c61
                 try clear c97
                 try clear c98
                 try clear c109
                 try clear c124
                 obtain ⟨qm, qP, rfl, HA, HK4, qH, qA, HB⟩ := hrel
                 cases gk with
                 | zero => exact absurd HA.out (by simp [code_Encode.l7])
                 | succ k4 =>
                  have H := HA.out
                  clear HA
                  simp only [code_Encode.l7] at H
                  by_cases c128 : qP < (qJ.length : Int)
                  ·rw [if_pos c128] at H
                   have c128b0 := decide_eq_true c128
                   clear c128
                   by_cases c129 : 0 ≤ qP
                   ·rw [if_pos c129] at H
                    have c129b0 := decide_eq_true c129
                    clear c129
                    by_cases c130 : qP < (qJ.length : Int)
                    ·rw [if_pos c130] at H
                     have c130b0 := decide_eq_true c130
                     clear c130
                     by_cases c131 : qm.length < 140737488355328
                     ·rw [if_pos c131] at H
                      have LMc131 := aM c131
                      clear c131
                      obtain ⟨y254, hy254⟩ : ∃ y_ : List Int, y_ = (qm ++ [(rd qJ qP) % 256]) := ⟨_, rfl⟩
                      replace H : (code_Encode.l7 k4 y254 2 qJ (qJ.length : Int) (wrap64 (qP + 1)) qN qO qG qQ qR qE qM qS qT qF qI qK qL qC qJ) = some (r1, r2) := zH hy254 H
                      have Ny254 := aM hy254
                      clear hy254
                      have H' := aM H
                      clear H
                      have p253 : 0 ≤ (qP : Int) := of_decide_eq_true za
                      have q253 : qP < (qJ.length : Int) := of_decide_eq_true za
                      obtain ⟨ad253, e253, hx253_0⟩ := Kd.at_int je.out qP p253 q253
                      cases e253
                      replace hx253_0 := (HB.out.cell (World.block_lt_of_cell? w _ hx253_0)).trans hx253_0
                      replace p253 := eq_true p253
                      replace q253 := eq_true q253
                      go_wp2_with (first | ((with_reducible refine gate_builtin (b := .append) (xs := #[.tmp 121, .tmp 124]) rfl ?_); at_builtin; refine Kd.R_append (Kd.int .u8) (w0 := w) w.heap.size rfl (.tmp 121) (.tmp 124) 31 5 (.int .u8 0) 1 rfl Try.underlying31 info5 rfl (by decide) (by omega) u5 qm ((rd qJ qP) % 256) [.int .u8 ((rd qJ qP) % 256)] (fun _ => True) (fun _ => False) rfl rfl ?aP (fun _ hk => hk.elim) ?aF ?aO ?aB ?aS ?aL ?_; (case aP => exact rfl); (case aB => exact (zB HB)); (case aF => exact (fun _ _ => trivial)); (case aO => exact (lR qH)); (case aS => exact (z4_ (zB HB))); (case aL => have := LMc131.out; omega); intro v255 w132 ho hb hg hat; rw [← Ny254.out] at ho; replace qA := aM (blk_grown (g := qD) (lK qA) hg (Kd.R_ne qH.out qA.out (by decide))); replace HB := aM (hb); have yt := aM (ho); clear qH; clear ho hb hg hat))
                      go_roundg k4
                      case measure => have := HK1.out; have := HK2.out; have := HK3.out; have := HK4.out; omega
                      case rel => exact ⟨(y254), (wrap64 (qP + 1)), (by first | rfl | (simp; done) | (simp [*]; done) | (simp [wrap64]; done)), H', ⟨by have := HK1.out; have := HK2.out; have := HK3.out; have := HK4.out; omega⟩, ⟨lR yt⟩, ⟨zb qA⟩, ⟨zB HB⟩⟩
                     ·rw [if_neg c131] at H
                      exact absurd H (by simp)
                    ·rw [if_neg c130] at H
                     exact absurd H (by simp)
                   ·rw [if_neg c129] at H
                    exact absurd H (by simp)
                  ·rw [if_neg c128] at H
                   have c128b0 := decide_eq_false c128
                   clear c128
                   have H' := aM H
                   clear H
                   go_wp2
                   go_roundg k4
                   case measure => have := HK1.out; have := HK2.out; have := HK3.out; have := HK4.out; omega
                   case rel => exact ⟨(qm), (wrap64 (2 + 1)), (by first | rfl | (simp; done) | (simp [*]; done) | (simp [wrap64]; done)), H', ⟨by have := HK1.out; have := HK2.out; have := HK3.out; have := HK4.out; omega⟩, ⟨lR qH⟩, ⟨zb qA⟩, ⟨zB HB⟩⟩
               ·rw [if_neg c124] at H
                exact absurd H (by simp)
           ·rw [if_neg c98] at H
            exact absurd H (by simp)
          ·rw [if_neg c97] at H
           exact absurd H (by simp)
       ·rw [if_neg c24] at H
        have c24b0 := decide_eq_false c24
        clear c24
        replace H := zbs H
        obtain ⟨jV, A1330, H⟩ := H
        replace H : ((code_pair.f ql jV).bind fun jW => (some (jW, 0))) = some (r1, r2) := H
        have A133 := aM A1330
        clear A1330
        replace H := zbs H
        obtain ⟨jW, A1340, H⟩ := H
        replace H : (some (jW, 0)) = some (r1, r2) := H
        have A134 := aM A1340
        clear A1340
        simp only [Option.some.injEq, Prod.mk.injEq] at H
        obtain ⟨rfl, rfl⟩ := H
        obtain ⟨ja, jb, eo135⟩ := Kd.R_slice qH.out
        subst eo135
        go_wp2_with (first | ((with_reducible refine gate_callee (f := 29) rfl ?_); refine z13_ (some 130) rfl rfl Try.func29 zk rfl #[.slice ja ql.length jb] rfl zA ?_; (with_reducible refine (code_check.calls k2 _ _ ql jV _ ?side1 ?side2 A133.out).mono ?_); (case side1 => refine lY ?_; exact (Kd.z9_ qH.out).2.2); (case side2 => exact (Kd.z9_ qH.out).2.1); rintro e w' ⟨rfl, ⟨nd, rfl⟩⟩; refine ⟨_, rfl, ?_⟩) | ((with_reducible refine gate_callee (f := 28) rfl ?_); refine z13_ (some 131) rfl rfl Try.func28 zk rfl #[.slice ja ql.length jb, .int .i64 jV] rfl zA ?_; (with_reducible refine (code_pair.calls (fun k_ => some k_ = (.slice ja ql.length jb : Value).ownBlock) (.slice ja ql.length jb) ql jV jW w _ ?side1 ?side2 A134.out).mono ?_); (case side1 => exact (zB HB)); (case side2 => exact Kd.R_tight rfl qH.out); rintro e w136 ⟨v174, rfl, ho0, hb, hkp⟩; refine ⟨_, rfl, ?_⟩; replace qA := aM (blk_kept (lK qA) hkp (fun hs_ => (fun e_ => (Kd.R_ne qH.out qA.out (by decide)) e_) hs_)); have yu := aM (Kd.z0_ (ok' := fun k_ => True) ho0 (fun k_ hk_ => trivial)); replace HB := aM (hb); clear qH; (try clear hb); (try clear hkp); (try clear ho0)))
        go_ret2
        exact ⟨_, zE, by apply rX; exact yu.out, zB HB⟩
 ·rw [if_neg c3] at H
  have c3b0 : (q5 == 0) = false := beq_eq_false_iff_ne.mpr c3
  have c3b1 : (q5 != 0) = true := bne_iff_ne.mpr c3
  simp only [Option.some.injEq, Prod.mk.injEq] at H
  obtain ⟨rfl, rfl⟩ := H
  have yS : ∀ (g_ : Nat) (W : World), Sem.run Try.prog (Instr.index 58 (.agg #[.pointer (some ⟨g_, 3, none⟩), .pointer (some ⟨g_, 7, none⟩), .pointer (some ⟨g_, 11, none⟩)]) (.int .i64 0)) W = .ok (.pointer (some ⟨g_, 3, none⟩)) W := fun _ _ => by kernel_rfl
  have yT : ∀ (g_ : Nat) (W : World), Sem.run Try.prog (Instr.index 58 (.agg #[.pointer (some ⟨g_, 3, none⟩), .pointer (some ⟨g_, 7, none⟩), .pointer (some ⟨g_, 11, none⟩)]) (.int .i64 1)) W = .ok (.pointer (some ⟨g_, 7, none⟩)) W := fun _ _ => by kernel_rfl
  have yU : ∀ (g_ : Nat) (W : World), Sem.run Try.prog (Instr.index 58 (.agg #[.pointer (some ⟨g_, 3, none⟩), .pointer (some ⟨g_, 7, none⟩), .pointer (some ⟨g_, 11, none⟩)]) (.int .i64 2)) W = .ok (.pointer (some ⟨g_, 11, none⟩)) W := fun _ _ => by kernel_rfl
  have kcB := fun (w : World) (C : Array Value) (n c : Nat) => Lib.run_convert_bytes_const (P := Try.prog) w 31 5 C n c Try.underlying31 Try.underlying5
  go_enter Try.func12, Try.ntmps12
  go_wp2_with (first | ((with_reducible refine gate_dst (N := 1) rfl ?_); refine z16_ rfl (N := 1) rfl (cs := #[.int .i64 qN, .int .i64 qO, .slice qt qG.length qu, .int .i64 qQ, .int .i64 qR, .slice qz qE.length q0, .slice q1 qM.length q2, .int .i64 qS, .int .i64 qT, .slice q3 qF.length q4, .slice qn qI.length qo, .int .i64 qK, .int .i64 qL, .slice qp qC.length qq, .slice qr qJ.length qs]) (t := 28) zG ?_; intro qD hg w137 hbox hb; have qA := aM (hbox); have ye := aM ((by rw [hg]; exact (z4_ (lB HB)) : w.heap.size ≤ qD)); have yf := aM ((by rw [hg]; exact (z4_ (lB HB)) : w.heap.size ≤ qD)); replace HB := aM (z6_ (lB HB) hb); clear hb hbox hg; have qAJ := zc15 qA.out; have qAK := fun i_ : Nat => z1_ qA.out i_) | ((with_reducible refine gate_callee (f := 20) rfl ?_); refine z13_ (some 15) rfl rfl Try.func20 zk rfl #[.agg #[.int .i64 qN, .int .i64 qO, .slice qt qG.length qu, .int .i64 qQ, .int .i64 qR, .slice qz qE.length q0, .slice q1 qM.length q2, .int .i64 qS, .int .i64 qT, .slice q3 qF.length q4, .slice qn qI.length qo, .int .i64 qK, .int .i64 qL, .slice qp qC.length qq, .slice qr qJ.length qs]] rfl zA ?_; (with_reducible refine (code_May.calls k qN qO _ _ qG qQ qR _ _ qE _ _ qM qS qT _ _ qF _ _ qI qK qL _ _ qC _ _ qJ q5 _ ?side1 ?side2 ?side3 ?side4 ?side5 ?side6 ?side7 ?side8 ?side9 ?side10 ?side11 ?side12 ?side13 ?side14 A2.out).mono ?_); (case side1 => refine lY ?_; exact (Kd.z8_ jf.out HB.out)); (case side2 => exact yK.out); (case side3 => refine lY ?_; exact (Kd.z8_ jg.out HB.out)); (case side4 => exact yL.out); (case side5 => refine lY ?_; exact (Kd.z8_ jh.out HB.out)); (case side6 => exact yM.out); (case side7 => refine lY ?_; exact (Kd.z8_ ji.out HB.out)); (case side8 => exact yN.out); (case side9 => refine lY ?_; exact (Kd.z8_ jc.out HB.out)); (case side10 => exact jt.out); (case side11 => refine lY ?_; exact (Kd.z8_ jd.out HB.out)); (case side12 => exact ju.out); (case side13 => refine lY ?_; exact (Kd.z8_ je.out HB.out)); (case side14 => exact jv.out); rintro e w139 ⟨rfl, hb⟩; refine ⟨_, rfl, ?_⟩; replace qA := aM (z5_ (g := qD) (lK qA) hb); replace HB := aM (z6_ (zB HB) hb); (try clear hb)))
  go_ret2
  exact ⟨_, zE, by first | exact Kd.R_nil _ _ _ _ _ | exact Kd.N_nil _ _ _ _ _ | exact Kd.V_nil _ _ _ _ _ | exact Kd.Q_nil _ _ _ _ _ | exact Kd.S_nil _ _ _ _ _, zB HB⟩
end Go.Proofs.Ytccbdcbeinkjgaa.XA
end
