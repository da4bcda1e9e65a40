/- Part 19 of the proof of the law CodeDecodes for every input: words, walks and plain laws. No condition. -/
import Derived.StillTailTactics
import Derived.Test.YtccbdcbeinkjgaaKCodeDecodes18
set_option linter.unusedVariables false
set_option linter.unusedSimpArgs false
set_option maxHeartbeats 8000000
set_option maxRecDepth 100000
section
namespace Go.Proofs.Ytccbdcbeinkjgaa.XA
open Go.Proofs.Ytccbdcbeinkjgaa.Lift Go.RowKit Go.Proofs.YtccbdcbeinkjgaaW.PrintWords Go.Proofs.YtccbdcbeinkjgaaW.PrintLast Go.Proofs.YtccbdcbeinkjgaaW.PrintMore
attribute [local go_sem] max2_int min2_int max_two min_two max_three min_three max_four min_four
--IMPORT Derived.StillTailTactics
mutual
def sR_Decode.l0 : Nat → List Int → Int → List Int → Int → Int → Int → Int → Int → Int → Option (Int × Int × (List (S48)) × Int × Int × (List (S63)) × List Int × Int × Int × (List (S63)) × List Int × Int × Int × (List (S63)) × List Int × Int)
 | 0, _, _, _, _, _, _, _, _, _ => none
 | k + 1, x0, x6, qS, ql, qh, jY, jZ, ja, jb => if x6 < 4 then (if x6 = 0 then ((sR_reader_next.f qS ql qh jY jY).bind fun bt1056 => (sR_Decode.l0 k x0 (0 + 1) qS bt1056.2.1 bt1056.2.2 jY jZ ja jb)) else (if x6 = 1 then ((sR_reader_next.f qS ql qh jZ jZ).bind fun bt1059 => (sR_Decode.l0 k x0 (1 + 1) qS bt1059.2.1 bt1059.2.2 jY jZ ja jb)) else (if x6 = 2 then ((sR_reader_next.f qS ql qh ja ja).bind fun bt1062 => (sR_Decode.l0 k x0 (2 + 1) qS bt1062.2.1 bt1062.2.2 jY jZ ja jb)) else (if x6 = 3 then ((sR_reader_next.f qS ql qh jb jb).bind fun bt1065 => (sR_Decode.l0 k x0 (3 + 1) qS bt1065.2.1 bt1065.2.2 jY jZ ja jb)) else (none))))) else ((sR_reader_next.f qS ql qh 1 8).bind fun bt1069 => ((sR_reader_next.f qS bt1069.2.1 bt1069.2.2 1 8).bind fun bt1072 => ((sR_reader_next.f qS bt1072.2.1 bt1072.2.2 0 255).bind fun bt1075 => (sR_Decode.l1 k x0 bt1075.1 0 qS bt1075.2.1 bt1075.2.2 bt1069.1 bt1072.1 ([] : List (S48)) 0 0 0 0 0 0))))
def sR_Decode.l1 : Nat → List Int → Int → Int → List Int → Int → Int → Int → Int → List (S48) → Int → Int → Int → Int → Int → Int → Option (Int × Int × (List (S48)) × Int × Int × (List (S63)) × List Int × Int × Int × (List (S63)) × List Int × Int × Int × (List (S63)) × List Int × Int)
 | 0, _, _, _, _, _, _, _, _, _, _, _, _, _, _, _ => none
 | k + 1, x0, x8, x9, qS, ql, qh, jA, jB, q6, jJ, jK, jL, jM, jN, jO => if x9 < x8 then (sR_Decode.j2 k x0 x8 x9 (decide (qh < 0)) qS ql qh jA jB q6 jJ jK jL jM jN jO) else (sR_Decode.j2 k x0 x8 x9 false qS ql qh jA jB q6 jJ jK jL jM jN jO)
def sR_Decode.j2 : Nat → List Int → Int → Int → Bool → List Int → Int → Int → Int → Int → List (S48) → Int → Int → Int → Int → Int → Int → Option (Int × Int × (List (S48)) × Int × Int × (List (S63)) × List Int × Int × Int × (List (S63)) × List Int × Int × Int × (List (S63)) × List Int × Int)
 | 0, _, _, _, _, _, _, _, _, _, _, _, _, _, _, _, _ => none
 | k + 1, x0, x8, x9, x45, qS, ql, qh, jA, jB, q6, jJ, jK, jL, jM, jN, jO => if x45 = true then ((sR_reader_coordinate.f k qS ql qh).bind fun bt1078 => ((sR_reader_coordinate.f k qS bt1078.2.1 bt1078.2.2).bind fun bt1081 => (if q6.length < 8796093022208 then (sR_Decode.l1 k x0 x8 (wrap64 (x9 + 1)) qS bt1081.2.1 bt1081.2.2 jA jB (q6 ++ [(⟨bt1078.1, bt1081.1⟩ : S48)]) jJ jK jL jM jN jO) else (none)))) else ((sR_reader_program.f k qS ql qh).bind fun bt1087 => ((sR_reader_program.f k qS bt1087.2.2.2.2.1 bt1087.2.2.2.2.2).bind fun bt1097 => ((sR_reader_program.f k qS bt1097.2.2.2.2.1 bt1097.2.2.2.2.2).bind fun bt1107 => (if bt1107.2.2.2.2.2 < 0 then (if 0 ≤ bt1107.2.2.2.2.1 then (if bt1107.2.2.2.2.1 ≤ (x0.length : Int) then ((sR_check.f k (x0.take (bt1107.2.2.2.2.1 : Int).toNat)).bind fun jP => ((sR_two.f jP).bind fun qL => (if 0 < (qL.length : Int) then ((sR_reader_next.f qS bt1107.2.2.2.2.1 bt1107.2.2.2.2.2 (wrap64 (rd qL 0)) (wrap64 (rd qL 0))).bind fun bt1124 => (if 1 < (qL.length : Int) then ((sR_reader_next.f qS bt1124.2.1 bt1124.2.2 (wrap64 (rd qL 1)) (wrap64 (rd qL 1))).bind fun bt1129 => (sR_Decode.j3 k x0 qS bt1129.2.1 bt1129.2.2 jA jB q6 bt1087.1 bt1087.2.1 bt1087.2.2.1 bt1087.2.2.2.1 bt1097.1 bt1097.2.1 bt1097.2.2.1 bt1097.2.2.2.1 bt1107.1 bt1107.2.1 bt1107.2.2.1 bt1107.2.2.2.1)) else (none))) else (none)))) else (none)) else (none)) else (sR_Decode.j3 k x0 qS bt1107.2.2.2.2.1 bt1107.2.2.2.2.2 jA jB q6 bt1087.1 bt1087.2.1 bt1087.2.2.1 bt1087.2.2.2.1 bt1097.1 bt1097.2.1 bt1097.2.2.1 bt1097.2.2.2.1 bt1107.1 bt1107.2.1 bt1107.2.2.1 bt1107.2.2.2.1)))))
def sR_Decode.j3 : Nat → List Int → List Int → Int → Int → Int → Int → List (S48) → Int → Int → List (S63) → List Int → Int → Int → List (S63) → List Int → Int → Int → List (S63) → List Int → Option (Int × Int × (List (S48)) × Int × Int × (List (S63)) × List Int × Int × Int × (List (S63)) × List Int × Int × Int × (List (S63)) × List Int × Int)
 | 0, _, _, _, _, _, _, _, _, _, _, _, _, _, _, _, _, _, _, _ => none
 | k + 1, x0, qS, ql, qh, jA, jB, q6, jJ, jK, jd, je, jL, jM, jf, jg, jN, jO, jh, ji => if qh < 0 then (sR_Decode.j4 k (decide (ql < (x0.length : Int))) qS ql qh jA jB q6 jJ jK jd je jL jM jf jg jN jO jh ji) else (sR_Decode.j4 k false qS ql qh jA jB q6 jJ jK jd je jL jM jf jg jN jO jh ji)
def sR_Decode.j4 : Nat → Bool → List Int → Int → Int → Int → Int → List (S48) → Int → Int → List (S63) → List Int → Int → Int → List (S63) → List Int → Int → Int → List (S63) → List Int → Option (Int × Int × (List (S48)) × Int × Int × (List (S63)) × List Int × Int × Int × (List (S63)) × List Int × Int × Int × (List (S63)) × List Int × Int)
 | 0, _, _, _, _, _, _, _, _, _, _, _, _, _, _, _, _, _, _, _ => none
 | k + 1, yY, qS, ql, qh, jA, jB, q6, jJ, jK, jd, je, jL, jM, jf, jg, jN, jO, jh, ji => if yY = true then (if ql ≥ 0 then (some (0, 0, ([] : List (S48)), 0, 0, ([] : List (S63)), ([] : List Int), 0, 0, ([] : List (S63)), ([] : List Int), 0, 0, ([] : List (S63)), ([] : List Int), ql)) else (some (jA, jB, q6, jJ, jK, jd, je, jL, jM, jf, jg, jN, jO, jh, ji, (-1)))) else (if qh ≥ 0 then (some (0, 0, ([] : List (S48)), 0, 0, ([] : List (S63)), ([] : List Int), 0, 0, ([] : List (S63)), ([] : List Int), 0, 0, ([] : List (S63)), ([] : List Int), qh)) else (some (jA, jB, q6, jJ, jK, jd, je, jL, jM, jf, jg, jN, jO, jh, ji, (-1))))
end
def sR_Decode.f (k : Nat) (l0 : List Int) : Option (Int × Int × (List (S48)) × Int × Int × (List (S63)) × List Int × Int × Int × (List (S63)) × List Int × Int × Int × (List (S63)) × List Int × Int) := (sR_newreader.f l0).bind fun bt1051 => (sR_Decode.l0 k l0 0 bt1051.1 bt1051.2.1 bt1051.2.2 65 78 86 49)
theorem sR_Decode.mono_l : ∀ k, (∀ y0 y1 y2 y3 y4 y5 y6 y7 y8, LeO (sR_Decode.l0 k y0 y1 y2 y3 y4 y5 y6 y7 y8) (sR_Decode.l0 (k + 1) y0 y1 y2 y3 y4 y5 y6 y7 y8)) ∧ (∀ y0 y1 y2 y3 y4 y5 y6 y7 y8 y9 y10 y11 y12 y13 y14, LeO (sR_Decode.l1 k y0 y1 y2 y3 y4 y5 y6 y7 y8 y9 y10 y11 y12 y13 y14) (sR_Decode.l1 (k + 1) y0 y1 y2 y3 y4 y5 y6 y7 y8 y9 y10 y11 y12 y13 y14)) ∧ (∀ y0 y1 y2 y3 y4 y5 y6 y7 y8 y9 y10 y11 y12 y13 y14 y15, LeO (sR_Decode.j2 k y0 y1 y2 y3 y4 y5 y6 y7 y8 y9 y10 y11 y12 y13 y14 y15) (sR_Decode.j2 (k + 1) y0 y1 y2 y3 y4 y5 y6 y7 y8 y9 y10 y11 y12 y13 y14 y15)) ∧ (∀ y0 y1 y2 y3 y4 y5 y6 y7 y8 y9 y10 y11 y12 y13 y14 y15 y16 y17 y18, LeO (sR_Decode.j3 k y0 y1 y2 y3 y4 y5 y6 y7 y8 y9 y10 y11 y12 y13 y14 y15 y16 y17 y18) (sR_Decode.j3 (k + 1) y0 y1 y2 y3 y4 y5 y6 y7 y8 y9 y10 y11 y12 y13 y14 y15 y16 y17 y18)) ∧ (∀ y0 y1 y2 y3 y4 y5 y6 y7 y8 y9 y10 y11 y12 y13 y14 y15 y16 y17 y18, LeO (sR_Decode.j4 k y0 y1 y2 y3 y4 y5 y6 y7 y8 y9 y10 y11 y12 y13 y14 y15 y16 y17 y18) (sR_Decode.j4 (k + 1) y0 y1 y2 y3 y4 y5 y6 y7 y8 y9 y10 y11 y12 y13 y14 y15 y16 y17 y18))
 | 0 => ⟨fun _ _ _ _ _ _ _ _ _ r h => by simp [sR_Decode.l0] at h, fun _ _ _ _ _ _ _ _ _ _ _ _ _ _ _ r h => by simp [sR_Decode.l1] at h, fun _ _ _ _ _ _ _ _ _ _ _ _ _ _ _ _ r h => by simp [sR_Decode.j2] at h, fun _ _ _ _ _ _ _ _ _ _ _ _ _ _ _ _ _ _ _ r h => by simp [sR_Decode.j3] at h, fun _ _ _ _ _ _ _ _ _ _ _ _ _ _ _ _ _ _ _ r h => by simp [sR_Decode.j4] at h⟩
 | k + 1 => by
  obtain ⟨ih0, ih1, ih2, ih3, ih4⟩ := sR_Decode.mono_l k
  refine ⟨?_, ?_, ?_, ?_, ?_⟩
  ·intro y0 y1 y2 y3 y4 y5 y6 y7 y8
   unfold sR_Decode.l0
   have im0 := @sR_check.mono; have im1 := @sR_reader_coordinate.mono; have im2 := @sR_reader_program.mono; exact zM
  ·intro y0 y1 y2 y3 y4 y5 y6 y7 y8 y9 y10 y11 y12 y13 y14
   unfold sR_Decode.l1
   have im0 := @sR_check.mono; have im1 := @sR_reader_coordinate.mono; have im2 := @sR_reader_program.mono; exact zM
  ·intro y0 y1 y2 y3 y4 y5 y6 y7 y8 y9 y10 y11 y12 y13 y14 y15
   unfold sR_Decode.j2
   have im0 := @sR_check.mono; have im1 := @sR_reader_coordinate.mono; have im2 := @sR_reader_program.mono; exact zM
  ·intro y0 y1 y2 y3 y4 y5 y6 y7 y8 y9 y10 y11 y12 y13 y14 y15 y16 y17 y18
   unfold sR_Decode.j3
   have im0 := @sR_check.mono; have im1 := @sR_reader_coordinate.mono; have im2 := @sR_reader_program.mono; exact zM
  ·intro y0 y1 y2 y3 y4 y5 y6 y7 y8 y9 y10 y11 y12 y13 y14 y15 y16 y17 y18
   unfold sR_Decode.j4
   have im0 := @sR_check.mono; have im1 := @sR_reader_coordinate.mono; have im2 := @sR_reader_program.mono; exact zM
theorem sR_Decode.mono : ∀ a0 k, LeO (sR_Decode.f k a0) (sR_Decode.f (k + 1) a0) := by
 intro a0 k
 obtain ⟨ih0, ih1, ih2, ih3, ih4⟩ := sR_Decode.mono_l k
 unfold sR_Decode.f
 have im0 := @sR_check.mono; have im1 := @sR_reader_coordinate.mono; have im2 := @sR_reader_program.mono; exact zM
def sR_Decode.T15 : Bool × List (List Nat × List Nat) := (true, [([], []), ([0], [0]), ([], []), ([], []), ([3], [3]), ([2, 4], [2, 4]), ([5], [5]), ([1, 6, 4], [1, 6]), ([0, 1, 2, 3, 4, 5, 6, 7], []), ([8, 7, 7, 0, 1, 2, 3, 4, 5, 6, 7], [7, 8])])
def sR_Decode.B15 : List Nat := [0, 1, 0, 0, 8, 28, 60, 127, 255, 511]
theorem sR_Decode.tab15 : rtab .any (opsOf Try.f24 15) = sR_Decode.T15 := by kernel_rfl
theorem sR_Decode.bits15 : waitsOk sR_Decode.T15.2 sR_Decode.B15 = true := by kernel_rfl
def sR_Decode.T21 : Bool × List (List Nat × List Nat) := (true, [([], []), ([], []), ([1], [1]), ([2], [2]), ([3], [3]), ([], []), ([5], [5]), ([6], [6]), ([7], [7]), ([0, 4, 8], [0, 4, 8])])
def sR_Decode.B21 : List Nat := [0, 0, 2, 6, 14, 0, 32, 96, 224, 511]
theorem sR_Decode.tab21 : rtab .any (opsOf Try.f24 21) = sR_Decode.T21 := by kernel_rfl
theorem sR_Decode.bits21 : waitsOk sR_Decode.T21.2 sR_Decode.B21 = true := by kernel_rfl
def sR_Decode.T22 : Bool × List (List Nat × List Nat) := (true, [([], []), ([], []), ([1], [1]), ([2], [2]), ([3], [3]), ([], []), ([5], [5]), ([6], [6]), ([7], [7]), ([0, 4, 8], [0, 4, 8])])
def sR_Decode.B22 : List Nat := [0, 0, 2, 6, 14, 0, 32, 96, 224, 511]
theorem sR_Decode.tab22 : rtab .any (opsOf Try.f24 22) = sR_Decode.T22 := by kernel_rfl
theorem sR_Decode.bits22 : waitsOk sR_Decode.T22.2 sR_Decode.B22 = true := by kernel_rfl
set_option maxHeartbeats 80000000 in
theorem sR_Decode.calls (k : Nat) (A0 : Option Addr) (c0 : Nat) (l0 : List Int) (r1 : Int) (r2 : Int) (r3 : List (S48)) (r4 : Int) (r5 : Int) (r6 : List (S63)) (r7 : List Int) (r8 : Int) (r9 : Int) (r10 : List (S63)) (r11 : List Int) (r12 : Int) (r13 : Int) (r14 : List (S63)) (r15 : List Int) (r16 : Int) (w : World) (hr0 : Kd.C (Kd.int .u8) w A0 l0.length l0) (hc0 : l0.length ≤ c0) (h : sR_Decode.f k l0 = some (r1, r2, r3, r4, r5, r6, r7, r8, r9, r10, r11, r12, r13, r14, r15, r16)) :
  Calls Try.prog 24 #[.slice A0 l0.length c0] w fun e w' => ∃ v2_ v5_ v6_ v9_ v10_ v13_ v14_ : Value, e = .returned (.tuple #[.agg #[.int .i64 r1, .int .i64 r2, v2_, .int .i64 r4, .int .i64 r5, v5_, v6_, .int .i64 r8, .int .i64 r9, v9_, v10_, .int .i64 r12, .int .i64 r13, v13_, v14_], .int .i64 r16]) ∧ Kd.R k48 48 w' w.heap.size (fun _ => True) v2_ r3 ∧ Kd.R k63 63 w' w.heap.size (fun k_ => some k_ ≠ (v9_ : Value).ownBlock ∧ some k_ ≠ (v13_ : Value).ownBlock) v5_ r6 ∧ Kd.R (Kd.int .i64) 3 w' w.heap.size (fun k_ => some k_ ≠ (v10_ : Value).ownBlock ∧ some k_ ≠ (v14_ : Value).ownBlock) v6_ r7 ∧ Kd.R k63 63 w' w.heap.size (fun k_ => some k_ ≠ (v5_ : Value).ownBlock ∧ some k_ ≠ (v13_ : Value).ownBlock) v9_ r10 ∧ Kd.R (Kd.int .i64) 3 w' w.heap.size (fun k_ => some k_ ≠ (v6_ : Value).ownBlock ∧ some k_ ≠ (v14_ : Value).ownBlock) v10_ r11 ∧ Kd.R k63 63 w' w.heap.size (fun k_ => some k_ ≠ (v5_ : Value).ownBlock ∧ some k_ ≠ (v9_ : Value).ownBlock) v13_ r14 ∧ Kd.R (Kd.int .i64) 3 w' w.heap.size (fun k_ => some k_ ≠ (v6_ : Value).ownBlock ∧ some k_ ≠ (v10_ : Value).ownBlock) v14_ r15 ∧ Below w.heap.size w w' := by
 have hu84 := Try.underlying84
 have hu28 := Try.underlying28
 have hu85 := Try.underlying85
 have hu48 := Try.underlying48
 have hu26 := Try.underlying26
 have HR0 := aM hr0
 have HC0 := aM hc0
 clear hr0 hc0
 have HB := aM (Below.refl w.heap.size w)
 have H : ((sR_newreader.f l0).bind fun bt1051 => (sR_Decode.l0 k l0 0 bt1051.1 bt1051.2.1 bt1051.2.2 65 78 86 49)) = some (r1, r2, r3, r4, r5, r6, r7, r8, r9, r10, r11, r12, r13, r14, r15, r16) := h
 clear h
 replace H := zbs H
 obtain ⟨⟨qD, js, jt⟩, A20, H⟩ := H
 replace H : (sR_Decode.l0 k l0 0 qD js jt 65 78 86 49) = some (r1, r2, r3, r4, r5, r6, r7, r8, r9, r10, r11, r12, r13, r14, r15, r16) := H
 have A2 := aM A20
 clear A20
 have H' := aM H
 clear H
 go_enter Try.func24, Try.ntmps24
 go_wp2_with (first | ((with_reducible refine gate_dst (N := 2) rfl ?_); (try (refine gate_guard (by rfl) ?_; dsimp only)); refine z16_ rfl (N := 2) rfl (cs := #[.int .i64 0, .int .i64 0, .slice none 0 0, .int .i64 0, .int .i64 0, .slice none 0 0, .slice none 0 0, .int .i64 0, .int .i64 0, .slice none 0 0, .slice none 0 0, .int .i64 0, .int .i64 0, .slice none 0 0, .slice none 0 0]) (t := 28) zG ?_; intro qG hg w3 hbox hb; have qA := aM (hbox); have qCu := aM ((by rw [hg]; exact (z4_ (lB HB)) : w.heap.size ≤ qG)); have qCv := aM ((by rw [hg]; exact (z4_ (lB HB)) : w.heap.size ≤ qG)); replace HB := aM (z6_ (lB HB) hb); clear hb hbox hg) | ((with_reducible refine gate_dst (N := 14) rfl ?_); (try (refine gate_guard (by rfl) ?_; dsimp only)); refine z16_ rfl (N := 14) rfl (cs := #[.slice A0 l0.length c0, .int .i64 0, .int .i64 (-1)]) (t := 84) zG ?_; intro g1054 hg w4 hbox hb2; have hi : I8 w w4 g1054 qD js jt := sR_newreader.is A2.out ⟨A0, c0, hbox, (by rw [hg]; exact z4_ (zBv HB)), HR0.out⟩; have hb := z6_ (zBv HB) hb2; clear hbox hg; replace HB := aM (hb); have qB := aM (hi); have qV := aM (I8.ne_blk hi (z5_ (g := qG) (lK qA) hb2) (by decide)); have qb := aM (Ne.symm (I8.ne_blk hi (z5_ (g := qG) (lK qA) hb2) (by decide))); replace qA := aM (z5_ (g := qG) (lK qA) hb2); (try clear hb); (try clear hb2); (try clear hi)) | ((with_reducible refine gate_dst (N := 5) rfl ?_); (try (refine gate_guard (by rfl) ?_; dsimp only)); refine z16_ rfl (N := 5) rfl (cs := #[.int .i64 0, .int .i64 0, .int .i64 0, .int .i64 0]) (t := 85) zG ?_; intro qa hg w5 hbox hb; have qF := aM (hbox); have qCw := aM ((by rw [hg]; exact (z4_ (zBv HB)) : w.heap.size ≤ qa)); have qCx := aM ((by rw [hg]; exact (z4_ (zBv HB)) : w.heap.size ≤ qa)); replace HB := aM (z6_ (zBv HB) hb); have qH := aM ((by rw [hg]; exact Nat.ne_of_lt (z19_ (g := qG) (lK qA)) : qG ≠ qa)); have qI := aM ((by rw [hg]; exact Nat.ne_of_gt (z19_ (g := qG) (lK qA)) : qa ≠ qG)); replace qA := aM (z5_ (g := qG) (lK qA) hb); have qW := aM ((by rw [hg]; exact Nat.ne_of_lt (I8.lt (show I8 w _ g1054 qD js jt from zSv qB)) : g1054 ≠ qa)); have qX := aM ((by rw [hg]; exact Nat.ne_of_gt (I8.lt (show I8 w _ g1054 qD js jt from zSv qB)) : qa ≠ g1054)); replace qB := aM (I8.below (zSv qB) hb); clear hb hbox hg; have qEn := qI.out; have qEo := qH.out; have qEp := qX.out; have qEq := qW.out; have qCy := zc4 qF.out; have qCz := fun i_ : Nat => z1_ qF.out i_))
 go_loopg [6] k (fun kq v6 w' => ∃ (jn : Int) (q7 : Int) (q8 : Int), v6 = .int .i64 jn ∧ Aside0 (sR_Decode.l0 kq l0 jn qD q7 q8 65 78 86 49 = some (r1, r2, r3, r4, r5, r6, r7, r8, r9, r10, r11, r12, r13, r14, r15, r16)) ∧ Aside0 (kq ≤ k) ∧ Aside0 (w'.heap[qG]? = some (.cells #[.int .i64 0, .int .i64 0, (.slice none 0 0), .int .i64 0, .int .i64 0, (.slice none 0 0), (.slice none 0 0), .int .i64 0, .int .i64 0, (.slice none 0 0), (.slice none 0 0), .int .i64 0, .int .i64 0, (.slice none 0 0), (.slice none 0 0)] 28 (0, 0))) ∧ Aside0 (w'.heap[qa]? = some (.cells #[.int .i64 65, .int .i64 78, .int .i64 86, .int .i64 49] 85 (0, 0))) ∧ Aside0 (I8 w w' g1054 qD q7 q8) ∧ Aside0 (Below w.heap.size w w'))
 case atStart => exact ⟨(0), (js), (jt), zT, H', ⟨Nat.le_refl _⟩, ⟨zb qA⟩, ⟨by refine lZ ?_; refine blk_put (cs := #[.int .i64 65, .int .i64 78, .int .i64 86, .int .i64 0]) ?_ 3 _ rfl; refine lZ ?_; refine blk_put (cs := #[.int .i64 65, .int .i64 78, .int .i64 0, .int .i64 0]) ?_ 2 _ rfl; refine lZ ?_; refine blk_put (cs := #[.int .i64 65, .int .i64 0, .int .i64 0, .int .i64 0]) ?_ 1 _ rfl; refine lZ ?_; refine blk_put (cs := #[.int .i64 0, .int .i64 0, .int .i64 0, .int .i64 0]) ?_ 0 _ rfl; refine lZ ?_; exact qF.out⟩, ⟨zSv qB⟩, ⟨zBv HB⟩⟩
 case round =>
  clear H'
  obtain ⟨jn, q7, q8, rfl, HA, HK1, qA, qF, qB, HB⟩ := hrel
  cases gk with
  | zero => exact absurd HA.out (by simp [sR_Decode.l0])
  | succ k1 =>
   have H := HA.out
   clear HA
   simp only [sR_Decode.l0] at H
   by_cases c9 : jn < 4
   ·rw [if_pos c9] at H
    have c9b0 := decide_eq_true c9
    clear c9
    by_cases c10 : jn = 0
    ·rw [if_pos c10] at H
     (first | rw [c10] | skip)
     replace H := zbs H
     obtain ⟨⟨yO, jz, j0⟩, A110, H⟩ := H
     replace H : (sR_Decode.l0 k1 l0 (0 + 1) qD jz j0 65 78 86 49) = some (r1, r2, r3, r4, r5, r6, r7, r8, r9, r10, r11, r12, r13, r14, r15, r16) := H
     have A11 := aM A110
     clear A110
     have H' := aM H
     clear H
     have qDq := qI.out
     have qDr := qH.out
     have qDs := qX.out
     have qDt := qW.out
     have qB9 := zc4 qF.out
     have qCA := fun i_ : Nat => z1_ qF.out i_
     go_wp2
     go_still_tail 7, zk
     (first | change wpList _ _ _ _ _ (World.drew wr) | skip)
     go_wp2_with (first | ((with_reducible refine gate_callee (f := 45) rfl ?_); refine z13_ (some 27) rfl rfl Try.func45 zk rfl #[.pointer (some ⟨g1054, 0, none⟩), .int .i64 65, .int .i64 65] rfl zA ?_; (with_reducible refine (sR_reader_next.calls g1054 qD q7 q8 65 65 yO jz j0 w _ ?side1 ?side2 A11.out).mono ?_); (case side1 => repeat (first | (with_reducible first | exact qB.out | apply I8.alloc | apply I8.drewN | apply I8.drew | apply I8.set_1 | apply I8.set_2 | refine I8.far ?_ qV.out _ | refine I8.far ?_ qW.out _) | exact qB.out)); (case side2 => exact (zBv HB)); rintro e w15 ⟨rfl, hi, hb, hk⟩; refine ⟨_, rfl, ?_⟩; replace qA := aM (KeepBut.blk hk (g' := qG) (lK qA) qb.out (by simp)); replace qF := aM (KeepBut.blk hk (g' := qa) (lK qF) qX.out (by simp)); replace HB := aM (hb); replace qB := aM (hi); (try clear hb); (try clear hk); (try clear hi)))
     go_roundg k1
     case measure => have := HK1.out; omega
     case rel => exact ⟨(0 + 1), (jz), (j0), zT, H', ⟨by have := HK1.out; omega⟩, ⟨zb qA⟩, ⟨zb qF⟩, ⟨zSv qB⟩, ⟨zBv HB⟩⟩
    ·rw [if_neg c10] at H
     by_cases c16 : jn = 1
     ·rw [if_pos c16] at H
      (first | rw [c16] | skip)
      replace H := zbs H
      obtain ⟨⟨yP, j1, j5⟩, A170, H⟩ := H
      replace H : (sR_Decode.l0 k1 l0 (1 + 1) qD j1 j5 65 78 86 49) = some (r1, r2, r3, r4, r5, r6, r7, r8, r9, r10, r11, r12, r13, r14, r15, r16) := H
      have A17 := aM A170
      clear A170
      have H' := aM H
      clear H
      have qDu := qI.out
      have qDv := qH.out
      have qDw := qX.out
      have qDx := qW.out
      have qCB := zc4 qF.out
      have qCC := fun i_ : Nat => z1_ qF.out i_
      go_wp2
      go_still_tail 7, zk
      (first | change wpList _ _ _ _ _ (World.drew wr) | skip)
      go_wp2_with (first | ((with_reducible refine gate_callee (f := 45) rfl ?_); refine z13_ (some 27) rfl rfl Try.func45 zk rfl #[.pointer (some ⟨g1054, 0, none⟩), .int .i64 78, .int .i64 78] rfl zA ?_; (with_reducible refine (sR_reader_next.calls g1054 qD q7 q8 78 78 yP j1 j5 w _ ?side1 ?side2 A17.out).mono ?_); (case side1 => repeat (first | (with_reducible first | exact qB.out | apply I8.alloc | apply I8.drewN | apply I8.drew | apply I8.set_1 | apply I8.set_2 | refine I8.far ?_ qV.out _ | refine I8.far ?_ qW.out _) | exact qB.out)); (case side2 => exact (zBv HB)); rintro e w21 ⟨rfl, hi, hb, hk⟩; refine ⟨_, rfl, ?_⟩; replace qA := aM (KeepBut.blk hk (g' := qG) (lK qA) qb.out (by simp)); replace qF := aM (KeepBut.blk hk (g' := qa) (lK qF) qX.out (by simp)); replace HB := aM (hb); replace qB := aM (hi); (try clear hb); (try clear hk); (try clear hi)))
      go_roundg k1
      case measure => have := HK1.out; omega
      case rel => exact ⟨(1 + 1), (j1), (j5), zT, H', ⟨by have := HK1.out; omega⟩, ⟨zb qA⟩, ⟨zb qF⟩, ⟨zSv qB⟩, ⟨zBv HB⟩⟩
     ·rw [if_neg c16] at H
      by_cases c22 : jn = 2
      ·rw [if_pos c22] at H
       (first | rw [c22] | skip)
       replace H := zbs H
       obtain ⟨⟨yQ, j6, j7⟩, A230, H⟩ := H
       replace H : (sR_Decode.l0 k1 l0 (2 + 1) qD j6 j7 65 78 86 49) = some (r1, r2, r3, r4, r5, r6, r7, r8, r9, r10, r11, r12, r13, r14, r15, r16) := H
       have A23 := aM A230
       clear A230
       have H' := aM H
       clear H
       have qDy := qI.out
       have qDz := qH.out
       have qD0 := qX.out
       have qD1 := qW.out
       have qCD := zc4 qF.out
       have qCE := fun i_ : Nat => z1_ qF.out i_
       go_wp2
       go_still_tail 7, zk
       (first | change wpList _ _ _ _ _ (World.drew wr) | skip)
       go_wp2_with (first | ((with_reducible refine gate_callee (f := 45) rfl ?_); refine z13_ (some 27) rfl rfl Try.func45 zk rfl #[.pointer (some ⟨g1054, 0, none⟩), .int .i64 86, .int .i64 86] rfl zA ?_; (with_reducible refine (sR_reader_next.calls g1054 qD q7 q8 86 86 yQ j6 j7 w _ ?side1 ?side2 A23.out).mono ?_); (case side1 => repeat (first | (with_reducible first | exact qB.out | apply I8.alloc | apply I8.drewN | apply I8.drew | apply I8.set_1 | apply I8.set_2 | refine I8.far ?_ qV.out _ | refine I8.far ?_ qW.out _) | exact qB.out)); (case side2 => exact (zBv HB)); rintro e w27 ⟨rfl, hi, hb, hk⟩; refine ⟨_, rfl, ?_⟩; replace qA := aM (KeepBut.blk hk (g' := qG) (lK qA) qb.out (by simp)); replace qF := aM (KeepBut.blk hk (g' := qa) (lK qF) qX.out (by simp)); replace HB := aM (hb); replace qB := aM (hi); (try clear hb); (try clear hk); (try clear hi)))
       go_roundg k1
       case measure => have := HK1.out; omega
       case rel => exact ⟨(2 + 1), (j6), (j7), zT, H', ⟨by have := HK1.out; omega⟩, ⟨zb qA⟩, ⟨zb qF⟩, ⟨zSv qB⟩, ⟨zBv HB⟩⟩
      ·rw [if_neg c22] at H
       by_cases c28 : jn = 3
       ·rw [if_pos c28] at H
        (first | rw [c28] | skip)
        replace H := zbs H
        obtain ⟨⟨yR, j8, j9⟩, A290, H⟩ := H
        replace H : (sR_Decode.l0 k1 l0 (3 + 1) qD j8 j9 65 78 86 49) = some (r1, r2, r3, r4, r5, r6, r7, r8, r9, r10, r11, r12, r13, r14, r15, r16) := H
        have A29 := aM A290
        clear A290
        have H' := aM H
        clear H
        have qD2 := qI.out
        have qD3 := qH.out
        have qD4 := qX.out
        have qD5 := qW.out
        have qCF := zc4 qF.out
        have qCG := fun i_ : Nat => z1_ qF.out i_
        go_wp2
        go_still_tail 7, zk
        (first | change wpList _ _ _ _ _ (World.drew wr) | skip)
        go_wp2_with (first | ((with_reducible refine gate_callee (f := 45) rfl ?_); refine z13_ (some 27) rfl rfl Try.func45 zk rfl #[.pointer (some ⟨g1054, 0, none⟩), .int .i64 49, .int .i64 49] rfl zA ?_; (with_reducible refine (sR_reader_next.calls g1054 qD q7 q8 49 49 yR j8 j9 w _ ?side1 ?side2 A29.out).mono ?_); (case side1 => repeat (first | (with_reducible first | exact qB.out | apply I8.alloc | apply I8.drewN | apply I8.drew | apply I8.set_1 | apply I8.set_2 | refine I8.far ?_ qV.out _ | refine I8.far ?_ qW.out _) | exact qB.out)); (case side2 => exact (zBv HB)); rintro e w33 ⟨rfl, hi, hb, hk⟩; refine ⟨_, rfl, ?_⟩; replace qA := aM (KeepBut.blk hk (g' := qG) (lK qA) qb.out (by simp)); replace qF := aM (KeepBut.blk hk (g' := qa) (lK qF) qX.out (by simp)); replace HB := aM (hb); replace qB := aM (hi); (try clear hb); (try clear hk); (try clear hi)))
        go_roundg k1
        case measure => have := HK1.out; omega
        case rel => exact ⟨(3 + 1), (j8), (j9), zT, H', ⟨by have := HK1.out; omega⟩, ⟨zb qA⟩, ⟨zb qF⟩, ⟨zSv qB⟩, ⟨zBv HB⟩⟩
       ·rw [if_neg c28] at H
        exact absurd H (by simp)
   ·rw [if_neg c9] at H
    have c9b0 := decide_eq_false c9
    clear c9
    replace H := zbs H
    obtain ⟨⟨qO, yA, yB⟩, A340, H⟩ := H
    replace H : ((sR_reader_next.f qD yA yB 1 8).bind fun bt1072 => ((sR_reader_next.f qD bt1072.2.1 bt1072.2.2 0 255).bind fun bt1075 => (sR_Decode.l1 k1 l0 bt1075.1 0 qD bt1075.2.1 bt1075.2.2 qO bt1072.1 ([] : List (S48)) 0 0 0 0 0 0))) = some (r1, r2, r3, r4, r5, r6, r7, r8, r9, r10, r11, r12, r13, r14, r15, r16) := H
    have A34 := aM A340
    clear A340
    replace H := zbs H
    obtain ⟨⟨qQ, yC, yD⟩, A350, H⟩ := H
    replace H : ((sR_reader_next.f qD yC yD 0 255).bind fun bt1075 => (sR_Decode.l1 k1 l0 bt1075.1 0 qD bt1075.2.1 bt1075.2.2 qO qQ ([] : List (S48)) 0 0 0 0 0 0)) = some (r1, r2, r3, r4, r5, r6, r7, r8, r9, r10, r11, r12, r13, r14, r15, r16) := H
    have A35 := aM A350
    clear A350
    replace H := zbs H
    obtain ⟨⟨jc, yE, yF⟩, A360, H⟩ := H
    replace H : (sR_Decode.l1 k1 l0 jc 0 qD yE yF qO qQ ([] : List (S48)) 0 0 0 0 0 0) = some (r1, r2, r3, r4, r5, r6, r7, r8, r9, r10, r11, r12, r13, r14, r15, r16) := H
    have A36 := aM A360
    clear A360
    have H' := aM H
    clear H
    go_wp2_with (first | ((with_reducible refine gate_dst (N := 7) rfl ?_); (try (refine gate_guard (by rfl) ?_; dsimp only)); refine z16_ rfl (N := 7) rfl (cs := #[.int .i64 0, .int .i64 0, .slice none 0 0, .int .i64 0, .int .i64 0, .slice none 0 0, .slice none 0 0, .int .i64 0, .int .i64 0, .slice none 0 0, .slice none 0 0, .int .i64 0, .int .i64 0, .slice none 0 0, .slice none 0 0]) (t := 28) zG ?_; intro qR hg w37 hbox hb; have qC := aM (hbox); have qC0 := aM ((by rw [hg]; exact (z4_ (zBv HB)) : w.heap.size ≤ qR)); have qC1 := aM ((by rw [hg]; exact (z4_ (zBv HB)) : w.heap.size ≤ qR)); replace HB := aM (z6_ (zBv HB) hb); have qJ := aM ((by rw [hg]; exact Nat.ne_of_lt (z19_ (g := qG) (lK qA)) : qG ≠ qR)); have qK := aM ((by rw [hg]; exact Nat.ne_of_gt (z19_ (g := qG) (lK qA)) : qR ≠ qG)); replace qA := aM (z5_ (g := qG) (lK qA) hb); have jS := aM ((by rw [hg]; exact Nat.ne_of_lt (z19_ (g := qa) (lK qF)) : qa ≠ qR)); have jT := aM ((by rw [hg]; exact Nat.ne_of_gt (z19_ (g := qa) (lK qF)) : qR ≠ qa)); replace qF := aM (z5_ (g := qa) (lK qF) hb); have qf := aM ((by rw [hg]; exact Nat.ne_of_lt (I8.lt (show I8 w _ g1054 qD q7 q8 from zSv qB)) : g1054 ≠ qR)); have qg := aM ((by rw [hg]; exact Nat.ne_of_gt (I8.lt (show I8 w _ g1054 qD q7 q8 from zSv qB)) : qR ≠ g1054)); replace qB := aM (I8.below (zSv qB) hb); clear hb hbox hg) | ((with_reducible refine gate_callee (f := 45) rfl ?_); refine z13_ (some 29) rfl rfl Try.func45 zk rfl #[.pointer (some ⟨g1054, 0, none⟩), .int .i64 1, .int .i64 8] rfl zA ?_; (with_reducible refine (sR_reader_next.calls g1054 qD q7 q8 1 8 qO yA yB w _ ?side1 ?side2 A34.out).mono ?_); (case side1 => repeat (first | (with_reducible first | exact qB.out | apply I8.alloc | apply I8.drewN | apply I8.drew | apply I8.set_1 | apply I8.set_2 | refine I8.far ?_ qV.out _ | refine I8.far ?_ qW.out _ | refine I8.far ?_ qf.out _) | exact qB.out)); (case side2 => exact (zBv HB)); rintro e w38 ⟨rfl, hi, hb, hk⟩; refine ⟨_, rfl, ?_⟩; replace qA := aM (KeepBut.blk hk (g' := qG) (lK qA) qb.out (by simp)); replace qF := aM (KeepBut.blk hk (g' := qa) (lK qF) qX.out (by simp)); replace qC := aM (KeepBut.blk hk (g' := qR) (lK qC) qg.out (by simp)); replace HB := aM (hb); replace qB := aM (hi); (try clear hb); (try clear hk); (try clear hi); have qD6 := qK.out; have qD7 := qJ.out; have qD8 := jT.out; have qD9 := jS.out; have qEA := qg.out; have qEB := qf.out; have qCH := zc15 qC.out; have qCI := fun i_ : Nat => z1_ qC.out i_) | ((with_reducible refine gate_callee (f := 45) rfl ?_); refine z13_ (some 32) rfl rfl Try.func45 zk rfl #[.pointer (some ⟨g1054, 0, none⟩), .int .i64 1, .int .i64 8] rfl zA ?_; (with_reducible refine (sR_reader_next.calls g1054 qD yA yB 1 8 qQ yC yD w _ ?side1 ?side2 A35.out).mono ?_); (case side1 => repeat (first | (with_reducible first | exact qB.out | apply I8.alloc | apply I8.drewN | apply I8.drew | apply I8.set_1 | apply I8.set_2 | refine I8.far ?_ qV.out _ | refine I8.far ?_ qW.out _ | refine I8.far ?_ qf.out _) | exact qB.out)); (case side2 => exact (zBv HB)); rintro e w43 ⟨rfl, hi, hb, hk⟩; refine ⟨_, rfl, ?_⟩; replace qA := aM (KeepBut.blk hk (g' := qG) (zb qA) qb.out (by simp)); replace qF := aM (KeepBut.blk hk (g' := qa) (zb qF) qX.out (by simp)); replace qC := aM (KeepBut.blk hk (g' := qR) (o := .cells #[.int .i64 qO, .int .i64 0, .slice none 0 0, .int .i64 0, .int .i64 0, .slice none 0 0, .slice none 0 0, .int .i64 0, .int .i64 0, .slice none 0 0, .slice none 0 0, .int .i64 0, .int .i64 0, .slice none 0 0, .slice none 0 0] 28 (0, 0)) (by refine lZ ?_; refine blk_put (cs := #[.int .i64 0, .int .i64 0, .slice none 0 0, .int .i64 0, .int .i64 0, .slice none 0 0, .slice none 0 0, .int .i64 0, .int .i64 0, .slice none 0 0, .slice none 0 0, .int .i64 0, .int .i64 0, .slice none 0 0, .slice none 0 0]) ?_ 0 _ rfl; refine lZ ?_; exact qC.out) qg.out (by simp)); replace HB := aM (hb); replace qB := aM (hi); (try clear hb); (try clear hk); (try clear hi); have qCJ := zc15 qC.out; have qCK := fun i_ : Nat => z1_ qC.out i_) | ((with_reducible refine gate_callee (f := 45) rfl ?_); refine z13_ (some 35) rfl rfl Try.func45 zk rfl #[.pointer (some ⟨g1054, 0, none⟩), .int .i64 0, .int .i64 255] rfl zA ?_; (with_reducible refine (sR_reader_next.calls g1054 qD yC yD 0 255 jc yE yF w _ ?side1 ?side2 A36.out).mono ?_); (case side1 => repeat (first | (with_reducible first | exact qB.out | apply I8.alloc | apply I8.drewN | apply I8.drew | apply I8.set_1 | apply I8.set_2 | refine I8.far ?_ qV.out _ | refine I8.far ?_ qW.out _ | refine I8.far ?_ qf.out _) | exact qB.out)); (case side2 => exact (zBv HB)); rintro e w45 ⟨rfl, hi, hb, hk⟩; refine ⟨_, rfl, ?_⟩; replace qA := aM (KeepBut.blk hk (g' := qG) (zb qA) qb.out (by simp)); replace qF := aM (KeepBut.blk hk (g' := qa) (zb qF) qX.out (by simp)); replace qC := aM (KeepBut.blk hk (g' := qR) (o := .cells #[.int .i64 qO, .int .i64 qQ, .slice none 0 0, .int .i64 0, .int .i64 0, .slice none 0 0, .slice none 0 0, .int .i64 0, .int .i64 0, .slice none 0 0, .slice none 0 0, .int .i64 0, .int .i64 0, .slice none 0 0, .slice none 0 0] 28 (0, 0)) (by refine lZ ?_; refine blk_put (cs := #[.int .i64 qO, .int .i64 0, .slice none 0 0, .int .i64 0, .int .i64 0, .slice none 0 0, .slice none 0 0, .int .i64 0, .int .i64 0, .slice none 0 0, .slice none 0 0, .int .i64 0, .int .i64 0, .slice none 0 0, .slice none 0 0]) ?_ 1 _ rfl; refine lZ ?_; exact qC.out) qg.out (by simp)); replace HB := aM (hb); replace qB := aM (hi); (try clear hb); (try clear hk); (try clear hi)))
    go_loopg [9] k1 (fun kq v9 w' => ∃ (jl : Int) (q0 : Int) (qw : Int) (qM : List (S48)) (qP : Value), v9 = .int .i64 jl ∧ Aside0 (sR_Decode.l1 kq l0 jc jl qD q0 qw qO qQ qM 0 0 0 0 0 0 = some (r1, r2, r3, r4, r5, r6, r7, r8, r9, r10, r11, r12, r13, r14, r15, r16)) ∧ Aside0 (kq ≤ k1) ∧ Aside0 (Kd.R k48 48 w' w.heap.size (fun _ => True) qP qM) ∧ Aside0 (w'.heap[qG]? = some (.cells #[.int .i64 0, .int .i64 0, (.slice none 0 0), .int .i64 0, .int .i64 0, (.slice none 0 0), (.slice none 0 0), .int .i64 0, .int .i64 0, (.slice none 0 0), (.slice none 0 0), .int .i64 0, .int .i64 0, (.slice none 0 0), (.slice none 0 0)] 28 (0, 0))) ∧ Aside0 (w'.heap[qa]? = some (.cells #[.int .i64 65, .int .i64 78, .int .i64 86, .int .i64 49] 85 (0, 0))) ∧ Aside0 (w'.heap[qR]? = some (.cells #[.int .i64 qO, .int .i64 qQ, qP, .int .i64 0, .int .i64 0, (.slice none 0 0), (.slice none 0 0), .int .i64 0, .int .i64 0, (.slice none 0 0), (.slice none 0 0), .int .i64 0, .int .i64 0, (.slice none 0 0), (.slice none 0 0)] 28 (0, 0))) ∧ Aside0 (I8 w w' g1054 qD q0 qw) ∧ Aside0 (Below w.heap.size w w'))
    case atStart => exact ⟨(0), (yE), (yF), (([] : List (S48))), (.slice none 0 0), zT, H', ⟨Nat.le_refl _⟩, ⟨zn⟩, ⟨zb qA⟩, ⟨zb qF⟩, ⟨zb qC⟩, ⟨zSv qB⟩, ⟨zBv HB⟩⟩
    case round =>
     clear H'
     try clear c9
     obtain ⟨jl, q0, qw, qM, qP, rfl, HA, HK2, qE, qA, qF, qC, qB, HB⟩ := hrel
     cases gk with
     | zero => exact absurd HA.out (by simp [sR_Decode.l1])
     | succ k2 =>
      have H := HA.out
      clear HA
      simp only [sR_Decode.l1] at H
      have yJ := aM H
      clear H
      go_upto_region 12 with (fail)
      go_cut [45] (fun v45 wc => ∃ (kq : Nat) (ju : Bool), v45 = .bool ju ∧ Aside0 (sR_Decode.j2 kq l0 jc jl ju qD q0 qw qO qQ qM 0 0 0 0 0 0 = some (r1, r2, r3, r4, r5, r6, r7, r8, r9, r10, r11, r12, r13, r14, r15, r16)) ∧ Aside0 (kq ≤ k2) ∧ Aside0 (Kd.R k48 48 wc w.heap.size (fun _ => True) qP qM) ∧ Aside0 (wc.heap[qG]? = some (.cells #[.int .i64 0, .int .i64 0, (.slice none 0 0), .int .i64 0, .int .i64 0, (.slice none 0 0), (.slice none 0 0), .int .i64 0, .int .i64 0, (.slice none 0 0), (.slice none 0 0), .int .i64 0, .int .i64 0, (.slice none 0 0), (.slice none 0 0)] 28 (0, 0))) ∧ Aside0 (wc.heap[qa]? = some (.cells #[.int .i64 65, .int .i64 78, .int .i64 86, .int .i64 49] 85 (0, 0))) ∧ Aside0 (wc.heap[qR]? = some (.cells #[.int .i64 qO, .int .i64 qQ, qP, .int .i64 0, .int .i64 0, (.slice none 0 0), (.slice none 0 0), .int .i64 0, .int .i64 0, (.slice none 0 0), (.slice none 0 0), .int .i64 0, .int .i64 0, (.slice none 0 0), (.slice none 0 0)] 28 (0, 0))) ∧ Aside0 (I8 w wc g1054 qD q0 qw) ∧ Aside0 (Below w.heap.size w wc))
      case first =>
       have H := yJ.out
       clear yJ
       by_cases c47 : jl < jc
       ·rw [if_pos c47] at H
        have c47b0 := decide_eq_true c47
        clear c47
        (first | rw [c47b0] | (simp only [i64_w, i32_w]; rw [c47b0]) | skip)
        have H' := aM H
        clear H
        obtain ⟨ASz48_0, cSz48_0, HGz48, hgz48, HSz48_0⟩ := qB.out
        have qCL := cellS84_0 HGz48
        have qCM := cellS84_1 HGz48
        have qCN := cellS84_2 HGz48
        have qCO := z1_ HGz48 1
        have qCP := z1_ HGz48 2
        clear HGz48 hgz48
        go_wp2
        go_meet
        case rel => exact ⟨_, (decide (qw < 0)), (by first | rfl | (simp; done) | (simp [*]; done) | (simp; omega)), H', ⟨by have := HK1.out; have := HK2.out; first | omega | exact Nat.le_refl _⟩, ⟨lR qE⟩, ⟨zb qA⟩, ⟨zb qF⟩, ⟨zb qC⟩, ⟨zSv qB⟩, ⟨zBv HB⟩⟩
       ·rw [if_neg c47] at H
        have c47b0 := decide_eq_false c47
        clear c47
        (first | rw [c47b0] | (simp only [i64_w, i32_w]; rw [c47b0]) | skip)
        have H' := aM H
        clear H
        go_wp2
        go_meet
        case rel => exact ⟨_, (false), zT, H', ⟨by have := HK1.out; have := HK2.out; first | omega | exact Nat.le_refl _⟩, ⟨lR qE⟩, ⟨zb qA⟩, ⟨zb qF⟩, ⟨zb qC⟩, ⟨zSv qB⟩, ⟨zBv HB⟩⟩
      case rest =>
       clear yJ
       try clear c9
       obtain ⟨kq, ju, rfl, HA, HJ45, qE, qA, qF, qC, qB, HB⟩ := hcut
       cases kq with
       | zero => exact absurd HA.out (by simp [sR_Decode.j2])
       | succ kj45 =>
        have H := HA.out
        clear HA
        simp only [sR_Decode.j2] at H
        by_cases c49 : ju = true
        ·subst c49
         have H1 : ((sR_reader_coordinate.f kj45 qD q0 qw).bind fun bt1078 => ((sR_reader_coordinate.f kj45 qD bt1078.2.1 bt1078.2.2).bind fun bt1081 => (if qM.length < 8796093022208 then (sR_Decode.l1 kj45 l0 jc (wrap64 (jl + 1)) qD bt1081.2.1 bt1081.2.2 qO qQ (qM ++ [(⟨bt1078.1, bt1081.1⟩ : S48)]) 0 0 0 0 0 0) else (none)))) = some (r1, r2, r3, r4, r5, r6, r7, r8, r9, r10, r11, r12, r13, r14, r15, r16) := by rw [if_pos rfl] at H; exact H
         clear H
         have H := H1
         clear H1
         replace H := zbs H
         obtain ⟨⟨jm, jx, jy⟩, A500, H⟩ := H
         replace H : ((sR_reader_coordinate.f kj45 qD jx jy).bind fun bt1081 => (if qM.length < 8796093022208 then (sR_Decode.l1 kj45 l0 jc (wrap64 (jl + 1)) qD bt1081.2.1 bt1081.2.2 qO qQ (qM ++ [(⟨jm, bt1081.1⟩ : S48)]) 0 0 0 0 0 0) else (none))) = some (r1, r2, r3, r4, r5, r6, r7, r8, r9, r10, r11, r12, r13, r14, r15, r16) := H
         have A50 := aM A500
         clear A500
         replace H := zbs H
         obtain ⟨⟨jo, jv, jw⟩, A510, H⟩ := H
         replace H : (if qM.length < 8796093022208 then (sR_Decode.l1 kj45 l0 jc (wrap64 (jl + 1)) qD jv jw qO qQ (qM ++ [(⟨jm, jo⟩ : S48)]) 0 0 0 0 0 0) else (none)) = some (r1, r2, r3, r4, r5, r6, r7, r8, r9, r10, r11, r12, r13, r14, r15, r16) := H
         have A51 := aM A510
         clear A510
         by_cases c52 : qM.length < 8796093022208
         ·rw [if_pos c52] at H
          have LMc52 := aM c52
          clear c52
          obtain ⟨y1084, hy1084⟩ : ∃ y_ : List (S48), y_ = (qM ++ [(⟨jm, jo⟩ : S48)]) := ⟨_, rfl⟩
          replace H : (sR_Decode.l1 kj45 l0 jc (wrap64 (jl + 1)) qD jv jw qO qQ y1084 0 0 0 0 0 0) = some (r1, r2, r3, r4, r5, r6, r7, r8, r9, r10, r11, r12, r13, r14, r15, r16) := zH hy1084 H
          have Ny1084 := aM hy1084
          clear hy1084
          have H' := aM H
          clear H
          try go_wp2_with (first | ((with_reducible refine gate_callee (f := 46) rfl ?_); refine z13_ (some 49) rfl rfl Try.func46 zk rfl #[.pointer (some ⟨g1054, 0, none⟩)] rfl zA ?_; (with_reducible refine (sR_reader_coordinate.calls kj45 g1054 qD q0 qw jm jx jy w _ ?side1 ?side2 A50.out).mono ?_); (case side1 => repeat (first | (with_reducible first | exact qB.out | apply I8.alloc | apply I8.drewN | apply I8.drew | apply I8.set_1 | apply I8.set_2 | refine I8.far ?_ qV.out _ | refine I8.far ?_ qW.out _ | refine I8.far ?_ qf.out _) | exact qB.out)); (case side2 => exact (zBv HB)); rintro e w53 ⟨rfl, hi, hb, hk⟩; refine ⟨_, rfl, ?_⟩; replace qE := aM (Kd.z0_ (Kd.z22_ (I8.apart (show I8 w _ g1054 qD q0 qw from zSv qB) (lR qE) (by decide)) hk (fun _ h => h.2)) (fun _ h => h.1)); replace qA := aM (KeepBut.blk hk (g' := qG) (lK qA) qb.out (by simp)); replace qF := aM (KeepBut.blk hk (g' := qa) (lK qF) qX.out (by simp)); replace qC := aM (KeepBut.blk hk (g' := qR) (lK qC) qg.out (by simp)); replace HB := aM (hb); replace qB := aM (hi); (try clear hb); (try clear hk); (try clear hi)))
          replace qE := aM (Kd.R_drew qE.out)
          replace qA := aM (blk_drew qA.out)
          replace qF := aM (blk_drew qF.out)
          replace qC := aM (blk_drew qC.out)
          replace qB := aM (I8.drew qB.out)
          replace HB := aM (below_drew1 HB.out)
          refine start_ (n := 10) (S := fun w' => w'.cell? ⟨qR, 0, none⟩ = some (.int .i64 qO) ∧ w'.cell? ⟨qR, 1, none⟩ = some (.int .i64 qQ) ∧ w'.cell? ⟨qR, 2, none⟩ = some (qP) ∧ w'.cell? ⟨qR, 3, none⟩ = some (.int .i64 0) ∧ w'.cell? ⟨qR, 4, none⟩ = some (.int .i64 0) ∧ w'.cell? ⟨qR, 5, none⟩ = some (.slice none 0 0) ∧ w'.cell? ⟨qR, 6, none⟩ = some (.slice none 0 0) ∧ w'.cell? ⟨qR, 7, none⟩ = some (.int .i64 0) ∧ w'.cell? ⟨qR, 8, none⟩ = some (.int .i64 0) ∧ w'.cell? ⟨qR, 9, none⟩ = some (.slice none 0 0) ∧ w'.cell? ⟨qR, 10, none⟩ = some (.slice none 0 0) ∧ w'.cell? ⟨qR, 11, none⟩ = some (.int .i64 0) ∧ w'.cell? ⟨qR, 12, none⟩ = some (.int .i64 0) ∧ w'.cell? ⟨qR, 13, none⟩ = some (.slice none 0 0) ∧ w'.cell? ⟨qR, 14, none⟩ = some (.slice none 0 0)) (ds := [9]) (bs 10 0) zk rfl rfl ⟨(z2_ qC.out 0).trans rfl, (z2_ qC.out 1).trans rfl, (z2_ qC.out 2).trans rfl, (z2_ qC.out 3).trans rfl, (z2_ qC.out 4).trans rfl, (z2_ qC.out 5).trans rfl, (z2_ qC.out 6).trans rfl, (z2_ qC.out 7).trans rfl, (z2_ qC.out 8).trans rfl, (z2_ qC.out 9).trans rfl, (z2_ qC.out 10).trans rfl, (z2_ qC.out 11).trans rfl, (z2_ qC.out 12).trans rfl, (z2_ qC.out 13).trans rfl, (z2_ qC.out 14).trans rfl⟩ (fun hHeld => ?_); refine with_tabW sR_Decode.tab15 sR_Decode.bits15 (fun HT_ HW_ => ?_)
          generalize w53.drew = w54 at qE qA qF qC qB HB hHeld ⊢
          refine pQ 0 50 10 1 ?_
          refine pQ 2 52 10 5 ?_
          refine pQ 3 53 10 13 ?_
          refine take_ (i := 1) (N := some 51) (v := ?_) (a' := ?_) (bs 10 15) rfl rfl (take_ofW HT_.out HW_.out zk) (fun _ _ _ h => h) (Or.inl ⟨by rfl, ?_⟩) hHeld ?_ ?_
          rotate_left
          ·rintro w' ⟨s0, s1, s2, s3, s4, s5, s6, s7, s8, s9, s10, s11, s12, s13, s14⟩
           go_simp
           with_reducible rfl
          rotate_left
          ·simp only [Act.put, List.setIfInBounds_toArray, List.set_cons_zero, List.set_cons_succ, i64_w, i32_w]
           rfl
          refine one_ (i := 4) (N := some 54) (bs 10 31) rfl rfl (one_of HT_.out zk) (by decide) (fun K hK => ?_)
          refine goes_ Try.func46 zk rfl #[.pointer (some ⟨g1054, 0, none⟩)] (by rfl) rfl rfl zA ?_
          with_reducible refine (sR_reader_coordinate.calls kj45 g1054 qD jx jy jo jv jw w _ ?side1 ?side2 A51.out).mono ?_
          (case side1 => repeat (first | (with_reducible first | exact qB.out | apply I8.alloc | apply I8.drewN | apply I8.drew | apply I8.set_1 | apply I8.set_2 | refine I8.far ?_ qV.out _ | refine I8.far ?_ qW.out _ | refine I8.far ?_ qf.out _) | exact qB.out))
          (case side2 => exact (zBv HB))
          rintro e w55 ⟨rfl, hi, hb, hk⟩
          refine ⟨_, rfl, ?_⟩
          replace qE := aM (Kd.z0_ (Kd.z22_ (I8.apart (show I8 w _ g1054 qD jx jy from zSv qB) (lR qE) (by decide)) hk (fun _ h => h.2)) (fun _ h => h.1))
          replace qA := aM (KeepBut.blk hk (g' := qG) (lK qA) qb.out (by simp))
          replace qF := aM (KeepBut.blk hk (g' := qa) (lK qF) qX.out (by simp))
          replace qC := aM (KeepBut.blk hk (g' := qR) (lK qC) qg.out (by simp))
          replace HB := aM (hb)
          replace qB := aM (hi)
          (try clear hb)
          (try clear hb2)
          (try clear hk)
          (try clear hi)
          refine hK.out _ _ (zc15 qC.out) (fun hHeld => ?_)
          clear hK K
          refine norm_ (a' := ?_) ?_ ?_
          rotate_left
          ·show Act.put _ (some 54) _ = _
           simp only [Act.put, List.setIfInBounds_toArray, List.set_cons_zero, List.set_cons_succ, i64_w, i32_w]
           rfl
          refine pQ 5 55 10 63 ?_
          refine one_ (i := 6) (N := some 56) (bs 10 127) rfl rfl (one_of HT_.out zk) (by decide) (fun K hK => ?_)
          refine value_ (w1 := ?_) (v := ?_) (by rfl) rfl ?_ ?_
          rotate_left 2
          ·go_simp
           constructor
           ·rfl
           ·rfl
          refine hK.out _ _ ⟨(z2_ (z11_ qC.out _) 0).trans rfl, (z2_ (z11_ qC.out _) 1).trans rfl, (z2_ (z11_ qC.out _) 2).trans rfl, (z2_ (z11_ qC.out _) 3).trans rfl, (z2_ (z11_ qC.out _) 4).trans rfl, (z2_ (z11_ qC.out _) 5).trans rfl, (z2_ (z11_ qC.out _) 6).trans rfl, (z2_ (z11_ qC.out _) 7).trans rfl, (z2_ (z11_ qC.out _) 8).trans rfl, (z2_ (z11_ qC.out _) 9).trans rfl, (z2_ (z11_ qC.out _) 10).trans rfl, (z2_ (z11_ qC.out _) 11).trans rfl, (z2_ (z11_ qC.out _) 12).trans rfl, (z2_ (z11_ qC.out _) 13).trans rfl, (z2_ (z11_ qC.out _) 14).trans rfl⟩ (fun hHeld => ?_)
          clear hK K
          refine norm_ (a' := ?_) ?_ ?_
          rotate_left
          ·show Act.put _ (some 56) _ = _
           simp only [Act.put, List.setIfInBounds_toArray, List.set_cons_zero, List.set_cons_succ, i64_w, i32_w]
           rfl
          refine one_ (i := 7) (N := some 57) (bs 10 255) rfl rfl (one_of HT_.out zk) (by decide) (fun K hK => ?_)
          refine Kd.R_append_step k48 (w0 := w) w.heap.size (by rfl) (.tmp 51) (.tmp 56) 22 48 (.agg #[(.int .i64 0), (.int .i64 0)]) 16 rfl Try.underlying22 info48 rfl (by decide) (by omega) qP qM (⟨jm, jo⟩ : S48) [.int .i64 jm, .int .i64 jo] (fun _ => True) (fun _ => False) rfl rfl ?aP (fun _ hk => hk.elim) ?aF ?aO ?aB ?aS ?aL ?_
          (case aP => exact k48_mkM _ _ _ (⟨jm, jo⟩ : S48))
          (case aB => exact (zBv HB))
          (case aF => exact (fun _ _ => trivial))
          (case aO => exact (lR qE))
          (case aS => exact (z4_ (zBv HB)))
          (case aL => have := LMc52.out; omega)
          intro v1085 w56 ho hb hg hat
          rw [← Ny1084.out] at ho
          replace qA := aM (blk_grown (g := qG) (lK qA) hg (Kd.R_ne qE.out qA.out (by decide)))
          replace qF := aM (blk_grown (g := qa) (lK qF) hg (Kd.R_ne qE.out qF.out (by decide)))
          replace qC := aM (blk_grown (g := qR) (lK qC) hg (Kd.R_ne qE.out qC.out (by decide)))
          replace qB := aM (I8.grown (show I8 w _ g1054 qD jv jw from zSv qB) hg (I8.own_ne qB.out qE.out (by decide)))
          replace HB := aM (hb)
          have yI := aM (ho)
          clear qE
          clear ho hb hg hat
          obtain ⟨yZ, ya, eo57⟩ := Kd.R_slice yI.out
          (first | subst eo57 | (injection eo57 with f1_ f2_ f3_; have f4_ := f1_.symm; have f5_ := f3_.symm; clear f1_ f2_ f3_; subst f4_; subst f5_))
          refine hK.out _ _ (zc15 qC.out) (fun hHeld => ?_)
          clear hK K
          refine norm_ (a' := ?_) ?_ ?_
          rotate_left
          ·show Act.put _ (some 57) _ = _
           simp only [Act.put, List.setIfInBounds_toArray, List.set_cons_zero, List.set_cons_succ, i64_w, i32_w]
           rfl
          refine pQ 8 58 10 511 ?_
          refine last_ (i := 9) (N := none) (bs 10 1023) rfl rfl (one_of HT_.out zk) (by decide) (fun K hK => ?_)
          have qEr : w56.cell? ⟨qR, 2, none⟩ = some (qP) := (z2_ qC.out 2).trans rfl
          have qEC := z1_ qC.out 2
          have qCQ := qJ.out
          have qCR := jS.out
          have qCS := qK.out
          have qCT := jT.out
          refine skip_ (w1 := ?_) (by rfl) rfl ?_ ?_
          rotate_left
          ·go_simp
           rfl
          refine hK.out _ _ ?_
          clear hK K
          refine done_ (done_of HT_.out zk) ?_
          try go_wp2
          go_roundg kj45
          case measure => have := HK1.out; have := HK2.out; have := HJ45.out; omega
          case rel => exact ⟨(wrap64 (jl + 1)), (jv), (jw), (y1084), (.slice yZ y1084.length ya), zT, H', ⟨by have := HK1.out; have := HK2.out; have := HJ45.out; omega⟩, ⟨by apply rX; exact Kd.z0_ (fA (Kd.z3_ yI.out qC.out (by decide))) (fun _ hk => trivial)⟩, ⟨zb qA⟩, ⟨zb qF⟩, ⟨by refine lZ ?_; refine blk_put (cs := #[.int .i64 qO, .int .i64 qQ, qP, .int .i64 0, .int .i64 0, .slice none 0 0, .slice none 0 0, .int .i64 0, .int .i64 0, .slice none 0 0, .slice none 0 0, .int .i64 0, .int .i64 0, .slice none 0 0, .slice none 0 0]) ?_ 2 _ rfl; refine lZ ?_; exact qC.out⟩, ⟨zSv qB⟩, ⟨zBv HB⟩⟩
         ·rw [if_neg c52] at H
          exact absurd H (by simp)
        ·replace c49 := Bool.eq_false_iff.mpr c49
         subst c49
         have H1 : ((sR_reader_program.f kj45 qD q0 qw).bind fun bt1087 => ((sR_reader_program.f kj45 qD bt1087.2.2.2.2.1 bt1087.2.2.2.2.2).bind fun bt1097 => ((sR_reader_program.f kj45 qD bt1097.2.2.2.2.1 bt1097.2.2.2.2.2).bind fun bt1107 => (if bt1107.2.2.2.2.2 < 0 then (if 0 ≤ bt1107.2.2.2.2.1 then (if bt1107.2.2.2.2.1 ≤ (l0.length : Int) then ((sR_check.f kj45 (l0.take (bt1107.2.2.2.2.1 : Int).toNat)).bind fun jP => ((sR_two.f jP).bind fun qL => (if 0 < (qL.length : Int) then ((sR_reader_next.f qD bt1107.2.2.2.2.1 bt1107.2.2.2.2.2 (wrap64 (rd qL 0)) (wrap64 (rd qL 0))).bind fun bt1124 => (if 1 < (qL.length : Int) then ((sR_reader_next.f qD bt1124.2.1 bt1124.2.2 (wrap64 (rd qL 1)) (wrap64 (rd qL 1))).bind fun bt1129 => (sR_Decode.j3 kj45 l0 qD bt1129.2.1 bt1129.2.2 qO qQ qM bt1087.1 bt1087.2.1 bt1087.2.2.1 bt1087.2.2.2.1 bt1097.1 bt1097.2.1 bt1097.2.2.1 bt1097.2.2.2.1 bt1107.1 bt1107.2.1 bt1107.2.2.1 bt1107.2.2.2.1)) else (none))) else (none)))) else (none)) else (none)) else (sR_Decode.j3 kj45 l0 qD bt1107.2.2.2.2.1 bt1107.2.2.2.2.2 qO qQ qM bt1087.1 bt1087.2.1 bt1087.2.2.1 bt1087.2.2.2.1 bt1097.1 bt1097.2.1 bt1097.2.2.1 bt1097.2.2.2.1 bt1107.1 bt1107.2.1 bt1107.2.2.1 bt1107.2.2.2.1))))) = some (r1, r2, r3, r4, r5, r6, r7, r8, r9, r10, r11, r12, r13, r14, r15, r16) := by rw [if_neg (show ¬ (false = true) by decide)] at H; exact H
         clear H
         have H := H1
         clear H1
         replace H := zbs H
         obtain ⟨⟨qc, qe, qT, qU, jp, jq⟩, A590, H⟩ := H
         replace H : ((sR_reader_program.f kj45 qD jp jq).bind fun bt1097 => ((sR_reader_program.f kj45 qD bt1097.2.2.2.2.1 bt1097.2.2.2.2.2).bind fun bt1107 => (if bt1107.2.2.2.2.2 < 0 then (if 0 ≤ bt1107.2.2.2.2.1 then (if bt1107.2.2.2.2.1 ≤ (l0.length : Int) then ((sR_check.f kj45 (l0.take (bt1107.2.2.2.2.1 : Int).toNat)).bind fun jP => ((sR_two.f jP).bind fun qL => (if 0 < (qL.length : Int) then ((sR_reader_next.f qD bt1107.2.2.2.2.1 bt1107.2.2.2.2.2 (wrap64 (rd qL 0)) (wrap64 (rd qL 0))).bind fun bt1124 => (if 1 < (qL.length : Int) then ((sR_reader_next.f qD bt1124.2.1 bt1124.2.2 (wrap64 (rd qL 1)) (wrap64 (rd qL 1))).bind fun bt1129 => (sR_Decode.j3 kj45 l0 qD bt1129.2.1 bt1129.2.2 qO qQ qM qc qe qT qU bt1097.1 bt1097.2.1 bt1097.2.2.1 bt1097.2.2.2.1 bt1107.1 bt1107.2.1 bt1107.2.2.1 bt1107.2.2.2.1)) else (none))) else (none)))) else (none)) else (none)) else (sR_Decode.j3 kj45 l0 qD bt1107.2.2.2.2.1 bt1107.2.2.2.2.2 qO qQ qM qc qe qT qU bt1097.1 bt1097.2.1 bt1097.2.2.1 bt1097.2.2.2.1 bt1107.1 bt1107.2.1 bt1107.2.2.1 bt1107.2.2.2.1)))) = some (r1, r2, r3, r4, r5, r6, r7, r8, r9, r10, r11, r12, r13, r14, r15, r16) := H
         have A59 := aM A590
         clear A590
         replace H := zbs H
         obtain ⟨⟨qi, qk, qY, qZ, jj, jk⟩, A600, H⟩ := H
         replace H : ((sR_reader_program.f kj45 qD jj jk).bind fun bt1107 => (if bt1107.2.2.2.2.2 < 0 then (if 0 ≤ bt1107.2.2.2.2.1 then (if bt1107.2.2.2.2.1 ≤ (l0.length : Int) then ((sR_check.f kj45 (l0.take (bt1107.2.2.2.2.1 : Int).toNat)).bind fun jP => ((sR_two.f jP).bind fun qL => (if 0 < (qL.length : Int) then ((sR_reader_next.f qD bt1107.2.2.2.2.1 bt1107.2.2.2.2.2 (wrap64 (rd qL 0)) (wrap64 (rd qL 0))).bind fun bt1124 => (if 1 < (qL.length : Int) then ((sR_reader_next.f qD bt1124.2.1 bt1124.2.2 (wrap64 (rd qL 1)) (wrap64 (rd qL 1))).bind fun bt1129 => (sR_Decode.j3 kj45 l0 qD bt1129.2.1 bt1129.2.2 qO qQ qM qc qe qT qU qi qk qY qZ bt1107.1 bt1107.2.1 bt1107.2.2.1 bt1107.2.2.2.1)) else (none))) else (none)))) else (none)) else (none)) else (sR_Decode.j3 kj45 l0 qD bt1107.2.2.2.2.1 bt1107.2.2.2.2.2 qO qQ qM qc qe qT qU qi qk qY qZ bt1107.1 bt1107.2.1 bt1107.2.2.1 bt1107.2.2.2.1))) = some (r1, r2, r3, r4, r5, r6, r7, r8, r9, r10, r11, r12, r13, r14, r15, r16) := H
         have A60 := aM A600
         clear A600
         replace H := zbs H
         obtain ⟨⟨q1, q9, qj, qm, qt, jI⟩, A610, H⟩ := H
         replace H : (if jI < 0 then (if 0 ≤ qt then (if qt ≤ (l0.length : Int) then ((sR_check.f kj45 (l0.take (qt : Int).toNat)).bind fun jP => ((sR_two.f jP).bind fun qL => (if 0 < (qL.length : Int) then ((sR_reader_next.f qD qt jI (wrap64 (rd qL 0)) (wrap64 (rd qL 0))).bind fun bt1124 => (if 1 < (qL.length : Int) then ((sR_reader_next.f qD bt1124.2.1 bt1124.2.2 (wrap64 (rd qL 1)) (wrap64 (rd qL 1))).bind fun bt1129 => (sR_Decode.j3 kj45 l0 qD bt1129.2.1 bt1129.2.2 qO qQ qM qc qe qT qU qi qk qY qZ q1 q9 qj qm)) else (none))) else (none)))) else (none)) else (none)) else (sR_Decode.j3 kj45 l0 qD qt jI qO qQ qM qc qe qT qU qi qk qY qZ q1 q9 qj qm)) = some (r1, r2, r3, r4, r5, r6, r7, r8, r9, r10, r11, r12, r13, r14, r15, r16) := H
         have A61 := aM A610
         clear A610
         have yK := aM H
         clear H
         go_upto_if 72 with (first | ((with_reducible refine gate_callee (f := 47) rfl ?_); refine z13_ (some 60) rfl rfl Try.func47 zk rfl #[.pointer (some ⟨g1054, 0, none⟩)] rfl zA ?_; (with_reducible refine (sR_reader_program.calls kj45 g1054 qD q0 qw qc qe qT qU jp jq w _ ?side1 ?side2 A59.out).mono ?_); (case side1 => repeat (first | (with_reducible first | exact qB.out | apply I8.alloc | apply I8.drewN | apply I8.drew | apply I8.set_1 | apply I8.set_2 | refine I8.far ?_ qV.out _ | refine I8.far ?_ qW.out _ | refine I8.far ?_ qf.out _) | exact qB.out)); (case side2 => exact (zBv HB)); rintro e w63 ⟨v1090, v1093, rfl, ho0, ho1, hi, hb, hk⟩; refine ⟨_, rfl, ?_⟩; replace qE := aM (Kd.z0_ (Kd.z22_ (I8.apart (show I8 w _ g1054 qD q0 qw from zSv qB) (lR qE) (by decide)) hk (fun _ h => h.2)) (fun _ h => h.1)); replace qA := aM (KeepBut.blk hk (g' := qG) (lK qA) qb.out (by simp)); replace qF := aM (KeepBut.blk hk (g' := qa) (lK qF) qX.out (by simp)); replace qC := aM (KeepBut.blk hk (g' := qR) (lK qC) qg.out (by simp)); have qu := aM (Kd.z20_ ho0 (z4_ (zBv HB))); have qv := aM (Kd.z20_ ho1 (z4_ (zBv HB))); replace HB := aM (hb); replace qB := aM (hi); (try clear hb); (try clear hk); (try clear hi); (try clear ho0); (try clear ho1); have qED := qK.out; have qEE := qJ.out; have qEF := jT.out; have qEG := jS.out; have qEH := qg.out; have qEI := qf.out; have qCU := zc15 qC.out; have qCV := fun i_ : Nat => z1_ qC.out i_; obtain ⟨qx, qy, eo68⟩ := Kd.R_slice qu.out; subst eo68; obtain ⟨q2, q3, eo69⟩ := Kd.R_slice qv.out; subst eo69) | ((with_reducible refine gate_callee (f := 47) rfl ?_); refine z13_ (some 63) rfl rfl Try.func47 zk rfl #[.pointer (some ⟨g1054, 0, none⟩)] rfl zA ?_; (with_reducible refine (sR_reader_program.calls kj45 g1054 qD jp jq qi qk qY qZ jj jk w _ ?side1 ?side2 A60.out).mono ?_); (case side1 => repeat (first | (with_reducible first | exact qB.out | apply I8.alloc | apply I8.drewN | apply I8.drew | apply I8.set_1 | apply I8.set_2 | refine I8.far ?_ qV.out _ | refine I8.far ?_ qW.out _ | refine I8.far ?_ qf.out _) | exact qB.out)); (case side2 => exact (zBv HB)); rintro e w70 ⟨v1100, v1103, rfl, ho0, ho1, hi, hb, hk⟩; refine ⟨_, rfl, ?_⟩; replace qE := aM (Kd.z0_ (Kd.z22_ (I8.apart (show I8 w _ g1054 qD jp jq from zSv qB) (by apply rX; exact (Kd.z0_ (fA (fA (fA (fA (Kd.z3_ qE.out qC.out (by decide)))))) (fun _ h_ => h_.1))) (by decide)) hk (fun _ h => h.2)) (fun _ h => h.1)); replace qA := aM (KeepBut.blk hk (g' := qG) (zb qA) qb.out (by simp)); replace qF := aM (KeepBut.blk hk (g' := qa) (zb qF) qX.out (by simp)); have q4 := aM (Kd.z20_ (Kd.z21_ ho0 (Kd.R_lt (by apply rX; exact (Kd.z0_ (fA (fA (fA (fA (Kd.z3_ qu.out qC.out (by decide)))))) (fun _ h_ => h_.1))))) (z4_ (zBv HB))); replace qu := aM (Kd.z0_ (Kd.R_told (Kd.R_oldK (I8.apart (show I8 w _ g1054 qD jp jq from zSv qB) (by apply rX; exact (Kd.z0_ (fA (fA (fA (fA (Kd.z3_ qu.out qC.out (by decide)))))) (fun _ h_ => h_.1))) (by decide)) hk) (Kd.R_base ho0)) (fun _ h_ => h_.1)); have q5 := aM (Kd.z20_ (Kd.z21_ ho1 (Kd.R_lt (by apply rX; exact (Kd.z0_ (fA (fA (fA (fA (Kd.z3_ qv.out qC.out (by decide)))))) (fun _ h_ => h_.1))))) (z4_ (zBv HB))); replace qv := aM (Kd.z0_ (Kd.R_told (Kd.R_oldK (I8.apart (show I8 w _ g1054 qD jp jq from zSv qB) (by apply rX; exact (Kd.z0_ (fA (fA (fA (fA (Kd.z3_ qv.out qC.out (by decide)))))) (fun _ h_ => h_.1))) (by decide)) hk) (Kd.R_base ho1)) (fun _ h_ => h_.1)); replace qC := aM (KeepBut.blk hk (g' := qR) (o := .cells #[.int .i64 qO, .int .i64 qQ, qP, .int .i64 qc, .int .i64 qe, .slice qx qT.length qy, .slice q2 qU.length q3, .int .i64 0, .int .i64 0, .slice none 0 0, .slice none 0 0, .int .i64 0, .int .i64 0, .slice none 0 0, .slice none 0 0] 28 (0, 0)) (by refine lZ ?_; refine blk_put (cs := #[.int .i64 qO, .int .i64 qQ, qP, .int .i64 qc, .int .i64 qe, .slice qx qT.length qy, .slice none 0 0, .int .i64 0, .int .i64 0, .slice none 0 0, .slice none 0 0, .int .i64 0, .int .i64 0, .slice none 0 0, .slice none 0 0]) ?_ 6 _ rfl; refine lZ ?_; refine blk_put (cs := #[.int .i64 qO, .int .i64 qQ, qP, .int .i64 qc, .int .i64 qe, .slice none 0 0, .slice none 0 0, .int .i64 0, .int .i64 0, .slice none 0 0, .slice none 0 0, .int .i64 0, .int .i64 0, .slice none 0 0, .slice none 0 0]) ?_ 5 _ rfl; refine lZ ?_; refine blk_put (cs := #[.int .i64 qO, .int .i64 qQ, qP, .int .i64 qc, .int .i64 0, .slice none 0 0, .slice none 0 0, .int .i64 0, .int .i64 0, .slice none 0 0, .slice none 0 0, .int .i64 0, .int .i64 0, .slice none 0 0, .slice none 0 0]) ?_ 4 _ rfl; refine lZ ?_; refine blk_put (cs := #[.int .i64 qO, .int .i64 qQ, qP, .int .i64 0, .int .i64 0, .slice none 0 0, .slice none 0 0, .int .i64 0, .int .i64 0, .slice none 0 0, .slice none 0 0, .int .i64 0, .int .i64 0, .slice none 0 0, .slice none 0 0]) ?_ 3 _ rfl; refine lZ ?_; exact qC.out) qg.out (by simp)); replace HB := aM (hb); replace qB := aM (hi); (try clear hb); (try clear hb2); (try clear hk); (try clear hi); (try clear ho0); (try clear ho1); have qCW := zc15 qC.out; have qCX := fun i_ : Nat => z1_ qC.out i_; obtain ⟨jC, jD, eo72⟩ := Kd.R_slice q4.out; subst eo72; obtain ⟨jE, jF, eo73⟩ := Kd.R_slice q5.out; subst eo73) | ((with_reducible refine gate_callee (f := 47) rfl ?_); refine z13_ (some 66) rfl rfl Try.func47 zk rfl #[.pointer (some ⟨g1054, 0, none⟩)] rfl zA ?_; (with_reducible refine (sR_reader_program.calls kj45 g1054 qD jj jk q1 q9 qj qm qt jI w _ ?side1 ?side2 A61.out).mono ?_); (case side1 => repeat (first | (with_reducible first | exact qB.out | apply I8.alloc | apply I8.drewN | apply I8.drew | apply I8.set_1 | apply I8.set_2 | refine I8.far ?_ qV.out _ | refine I8.far ?_ qW.out _ | refine I8.far ?_ qf.out _) | exact qB.out)); (case side2 => exact (zBv HB)); rintro e w74 ⟨v1110, v1113, rfl, ho0, ho1, hi, hb, hk⟩; refine ⟨_, rfl, ?_⟩; replace qE := aM (Kd.z0_ (Kd.z22_ (I8.apart (show I8 w _ g1054 qD jj jk from zSv qB) (by apply rX; exact (Kd.z0_ (fA (fA (fA (fA (Kd.z3_ qE.out qC.out (by decide)))))) (fun _ h_ => h_.1))) (by decide)) hk (fun _ h => h.2)) (fun _ h => h.1)); replace qA := aM (KeepBut.blk hk (g' := qG) (zb qA) qb.out (by simp)); replace qF := aM (KeepBut.blk hk (g' := qa) (zb qF) qX.out (by simp)); have jG := aM (Kd.z20_ (Kd.z21_ (Kd.z21_ ho0 (Kd.R_lt (by apply rX; exact (Kd.z0_ (fA (fA (fA (fA (Kd.z3_ qu.out qC.out (by decide)))))) (fun _ h_ => h_.1))))) (Kd.R_lt (by apply rX; exact (Kd.z0_ (fA (fA (fA (fA (Kd.z3_ q4.out qC.out (by decide)))))) (fun _ h_ => h_.1))))) (z4_ (zBv HB))); replace qu := aM (Kd.z0_ (Kd.R_told (Kd.R_oldK (I8.apart (show I8 w _ g1054 qD jj jk from zSv qB) (by apply rX; exact (Kd.z0_ (fA (fA (fA (fA (Kd.z3_ qu.out qC.out (by decide)))))) (fun _ h_ => h_.1))) (by decide)) hk) (Kd.R_base ho0)) (fun _ h_ => h_.1)); replace q4 := aM (Kd.z0_ (Kd.R_told (Kd.R_oldK (I8.apart (show I8 w _ g1054 qD jj jk from zSv qB) (by apply rX; exact (Kd.z0_ (fA (fA (fA (fA (Kd.z3_ q4.out qC.out (by decide)))))) (fun _ h_ => h_.1))) (by decide)) hk) (Kd.R_base ho0)) (fun _ h_ => h_.1)); have jH := aM (Kd.z20_ (Kd.z21_ (Kd.z21_ ho1 (Kd.R_lt (by apply rX; exact (Kd.z0_ (fA (fA (fA (fA (Kd.z3_ qv.out qC.out (by decide)))))) (fun _ h_ => h_.1))))) (Kd.R_lt (by apply rX; exact (Kd.z0_ (fA (fA (fA (fA (Kd.z3_ q5.out qC.out (by decide)))))) (fun _ h_ => h_.1))))) (z4_ (zBv HB))); replace qv := aM (Kd.z0_ (Kd.R_told (Kd.R_oldK (I8.apart (show I8 w _ g1054 qD jj jk from zSv qB) (by apply rX; exact (Kd.z0_ (fA (fA (fA (fA (Kd.z3_ qv.out qC.out (by decide)))))) (fun _ h_ => h_.1))) (by decide)) hk) (Kd.R_base ho1)) (fun _ h_ => h_.1)); replace q5 := aM (Kd.z0_ (Kd.R_told (Kd.R_oldK (I8.apart (show I8 w _ g1054 qD jj jk from zSv qB) (by apply rX; exact (Kd.z0_ (fA (fA (fA (fA (Kd.z3_ q5.out qC.out (by decide)))))) (fun _ h_ => h_.1))) (by decide)) hk) (Kd.R_base ho1)) (fun _ h_ => h_.1)); replace qC := aM (KeepBut.blk hk (g' := qR) (o := .cells #[.int .i64 qO, .int .i64 qQ, qP, .int .i64 qc, .int .i64 qe, .slice qx qT.length qy, .slice q2 qU.length q3, .int .i64 qi, .int .i64 qk, .slice jC qY.length jD, .slice jE qZ.length jF, .int .i64 0, .int .i64 0, .slice none 0 0, .slice none 0 0] 28 (0, 0)) (by refine lZ ?_; refine blk_put (cs := #[.int .i64 qO, .int .i64 qQ, qP, .int .i64 qc, .int .i64 qe, .slice qx qT.length qy, .slice q2 qU.length q3, .int .i64 qi, .int .i64 qk, .slice jC qY.length jD, .slice none 0 0, .int .i64 0, .int .i64 0, .slice none 0 0, .slice none 0 0]) ?_ 10 _ rfl; refine lZ ?_; refine blk_put (cs := #[.int .i64 qO, .int .i64 qQ, qP, .int .i64 qc, .int .i64 qe, .slice qx qT.length qy, .slice q2 qU.length q3, .int .i64 qi, .int .i64 qk, .slice none 0 0, .slice none 0 0, .int .i64 0, .int .i64 0, .slice none 0 0, .slice none 0 0]) ?_ 9 _ rfl; refine lZ ?_; refine blk_put (cs := #[.int .i64 qO, .int .i64 qQ, qP, .int .i64 qc, .int .i64 qe, .slice qx qT.length qy, .slice q2 qU.length q3, .int .i64 qi, .int .i64 0, .slice none 0 0, .slice none 0 0, .int .i64 0, .int .i64 0, .slice none 0 0, .slice none 0 0]) ?_ 8 _ rfl; refine lZ ?_; refine blk_put (cs := #[.int .i64 qO, .int .i64 qQ, qP, .int .i64 qc, .int .i64 qe, .slice qx qT.length qy, .slice q2 qU.length q3, .int .i64 0, .int .i64 0, .slice none 0 0, .slice none 0 0, .int .i64 0, .int .i64 0, .slice none 0 0, .slice none 0 0]) ?_ 7 _ rfl; refine lZ ?_; exact qC.out) qg.out (by simp)); replace HB := aM (hb); replace qB := aM (hi); (try clear hb); (try clear hb2); (try clear hk); (try clear hi); (try clear ho0); (try clear ho1); have qCY := zc15 qC.out; have qCZ := fun i_ : Nat => z1_ qC.out i_; obtain ⟨jQ, jR, eo76⟩ := Kd.R_slice jG.out; subst eo76; obtain ⟨jU, jV, eo77⟩ := Kd.R_slice jH.out; subst eo77; obtain ⟨ASz78_0, cSz78_0, HGz78, hgz78, HSz78_0⟩ := qB.out; have qCa := cellS84_0 HGz78; have qCb := cellS84_1 HGz78; have qCc := cellS84_2 HGz78; have qCd := z1_ HGz78 1; have qCe := z1_ HGz78 2; clear HGz78 hgz78))
         (try simp only [Act.put, List.setIfInBounds_toArray, List.set_cons_zero, List.set_cons_succ])
         go_cut [] (fun wc => ∃ (kq : Nat) (qN : Int) (qz : Int), Aside0 (sR_Decode.j3 kq l0 qD qN qz qO qQ qM qc qe qT qU qi qk qY qZ q1 q9 qj qm = some (r1, r2, r3, r4, r5, r6, r7, r8, r9, r10, r11, r12, r13, r14, r15, r16)) ∧ Aside0 (kq ≤ kj45) ∧ Aside0 (Kd.R k48 48 wc w.heap.size (fun _ => True) qP qM) ∧ Aside0 (Kd.R k63 63 wc w.heap.size (fun k_ => some k_ ≠ ((.slice jC qY.length jD) : Value).ownBlock ∧ some k_ ≠ ((.slice jQ qj.length jR) : Value).ownBlock) (.slice qx qT.length qy) qT) ∧ Aside0 (Kd.R (Kd.int .i64) 3 wc w.heap.size (fun k_ => some k_ ≠ ((.slice jE qZ.length jF) : Value).ownBlock ∧ some k_ ≠ ((.slice jU qm.length jV) : Value).ownBlock) (.slice q2 qU.length q3) qU) ∧ Aside0 (Kd.R k63 63 wc w.heap.size (fun k_ => some k_ ≠ ((.slice qx qT.length qy) : Value).ownBlock ∧ some k_ ≠ ((.slice jQ qj.length jR) : Value).ownBlock) (.slice jC qY.length jD) qY) ∧ Aside0 (Kd.R (Kd.int .i64) 3 wc w.heap.size (fun k_ => some k_ ≠ ((.slice q2 qU.length q3) : Value).ownBlock ∧ some k_ ≠ ((.slice jU qm.length jV) : Value).ownBlock) (.slice jE qZ.length jF) qZ) ∧ Aside0 (Kd.R k63 63 wc w.heap.size (fun k_ => some k_ ≠ ((.slice qx qT.length qy) : Value).ownBlock ∧ some k_ ≠ ((.slice jC qY.length jD) : Value).ownBlock) (.slice jQ qj.length jR) qj) ∧ Aside0 (Kd.R (Kd.int .i64) 3 wc w.heap.size (fun k_ => some k_ ≠ ((.slice q2 qU.length q3) : Value).ownBlock ∧ some k_ ≠ ((.slice jE qZ.length jF) : Value).ownBlock) (.slice jU qm.length jV) qm) ∧ Aside0 (wc.heap[qG]? = some (.cells #[.int .i64 0, .int .i64 0, (.slice none 0 0), .int .i64 0, .int .i64 0, (.slice none 0 0), (.slice none 0 0), .int .i64 0, .int .i64 0, (.slice none 0 0), (.slice none 0 0), .int .i64 0, .int .i64 0, (.slice none 0 0), (.slice none 0 0)] 28 (0, 0))) ∧ Aside0 (wc.heap[qa]? = some (.cells #[.int .i64 65, .int .i64 78, .int .i64 86, .int .i64 49] 85 (0, 0))) ∧ Aside0 (wc.heap[qR]? = some (.cells #[.int .i64 qO, .int .i64 qQ, qP, .int .i64 qc, .int .i64 qe, (.slice qx qT.length qy), (.slice q2 qU.length q3), .int .i64 qi, .int .i64 qk, (.slice jC qY.length jD), (.slice jE qZ.length jF), .int .i64 q1, .int .i64 q9, (.slice jQ qj.length jR), (.slice jU qm.length jV)] 28 (0, 0))) ∧ Aside0 (I8 w wc g1054 qD qN qz) ∧ Aside0 (Below w.heap.size w wc))
         case first =>
          have H := yK.out
          clear yK
          by_cases c79 : jI < 0
          ·rw [if_pos c79] at H
           have c79b0 := decide_eq_true c79
           clear c79
           (first | rw [c79b0] | (simp only [i64_w, i32_w]; rw [c79b0]) | skip)
           by_cases c80 : 0 ≤ qt
           ·rw [if_pos c80] at H
            have c80b0 := eq_true c80
            have c80b1 := decide_eq_true c80
            clear c80
            by_cases c81 : qt ≤ (l0.length : Int)
            ·rw [if_pos c81] at H
             have c81b0 := eq_true c81
             have c81b1 := decide_eq_true c81
             clear c81
             replace H := zbs H
             obtain ⟨jP, A820, H⟩ := H
             replace H : ((sR_two.f jP).bind fun qL => (if 0 < (qL.length : Int) then ((sR_reader_next.f qD qt jI (wrap64 (rd qL 0)) (wrap64 (rd qL 0))).bind fun bt1124 => (if 1 < (qL.length : Int) then ((sR_reader_next.f qD bt1124.2.1 bt1124.2.2 (wrap64 (rd qL 1)) (wrap64 (rd qL 1))).bind fun bt1129 => (sR_Decode.j3 kj45 l0 qD bt1129.2.1 bt1129.2.2 qO qQ qM qc qe qT qU qi qk qY qZ q1 q9 qj qm)) else (none))) else (none))) = some (r1, r2, r3, r4, r5, r6, r7, r8, r9, r10, r11, r12, r13, r14, r15, r16) := H
             have A82 := aM A820
             clear A820
             replace H := zbs H
             obtain ⟨qL, A830, H⟩ := H
             replace H : (if 0 < (qL.length : Int) then ((sR_reader_next.f qD qt jI (wrap64 (rd qL 0)) (wrap64 (rd qL 0))).bind fun bt1124 => (if 1 < (qL.length : Int) then ((sR_reader_next.f qD bt1124.2.1 bt1124.2.2 (wrap64 (rd qL 1)) (wrap64 (rd qL 1))).bind fun bt1129 => (sR_Decode.j3 kj45 l0 qD bt1129.2.1 bt1129.2.2 qO qQ qM qc qe qT qU qi qk qY qZ q1 q9 qj qm)) else (none))) else (none)) = some (r1, r2, r3, r4, r5, r6, r7, r8, r9, r10, r11, r12, r13, r14, r15, r16) := H
             have A83 := aM A830
             clear A830
             by_cases c84 : 0 < (qL.length : Int)
             ·rw [if_pos c84] at H
              have c84b0 := decide_eq_true c84
              have c84b1 : decide (0 < qL.length) = true := decide_eq_true (by omega)
              clear c84
              replace H := zbs H
              obtain ⟨⟨yS, jW, jX⟩, A850, H⟩ := H
              replace H : (if 1 < (qL.length : Int) then ((sR_reader_next.f qD jW jX (wrap64 (rd qL 1)) (wrap64 (rd qL 1))).bind fun bt1129 => (sR_Decode.j3 kj45 l0 qD bt1129.2.1 bt1129.2.2 qO qQ qM qc qe qT qU qi qk qY qZ q1 q9 qj qm)) else (none)) = some (r1, r2, r3, r4, r5, r6, r7, r8, r9, r10, r11, r12, r13, r14, r15, r16) := H
              have A85 := aM A850
              clear A850
              by_cases c86 : 1 < (qL.length : Int)
              ·rw [if_pos c86] at H
               have c86b0 := decide_eq_true c86
               have c86b1 : decide (1 < qL.length) = true := decide_eq_true (by omega)
               clear c86
               replace H := zbs H
               obtain ⟨⟨yT, yG, yH⟩, A870, H⟩ := H
               replace H : (sR_Decode.j3 kj45 l0 qD yG yH qO qQ qM qc qe qT qU qi qk qY qZ q1 q9 qj qm) = some (r1, r2, r3, r4, r5, r6, r7, r8, r9, r10, r11, r12, r13, r14, r15, r16) := H
               have A87 := aM A870
               clear A870
               have H' := aM H
               clear H
               obtain ⟨ASz88_0, cSz88_0, HGz88, hgz88, HSz88_0⟩ := qB.out
               have qCf := cellS84_0 HGz88
               have qCg := cellS84_1 HGz88
               have qCh := cellS84_2 HGz88
               have qCi := z1_ HGz88 1
               have qCj := z1_ HGz88 2
               clear HGz88 hgz88
               obtain ⟨i089, hi089, _, hsz89, _⟩ := info_parts info5
               obtain ⟨hcut89, hA89, hC89⟩ := print_take_of (P := Try.prog) (Value.int .u8) 0 31 5 .i64 Try.underlying31 hi089 hsz89 A0 c0 l0 qt (of_decide_eq_true za) (of_decide_eq_true za) HC0.out
               have yM := aM (Kd.C_of_reads (h1 := fun _ => rfl) (hA89 _ (Kd.reads_of_C HR0.out)))
               have yN := aM hC89
               clear hA89 hC89 hi089 hsz89
               try go_wp2_with (first | ((with_reducible refine gate_callee (f := 44) rfl ?_); refine z13_ (some 79) rfl rfl Try.func44 zk rfl #[.slice A0 (l0.take (qt : Int).toNat).length c0] rfl (by (try simp only [List.map_toArray, List.map_cons, List.map_nil]); first | done | (rw [show (l0.take (qt : Int).toNat).length = qt.toNat from (by rw [List.length_take]; have h_ : (qt : Int) ≤ (l0.length : Int) := of_decide_eq_true za; omega)] <;> rfl) | rfl | (simp only [List.length_drop, List.length_take]; rfl)) ?_; (with_reducible refine (sR_check.calls kj45 _ _ (l0.take (qt : Int).toNat) jP _ ?side1 ?side2 A82.out).mono ?_); (case side1 => exact Kd.z8_ yM.out (zBv HB)); (case side2 => exact yN.out); rintro e w' ⟨rfl, ⟨nd, rfl⟩⟩; refine ⟨_, rfl, ?_⟩) | ((with_reducible refine gate_callee (f := 43) rfl ?_); refine z13_ (some 80) rfl rfl Try.func43 zk rfl #[.int .i64 jP] rfl zA ?_; (with_reducible refine (sR_two.calls jP qL _ A83.out).mono ?_); rintro e w90 ⟨v1120, rfl, ho0, hb⟩; refine ⟨_, rfl, ?_⟩; replace qE := aM (Kd.z7_ (by apply rX; exact (Kd.z0_ (fA (fA (fA (fA (Kd.z3_ qE.out qC.out (by decide)))))) (fun _ h_ => h_.1))) hb); replace qu := aM (Kd.z7_ (by apply rX; exact (Kd.z0_ (fA (fA (fA (fA (Kd.z3_ qu.out qC.out (by decide)))))) (fun _ h_ => h_.1))) hb); replace qv := aM (Kd.z7_ (by apply rX; exact (Kd.z0_ (fA (fA (fA (fA (Kd.z3_ qv.out qC.out (by decide)))))) (fun _ h_ => h_.1))) hb); replace q4 := aM (Kd.z7_ (by apply rX; exact (Kd.z0_ (fA (fA (fA (fA (Kd.z3_ q4.out qC.out (by decide)))))) (fun _ h_ => h_.1))) hb); replace q5 := aM (Kd.z7_ (by apply rX; exact (Kd.z0_ (fA (fA (fA (fA (Kd.z3_ q5.out qC.out (by decide)))))) (fun _ h_ => h_.1))) hb); replace jG := aM (Kd.z7_ (by apply rX; exact (Kd.z0_ (fA (fA (fA (fA (Kd.z3_ jG.out qC.out (by decide)))))) (fun _ h_ => h_.1))) hb); replace jH := aM (Kd.z7_ (by apply rX; exact (Kd.z0_ (fA (fA (fA (fA (Kd.z3_ jH.out qC.out (by decide)))))) (fun _ h_ => h_.1))) hb); have qd := aM (Kd.z20_ ho0 (z4_ (zBv HB))); replace qA := aM (z5_ (g := qG) (zb qA) hb); replace qF := aM (z5_ (g := qa) (zb qF) hb); replace qC := aM (z5_ (g := qR) (o := .cells #[.int .i64 qO, .int .i64 qQ, qP, .int .i64 qc, .int .i64 qe, .slice qx qT.length qy, .slice q2 qU.length q3, .int .i64 qi, .int .i64 qk, .slice jC qY.length jD, .slice jE qZ.length jF, .int .i64 q1, .int .i64 q9, .slice jQ qj.length jR, .slice jU qm.length jV] 28 (0, 0)) (by refine lZ ?_; refine blk_put (cs := #[.int .i64 qO, .int .i64 qQ, qP, .int .i64 qc, .int .i64 qe, .slice qx qT.length qy, .slice q2 qU.length q3, .int .i64 qi, .int .i64 qk, .slice jC qY.length jD, .slice jE qZ.length jF, .int .i64 q1, .int .i64 q9, .slice jQ qj.length jR, .slice none 0 0]) ?_ 14 _ rfl; refine lZ ?_; refine blk_put (cs := #[.int .i64 qO, .int .i64 qQ, qP, .int .i64 qc, .int .i64 qe, .slice qx qT.length qy, .slice q2 qU.length q3, .int .i64 qi, .int .i64 qk, .slice jC qY.length jD, .slice jE qZ.length jF, .int .i64 q1, .int .i64 q9, .slice none 0 0, .slice none 0 0]) ?_ 13 _ rfl; refine lZ ?_; refine blk_put (cs := #[.int .i64 qO, .int .i64 qQ, qP, .int .i64 qc, .int .i64 qe, .slice qx qT.length qy, .slice q2 qU.length q3, .int .i64 qi, .int .i64 qk, .slice jC qY.length jD, .slice jE qZ.length jF, .int .i64 q1, .int .i64 0, .slice none 0 0, .slice none 0 0]) ?_ 12 _ rfl; refine lZ ?_; refine blk_put (cs := #[.int .i64 qO, .int .i64 qQ, qP, .int .i64 qc, .int .i64 qe, .slice qx qT.length qy, .slice q2 qU.length q3, .int .i64 qi, .int .i64 qk, .slice jC qY.length jD, .slice jE qZ.length jF, .int .i64 0, .int .i64 0, .slice none 0 0, .slice none 0 0]) ?_ 11 _ rfl; refine lZ ?_; exact qC.out) hb); replace HB := aM (z6_ (zBv HB) hb); replace qB := aM (I8.below (show I8 w _ g1054 qD qt jI from zSv qB) hb); (try clear hb); (try clear hb2); (try clear hk); (try clear hi); (try clear ho0)))
               replace qE := aM (Kd.R_drew qE.out)
               replace qu := aM (Kd.R_drew qu.out)
               replace qv := aM (Kd.R_drew qv.out)
               replace q4 := aM (Kd.R_drew q4.out)
               replace q5 := aM (Kd.R_drew q5.out)
               replace jG := aM (Kd.R_drew jG.out)
               replace jH := aM (Kd.R_drew jH.out)
               replace qd := aM (Kd.R_drew qd.out)
               replace qA := aM (blk_drew qA.out)
               replace qF := aM (blk_drew qF.out)
               replace qC := aM (blk_drew qC.out)
               replace qB := aM (I8.drew qB.out)
               replace HB := aM (below_drew1 HB.out)
               obtain ⟨qEs, qEt, eo92⟩ := Kd.R_slice qd.out
               (first | subst eo92 | (injection eo92 with f1_ f2_ f3_; have f4_ := f1_.symm; have f5_ := f3_.symm; clear f1_ f2_ f3_; subst f4_; subst f5_))
               have p1122 : 0 ≤ (0 : Int) := (by omega)
               have q1122 : 0 < (qL.length : Int) := of_decide_eq_true za
               obtain ⟨ad1122, e1122, hx1122_0⟩ := Kd.at_int (Kd.z9_ qd.out).2.2 0 p1122 q1122
               cases e1122
               have qi1122 : (0 < qL.length) = True := eq_true (by omega)
               (try rw [show ((0 : Int)).toNat = 0 from rfl] at hx1122_0)
               (try rw [Addr.add_zero'] at hx1122_0)
               replace p1122 := eq_true p1122
               replace q1122 := eq_true q1122
               have p1123 : 0 ≤ (0 : Int) := (by omega)
               have q1123 : 0 < (qL.length : Int) := of_decide_eq_true za
               obtain ⟨ad1123, e1123, hx1123_0⟩ := Kd.at_int (Kd.z9_ qd.out).2.2 0 p1123 q1123
               obtain rfl : ad1122 = ad1123 := (by injection e1123)
               have qi1123 : (0 < qL.length) = True := eq_true (by omega)
               (try rw [show ((0 : Int)).toNat = 0 from rfl] at hx1123_0)
               (try rw [Addr.add_zero'] at hx1123_0)
               replace p1123 := eq_true p1123
               replace q1123 := eq_true q1123
               refine start_ (n := 10) (S := fun w' => w'.cell? ad1122 = some (.int .u8 (rd qL 0)) ∧ w'.cell? ad1122 = some (.int .u8 (rd qL 0))) (ds := []) (bs 10 0) zk rfl rfl ⟨hx1122_0, hx1123_0⟩ (fun hHeld => ?_); refine with_tabW sR_Decode.tab21 sR_Decode.bits21 (fun HT_ HW_ => ?_)
               generalize w90.drew = w91 at qE qu qv q4 q5 jG jH qd qA qF qC qB HB hx1122_0 hx1123_0 hHeld ⊢
               refine pQ 0 81 10 1 ?_
               refine pQ 1 82 10 3 ?_
               refine pQ 2 83 10 7 ?_
               refine pQ 5 86 10 39 ?_
               refine pQ 6 87 10 103 ?_
               refine take_ (i := 3) (N := some 84) (v := ?_) (a' := ?_) (bs 10 111) rfl rfl (take_ofW HT_.out HW_.out zk) (fun _ _ _ h => h) (Or.inl ⟨by rfl, ?_⟩) hHeld ?_ ?_
               rotate_left
               ·rintro w' ⟨s0, s1⟩
                go_simp
                with_reducible rfl
               rotate_left
               ·simp only [Act.put, List.setIfInBounds_toArray, List.set_cons_zero, List.set_cons_succ, i64_w, i32_w]
                rfl
               refine pQ 4 85 10 127 ?_
               refine take_ (i := 7) (N := some 88) (v := ?_) (a' := ?_) (bs 10 255) rfl rfl (take_ofW HT_.out HW_.out zk) (fun _ _ _ h => h) (Or.inl ⟨by rfl, ?_⟩) hHeld ?_ ?_
               rotate_left
               ·rintro w' ⟨s0, s1⟩
                go_simp
                with_reducible rfl
               rotate_left
               ·simp only [Act.put, List.setIfInBounds_toArray, List.set_cons_zero, List.set_cons_succ, i64_w, i32_w]
                rfl
               refine pQ 8 89 10 511 ?_
               refine one_ (i := 9) (N := some 90) (bs 10 1023) rfl rfl (one_of HT_.out zk) (by decide) (fun K hK => ?_)
               refine goes_ Try.func45 zk rfl #[.pointer (some ⟨g1054, 0, none⟩), .int .i64 (wrap64 (rd qL 0)), .int .i64 (wrap64 (rd qL 0))] (by rfl) rfl rfl zA ?_
               with_reducible refine (sR_reader_next.calls g1054 qD qt jI (wrap64 (rd qL 0)) (wrap64 (rd qL 0)) yS jW jX w _ ?side1 ?side2 A85.out).mono ?_
               (case side1 => repeat (first | (with_reducible first | exact qB.out | apply I8.alloc | apply I8.drewN | apply I8.drew | apply I8.set_1 | apply I8.set_2 | refine I8.far ?_ qV.out _ | refine I8.far ?_ qW.out _ | refine I8.far ?_ qf.out _) | exact qB.out))
               (case side2 => exact (zBv HB))
               rintro e w93 ⟨rfl, hi, hb, hk⟩
               have HS0_ := keep_cell hk (hHeld.1) (by first | (rw [add_block]; exact Kd.own_blk (I8.own_ne qB.out qd.out (by decide))) | (show (Addr.add _ _).block ≠ _; rw [add_block]; exact Kd.own_blk (I8.own_ne qB.out qd.out (by decide))) | exact Kd.own_blk (I8.own_ne qB.out qd.out (by decide)) | exact (Kd.own_blk (I8.own_ne qB.out qd.out (by decide)) :))
               have HS1_ := keep_cell hk (hHeld.2) (by first | (rw [add_block]; exact Kd.own_blk (I8.own_ne qB.out qd.out (by decide))) | (show (Addr.add _ _).block ≠ _; rw [add_block]; exact Kd.own_blk (I8.own_ne qB.out qd.out (by decide))) | exact Kd.own_blk (I8.own_ne qB.out qd.out (by decide)) | exact (Kd.own_blk (I8.own_ne qB.out qd.out (by decide)) :))
               refine ⟨_, rfl, ?_⟩
               replace qE := aM (Kd.z0_ (Kd.z22_ (I8.apart (show I8 w _ g1054 qD qt jI from zSv qB) (lR qE) (by decide)) hk (fun _ h => h.2)) (fun _ h => h.1))
               replace qA := aM (KeepBut.blk hk (g' := qG) (lK qA) qb.out (by simp))
               replace qF := aM (KeepBut.blk hk (g' := qa) (lK qF) qX.out (by simp))
               replace qC := aM (KeepBut.blk hk (g' := qR) (lK qC) qg.out (by simp))
               replace qu := aM (Kd.z0_ (Kd.z22_ (I8.apart (show I8 w _ g1054 qD qt jI from zSv qB) (lR qu) (by decide)) hk (fun _ h => h.2)) (fun _ h => h.1))
               replace qv := aM (Kd.z0_ (Kd.z22_ (I8.apart (show I8 w _ g1054 qD qt jI from zSv qB) (lR qv) (by decide)) hk (fun _ h => h.2)) (fun _ h => h.1))
               replace q4 := aM (Kd.z0_ (Kd.z22_ (I8.apart (show I8 w _ g1054 qD qt jI from zSv qB) (lR q4) (by decide)) hk (fun _ h => h.2)) (fun _ h => h.1))
               replace q5 := aM (Kd.z0_ (Kd.z22_ (I8.apart (show I8 w _ g1054 qD qt jI from zSv qB) (lR q5) (by decide)) hk (fun _ h => h.2)) (fun _ h => h.1))
               replace jG := aM (Kd.z0_ (Kd.z22_ (I8.apart (show I8 w _ g1054 qD qt jI from zSv qB) (lR jG) (by decide)) hk (fun _ h => h.2)) (fun _ h => h.1))
               replace jH := aM (Kd.z0_ (Kd.z22_ (I8.apart (show I8 w _ g1054 qD qt jI from zSv qB) (lR jH) (by decide)) hk (fun _ h => h.2)) (fun _ h => h.1))
               replace qd := aM (Kd.z0_ (Kd.z22_ (I8.apart (show I8 w _ g1054 qD qt jI from zSv qB) (lR qd) (by decide)) hk (fun _ h => h.2)) (fun _ h => h.1))
               replace HB := aM (hb)
               replace qB := aM (hi)
               (try clear hb)
               (try clear hb2)
               (try clear hk)
               (try clear hi)
               refine hK.out _ _ ⟨HS0_, HS1_⟩ (fun hHeld => ?_)
               clear hK K
               refine norm_ (a' := ?_) ?_ ?_
               rotate_left
               ·show Act.put _ (some 90) _ = _
                simp only [Act.put, List.setIfInBounds_toArray, List.set_cons_zero, List.set_cons_succ, i64_w, i32_w]
                rfl
               refine done_ (done_of HT_.out zk) ?_
               try go_wp2
               replace qE := aM (Kd.R_drew qE.out)
               replace qu := aM (Kd.R_drew qu.out)
               replace qv := aM (Kd.R_drew qv.out)
               replace q4 := aM (Kd.R_drew q4.out)
               replace q5 := aM (Kd.R_drew q5.out)
               replace jG := aM (Kd.R_drew jG.out)
               replace jH := aM (Kd.R_drew jH.out)
               replace qd := aM (Kd.R_drew qd.out)
               replace qA := aM (blk_drew qA.out)
               replace qF := aM (blk_drew qF.out)
               replace qC := aM (blk_drew qC.out)
               replace qB := aM (I8.drew qB.out)
               replace HB := aM (below_drew1 HB.out)
               have p1127 : 0 ≤ (1 : Int) := (by omega)
               have q1127 : 1 < (qL.length : Int) := of_decide_eq_true za
               obtain ⟨ad1127, e1127, hx1127_0⟩ := Kd.at_int (Kd.z9_ qd.out).2.2 1 p1127 q1127
               obtain rfl : ad1122 = ad1127 := (by injection e1127)
               (try simp only [show (1 : Int).toNat = 1 from rfl, Nat.reduceMul, Nat.reduceEqDiff, Go.Addr.add, ↓reduceIte] at hx1127_0)
               have qi1127 : (1 < qL.length) = True := eq_true (by omega)
               (try rw [show ((1 : Int)).toNat = 1 from rfl] at hx1127_0)
               replace p1127 := eq_true p1127
               replace q1127 := eq_true q1127
               have p1128 : 0 ≤ (1 : Int) := (by omega)
               have q1128 : 1 < (qL.length : Int) := of_decide_eq_true za
               obtain ⟨ad1128, e1128, hx1128_0⟩ := Kd.at_int (Kd.z9_ qd.out).2.2 1 p1128 q1128
               obtain rfl : ad1122 = ad1128 := (by injection e1128)
               (try simp only [show (1 : Int).toNat = 1 from rfl, Nat.reduceMul, Nat.reduceEqDiff, Go.Addr.add, ↓reduceIte] at hx1128_0)
               have qi1128 : (1 < qL.length) = True := eq_true (by omega)
               (try rw [show ((1 : Int)).toNat = 1 from rfl] at hx1128_0)
               replace p1128 := eq_true p1128
               replace q1128 := eq_true q1128
               refine start_ (n := 10) (S := fun w' => w'.cell? ⟨ad1122.block, ad1122.off + 1, none⟩ = some (.int .u8 (rd qL 1)) ∧ w'.cell? ⟨ad1122.block, ad1122.off + 1, none⟩ = some (.int .u8 (rd qL 1))) (ds := []) (bs 10 0) zk rfl rfl ⟨hx1127_0, hx1128_0⟩ (fun hHeld => ?_); refine with_tabW sR_Decode.tab22 sR_Decode.bits22 (fun HT_ HW_ => ?_)
               generalize w93.drew = w94 at qE qu qv q4 q5 jG jH qd qA qF qC qB HB hx1127_0 hx1128_0 hHeld ⊢
               refine pQ 0 91 10 1 ?_
               refine pQ 1 92 10 3 ?_
               refine pQ 2 93 10 7 ?_
               refine pQ 5 96 10 39 ?_
               refine pQ 6 97 10 103 ?_
               refine take_ (i := 3) (N := some 94) (v := ?_) (a' := ?_) (bs 10 111) rfl rfl (take_ofW HT_.out HW_.out zk) (fun _ _ _ h => h) (Or.inl ⟨by rfl, ?_⟩) hHeld ?_ ?_
               rotate_left
               ·rintro w' ⟨s0, s1⟩
                go_simp
                with_reducible rfl
               rotate_left
               ·simp only [Act.put, List.setIfInBounds_toArray, List.set_cons_zero, List.set_cons_succ, i64_w, i32_w]
                rfl
               refine pQ 4 95 10 127 ?_
               refine take_ (i := 7) (N := some 98) (v := ?_) (a' := ?_) (bs 10 255) rfl rfl (take_ofW HT_.out HW_.out zk) (fun _ _ _ h => h) (Or.inl ⟨by rfl, ?_⟩) hHeld ?_ ?_
               rotate_left
               ·rintro w' ⟨s0, s1⟩
                go_simp
                with_reducible rfl
               rotate_left
               ·simp only [Act.put, List.setIfInBounds_toArray, List.set_cons_zero, List.set_cons_succ, i64_w, i32_w]
                rfl
               refine pQ 8 99 10 511 ?_
               refine one_ (i := 9) (N := some 100) (bs 10 1023) rfl rfl (one_of HT_.out zk) (by decide) (fun K hK => ?_)
               refine goes_ Try.func45 zk rfl #[.pointer (some ⟨g1054, 0, none⟩), .int .i64 (wrap64 (rd qL 1)), .int .i64 (wrap64 (rd qL 1))] (by rfl) rfl rfl zA ?_
               with_reducible refine (sR_reader_next.calls g1054 qD jW jX (wrap64 (rd qL 1)) (wrap64 (rd qL 1)) yT yG yH w _ ?side1 ?side2 A87.out).mono ?_
               (case side1 => repeat (first | (with_reducible first | exact qB.out | apply I8.alloc | apply I8.drewN | apply I8.drew | apply I8.set_1 | apply I8.set_2 | refine I8.far ?_ qV.out _ | refine I8.far ?_ qW.out _ | refine I8.far ?_ qf.out _) | exact qB.out))
               (case side2 => exact (zBv HB))
               rintro e w95 ⟨rfl, hi, hb, hk⟩
               have HS0_ := keep_cell hk (hHeld.1) (by first | (rw [add_block]; exact Kd.own_blk (I8.own_ne qB.out qd.out (by decide))) | (show (Addr.add _ _).block ≠ _; rw [add_block]; exact Kd.own_blk (I8.own_ne qB.out qd.out (by decide))) | exact Kd.own_blk (I8.own_ne qB.out qd.out (by decide)) | exact (Kd.own_blk (I8.own_ne qB.out qd.out (by decide)) :))
               have HS1_ := keep_cell hk (hHeld.2) (by first | (rw [add_block]; exact Kd.own_blk (I8.own_ne qB.out qd.out (by decide))) | (show (Addr.add _ _).block ≠ _; rw [add_block]; exact Kd.own_blk (I8.own_ne qB.out qd.out (by decide))) | exact Kd.own_blk (I8.own_ne qB.out qd.out (by decide)) | exact (Kd.own_blk (I8.own_ne qB.out qd.out (by decide)) :))
               refine ⟨_, rfl, ?_⟩
               replace qE := aM (Kd.z0_ (Kd.z22_ (I8.apart (show I8 w _ g1054 qD jW jX from zSv qB) (lR qE) (by decide)) hk (fun _ h => h.2)) (fun _ h => h.1))
               replace qA := aM (KeepBut.blk hk (g' := qG) (lK qA) qb.out (by simp))
               replace qF := aM (KeepBut.blk hk (g' := qa) (lK qF) qX.out (by simp))
               replace qC := aM (KeepBut.blk hk (g' := qR) (lK qC) qg.out (by simp))
               replace qu := aM (Kd.z0_ (Kd.z22_ (I8.apart (show I8 w _ g1054 qD jW jX from zSv qB) (lR qu) (by decide)) hk (fun _ h => h.2)) (fun _ h => h.1))
               replace qv := aM (Kd.z0_ (Kd.z22_ (I8.apart (show I8 w _ g1054 qD jW jX from zSv qB) (lR qv) (by decide)) hk (fun _ h => h.2)) (fun _ h => h.1))
               replace q4 := aM (Kd.z0_ (Kd.z22_ (I8.apart (show I8 w _ g1054 qD jW jX from zSv qB) (lR q4) (by decide)) hk (fun _ h => h.2)) (fun _ h => h.1))
               replace q5 := aM (Kd.z0_ (Kd.z22_ (I8.apart (show I8 w _ g1054 qD jW jX from zSv qB) (lR q5) (by decide)) hk (fun _ h => h.2)) (fun _ h => h.1))
               replace jG := aM (Kd.z0_ (Kd.z22_ (I8.apart (show I8 w _ g1054 qD jW jX from zSv qB) (lR jG) (by decide)) hk (fun _ h => h.2)) (fun _ h => h.1))
               replace jH := aM (Kd.z0_ (Kd.z22_ (I8.apart (show I8 w _ g1054 qD jW jX from zSv qB) (lR jH) (by decide)) hk (fun _ h => h.2)) (fun _ h => h.1))
               replace qd := aM (Kd.z0_ (Kd.z22_ (I8.apart (show I8 w _ g1054 qD jW jX from zSv qB) (lR qd) (by decide)) hk (fun _ h => h.2)) (fun _ h => h.1))
               replace HB := aM (hb)
               replace qB := aM (hi)
               (try clear hb)
               (try clear hb2)
               (try clear hk)
               (try clear hi)
               refine hK.out _ _ ⟨HS0_, HS1_⟩ (fun hHeld => ?_)
               clear hK K
               refine norm_ (a' := ?_) ?_ ?_
               rotate_left
               ·show Act.put _ (some 100) _ = _
                simp only [Act.put, List.setIfInBounds_toArray, List.set_cons_zero, List.set_cons_succ, i64_w, i32_w]
                rfl
               refine done_ (done_of HT_.out zk) ?_
               try go_wp2
               go_meet
               case rel => exact ⟨_, (yG), (yH), H', ⟨by have := HK1.out; have := HK2.out; have := HJ45.out; first | omega | exact Nat.le_refl _⟩, ⟨lR qE⟩, ⟨by apply rX; exact Kd.z0_ qu.out (fun _ hk => ⟨hk.1.2, hk.2⟩)⟩, ⟨by apply rX; exact Kd.z0_ qv.out (fun _ hk => ⟨hk.1.2, hk.2⟩)⟩, ⟨by apply rX; exact Kd.z0_ q4.out (fun _ hk => ⟨hk.1.2, hk.2⟩)⟩, ⟨by apply rX; exact Kd.z0_ q5.out (fun _ hk => ⟨hk.1.2, hk.2⟩)⟩, ⟨by apply rX; exact Kd.z0_ jG.out (fun _ hk => ⟨hk.1.2, hk.2⟩)⟩, ⟨by apply rX; exact Kd.z0_ jH.out (fun _ hk => ⟨hk.1.2, hk.2⟩)⟩, ⟨zb qA⟩, ⟨zb qF⟩, ⟨zb qC⟩, ⟨zSv qB⟩, ⟨zBv HB⟩⟩
              ·rw [if_neg c86] at H
               exact absurd H (by simp)
             ·rw [if_neg c84] at H
              exact absurd H (by simp)
            ·rw [if_neg c81] at H
             exact absurd H (by simp)
           ·rw [if_neg c80] at H
            exact absurd H (by simp)
          ·rw [if_neg c79] at H
           have c79b0 := decide_eq_false c79
           clear c79
           (first | rw [c79b0] | (simp only [i64_w, i32_w]; rw [c79b0]) | skip)
           have H' := aM H
           clear H
           go_wp2
           go_meet
           case rel => exact ⟨_, (qt), (jI), H', ⟨by have := HK1.out; have := HK2.out; have := HJ45.out; first | omega | exact Nat.le_refl _⟩, ⟨by apply rX; exact Kd.z0_ (fA (fA (fA (fA (Kd.z3_ qE.out qC.out (by decide)))))) (fun _ hk => trivial)⟩, ⟨by apply rX; exact Kd.z0_ (fA (fA (fA (fA (Kd.z3_ qu.out qC.out (by decide)))))) (fun _ hk => ⟨hk.1.1.2, hk.1.2⟩)⟩, ⟨by apply rX; exact Kd.z0_ (fA (fA (fA (fA (Kd.z3_ qv.out qC.out (by decide)))))) (fun _ hk => ⟨hk.1.1.2, hk.1.2⟩)⟩, ⟨by apply rX; exact Kd.z0_ (fA (fA (fA (fA (Kd.z3_ q4.out qC.out (by decide)))))) (fun _ hk => ⟨hk.1.1.2, hk.1.2⟩)⟩, ⟨by apply rX; exact Kd.z0_ (fA (fA (fA (fA (Kd.z3_ q5.out qC.out (by decide)))))) (fun _ hk => ⟨hk.1.1.2, hk.1.2⟩)⟩, ⟨by apply rX; exact Kd.z0_ (fA (fA (fA (fA (Kd.z3_ jG.out qC.out (by decide)))))) (fun _ hk => ⟨hk.1.1.2, hk.1.2⟩)⟩, ⟨by apply rX; exact Kd.z0_ (fA (fA (fA (fA (Kd.z3_ jH.out qC.out (by decide)))))) (fun _ hk => ⟨hk.1.1.2, hk.1.2⟩)⟩, ⟨zb qA⟩, ⟨zb qF⟩, ⟨by refine lZ ?_; refine blk_put (cs := #[.int .i64 qO, .int .i64 qQ, qP, .int .i64 qc, .int .i64 qe, .slice qx qT.length qy, .slice q2 qU.length q3, .int .i64 qi, .int .i64 qk, .slice jC qY.length jD, .slice jE qZ.length jF, .int .i64 q1, .int .i64 q9, .slice jQ qj.length jR, .slice none 0 0]) ?_ 14 _ rfl; refine lZ ?_; refine blk_put (cs := #[.int .i64 qO, .int .i64 qQ, qP, .int .i64 qc, .int .i64 qe, .slice qx qT.length qy, .slice q2 qU.length q3, .int .i64 qi, .int .i64 qk, .slice jC qY.length jD, .slice jE qZ.length jF, .int .i64 q1, .int .i64 q9, .slice none 0 0, .slice none 0 0]) ?_ 13 _ rfl; refine lZ ?_; refine blk_put (cs := #[.int .i64 qO, .int .i64 qQ, qP, .int .i64 qc, .int .i64 qe, .slice qx qT.length qy, .slice q2 qU.length q3, .int .i64 qi, .int .i64 qk, .slice jC qY.length jD, .slice jE qZ.length jF, .int .i64 q1, .int .i64 0, .slice none 0 0, .slice none 0 0]) ?_ 12 _ rfl; refine lZ ?_; refine blk_put (cs := #[.int .i64 qO, .int .i64 qQ, qP, .int .i64 qc, .int .i64 qe, .slice qx qT.length qy, .slice q2 qU.length q3, .int .i64 qi, .int .i64 qk, .slice jC qY.length jD, .slice jE qZ.length jF, .int .i64 0, .int .i64 0, .slice none 0 0, .slice none 0 0]) ?_ 11 _ rfl; refine lZ ?_; exact qC.out⟩, ⟨zSv qB⟩, ⟨zBv HB⟩⟩
         case rest =>
          clear yK
          try clear c49
          obtain ⟨kq, qN, qz, HA, HJ61, qE, qn, qo, qp, qq, qr, qs, qA, qF, qC, qB, HB⟩ := hcut
          cases kq with
          | zero => exact absurd HA.out (by simp [sR_Decode.j3])
          | succ kj61 =>
           have H := HA.out
           clear HA
           simp only [sR_Decode.j3] at H
           have yL := aM H
           clear H
           go_upto_region 23 with (fail)
           go_cut [114] (fun v114 wc => ∃ (kq : Nat) (jr : Bool), v114 = .bool jr ∧ Aside0 (sR_Decode.j4 kq jr qD qN qz qO qQ qM qc qe qT qU qi qk qY qZ q1 q9 qj qm = some (r1, r2, r3, r4, r5, r6, r7, r8, r9, r10, r11, r12, r13, r14, r15, r16)) ∧ Aside0 (kq ≤ kj61) ∧ Aside0 (Kd.R k48 48 wc w.heap.size (fun _ => True) qP qM) ∧ Aside0 (Kd.R k63 63 wc w.heap.size (fun k_ => some k_ ≠ ((.slice jC qY.length jD) : Value).ownBlock ∧ some k_ ≠ ((.slice jQ qj.length jR) : Value).ownBlock) (.slice qx qT.length qy) qT) ∧ Aside0 (Kd.R (Kd.int .i64) 3 wc w.heap.size (fun k_ => some k_ ≠ ((.slice jE qZ.length jF) : Value).ownBlock ∧ some k_ ≠ ((.slice jU qm.length jV) : Value).ownBlock) (.slice q2 qU.length q3) qU) ∧ Aside0 (Kd.R k63 63 wc w.heap.size (fun k_ => some k_ ≠ ((.slice qx qT.length qy) : Value).ownBlock ∧ some k_ ≠ ((.slice jQ qj.length jR) : Value).ownBlock) (.slice jC qY.length jD) qY) ∧ Aside0 (Kd.R (Kd.int .i64) 3 wc w.heap.size (fun k_ => some k_ ≠ ((.slice q2 qU.length q3) : Value).ownBlock ∧ some k_ ≠ ((.slice jU qm.length jV) : Value).ownBlock) (.slice jE qZ.length jF) qZ) ∧ Aside0 (Kd.R k63 63 wc w.heap.size (fun k_ => some k_ ≠ ((.slice qx qT.length qy) : Value).ownBlock ∧ some k_ ≠ ((.slice jC qY.length jD) : Value).ownBlock) (.slice jQ qj.length jR) qj) ∧ Aside0 (Kd.R (Kd.int .i64) 3 wc w.heap.size (fun k_ => some k_ ≠ ((.slice q2 qU.length q3) : Value).ownBlock ∧ some k_ ≠ ((.slice jE qZ.length jF) : Value).ownBlock) (.slice jU qm.length jV) qm) ∧ Aside0 (wc.heap[qG]? = some (.cells #[.int .i64 0, .int .i64 0, (.slice none 0 0), .int .i64 0, .int .i64 0, (.slice none 0 0), (.slice none 0 0), .int .i64 0, .int .i64 0, (.slice none 0 0), (.slice none 0 0), .int .i64 0, .int .i64 0, (.slice none 0 0), (.slice none 0 0)] 28 (0, 0))) ∧ Aside0 (wc.heap[qa]? = some (.cells #[.int .i64 65, .int .i64 78, .int .i64 86, .int .i64 49] 85 (0, 0))) ∧ Aside0 (wc.heap[qR]? = some (.cells #[.int .i64 qO, .int .i64 qQ, qP, .int .i64 qc, .int .i64 qe, (.slice qx qT.length qy), (.slice q2 qU.length q3), .int .i64 qi, .int .i64 qk, (.slice jC qY.length jD), (.slice jE qZ.length jF), .int .i64 q1, .int .i64 q9, (.slice jQ qj.length jR), (.slice jU qm.length jV)] 28 (0, 0))) ∧ Aside0 (I8 w wc g1054 qD qN qz) ∧ Aside0 (Below w.heap.size w wc))
           case first =>
            have H := yL.out
            clear yL
            by_cases c97 : qz < 0
            ·rw [if_pos c97] at H
             have c97b0 := decide_eq_true c97
             clear c97
             (first | rw [c97b0] | (simp only [i64_w, i32_w]; rw [c97b0]) | skip)
             have H' := aM H
             clear H
             obtain ⟨ASz98_0, cSz98_0, HGz98, hgz98, HSz98_0⟩ := qB.out
             have qCk := cellS84_0 HGz98
             have qCl := cellS84_1 HGz98
             have qCm := cellS84_2 HGz98
             have qCn := z1_ HGz98 1
             have qCo := z1_ HGz98 2
             clear HGz98 hgz98
             go_wp2
             go_meet
             case rel => exact ⟨_, (decide (qN < (l0.length : Int))), (by first | rfl | (simp; done) | (simp [*]; done) | (simp; omega)), H', ⟨by have := HK1.out; have := HK2.out; have := HJ45.out; have := HJ61.out; first | omega | exact Nat.le_refl _⟩, ⟨lR qE⟩, ⟨lR qn⟩, ⟨lR qo⟩, ⟨lR qp⟩, ⟨lR qq⟩, ⟨lR qr⟩, ⟨lR qs⟩, ⟨zb qA⟩, ⟨zb qF⟩, ⟨zb qC⟩, ⟨zSv qB⟩, ⟨zBv HB⟩⟩
            ·rw [if_neg c97] at H
             have c97b0 := decide_eq_false c97
             clear c97
             (first | rw [c97b0] | (simp only [i64_w, i32_w]; rw [c97b0]) | skip)
             have H' := aM H
             clear H
             obtain ⟨ASz99_0, cSz99_0, HGz99, hgz99, HSz99_0⟩ := qB.out
             have qCp := cellS84_0 HGz99
             have qCq := cellS84_1 HGz99
             have qCr := cellS84_2 HGz99
             have qCs := z1_ HGz99 1
             have qCt := z1_ HGz99 2
             clear HGz99 hgz99
             go_wp2
             go_meet
             case rel => exact ⟨_, (false), zT, H', ⟨by have := HK1.out; have := HK2.out; have := HJ45.out; have := HJ61.out; first | omega | exact Nat.le_refl _⟩, ⟨lR qE⟩, ⟨lR qn⟩, ⟨lR qo⟩, ⟨lR qp⟩, ⟨lR qq⟩, ⟨lR qr⟩, ⟨lR qs⟩, ⟨zb qA⟩, ⟨zb qF⟩, ⟨zb qC⟩, ⟨zSv qB⟩, ⟨zBv HB⟩⟩
           case rest =>
            clear yL
            try clear c9
            try clear c49
            obtain ⟨kq, jr, rfl, HA, HJ95, qE, qn, qo, qp, qq, qr, qs, qA, qF, qC, qB, HB⟩ := hcut
            cases kq with
            | zero => exact absurd HA.out (by simp [sR_Decode.j4])
            | succ kj95 =>
             have H := HA.out
             clear HA
             simp only [sR_Decode.j4] at H
             by_cases c100 : jr = true
             ·subst c100
              have H1 : (if qN ≥ 0 then (some (0, 0, ([] : List (S48)), 0, 0, ([] : List (S63)), ([] : List Int), 0, 0, ([] : List (S63)), ([] : List Int), 0, 0, ([] : List (S63)), ([] : List Int), qN)) else (some (qO, qQ, qM, qc, qe, qT, qU, qi, qk, qY, qZ, q1, q9, qj, qm, (-1)))) = some (r1, r2, r3, r4, r5, r6, r7, r8, r9, r10, r11, r12, r13, r14, r15, r16) := by rw [if_pos rfl] at H; exact H
              clear H
              have H := H1
              clear H1
              by_cases c101 : qN ≥ 0
              ·rw [if_pos c101] at H
               have c101b0 := decide_eq_true c101
               clear c101
               simp only [Option.some.injEq, Prod.mk.injEq] at H
               obtain ⟨rfl, rfl, rfl, rfl, rfl, rfl, rfl, rfl, rfl, rfl, rfl, rfl, rfl, rfl, rfl, rfl⟩ := H
               obtain ⟨ASz102_0, cSz102_0, HGz102, hgz102, HSz102_0⟩ := qB.out
               have yb := cellS84_0 HGz102
               have yc := cellS84_1 HGz102
               have yd := cellS84_2 HGz102
               have ye := z1_ HGz102 1
               have yf := z1_ HGz102 2
               clear HGz102 hgz102
               try go_wp2
               have n0_ : Aside0 (Kd.R k48 48 (wc.setCell ⟨g1054, 2, none⟩ (.int .i64 qN)) w.heap.size (fun _ => True) qP qM) := ⟨by apply rX; exact Kd.z0_ (fA (I8.apart qB.out qE.out (by decide))) (fun _ hk => trivial)⟩
               have n1_ : Aside0 (Kd.R k63 63 (wc.setCell ⟨g1054, 2, none⟩ (.int .i64 qN)) w.heap.size (fun k_ => some k_ ≠ (.slice jC qY.length jD : Value).ownBlock ∧ some k_ ≠ (.slice jQ qj.length jR : Value).ownBlock) (.slice qx qT.length qy) qT) := ⟨by apply rX; exact Kd.z0_ (fA (I8.apart qB.out qn.out (by decide))) (fun _ hk => ⟨hk.1.1, hk.1.2⟩)⟩
               have n2_ : Aside0 (Kd.R (Kd.int .i64) 3 (wc.setCell ⟨g1054, 2, none⟩ (.int .i64 qN)) w.heap.size (fun k_ => some k_ ≠ (.slice jE qZ.length jF : Value).ownBlock ∧ some k_ ≠ (.slice jU qm.length jV : Value).ownBlock) (.slice q2 qU.length q3) qU) := ⟨by apply rX; exact Kd.z0_ (fA (I8.apart qB.out qo.out (by decide))) (fun _ hk => ⟨hk.1.1, hk.1.2⟩)⟩
               have n3_ : Aside0 (Kd.R k63 63 (wc.setCell ⟨g1054, 2, none⟩ (.int .i64 qN)) w.heap.size (fun k_ => some k_ ≠ (.slice qx qT.length qy : Value).ownBlock ∧ some k_ ≠ (.slice jQ qj.length jR : Value).ownBlock) (.slice jC qY.length jD) qY) := ⟨by apply rX; exact Kd.z0_ (fA (I8.apart qB.out qp.out (by decide))) (fun _ hk => ⟨hk.1.1, hk.1.2⟩)⟩
               have n4_ : Aside0 (Kd.R (Kd.int .i64) 3 (wc.setCell ⟨g1054, 2, none⟩ (.int .i64 qN)) w.heap.size (fun k_ => some k_ ≠ (.slice q2 qU.length q3 : Value).ownBlock ∧ some k_ ≠ (.slice jU qm.length jV : Value).ownBlock) (.slice jE qZ.length jF) qZ) := ⟨by apply rX; exact Kd.z0_ (fA (I8.apart qB.out qq.out (by decide))) (fun _ hk => ⟨hk.1.1, hk.1.2⟩)⟩
               have n5_ : Aside0 (Kd.R k63 63 (wc.setCell ⟨g1054, 2, none⟩ (.int .i64 qN)) w.heap.size (fun k_ => some k_ ≠ (.slice qx qT.length qy : Value).ownBlock ∧ some k_ ≠ (.slice jC qY.length jD : Value).ownBlock) (.slice jQ qj.length jR) qj) := ⟨by apply rX; exact Kd.z0_ (fA (I8.apart qB.out qr.out (by decide))) (fun _ hk => ⟨hk.1.1, hk.1.2⟩)⟩
               have n6_ : Aside0 (Kd.R (Kd.int .i64) 3 (wc.setCell ⟨g1054, 2, none⟩ (.int .i64 qN)) w.heap.size (fun k_ => some k_ ≠ (.slice q2 qU.length q3 : Value).ownBlock ∧ some k_ ≠ (.slice jE qZ.length jF : Value).ownBlock) (.slice jU qm.length jV) qm) := ⟨by apply rX; exact Kd.z0_ (fA (I8.apart qB.out qs.out (by decide))) (fun _ hk => ⟨hk.1.1, hk.1.2⟩)⟩
               have n7_ : Aside0 ((wc.setCell ⟨g1054, 2, none⟩ (.int .i64 qN)).heap[qG]? = some (.cells #[.int .i64 0, .int .i64 0, .slice none 0 0, .int .i64 0, .int .i64 0, .slice none 0 0, .slice none 0 0, .int .i64 0, .int .i64 0, .slice none 0 0, .slice none 0 0, .int .i64 0, .int .i64 0, .slice none 0 0, .slice none 0 0] 28 (0, 0))) := ⟨zb qA⟩
               have n8_ : Aside0 ((wc.setCell ⟨g1054, 2, none⟩ (.int .i64 qN)).heap[qa]? = some (.cells #[.int .i64 65, .int .i64 78, .int .i64 86, .int .i64 49] 85 (0, 0))) := ⟨zb qF⟩
               have n9_ : Aside0 ((wc.setCell ⟨g1054, 2, none⟩ (.int .i64 qN)).heap[qR]? = some (.cells #[.int .i64 qO, .int .i64 qQ, qP, .int .i64 qc, .int .i64 qe, .slice qx qT.length qy, .slice q2 qU.length q3, .int .i64 qi, .int .i64 qk, .slice jC qY.length jD, .slice jE qZ.length jF, .int .i64 q1, .int .i64 q9, .slice jQ qj.length jR, .slice jU qm.length jV] 28 (0, 0))) := ⟨zb qC⟩
               have n10_ : Aside0 (I8 w (wc.setCell ⟨g1054, 2, none⟩ (.int .i64 qN)) g1054 qD qN qN) := ⟨zSv qB⟩
               have n11_ : Aside0 (Below w.heap.size w (wc.setCell ⟨g1054, 2, none⟩ (.int .i64 qN))) := ⟨zBv HB⟩
               (try clear qE)
               (try clear qn)
               (try clear qo)
               (try clear qp)
               (try clear qq)
               (try clear qr)
               (try clear qs)
               (try clear qA)
               (try clear qF)
               (try clear qC)
               (try clear qB)
               (try clear HB)
               generalize (wc.setCell ⟨g1054, 2, none⟩ (.int .i64 qN)) = w103 at n0_ n1_ n2_ n3_ n4_ n5_ n6_ n7_ n8_ n9_ n10_ n11_ ⊢
               have qE := n0_
               have qn := n1_
               have qo := n2_
               have qp := n3_
               have qq := n4_
               have qr := n5_
               have qs := n6_
               have qA := n7_
               have qF := n8_
               have qC := n9_
               have qB := n10_
               have HB := n11_
               clear n0_ n1_ n2_ n3_ n4_ n5_ n6_ n7_ n8_ n9_ n10_ n11_
               replace qE := aM (Kd.R_drew qE.out)
               replace qn := aM (Kd.R_drew qn.out)
               replace qo := aM (Kd.R_drew qo.out)
               replace qp := aM (Kd.R_drew qp.out)
               replace qq := aM (Kd.R_drew qq.out)
               replace qr := aM (Kd.R_drew qr.out)
               replace qs := aM (Kd.R_drew qs.out)
               replace qA := aM (blk_drew qA.out)
               replace qF := aM (blk_drew qF.out)
               replace qC := aM (blk_drew qC.out)
               replace qB := aM (I8.drew qB.out)
               replace HB := aM (below_drew1 HB.out)
               refine start_ (n := 7) (S := fun w' => w'.cell? ⟨g1054, 1, none⟩ = some (.int .i64 qN) ∧ w'.cell? ⟨g1054, 2, none⟩ = some (.int .i64 qN)) (ds := []) (bs 7 0) zk rfl rfl ⟨(by obtain ⟨_, _, hz_, _⟩ := qB.out; exact (z2_ hz_ 1).trans rfl), (by obtain ⟨_, _, hz_, _⟩ := qB.out; exact (z2_ hz_ 2).trans rfl)⟩ (fun hHeld => ?_)
               generalize w103.drew = w104 at qE qn qo qp qq qr qs qA qF qC qB HB hHeld ⊢
               refine pure_ (i := 0) (N := some 127) (v := ?_) (a' := ?_) (bs 7 1) rfl rfl zk (fun _ _ _ h => h) (Or.inl ⟨by rfl, ?_⟩) ?_ ?_
               rotate_left
               ·intro w'
                go_simp
                with_reducible rfl
               rotate_left
               ·simp only [Act.put, List.setIfInBounds_toArray, List.set_cons_zero, List.set_cons_succ, i64_w, i32_w]
                rfl
               refine pure_ (i := 1) (N := some 128) (v := ?_) (a' := ?_) (bs 7 3) rfl rfl zk (fun _ _ _ h => h) (Or.inl ⟨by rfl, ?_⟩) ?_ ?_
               rotate_left
               ·intro w'
                go_simp
                with_reducible rfl
               rotate_left
               ·simp only [Act.put, List.setIfInBounds_toArray, List.set_cons_zero, List.set_cons_succ, i64_w, i32_w]
                rfl
               refine pure_ (i := 2) (N := some 129) (v := ?_) (a' := ?_) (bs 7 7) rfl rfl zk (fun _ _ _ h => h) (Or.inl ⟨by rfl, ?_⟩) ?_ ?_
               rotate_left
               ·intro w'
                go_simp
                with_reducible rfl
               rotate_left
               ·simp only [Act.put, List.setIfInBounds_toArray, List.set_cons_zero, List.set_cons_succ, i64_w, i32_w]
                rfl
               refine pure_ (i := 3) (N := some 130) (v := ?_) (a' := ?_) (bs 7 15) rfl rfl zk (fun _ _ _ h => h) (Or.inl ⟨by rfl, ?_⟩) ?_ ?_
               rotate_left
               ·intro w'
                go_simp
                with_reducible rfl
               rotate_left
               ·simp only [Act.put, List.setIfInBounds_toArray, List.set_cons_zero, List.set_cons_succ, i64_w, i32_w]
                rfl
               refine take_ (i := 4) (N := some 131) (v := ?_) (a' := ?_) (bs 7 31) rfl rfl zk (fun _ _ _ h => h) (Or.inl ⟨by rfl, ?_⟩) hHeld ?_ ?_
               rotate_left
               ·rintro w' ⟨s0, s1⟩
                go_simp
                with_reducible rfl
               rotate_left
               ·simp only [Act.put, List.setIfInBounds_toArray, List.set_cons_zero, List.set_cons_succ, i64_w, i32_w]
                rfl
               refine one_ (i := 5) (N := none) (bs 7 63) rfl rfl zk (by decide) (fun K hK => ?_)
               have qEJ : w104.cell? ⟨qG, 0, none⟩ = some (.int .i64 0) := (z2_ qA.out 0).trans rfl
               have qC2 := z1_ qA.out 0
               have yg := qI.out
               have yh := qK.out
               have yi := qH.out
               have yj := qJ.out
               have qEK : w104.cell? ⟨qG, 1, none⟩ = some (.int .i64 0) := (z2_ qA.out 1).trans rfl
               have qC3 := z1_ qA.out 1
               have yk := qI.out
               have yl := qK.out
               have ym := qH.out
               have yn := qJ.out
               have qEL : w104.cell? ⟨qG, 2, none⟩ = some (.slice none 0 0) := (z2_ qA.out 2).trans rfl
               have qC4 := z1_ qA.out 2
               have yo := qI.out
               have yp := qK.out
               have yq := qH.out
               have yr := qJ.out
               have qEM : w104.cell? ⟨qG, 3, none⟩ = some (.int .i64 0) := (z2_ qA.out 3).trans rfl
               have qC5 := z1_ qA.out 3
               have ys := qI.out
               have yt := qK.out
               have yu := qH.out
               have yv := qJ.out
               have qEN : w104.cell? ⟨qG, 4, none⟩ = some (.int .i64 0) := (z2_ qA.out 4).trans rfl
               have qC6 := z1_ qA.out 4
               have yw := qI.out
               have yx := qK.out
               have yy := qH.out
               have yz := qJ.out
               have qEO : w104.cell? ⟨qG, 5, none⟩ = some (.slice none 0 0) := (z2_ qA.out 5).trans rfl
               have qC7 := z1_ qA.out 5
               have qAA := qI.out
               have qAB := qK.out
               have qAC := qH.out
               have qAD := qJ.out
               have qEP : w104.cell? ⟨qG, 6, none⟩ = some (.slice none 0 0) := (z2_ qA.out 6).trans rfl
               have qC8 := z1_ qA.out 6
               have qAE := qI.out
               have qAF := qK.out
               have qAG := qH.out
               have qAH := qJ.out
               have qEQ : w104.cell? ⟨qG, 7, none⟩ = some (.int .i64 0) := (z2_ qA.out 7).trans rfl
               have qC9 := z1_ qA.out 7
               have qAI := qI.out
               have qAJ := qK.out
               have qAK := qH.out
               have qAL := qJ.out
               have qER : w104.cell? ⟨qG, 8, none⟩ = some (.int .i64 0) := (z2_ qA.out 8).trans rfl
               have qDA := z1_ qA.out 8
               have qAM := qI.out
               have qAN := qK.out
               have qAO := qH.out
               have qAP := qJ.out
               have qES : w104.cell? ⟨qG, 9, none⟩ = some (.slice none 0 0) := (z2_ qA.out 9).trans rfl
               have qDB := z1_ qA.out 9
               have qAQ := qI.out
               have qAR := qK.out
               have qAS := qH.out
               have qAT := qJ.out
               have qET : w104.cell? ⟨qG, 10, none⟩ = some (.slice none 0 0) := (z2_ qA.out 10).trans rfl
               have qDC := z1_ qA.out 10
               have qAU := qI.out
               have qAV := qK.out
               have qAW := qH.out
               have qAX := qJ.out
               have qEU : w104.cell? ⟨qG, 11, none⟩ = some (.int .i64 0) := (z2_ qA.out 11).trans rfl
               have qDD := z1_ qA.out 11
               have qAY := qI.out
               have qAZ := qK.out
               have qAa := qH.out
               have qAb := qJ.out
               have qEV : w104.cell? ⟨qG, 12, none⟩ = some (.int .i64 0) := (z2_ qA.out 12).trans rfl
               have qDE := z1_ qA.out 12
               have qAc := qI.out
               have qAd := qK.out
               have qAe := qH.out
               have qAf := qJ.out
               have qEW : w104.cell? ⟨qG, 13, none⟩ = some (.slice none 0 0) := (z2_ qA.out 13).trans rfl
               have qDF := z1_ qA.out 13
               have qAg := qI.out
               have qAh := qK.out
               have qAi := qH.out
               have qAj := qJ.out
               have qEX : w104.cell? ⟨qG, 14, none⟩ = some (.slice none 0 0) := (z2_ qA.out 14).trans rfl
               have qDG := z1_ qA.out 14
               have qAk := qI.out
               have qAl := qK.out
               have qAm := qH.out
               have qAn := qJ.out
               refine skip_ (w1 := ?_) (by rfl) rfl ?_ ?_
               rotate_left
               ·go_simp
                rfl
               refine hK.out _ _ ⟨((zf15 qV.out).trans (hHeld.1)), ((zf15 qV.out).trans (hHeld.2))⟩ (fun hHeld => ?_)
               clear hK K
               refine pure_ (i := 6) (N := some 3) (v := ?_) (a' := ?_) (bs 7 127) rfl rfl zk (fun _ _ _ h => h) (Or.inl ⟨by rfl, ?_⟩) ?_ ?_
               rotate_left
               ·intro w'
                go_simp
                with_reducible rfl
               rotate_left
               ·simp only [Act.put, List.setIfInBounds_toArray, List.set_cons_zero, List.set_cons_succ, i64_w, i32_w]
                rfl
               refine done_ zk ?_
               try go_wp2
               refine bodyPost_ret (results_ct rfl _ _ qG 28 #[.int .i64 0, .int .i64 0, .slice none 0 0, .int .i64 0, .int .i64 0, .slice none 0 0, .slice none 0 0, .int .i64 0, .int .i64 0, .slice none 0 0, .slice none 0 0, .int .i64 0, .int .i64 0, .slice none 0 0, .slice none 0 0] (0, 0) _ rfl (by refine lZ ?_; apply zp15; refine lZ ?_; exact qA.out) Try.underlying28 rfl zk) rfl ?_
               exact ⟨_, _, _, _, _, _, _, zE, by first | exact Kd.R_nil _ _ _ _ _ | exact Kd.N_nil _ _ _ _ _ | exact Kd.V_nil _ _ _ _ _ | exact Kd.Q_nil _ _ _ _ _ | exact Kd.S_nil _ _ _ _ _, by first | exact Kd.R_nil _ _ _ _ _ | exact Kd.N_nil _ _ _ _ _ | exact Kd.V_nil _ _ _ _ _ | exact Kd.Q_nil _ _ _ _ _ | exact Kd.S_nil _ _ _ _ _, by first | exact Kd.R_nil _ _ _ _ _ | exact Kd.N_nil _ _ _ _ _ | exact Kd.V_nil _ _ _ _ _ | exact Kd.Q_nil _ _ _ _ _ | exact Kd.S_nil _ _ _ _ _, by first | exact Kd.R_nil _ _ _ _ _ | exact Kd.N_nil _ _ _ _ _ | exact Kd.V_nil _ _ _ _ _ | exact Kd.Q_nil _ _ _ _ _ | exact Kd.S_nil _ _ _ _ _, by first | exact Kd.R_nil _ _ _ _ _ | exact Kd.N_nil _ _ _ _ _ | exact Kd.V_nil _ _ _ _ _ | exact Kd.Q_nil _ _ _ _ _ | exact Kd.S_nil _ _ _ _ _, by first | exact Kd.R_nil _ _ _ _ _ | exact Kd.N_nil _ _ _ _ _ | exact Kd.V_nil _ _ _ _ _ | exact Kd.Q_nil _ _ _ _ _ | exact Kd.S_nil _ _ _ _ _, by first | exact Kd.R_nil _ _ _ _ _ | exact Kd.N_nil _ _ _ _ _ | exact Kd.V_nil _ _ _ _ _ | exact Kd.Q_nil _ _ _ _ _ | exact Kd.S_nil _ _ _ _ _, zBv HB⟩
              ·rw [if_neg c101] at H
               have c101b0 := decide_eq_false c101
               clear c101
               simp only [Option.some.injEq, Prod.mk.injEq] at H
               obtain ⟨rfl, rfl, rfl, rfl, rfl, rfl, rfl, rfl, rfl, rfl, rfl, rfl, rfl, rfl, rfl, rfl⟩ := H
               obtain ⟨ASz120_0, cSz120_0, HGz120, hgz120, HSz120_0⟩ := qB.out
               have qAo := cellS84_0 HGz120
               have qAp := cellS84_1 HGz120
               have qAq := cellS84_2 HGz120
               have qAr := z1_ HGz120 1
               have qAs := z1_ HGz120 2
               clear HGz120 hgz120
               have qDH := qK.out
               have qDI := qJ.out
               have qDJ := jT.out
               have qDK := jS.out
               have qDL := qg.out
               have qDM := qf.out
               have qAt := zc15 qC.out
               have qAu := fun i_ : Nat => z1_ qC.out i_
               have qDN := qH.out
               have qDO := qI.out
               have qDP := qb.out
               have qDQ := qV.out
               have qAv := zc15 qA.out
               have qAw := fun i_ : Nat => z1_ qA.out i_
               obtain ⟨yU, yV, eo128⟩ := Kd.R_slice qE.out
               subst eo128
               go_wp2
               refine bodyPost_ret (results_ct rfl _ _ qG 28 #[.int .i64 qO, .int .i64 qQ, .slice yU qM.length yV, .int .i64 qc, .int .i64 qe, .slice qx qT.length qy, .slice q2 qU.length q3, .int .i64 qi, .int .i64 qk, .slice jC qY.length jD, .slice jE qZ.length jF, .int .i64 q1, .int .i64 q9, .slice jQ qj.length jR, .slice jU qm.length jV] (0, 0) _ rfl (by refine lZ ?_; apply zp15; refine lZ ?_; refine z18_ ?_ qb.out _; refine lZ ?_; exact qA.out) Try.underlying28 rfl zk) rfl ?_
               exact ⟨_, _, _, _, _, _, _, zE, by apply rX; exact Kd.z0_ (zR15 (fB (Kd.z3_ (I8.apart qB.out qE.out (by decide)) qA.out (by decide)))) (fun _ hk => trivial), by apply rX; exact Kd.z0_ (zR15 (fB (Kd.z3_ (I8.apart qB.out qn.out (by decide)) qA.out (by decide)))) (fun _ hk => ⟨hk.1.1.1, hk.1.1.2⟩), by apply rX; exact Kd.z0_ (zR15 (fB (Kd.z3_ (I8.apart qB.out qo.out (by decide)) qA.out (by decide)))) (fun _ hk => ⟨hk.1.1.1, hk.1.1.2⟩), by apply rX; exact Kd.z0_ (zR15 (fB (Kd.z3_ (I8.apart qB.out qp.out (by decide)) qA.out (by decide)))) (fun _ hk => ⟨hk.1.1.1, hk.1.1.2⟩), by apply rX; exact Kd.z0_ (zR15 (fB (Kd.z3_ (I8.apart qB.out qq.out (by decide)) qA.out (by decide)))) (fun _ hk => ⟨hk.1.1.1, hk.1.1.2⟩), by apply rX; exact Kd.z0_ (zR15 (fB (Kd.z3_ (I8.apart qB.out qr.out (by decide)) qA.out (by decide)))) (fun _ hk => ⟨hk.1.1.1, hk.1.1.2⟩), by apply rX; exact Kd.z0_ (zR15 (fB (Kd.z3_ (I8.apart qB.out qs.out (by decide)) qA.out (by decide)))) (fun _ hk => ⟨hk.1.1.1, hk.1.1.2⟩), zBv HB⟩
             ·replace c100 := Bool.eq_false_iff.mpr c100
              subst c100
              have H1 : (if qz ≥ 0 then (some (0, 0, ([] : List (S48)), 0, 0, ([] : List (S63)), ([] : List Int), 0, 0, ([] : List (S63)), ([] : List Int), 0, 0, ([] : List (S63)), ([] : List Int), qz)) else (some (qO, qQ, qM, qc, qe, qT, qU, qi, qk, qY, qZ, q1, q9, qj, qm, (-1)))) = some (r1, r2, r3, r4, r5, r6, r7, r8, r9, r10, r11, r12, r13, r14, r15, r16) := by rw [if_neg (show ¬ (false = true) by decide)] at H; exact H
              clear H
              have H := H1
              clear H1
              by_cases c129 : qz ≥ 0
              ·rw [if_pos c129] at H
               have c129b0 := decide_eq_true c129
               clear c129
               simp only [Option.some.injEq, Prod.mk.injEq] at H
               obtain ⟨rfl, rfl, rfl, rfl, rfl, rfl, rfl, rfl, rfl, rfl, rfl, rfl, rfl, rfl, rfl, rfl⟩ := H
               obtain ⟨ASz130_0, cSz130_0, HGz130, hgz130, HSz130_0⟩ := qB.out
               have qAx := cellS84_0 HGz130
               have qAy := cellS84_1 HGz130
               have qAz := cellS84_2 HGz130
               have qA0 := z1_ HGz130 1
               have qA1 := z1_ HGz130 2
               clear HGz130 hgz130
               try go_wp2
               replace qE := aM (Kd.R_drew qE.out)
               replace qn := aM (Kd.R_drew qn.out)
               replace qo := aM (Kd.R_drew qo.out)
               replace qp := aM (Kd.R_drew qp.out)
               replace qq := aM (Kd.R_drew qq.out)
               replace qr := aM (Kd.R_drew qr.out)
               replace qs := aM (Kd.R_drew qs.out)
               replace qA := aM (blk_drew qA.out)
               replace qF := aM (blk_drew qF.out)
               replace qC := aM (blk_drew qC.out)
               replace qB := aM (I8.drew qB.out)
               replace HB := aM (below_drew1 HB.out)
               refine start_ (n := 7) (S := fun w' => w'.cell? ⟨g1054, 1, none⟩ = some (.int .i64 qN) ∧ w'.cell? ⟨g1054, 2, none⟩ = some (.int .i64 qz)) (ds := []) (bs 7 0) zk rfl rfl ⟨(by obtain ⟨_, _, hz_, _⟩ := qB.out; exact (z2_ hz_ 1).trans rfl), (by obtain ⟨_, _, hz_, _⟩ := qB.out; exact (z2_ hz_ 2).trans rfl)⟩ (fun hHeld => ?_)
               generalize wc.drew = w131 at qE qn qo qp qq qr qs qA qF qC qB HB hHeld ⊢
               refine pure_ (i := 0) (N := some 127) (v := ?_) (a' := ?_) (bs 7 1) rfl rfl zk (fun _ _ _ h => h) (Or.inl ⟨by rfl, ?_⟩) ?_ ?_
               rotate_left
               ·intro w'
                go_simp
                with_reducible rfl
               rotate_left
               ·simp only [Act.put, List.setIfInBounds_toArray, List.set_cons_zero, List.set_cons_succ, i64_w, i32_w]
                rfl
               refine pure_ (i := 1) (N := some 128) (v := ?_) (a' := ?_) (bs 7 3) rfl rfl zk (fun _ _ _ h => h) (Or.inl ⟨by rfl, ?_⟩) ?_ ?_
               rotate_left
               ·intro w'
                go_simp
                with_reducible rfl
               rotate_left
               ·simp only [Act.put, List.setIfInBounds_toArray, List.set_cons_zero, List.set_cons_succ, i64_w, i32_w]
                rfl
               refine pure_ (i := 2) (N := some 129) (v := ?_) (a' := ?_) (bs 7 7) rfl rfl zk (fun _ _ _ h => h) (Or.inl ⟨by rfl, ?_⟩) ?_ ?_
               rotate_left
               ·intro w'
                go_simp
                with_reducible rfl
               rotate_left
               ·simp only [Act.put, List.setIfInBounds_toArray, List.set_cons_zero, List.set_cons_succ, i64_w, i32_w]
                rfl
               refine pure_ (i := 3) (N := some 130) (v := ?_) (a' := ?_) (bs 7 15) rfl rfl zk (fun _ _ _ h => h) (Or.inl ⟨by rfl, ?_⟩) ?_ ?_
               rotate_left
               ·intro w'
                go_simp
                with_reducible rfl
               rotate_left
               ·simp only [Act.put, List.setIfInBounds_toArray, List.set_cons_zero, List.set_cons_succ, i64_w, i32_w]
                rfl
               refine take_ (i := 4) (N := some 131) (v := ?_) (a' := ?_) (bs 7 31) rfl rfl zk (fun _ _ _ h => h) (Or.inl ⟨by rfl, ?_⟩) hHeld ?_ ?_
               rotate_left
               ·rintro w' ⟨s0, s1⟩
                go_simp
                with_reducible rfl
               rotate_left
               ·simp only [Act.put, List.setIfInBounds_toArray, List.set_cons_zero, List.set_cons_succ, i64_w, i32_w]
                rfl
               refine one_ (i := 5) (N := none) (bs 7 63) rfl rfl zk (by decide) (fun K hK => ?_)
               have qEY : w131.cell? ⟨qG, 0, none⟩ = some (.int .i64 0) := (z2_ qA.out 0).trans rfl
               have qDR := z1_ qA.out 0
               have qA2 := qI.out
               have qA3 := qK.out
               have qA4 := qH.out
               have qA5 := qJ.out
               have qEZ : w131.cell? ⟨qG, 1, none⟩ = some (.int .i64 0) := (z2_ qA.out 1).trans rfl
               have qDS := z1_ qA.out 1
               have qA6 := qI.out
               have qA7 := qK.out
               have qA8 := qH.out
               have qA9 := qJ.out
               have qEa : w131.cell? ⟨qG, 2, none⟩ = some (.slice none 0 0) := (z2_ qA.out 2).trans rfl
               have qDT := z1_ qA.out 2
               have qBA := qI.out
               have qBB := qK.out
               have qBC := qH.out
               have qBD := qJ.out
               have qEb : w131.cell? ⟨qG, 3, none⟩ = some (.int .i64 0) := (z2_ qA.out 3).trans rfl
               have qDU := z1_ qA.out 3
               have qBE := qI.out
               have qBF := qK.out
               have qBG := qH.out
               have qBH := qJ.out
               have qEc : w131.cell? ⟨qG, 4, none⟩ = some (.int .i64 0) := (z2_ qA.out 4).trans rfl
               have qDV := z1_ qA.out 4
               have qBI := qI.out
               have qBJ := qK.out
               have qBK := qH.out
               have qBL := qJ.out
               have qEd : w131.cell? ⟨qG, 5, none⟩ = some (.slice none 0 0) := (z2_ qA.out 5).trans rfl
               have qDW := z1_ qA.out 5
               have qBM := qI.out
               have qBN := qK.out
               have qBO := qH.out
               have qBP := qJ.out
               have qEe : w131.cell? ⟨qG, 6, none⟩ = some (.slice none 0 0) := (z2_ qA.out 6).trans rfl
               have qDX := z1_ qA.out 6
               have qBQ := qI.out
               have qBR := qK.out
               have qBS := qH.out
               have qBT := qJ.out
               have qEf : w131.cell? ⟨qG, 7, none⟩ = some (.int .i64 0) := (z2_ qA.out 7).trans rfl
               have qDY := z1_ qA.out 7
               have qBU := qI.out
               have qBV := qK.out
               have qBW := qH.out
               have qBX := qJ.out
               have qEg : w131.cell? ⟨qG, 8, none⟩ = some (.int .i64 0) := (z2_ qA.out 8).trans rfl
               have qDZ := z1_ qA.out 8
               have qBY := qI.out
               have qBZ := qK.out
               have qBa := qH.out
               have qBb := qJ.out
               have qEh : w131.cell? ⟨qG, 9, none⟩ = some (.slice none 0 0) := (z2_ qA.out 9).trans rfl
               have qDa := z1_ qA.out 9
               have qBc := qI.out
               have qBd := qK.out
               have qBe := qH.out
               have qBf := qJ.out
               have qEi : w131.cell? ⟨qG, 10, none⟩ = some (.slice none 0 0) := (z2_ qA.out 10).trans rfl
               have qDb := z1_ qA.out 10
               have qBg := qI.out
               have qBh := qK.out
               have qBi := qH.out
               have qBj := qJ.out
               have qEj : w131.cell? ⟨qG, 11, none⟩ = some (.int .i64 0) := (z2_ qA.out 11).trans rfl
               have qDc := z1_ qA.out 11
               have qBk := qI.out
               have qBl := qK.out
               have qBm := qH.out
               have qBn := qJ.out
               have qEk : w131.cell? ⟨qG, 12, none⟩ = some (.int .i64 0) := (z2_ qA.out 12).trans rfl
               have qDd := z1_ qA.out 12
               have qBo := qI.out
               have qBp := qK.out
               have qBq := qH.out
               have qBr := qJ.out
               have qEl : w131.cell? ⟨qG, 13, none⟩ = some (.slice none 0 0) := (z2_ qA.out 13).trans rfl
               have qDe := z1_ qA.out 13
               have qBs := qI.out
               have qBt := qK.out
               have qBu := qH.out
               have qBv := qJ.out
               have qEm : w131.cell? ⟨qG, 14, none⟩ = some (.slice none 0 0) := (z2_ qA.out 14).trans rfl
               have qDf := z1_ qA.out 14
               have qBw := qI.out
               have qBx := qK.out
               have qBy := qH.out
               have qBz := qJ.out
               refine skip_ (w1 := ?_) (by rfl) rfl ?_ ?_
               rotate_left
               ·go_simp
                rfl
               refine hK.out _ _ ⟨((zf15 qV.out).trans (hHeld.1)), ((zf15 qV.out).trans (hHeld.2))⟩ (fun hHeld => ?_)
               clear hK K
               refine pure_ (i := 6) (N := some 3) (v := ?_) (a' := ?_) (bs 7 127) rfl rfl zk (fun _ _ _ h => h) (Or.inl ⟨by rfl, ?_⟩) ?_ ?_
               rotate_left
               ·intro w'
                go_simp
                with_reducible rfl
               rotate_left
               ·simp only [Act.put, List.setIfInBounds_toArray, List.set_cons_zero, List.set_cons_succ, i64_w, i32_w]
                rfl
               refine done_ zk ?_
               try go_wp2
               refine bodyPost_ret (results_ct rfl _ _ qG 28 #[.int .i64 0, .int .i64 0, .slice none 0 0, .int .i64 0, .int .i64 0, .slice none 0 0, .slice none 0 0, .int .i64 0, .int .i64 0, .slice none 0 0, .slice none 0 0, .int .i64 0, .int .i64 0, .slice none 0 0, .slice none 0 0] (0, 0) _ rfl (by refine lZ ?_; apply zp15; refine lZ ?_; exact qA.out) Try.underlying28 rfl zk) rfl ?_
               exact ⟨_, _, _, _, _, _, _, zE, by first | exact Kd.R_nil _ _ _ _ _ | exact Kd.N_nil _ _ _ _ _ | exact Kd.V_nil _ _ _ _ _ | exact Kd.Q_nil _ _ _ _ _ | exact Kd.S_nil _ _ _ _ _, by first | exact Kd.R_nil _ _ _ _ _ | exact Kd.N_nil _ _ _ _ _ | exact Kd.V_nil _ _ _ _ _ | exact Kd.Q_nil _ _ _ _ _ | exact Kd.S_nil _ _ _ _ _, by first | exact Kd.R_nil _ _ _ _ _ | exact Kd.N_nil _ _ _ _ _ | exact Kd.V_nil _ _ _ _ _ | exact Kd.Q_nil _ _ _ _ _ | exact Kd.S_nil _ _ _ _ _, by first | exact Kd.R_nil _ _ _ _ _ | exact Kd.N_nil _ _ _ _ _ | exact Kd.V_nil _ _ _ _ _ | exact Kd.Q_nil _ _ _ _ _ | exact Kd.S_nil _ _ _ _ _, by first | exact Kd.R_nil _ _ _ _ _ | exact Kd.N_nil _ _ _ _ _ | exact Kd.V_nil _ _ _ _ _ | exact Kd.Q_nil _ _ _ _ _ | exact Kd.S_nil _ _ _ _ _, by first | exact Kd.R_nil _ _ _ _ _ | exact Kd.N_nil _ _ _ _ _ | exact Kd.V_nil _ _ _ _ _ | exact Kd.Q_nil _ _ _ _ _ | exact Kd.S_nil _ _ _ _ _, by first | exact Kd.R_nil _ _ _ _ _ | exact Kd.N_nil _ _ _ _ _ | exact Kd.V_nil _ _ _ _ _ | exact Kd.Q_nil _ _ _ _ _ | exact Kd.S_nil _ _ _ _ _, zBv HB⟩
              ·rw [if_neg c129] at H
               have c129b0 := decide_eq_false c129
               clear c129
               simp only [Option.some.injEq, Prod.mk.injEq] at H
               obtain ⟨rfl, rfl, rfl, rfl, rfl, rfl, rfl, rfl, rfl, rfl, rfl, rfl, rfl, rfl, rfl, rfl⟩ := H
               obtain ⟨ASz147_0, cSz147_0, HGz147, hgz147, HSz147_0⟩ := qB.out
               have qB0 := cellS84_0 HGz147
               have qB1 := cellS84_1 HGz147
               have qB2 := cellS84_2 HGz147
               have qB3 := z1_ HGz147 1
               have qB4 := z1_ HGz147 2
               clear HGz147 hgz147
               have qDg := qK.out
               have qDh := qJ.out
               have qDi := jT.out
               have qDj := jS.out
               have qDk := qg.out
               have qDl := qf.out
               have qB5 := zc15 qC.out
               have qB6 := fun i_ : Nat => z1_ qC.out i_
               have qDm := qH.out
               have qDn := qI.out
               have qDo := qb.out
               have qDp := qV.out
               have qB7 := zc15 qA.out
               have qB8 := fun i_ : Nat => z1_ qA.out i_
               obtain ⟨yW, yX, eo155⟩ := Kd.R_slice qE.out
               subst eo155
               go_wp2
               refine bodyPost_ret (results_ct rfl _ _ qG 28 #[.int .i64 qO, .int .i64 qQ, .slice yW qM.length yX, .int .i64 qc, .int .i64 qe, .slice qx qT.length qy, .slice q2 qU.length q3, .int .i64 qi, .int .i64 qk, .slice jC qY.length jD, .slice jE qZ.length jF, .int .i64 q1, .int .i64 q9, .slice jQ qj.length jR, .slice jU qm.length jV] (0, 0) _ rfl (by refine lZ ?_; apply zp15; refine lZ ?_; exact qA.out) Try.underlying28 rfl zk) rfl ?_
               exact ⟨_, _, _, _, _, _, _, zE, by apply rX; exact Kd.z0_ (zR15 (Kd.z3_ qE.out qA.out (by decide))) (fun _ hk => trivial), by apply rX; exact Kd.z0_ (zR15 (Kd.z3_ qn.out qA.out (by decide))) (fun _ hk => ⟨hk.1.1, hk.1.2⟩), by apply rX; exact Kd.z0_ (zR15 (Kd.z3_ qo.out qA.out (by decide))) (fun _ hk => ⟨hk.1.1, hk.1.2⟩), by apply rX; exact Kd.z0_ (zR15 (Kd.z3_ qp.out qA.out (by decide))) (fun _ hk => ⟨hk.1.1, hk.1.2⟩), by apply rX; exact Kd.z0_ (zR15 (Kd.z3_ qq.out qA.out (by decide))) (fun _ hk => ⟨hk.1.1, hk.1.2⟩), by apply rX; exact Kd.z0_ (zR15 (Kd.z3_ qr.out qA.out (by decide))) (fun _ hk => ⟨hk.1.1, hk.1.2⟩), by apply rX; exact Kd.z0_ (zR15 (Kd.z3_ qs.out qA.out (by decide))) (fun _ hk => ⟨hk.1.1, hk.1.2⟩), zBv HB⟩
end Go.Proofs.Ytccbdcbeinkjgaa.XA
end
