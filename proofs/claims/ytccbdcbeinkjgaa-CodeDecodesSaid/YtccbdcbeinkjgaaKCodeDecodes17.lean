/- Part 17 of the proof of the law CodeDecodes for every input: words, walks and plain laws. No condition. -/
import Derived.Test.YtccbdcbeinkjgaaKCodeDecodes16
set_option linter.unusedVariables false
set_option linter.unusedSimpArgs false
set_option maxHeartbeats 8000000
set_option maxRecDepth 100000
section
namespace Go.Proofs.Ytccbdcbeinkjgaa.XA
open Go.Proofs.Ytccbdcbeinkjgaa.Lift Go.RowKit Go.Proofs.YtccbdcbeinkjgaaW.PrintWords Go.Proofs.YtccbdcbeinkjgaaW.PrintLast Go.Proofs.YtccbdcbeinkjgaaW.PrintMore
attribute [local go_sem] max2_int min2_int max_two min_two max_three min_three max_four min_four
mutual
def sR_reader_program.j0 : Nat → Int → Int → List Int → Int → Int → Int → Int → Option (Int × Int × (List (S63)) × List Int × Int × Int)
 | 0, _, _, _, _, _, _, _ => none
 | k + 1, x4, x5, qV, qi, qf, qS, qN => (sR_reader_next.f qV qi qf 0 x5).bind fun bt1010 => (sR_reader_program.l0 k (wrap64 ((wrap64 (x4 * 256)) + bt1010.1)) 0 qV bt1010.2.1 bt1010.2.2 qS qN ([] : List (S63)))
def sR_reader_program.l0 : Nat → Int → Int → List Int → Int → Int → Int → Int → List (S63) → Option (Int × Int × (List (S63)) × List Int × Int × Int)
 | 0, _, _, _, _, _, _, _, _ => none
 | k + 1, x4, x6, qV, qi, qf, qS, qN, qT => if x6 < x4 then (sR_reader_program.j2 k x4 x6 (decide (qf < 0)) qV qi qf qS qN qT) else (sR_reader_program.j2 k x4 x6 false qV qi qf qS qN qT)
def sR_reader_program.j2 : Nat → Int → Int → Bool → List Int → Int → Int → Int → Int → List (S63) → Option (Int × Int × (List (S63)) × List Int × Int × Int)
 | 0, _, _, _, _, _, _, _, _, _ => none
 | k + 1, x4, x6, x36, qV, qi, qf, qS, qN, qT => if x36 = true then ((sR_reader_next.f qV qi qf 1 8).bind fun bt1014 => ((sR_reader_next.f qV bt1014.2.1 bt1014.2.2 0 (wrap64 (qN - 1))).bind fun bt1017 => ((sR_reader_next.f qV bt1017.2.1 bt1017.2.2 0 (wrap64 (qN - 1))).bind fun bt1020 => (if bt1014.1 = 3 then (sR_reader_program.j3 k x4 x6 true qV bt1020.2.1 bt1020.2.2 qS qN qT bt1014.1 bt1017.1 bt1020.1 0 0) else (sR_reader_program.j3 k x4 x6 (bt1014.1 == 4) qV bt1020.2.1 bt1020.2.2 qS qN qT bt1014.1 bt1017.1 bt1020.1 0 0))))) else ((sR_reader_next.f qV qi qf 1 128).bind fun bt1041 => (sR_reader_program.l1 k bt1041.1 0 qV bt1041.2.1 bt1041.2.2 qS qN qT ([] : List Int)))
def sR_reader_program.j3 : Nat → Int → Int → Bool → List Int → Int → Int → Int → Int → List (S63) → Int → Int → Int → Int → Int → Option (Int × Int × (List (S63)) × List Int × Int × Int)
 | 0, _, _, _, _, _, _, _, _, _, _, _, _, _, _ => none
 | k + 1, x4, x6, x61, qV, qi, qf, qS, qN, qT, qw, jJ, jK, jh, ji => if x61 = true then ((sR_reader_next.f qV qi qf 0 (wrap64 (qN - 1))).bind fun bt1023 => ((sR_reader_constant.f k qV bt1023.2.1 bt1023.2.2 qw).bind fun bt1026 => (if qT.length < 3518437208883 then (sR_reader_program.l0 k x4 (wrap64 (x6 + 1)) qV bt1026.2.1 bt1026.2.2 qS qN (qT ++ [(⟨qw, jJ, jK, bt1023.1, bt1026.1⟩ : S63)])) else (none)))) else ((sR_reader_next.f qV qi qf 0 0).bind fun bt1032 => ((sR_reader_constant.f k qV bt1032.2.1 bt1032.2.2 qw).bind fun bt1035 => (if qT.length < 3518437208883 then (sR_reader_program.l0 k x4 (wrap64 (x6 + 1)) qV bt1035.2.1 bt1035.2.2 qS qN (qT ++ [(⟨qw, jJ, jK, bt1032.1, bt1035.1⟩ : S63)])) else (none))))
def sR_reader_program.l1 : Nat → Int → Int → List Int → Int → Int → Int → Int → List (S63) → List Int → Option (Int × Int × (List (S63)) × List Int × Int × Int)
 | 0, _, _, _, _, _, _, _, _, _ => none
 | k + 1, x4, x8, qV, qi, qf, qS, qN, qT, qx => if x8 < x4 then (if qf < 0 then ((sR_reader_next.f qV qi qf 0 (wrap64 (qN - 1))).bind fun bt1044 => (if qx.length < 17592186044416 then (sR_reader_program.l1 k x4 (wrap64 (x8 + 1)) qV bt1044.2.1 bt1044.2.2 qS qN qT (qx ++ [bt1044.1])) else (none))) else (some (qS, qN, qT, qx, qi, qf))) else (some (qS, qN, qT, qx, qi, qf))
end
def sR_reader_program.f (k : Nat) (s0_0 : List Int) (s0_1 : Int) (s0_2 : Int) : Option (Int × Int × (List (S63)) × List Int × Int × Int) := (sR_reader_next.f s0_0 s0_1 s0_2 1 128).bind fun bt1001 => ((sR_reader_next.f s0_0 bt1001.2.1 bt1001.2.2 bt1001.1 128).bind fun bt1004 => ((sR_reader_next.f s0_0 bt1004.2.1 bt1004.2.2 0 64).bind fun bt1007 => (if bt1007.1 = 64 then (sR_reader_program.j0 k bt1007.1 0 s0_0 bt1007.2.1 bt1007.2.2 bt1001.1 bt1004.1) else (sR_reader_program.j0 k bt1007.1 255 s0_0 bt1007.2.1 bt1007.2.2 bt1001.1 bt1004.1))))
theorem sR_reader_program.mono_l : ∀ k, (∀ y0 y1 y2 y3 y4 y5 y6, LeO (sR_reader_program.j0 k y0 y1 y2 y3 y4 y5 y6) (sR_reader_program.j0 (k + 1) y0 y1 y2 y3 y4 y5 y6)) ∧ (∀ y0 y1 y2 y3 y4 y5 y6 y7, LeO (sR_reader_program.l0 k y0 y1 y2 y3 y4 y5 y6 y7) (sR_reader_program.l0 (k + 1) y0 y1 y2 y3 y4 y5 y6 y7)) ∧ (∀ y0 y1 y2 y3 y4 y5 y6 y7 y8, LeO (sR_reader_program.j2 k y0 y1 y2 y3 y4 y5 y6 y7 y8) (sR_reader_program.j2 (k + 1) y0 y1 y2 y3 y4 y5 y6 y7 y8)) ∧ (∀ y0 y1 y2 y3 y4 y5 y6 y7 y8 y9 y10 y11 y12 y13, LeO (sR_reader_program.j3 k y0 y1 y2 y3 y4 y5 y6 y7 y8 y9 y10 y11 y12 y13) (sR_reader_program.j3 (k + 1) y0 y1 y2 y3 y4 y5 y6 y7 y8 y9 y10 y11 y12 y13)) ∧ (∀ y0 y1 y2 y3 y4 y5 y6 y7 y8, LeO (sR_reader_program.l1 k y0 y1 y2 y3 y4 y5 y6 y7 y8) (sR_reader_program.l1 (k + 1) y0 y1 y2 y3 y4 y5 y6 y7 y8))
 | 0 => ⟨fun _ _ _ _ _ _ _ r h => by simp [sR_reader_program.j0] at h, fun _ _ _ _ _ _ _ _ r h => by simp [sR_reader_program.l0] at h, fun _ _ _ _ _ _ _ _ _ r h => by simp [sR_reader_program.j2] at h, fun _ _ _ _ _ _ _ _ _ _ _ _ _ _ r h => by simp [sR_reader_program.j3] at h, fun _ _ _ _ _ _ _ _ _ r h => by simp [sR_reader_program.l1] at h⟩
 | k + 1 => by
  obtain ⟨ih0, ih1, ih2, ih3, ih4⟩ := sR_reader_program.mono_l k
  refine ⟨?_, ?_, ?_, ?_, ?_⟩
  ·intro y0 y1 y2 y3 y4 y5 y6
   unfold sR_reader_program.j0
   have im0 := @sR_reader_constant.mono; exact zM
  ·intro y0 y1 y2 y3 y4 y5 y6 y7
   unfold sR_reader_program.l0
   have im0 := @sR_reader_constant.mono; exact zM
  ·intro y0 y1 y2 y3 y4 y5 y6 y7 y8
   unfold sR_reader_program.j2
   have im0 := @sR_reader_constant.mono; exact zM
  ·intro y0 y1 y2 y3 y4 y5 y6 y7 y8 y9 y10 y11 y12 y13
   unfold sR_reader_program.j3
   have im0 := @sR_reader_constant.mono; exact zM
  ·intro y0 y1 y2 y3 y4 y5 y6 y7 y8
   unfold sR_reader_program.l1
   have im0 := @sR_reader_constant.mono; exact zM
theorem sR_reader_program.mono : ∀ a0 a1 a2 k, LeO (sR_reader_program.f k a0 a1 a2) (sR_reader_program.f (k + 1) a0 a1 a2) := by
 intro a0 a1 a2 k
 obtain ⟨ih0, ih1, ih2, ih3, ih4⟩ := sR_reader_program.mono_l k
 unfold sR_reader_program.f
 have im0 := @sR_reader_constant.mono; exact zM
def sR_reader_program.T25 : Bool × List (List Nat × List Nat) := (true, [([], []), ([0], [0]), ([], []), ([], []), ([3], [3]), ([4], [4]), ([2, 5], [2, 5]), ([6], [6]), ([1, 7, 6], [1, 7]), ([0, 1, 2, 3, 4, 5, 6, 7, 8], []), ([9, 8, 8, 0, 1, 2, 3, 4, 5, 6, 7, 8], [8, 9])])
def sR_reader_program.B25 : List Nat := [0, 1, 0, 0, 8, 24, 60, 124, 255, 511, 1023]
theorem sR_reader_program.tab25 : rtab .any (opsOf Try.f47 25) = sR_reader_program.T25 := by kernel_rfl
theorem sR_reader_program.bits25 : waitsOk sR_reader_program.T25.2 sR_reader_program.B25 = true := by kernel_rfl
theorem sR_reader_program.calls (k : Nat) (g : Nat) (s0_0 : List Int) (s0_1 : Int) (s0_2 : Int) (r1 : Int) (r2 : Int) (r3 : List (S63)) (r4 : List Int) (r5 : Int) (r6 : Int) (w0 w : World) (hI : I8 w0 w g s0_0 s0_1 s0_2) (hB : Below w0.heap.size w0 w) (h : sR_reader_program.f k s0_0 s0_1 s0_2 = some (r1, r2, r3, r4, r5, r6)) :
  Calls Try.prog 47 #[.pointer (some ⟨g, 0, none⟩)] w fun e w' => ∃ v2_ v3_ : Value, e = .returned (.agg #[.int .i64 r1, .int .i64 r2, v2_, v3_]) ∧ Kd.R k63 63 w' w.heap.size (fun _ => True) v2_ r3 ∧ Kd.R (Kd.int .i64) 3 w' w.heap.size (fun _ => True) v3_ r4 ∧ I8 w0 w' g s0_0 r5 r6 ∧ Below w0.heap.size w0 w' ∧ KeepBut w w' g none := by
 have hu26 := Try.underlying26
 have hu63 := Try.underlying63
 have HI0 := aM hI
 have HK := aM (KeepBut.refl w g none)
 have HL := aM hB.size
 clear hI
 have HW0 := aM hB.size
 have HB := aM hB
 clear hB
 have H : ((sR_reader_next.f s0_0 s0_1 s0_2 1 128).bind fun bt1001 => ((sR_reader_next.f s0_0 bt1001.2.1 bt1001.2.2 bt1001.1 128).bind fun bt1004 => ((sR_reader_next.f s0_0 bt1004.2.1 bt1004.2.2 0 64).bind fun bt1007 => (if bt1007.1 = 64 then (sR_reader_program.j0 k bt1007.1 0 s0_0 bt1007.2.1 bt1007.2.2 bt1001.1 bt1004.1) else (sR_reader_program.j0 k bt1007.1 255 s0_0 bt1007.2.1 bt1007.2.2 bt1001.1 bt1004.1))))) = some (r1, r2, r3, r4, r5, r6) := h
 clear h
 replace H := zbs H
 obtain ⟨⟨qG, jM, jN⟩, A20, H⟩ := H
 replace H : ((sR_reader_next.f s0_0 jM jN qG 128).bind fun bt1004 => ((sR_reader_next.f s0_0 bt1004.2.1 bt1004.2.2 0 64).bind fun bt1007 => (if bt1007.1 = 64 then (sR_reader_program.j0 k bt1007.1 0 s0_0 bt1007.2.1 bt1007.2.2 qG bt1004.1) else (sR_reader_program.j0 k bt1007.1 255 s0_0 bt1007.2.1 bt1007.2.2 qG bt1004.1)))) = some (r1, r2, r3, r4, r5, r6) := H
 have A2 := aM A20
 clear A20
 replace H := zbs H
 obtain ⟨⟨qE, jO, jP⟩, A30, H⟩ := H
 replace H : ((sR_reader_next.f s0_0 jO jP 0 64).bind fun bt1007 => (if bt1007.1 = 64 then (sR_reader_program.j0 k bt1007.1 0 s0_0 bt1007.2.1 bt1007.2.2 qG qE) else (sR_reader_program.j0 k bt1007.1 255 s0_0 bt1007.2.1 bt1007.2.2 qG qE))) = some (r1, r2, r3, r4, r5, r6) := H
 have A3 := aM A30
 clear A30
 replace H := zbs H
 obtain ⟨⟨qO, qy, qz⟩, A40, H⟩ := H
 replace H : (if qO = 64 then (sR_reader_program.j0 k qO 0 s0_0 qy qz qG qE) else (sR_reader_program.j0 k qO 255 s0_0 qy qz qG qE)) = some (r1, r2, r3, r4, r5, r6) := H
 have A4 := aM A40
 clear A40
 have HC5 := aM H
 clear H
 go_enter Try.func47, Try.ntmps47
 go_upto_if 20 with (first | ((with_reducible refine gate_dst (N := 2) rfl ?_); refine z16_ rfl (N := 2) rfl (cs := #[.int .i64 0, .int .i64 0, .slice none 0 0, .slice none 0 0]) (t := 26) zG ?_; intro qK hg w6 hbox hb; replace HB := aM (z6_ (zBv HB) hb); have qD := aM (hbox); have qAB := aM ((by rw [hg]; exact (keep_size (w := w) (g := g) (row := none) (kS HK)) : w.heap.size ≤ qK)); have qAC := aM ((Nat.le_trans HW0.out (by rw [hg]; exact (keep_size (w := w) (g := g) (row := none) (kS HK)) : w.heap.size ≤ qK) : w0.heap.size ≤ qK)); replace HK := aM (KeepBut.trans (kS HK) (KeepBut.of_below hb g none) (.inl rfl)); have qX := aM ((by rw [hg]; exact Nat.ne_of_lt (I8.lt (show I8 w0 _ g s0_0 s0_1 s0_2 from zSv HI0)) : g ≠ qK)); have qY := aM ((by rw [hg]; exact Nat.ne_of_gt (I8.lt (show I8 w0 _ g s0_0 s0_1 s0_2 from zSv HI0)) : qK ≠ g)); replace HI0 := aM (I8.below (zSv HI0) hb); clear hb hbox hg) | ((with_reducible refine gate_dst (N := 3) rfl ?_); refine z16_ rfl (N := 3) rfl (cs := #[.int .i64 0, .int .i64 0, .slice none 0 0, .slice none 0 0]) (t := 26) zG ?_; intro qI hg w7 hbox hb; replace HB := aM (z6_ (zBv HB) hb); have qA := aM (hbox); have yr := aM ((by rw [hg]; exact (keep_size (w := w) (g := g) (row := none) (zK HK)) : w.heap.size ≤ qI)); have ys := aM ((Nat.le_trans HW0.out (by rw [hg]; exact (keep_size (w := w) (g := g) (row := none) (zK HK)) : w.heap.size ≤ qI) : w0.heap.size ≤ qI)); replace HK := aM (KeepBut.trans (zK HK) (KeepBut.of_below hb g none) (.inl rfl)); have qg := aM ((by rw [hg]; exact Nat.ne_of_lt (z19_ (g := qK) (lK qD)) : qK ≠ qI)); have qh := aM ((by rw [hg]; exact Nat.ne_of_gt (z19_ (g := qK) (lK qD)) : qI ≠ qK)); replace qD := aM (z5_ (g := qK) (lK qD) hb); have qP := aM ((by rw [hg]; exact Nat.ne_of_lt (I8.lt (show I8 w0 _ g s0_0 s0_1 s0_2 from zSv HI0)) : g ≠ qI)); have qQ := aM ((by rw [hg]; exact Nat.ne_of_gt (I8.lt (show I8 w0 _ g s0_0 s0_1 s0_2 from zSv HI0)) : qI ≠ g)); replace HI0 := aM (I8.below (zSv HI0) hb); clear hb hbox hg) | ((with_reducible refine gate_callee (f := 45) rfl ?_); refine z13_ (some 10) rfl rfl Try.func45 zk rfl #[.pointer (some ⟨g, 0, none⟩), .int .i64 1, .int .i64 128] rfl zA ?_; (with_reducible refine (sR_reader_next.calls g s0_0 s0_1 s0_2 1 128 qG jM jN w0 _ ?side1 ?side2 A2.out).mono ?_); (case side1 => repeat (first | (with_reducible first | exact HI0.out | apply I8.alloc | apply I8.drewN | apply I8.drew | apply I8.set_1 | apply I8.set_2 | refine I8.far ?_ qX.out _ | refine I8.far ?_ qP.out _) | exact HI0.out)); (case side2 => exact (zBv HB)); rintro e w8 ⟨rfl, hi, hb, hk⟩; refine ⟨_, rfl, ?_⟩; replace qD := aM (KeepBut.blk hk (g' := qK) (lK qD) qY.out (by simp)); replace qA := aM (KeepBut.blk hk (g' := qI) (lK qA) qQ.out (by simp)); replace HK := aM (KeepBut.trans (zK HK) hk (.inl rfl)); replace HB := aM (hb); replace HI0 := aM (hi); (try clear hb); (try clear hk); (try clear hi); have qA2 := qh.out; have qA3 := qg.out; have qAD := qQ.out; have qAE := qP.out; have jv := zc4 qA.out; have jw := fun i_ : Nat => z1_ qA.out i_) | ((with_reducible refine gate_callee (f := 45) rfl ?_); refine z13_ (some 15) rfl rfl Try.func45 zk rfl #[.pointer (some ⟨g, 0, none⟩), .int .i64 qG, .int .i64 128] rfl zA ?_; (with_reducible refine (sR_reader_next.calls g s0_0 jM jN qG 128 qE jO jP w0 _ ?side1 ?side2 A3.out).mono ?_); (case side1 => repeat (first | (with_reducible first | exact HI0.out | apply I8.alloc | apply I8.drewN | apply I8.drew | apply I8.set_1 | apply I8.set_2 | refine I8.far ?_ qX.out _ | refine I8.far ?_ qP.out _) | exact HI0.out)); (case side2 => exact (zBv HB)); rintro e w12 ⟨rfl, hi, hb, hk⟩; refine ⟨_, rfl, ?_⟩; replace qD := aM (KeepBut.blk hk (g' := qK) (zb qD) qY.out (by simp)); replace qA := aM (KeepBut.blk hk (g' := qI) (o := .cells #[.int .i64 qG, .int .i64 0, .slice none 0 0, .slice none 0 0] 26 (0, 0)) (by refine lZ ?_; refine blk_put (cs := #[.int .i64 0, .int .i64 0, .slice none 0 0, .slice none 0 0]) ?_ 0 _ rfl; refine lZ ?_; exact qA.out) qQ.out (by simp)); replace HK := aM (KeepBut.trans (zK HK) hk (.inl rfl)); replace HB := aM (hb); replace HI0 := aM (hi); (try clear hb); (try clear hk); (try clear hi); have jx := zc4 qA.out; have jy := fun i_ : Nat => z1_ qA.out i_) | ((with_reducible refine gate_callee (f := 45) rfl ?_); refine z13_ (some 18) rfl rfl Try.func45 zk rfl #[.pointer (some ⟨g, 0, none⟩), .int .i64 0, .int .i64 64] rfl zA ?_; (with_reducible refine (sR_reader_next.calls g s0_0 jO jP 0 64 qO qy qz w0 _ ?side1 ?side2 A4.out).mono ?_); (case side1 => repeat (first | (with_reducible first | exact HI0.out | apply I8.alloc | apply I8.drewN | apply I8.drew | apply I8.set_1 | apply I8.set_2 | refine I8.far ?_ qX.out _ | refine I8.far ?_ qP.out _) | exact HI0.out)); (case side2 => exact (zBv HB)); rintro e w14 ⟨rfl, hi, hb, hk⟩; refine ⟨_, rfl, ?_⟩; replace qD := aM (KeepBut.blk hk (g' := qK) (zb qD) qY.out (by simp)); replace qA := aM (KeepBut.blk hk (g' := qI) (o := .cells #[.int .i64 qG, .int .i64 qE, .slice none 0 0, .slice none 0 0] 26 (0, 0)) (by refine lZ ?_; refine blk_put (cs := #[.int .i64 qG, .int .i64 0, .slice none 0 0, .slice none 0 0]) ?_ 1 _ rfl; refine lZ ?_; exact qA.out) qQ.out (by simp)); replace HK := aM (KeepBut.trans (zK HK) hk (.inl rfl)); replace HB := aM (hb); replace HI0 := aM (hi); (try clear hb); (try clear hk); (try clear hi)))
 (try simp only [Act.put, List.setIfInBounds_toArray, List.set_cons_zero, List.set_cons_succ])
 go_cut [5] (fun v5 wc => ∃ (kq : Nat) (jL : Int), v5 = .int .i64 jL ∧ Aside0 (sR_reader_program.j0 kq qO jL s0_0 qy qz qG qE = some (r1, r2, r3, r4, r5, r6)) ∧ Aside0 (kq ≤ k) ∧ Aside0 (wc.heap[qK]? = some (.cells #[.int .i64 0, .int .i64 0, (.slice none 0 0), (.slice none 0 0)] 26 (0, 0))) ∧ Aside0 (wc.heap[qI]? = some (.cells #[.int .i64 qG, .int .i64 qE, (.slice none 0 0), (.slice none 0 0)] 26 (0, 0))) ∧ Aside0 (I8 w0 wc g s0_0 qy qz) ∧ Aside0 (KeepBut w wc g none) ∧ Aside0 (Below w0.heap.size w0 wc))
 case first =>
  have H := HC5.out
  clear HC5
  by_cases c15 : qO = 64
  ·rw [if_pos c15] at H
   have c15b0 : (qO == 64) = true := beq_iff_eq.mpr c15
   have c15b1 : (qO != 64) = false := bne_eq_false_iff_eq.mpr c15
   clear c15
   (first | rw [c15b0] | (simp only [i64_w, i32_w]; rw [c15b0]) | skip)
   have H' := aM H
   clear H
   go_wp2
   go_meet
   case rel => exact ⟨_, (0), zT, H', ⟨zO⟩, ⟨zb qD⟩, ⟨zb qA⟩, ⟨zSv HI0⟩, ⟨zK HK⟩, ⟨zBv HB⟩⟩
  ·rw [if_neg c15] at H
   have c15b0 : (qO == 64) = false := beq_eq_false_iff_ne.mpr c15
   have c15b1 : (qO != 64) = true := bne_iff_ne.mpr c15
   (first | rw [c15b0] | (simp only [i64_w, i32_w]; rw [c15b0]) | skip)
   have H' := aM H
   clear H
   go_wp2
   go_meet
   case rel => exact ⟨_, (255), zT, H', ⟨zO⟩, ⟨zb qD⟩, ⟨zb qA⟩, ⟨zSv HI0⟩, ⟨zK HK⟩, ⟨zBv HB⟩⟩
 case rest =>
  clear HC5
  obtain ⟨kq, jL, rfl, HA, HJ4, qD, qA, HI0, HK, HB⟩ := hcut
  cases kq with
  | zero => exact absurd HA.out (by simp [sR_reader_program.j0])
  | succ kj4 =>
   have H := HA.out
   clear HA
   simp only [sR_reader_program.j0] at H
   replace H := zbs H
   obtain ⟨⟨qW, jQ, jR⟩, A160, H⟩ := H
   replace H : (sR_reader_program.l0 kj4 (wrap64 ((wrap64 (qO * 256)) + qW)) 0 s0_0 jQ jR qG qE ([] : List (S63))) = some (r1, r2, r3, r4, r5, r6) := H
   have A16 := aM A160
   clear A160
   have H' := aM H
   clear H
   go_wp2_with (first | ((with_reducible refine gate_callee (f := 45) rfl ?_); refine z13_ (some 25) rfl rfl Try.func45 zk rfl #[.pointer (some ⟨g, 0, none⟩), .int .i64 0, .int .i64 jL] rfl zA ?_; (with_reducible refine (sR_reader_next.calls g s0_0 qy qz 0 jL qW jQ jR w0 _ ?side1 ?side2 A16.out).mono ?_); (case side1 => repeat (first | (with_reducible first | exact HI0.out | apply I8.alloc | apply I8.drewN | apply I8.drew | apply I8.set_1 | apply I8.set_2 | refine I8.far ?_ qX.out _ | refine I8.far ?_ qP.out _) | exact HI0.out)); (case side2 => exact (zBv HB)); rintro e w17 ⟨rfl, hi, hb, hk⟩; refine ⟨_, rfl, ?_⟩; replace qD := aM (KeepBut.blk hk (g' := qK) (lK qD) qY.out (by simp)); replace qA := aM (KeepBut.blk hk (g' := qI) (lK qA) qQ.out (by simp)); replace HK := aM (KeepBut.trans (zK HK) hk (.inl rfl)); replace HB := aM (hb); replace HI0 := aM (hi); (try clear hb); (try clear hk); (try clear hi)))
   go_loopg [6] kj4 (fun kq v6 w' => ∃ (qd : Int) (qe : Int) (qa : Int) (qC : List (S63)) (qU : Value), v6 = .int .i64 qd ∧ Aside0 (sR_reader_program.l0 kq (wrap64 ((wrap64 (qO * 256)) + qW)) qd s0_0 qe qa qG qE qC = some (r1, r2, r3, r4, r5, r6)) ∧ Aside0 (kq ≤ kj4) ∧ Aside0 (Kd.R k63 63 w' w.heap.size (fun _ => True) qU qC) ∧ Aside0 (w'.heap[qK]? = some (.cells #[.int .i64 0, .int .i64 0, (.slice none 0 0), (.slice none 0 0)] 26 (0, 0))) ∧ Aside0 (w'.heap[qI]? = some (.cells #[.int .i64 qG, .int .i64 qE, qU, (.slice none 0 0)] 26 (0, 0))) ∧ Aside0 (I8 w0 w' g s0_0 qe qa) ∧ Aside0 (KeepBut w w' g none) ∧ Aside0 (Below w0.heap.size w0 w'))
   case atStart => exact ⟨(0), (jQ), (jR), (([] : List (S63))), (.slice none 0 0), zT, H', ⟨Nat.le_refl _⟩, ⟨zn⟩, ⟨zb qD⟩, ⟨zb qA⟩, ⟨zSv HI0⟩, ⟨zK HK⟩, ⟨zBv HB⟩⟩
   case round =>
    clear H'
    obtain ⟨qd, qe, qa, qC, qU, rfl, HA, HK2, qB, qD, qA, HI0, HK, HB⟩ := hrel
    cases gk with
    | zero => exact absurd HA.out (by simp [sR_reader_program.l0])
    | succ k2 =>
     have H := HA.out
     clear HA
     simp only [sR_reader_program.l0] at H
     have jX := aM H
     clear H
     go_upto_region 10 with (fail)
     go_cut [36] (fun v36 wc => ∃ (kq : Nat) (q2 : Bool), v36 = .bool q2 ∧ Aside0 (sR_reader_program.j2 kq (wrap64 ((wrap64 (qO * 256)) + qW)) qd q2 s0_0 qe qa qG qE qC = some (r1, r2, r3, r4, r5, r6)) ∧ Aside0 (kq ≤ k2) ∧ Aside0 (Kd.R k63 63 wc w.heap.size (fun _ => True) qU qC) ∧ Aside0 (wc.heap[qK]? = some (.cells #[.int .i64 0, .int .i64 0, (.slice none 0 0), (.slice none 0 0)] 26 (0, 0))) ∧ Aside0 (wc.heap[qI]? = some (.cells #[.int .i64 qG, .int .i64 qE, qU, (.slice none 0 0)] 26 (0, 0))) ∧ Aside0 (I8 w0 wc g s0_0 qe qa) ∧ Aside0 (KeepBut w wc g none) ∧ Aside0 (Below w0.heap.size w0 wc))
     case first =>
      have H := jX.out
      clear jX
      by_cases c19 : qd < (wrap64 ((wrap64 (qO * 256)) + qW))
      ·rw [if_pos c19] at H
       have c19b0 := decide_eq_true c19
       clear c19
       (first | rw [c19b0] | (simp only [i64_w, i32_w]; rw [c19b0]) | skip)
       have H' := aM H
       clear H
       obtain ⟨ASz20_0, cSz20_0, HGz20, hgz20, HSz20_0⟩ := HI0.out
       have jz := cellS84_0 HGz20
       have j1 := cellS84_1 HGz20
       have j4 := cellS84_2 HGz20
       have j5 := z1_ HGz20 1
       have j6 := z1_ HGz20 2
       clear HGz20 hgz20
       go_wp2
       go_meet
       case rel => exact ⟨_, (decide (qa < 0)), (by first | rfl | (simp; done) | (simp [*]; done) | (simp; omega)), H', ⟨by have := HJ4.out; have := HK2.out; first | omega | exact Nat.le_refl _⟩, ⟨lR qB⟩, ⟨zb qD⟩, ⟨zb qA⟩, ⟨zSv HI0⟩, ⟨zK HK⟩, ⟨zBv HB⟩⟩
      ·rw [if_neg c19] at H
       have c19b0 := decide_eq_false c19
       clear c19
       (first | rw [c19b0] | (simp only [i64_w, i32_w]; rw [c19b0]) | skip)
       have H' := aM H
       clear H
       go_wp2
       go_meet
       case rel => exact ⟨_, (false), zT, H', ⟨by have := HJ4.out; have := HK2.out; first | omega | exact Nat.le_refl _⟩, ⟨lR qB⟩, ⟨zb qD⟩, ⟨zb qA⟩, ⟨zSv HI0⟩, ⟨zK HK⟩, ⟨zBv HB⟩⟩
     case rest =>
      clear jX
      obtain ⟨kq, q2, rfl, HA, HJ17, qB, qD, qA, HI0, HK, HB⟩ := hcut
      cases kq with
      | zero => exact absurd HA.out (by simp [sR_reader_program.j2])
      | succ kj17 =>
       have H := HA.out
       clear HA
       simp only [sR_reader_program.j2] at H
       by_cases c21 : q2 = true
       ·subst c21
        have H1 : ((sR_reader_next.f s0_0 qe qa 1 8).bind fun bt1014 => ((sR_reader_next.f s0_0 bt1014.2.1 bt1014.2.2 0 (wrap64 (qE - 1))).bind fun bt1017 => ((sR_reader_next.f s0_0 bt1017.2.1 bt1017.2.2 0 (wrap64 (qE - 1))).bind fun bt1020 => (if bt1014.1 = 3 then (sR_reader_program.j3 kj17 (wrap64 ((wrap64 (qO * 256)) + qW)) qd true s0_0 bt1020.2.1 bt1020.2.2 qG qE qC bt1014.1 bt1017.1 bt1020.1 0 0) else (sR_reader_program.j3 kj17 (wrap64 ((wrap64 (qO * 256)) + qW)) qd (bt1014.1 == 4) s0_0 bt1020.2.1 bt1020.2.2 qG qE qC bt1014.1 bt1017.1 bt1020.1 0 0))))) = some (r1, r2, r3, r4, r5, r6) := by rw [if_pos rfl] at H; exact H
        clear H
        have H := H1
        clear H1
        replace H := zbs H
        obtain ⟨⟨qF, jB, jC⟩, A220, H⟩ := H
        replace H : ((sR_reader_next.f s0_0 jB jC 0 (wrap64 (qE - 1))).bind fun bt1017 => ((sR_reader_next.f s0_0 bt1017.2.1 bt1017.2.2 0 (wrap64 (qE - 1))).bind fun bt1020 => (if qF = 3 then (sR_reader_program.j3 kj17 (wrap64 ((wrap64 (qO * 256)) + qW)) qd true s0_0 bt1020.2.1 bt1020.2.2 qG qE qC qF bt1017.1 bt1020.1 0 0) else (sR_reader_program.j3 kj17 (wrap64 ((wrap64 (qO * 256)) + qW)) qd (qF == 4) s0_0 bt1020.2.1 bt1020.2.2 qG qE qC qF bt1017.1 bt1020.1 0 0)))) = some (r1, r2, r3, r4, r5, r6) := H
        have A22 := aM A220
        clear A220
        replace H := zbs H
        obtain ⟨⟨qL, jD, jE⟩, A230, H⟩ := H
        replace H : ((sR_reader_next.f s0_0 jD jE 0 (wrap64 (qE - 1))).bind fun bt1020 => (if qF = 3 then (sR_reader_program.j3 kj17 (wrap64 ((wrap64 (qO * 256)) + qW)) qd true s0_0 bt1020.2.1 bt1020.2.2 qG qE qC qF qL bt1020.1 0 0) else (sR_reader_program.j3 kj17 (wrap64 ((wrap64 (qO * 256)) + qW)) qd (qF == 4) s0_0 bt1020.2.1 bt1020.2.2 qG qE qC qF qL bt1020.1 0 0))) = some (r1, r2, r3, r4, r5, r6) := H
        have A23 := aM A230
        clear A230
        replace H := zbs H
        obtain ⟨⟨qR, qo, qp⟩, A240, H⟩ := H
        replace H : (if qF = 3 then (sR_reader_program.j3 kj17 (wrap64 ((wrap64 (qO * 256)) + qW)) qd true s0_0 qo qp qG qE qC qF qL qR 0 0) else (sR_reader_program.j3 kj17 (wrap64 ((wrap64 (qO * 256)) + qW)) qd (qF == 4) s0_0 qo qp qG qE qC qF qL qR 0 0)) = some (r1, r2, r3, r4, r5, r6) := H
        have A24 := aM A240
        clear A240
        have jY := aM H
        clear H
        go_upto_region 16 with (first | ((with_reducible refine gate_dst (N := 7) rfl ?_); refine z16_ rfl (N := 7) rfl (cs := #[.int .i64 0, .int .i64 0, .int .i64 0, .int .i64 0, .int .i64 0]) (t := 63) zG ?_; intro qJ hg w26 hbox hb; replace qB := aM (Kd.z7_ (Kd.R_elderB (lR qB) qJ (Nat.le_of_eq hg.symm)) hb); replace HB := aM (z6_ (zBv HB) hb); have qH := aM (hbox); have yt := aM ((by rw [hg]; exact (keep_size (w := w) (g := g) (row := none) (zK HK)) : w.heap.size ≤ qJ)); have yu := aM ((Nat.le_trans HW0.out (by rw [hg]; exact (keep_size (w := w) (g := g) (row := none) (zK HK)) : w.heap.size ≤ qJ) : w0.heap.size ≤ qJ)); replace HK := aM (KeepBut.trans (zK HK) (KeepBut.of_below hb g none) (.inl rfl)); have qq := aM ((by rw [hg]; exact Nat.ne_of_lt (z19_ (g := qK) (lK qD)) : qK ≠ qJ)); have qr := aM ((by rw [hg]; exact Nat.ne_of_gt (z19_ (g := qK) (lK qD)) : qJ ≠ qK)); replace qD := aM (z5_ (g := qK) (lK qD) hb); have qj := aM ((by rw [hg]; exact Nat.ne_of_lt (z19_ (g := qI) (lK qA)) : qI ≠ qJ)); have qk := aM ((by rw [hg]; exact Nat.ne_of_gt (z19_ (g := qI) (lK qA)) : qJ ≠ qI)); replace qA := aM (z5_ (g := qI) (lK qA) hb); have qb := aM ((by rw [hg]; exact Nat.ne_of_lt (I8.lt (show I8 w0 _ g s0_0 qe qa from zSv HI0)) : g ≠ qJ)); have qc := aM ((by rw [hg]; exact Nat.ne_of_gt (I8.lt (show I8 w0 _ g s0_0 qe qa from zSv HI0)) : qJ ≠ g)); replace HI0 := aM (I8.below (zSv HI0) hb); clear hb hbox hg) | ((with_reducible refine gate_callee (f := 45) rfl ?_); refine z13_ (some 40) rfl rfl Try.func45 zk rfl #[.pointer (some ⟨g, 0, none⟩), .int .i64 1, .int .i64 8] rfl zA ?_; (with_reducible refine (sR_reader_next.calls g s0_0 qe qa 1 8 qF jB jC w0 _ ?side1 ?side2 A22.out).mono ?_); (case side1 => repeat (first | (with_reducible first | exact HI0.out | apply I8.alloc | apply I8.drewN | apply I8.drew | apply I8.set_1 | apply I8.set_2 | refine I8.far ?_ qX.out _ | refine I8.far ?_ qP.out _ | refine I8.far ?_ qb.out _) | exact HI0.out)); (case side2 => exact (zBv HB)); rintro e w27 ⟨rfl, hi, hb, hk⟩; refine ⟨_, rfl, ?_⟩; replace qB := aM (Kd.z0_ (Kd.z22_ (I8.apart (show I8 w0 _ g s0_0 qe qa from zSv HI0) (lR qB) (by decide)) hk (fun _ h => h.2)) (fun _ h => h.1)); replace qD := aM (KeepBut.blk hk (g' := qK) (lK qD) qY.out (by simp)); replace qA := aM (KeepBut.blk hk (g' := qI) (lK qA) qQ.out (by simp)); replace qH := aM (KeepBut.blk hk (g' := qJ) (lK qH) qc.out (by simp)); replace HK := aM (KeepBut.trans (zK HK) hk (.inl rfl)); replace HB := aM (hb); replace HI0 := aM (hi); (try clear hb); (try clear hk); (try clear hi); have qAF := qr.out; have qAG := qq.out; have qAH := qk.out; have qAI := qj.out; have qAJ := qc.out; have qAK := qb.out; have j7 := zc5 qH.out; have j8 := fun i_ : Nat => z1_ qH.out i_; have qAL := qh.out; have qAM := qg.out; have qAN := qQ.out; have qAO := qP.out; have j9 := zc4 qA.out; have yA := fun i_ : Nat => z1_ qA.out i_) | ((with_reducible refine gate_callee (f := 45) rfl ?_); refine z13_ (some 46) rfl rfl Try.func45 zk rfl #[.pointer (some ⟨g, 0, none⟩), .int .i64 0, .int .i64 (wrap64 (qE - 1))] rfl zA ?_; (with_reducible refine (sR_reader_next.calls g s0_0 jB jC 0 (wrap64 (qE - 1)) qL jD jE w0 _ ?side1 ?side2 A23.out).mono ?_); (case side1 => repeat (first | (with_reducible first | exact HI0.out | apply I8.alloc | apply I8.drewN | apply I8.drew | apply I8.set_1 | apply I8.set_2 | refine I8.far ?_ qX.out _ | refine I8.far ?_ qP.out _ | refine I8.far ?_ qb.out _) | exact HI0.out)); (case side2 => exact (zBv HB)); rintro e w35 ⟨rfl, hi, hb, hk⟩; refine ⟨_, rfl, ?_⟩; replace qB := aM (Kd.z0_ (Kd.z22_ (I8.apart (show I8 w0 _ g s0_0 jB jC from zSv HI0) (by apply rX; exact (Kd.z0_ (fA (Kd.z0_ qB.out (fun k_ hk => (⟨hk, hk.2⟩ : _ ∧ k_ ≠ qJ)))) (fun _ h_ => h_.1))) (by decide)) hk (fun _ h => h.2)) (fun _ h => h.1)); replace qD := aM (KeepBut.blk hk (g' := qK) (zb qD) qY.out (by simp)); replace qA := aM (KeepBut.blk hk (g' := qI) (zb qA) qQ.out (by simp)); replace qH := aM (KeepBut.blk hk (g' := qJ) (o := .cells #[.int .i64 qF, .int .i64 0, .int .i64 0, .int .i64 0, .int .i64 0] 63 (0, 0)) (by refine lZ ?_; refine blk_put (cs := #[.int .i64 0, .int .i64 0, .int .i64 0, .int .i64 0, .int .i64 0]) ?_ 0 _ rfl; refine lZ ?_; exact qH.out) qc.out (by simp)); replace HK := aM (KeepBut.trans (zK HK) hk (.inl rfl)); replace HB := aM (hb); replace HI0 := aM (hi); (try clear hb); (try clear hk); (try clear hi); have yB := zc5 qH.out; have yC := fun i_ : Nat => z1_ qH.out i_; have yD := zc4 qA.out; have yE := fun i_ : Nat => z1_ qA.out i_) | ((with_reducible refine gate_callee (f := 45) rfl ?_); refine z13_ (some 52) rfl rfl Try.func45 zk rfl #[.pointer (some ⟨g, 0, none⟩), .int .i64 0, .int .i64 (wrap64 (qE - 1))] rfl zA ?_; (with_reducible refine (sR_reader_next.calls g s0_0 jD jE 0 (wrap64 (qE - 1)) qR qo qp w0 _ ?side1 ?side2 A24.out).mono ?_); (case side1 => repeat (first | (with_reducible first | exact HI0.out | apply I8.alloc | apply I8.drewN | apply I8.drew | apply I8.set_1 | apply I8.set_2 | refine I8.far ?_ qX.out _ | refine I8.far ?_ qP.out _ | refine I8.far ?_ qb.out _) | exact HI0.out)); (case side2 => exact (zBv HB)); rintro e w38 ⟨rfl, hi, hb, hk⟩; refine ⟨_, rfl, ?_⟩; replace qB := aM (Kd.z0_ (Kd.z22_ (I8.apart (show I8 w0 _ g s0_0 jD jE from zSv HI0) (by apply rX; exact (Kd.z0_ (fA (Kd.z0_ qB.out (fun k_ hk => (⟨hk, hk.2⟩ : _ ∧ k_ ≠ qJ)))) (fun _ h_ => h_.1))) (by decide)) hk (fun _ h => h.2)) (fun _ h => h.1)); replace qD := aM (KeepBut.blk hk (g' := qK) (zb qD) qY.out (by simp)); replace qA := aM (KeepBut.blk hk (g' := qI) (zb qA) qQ.out (by simp)); replace qH := aM (KeepBut.blk hk (g' := qJ) (o := .cells #[.int .i64 qF, .int .i64 qL, .int .i64 0, .int .i64 0, .int .i64 0] 63 (0, 0)) (by refine lZ ?_; refine blk_put (cs := #[.int .i64 qF, .int .i64 0, .int .i64 0, .int .i64 0, .int .i64 0]) ?_ 1 _ rfl; refine lZ ?_; exact qH.out) qc.out (by simp)); replace HK := aM (KeepBut.trans (zK HK) hk (.inl rfl)); replace HB := aM (hb); replace HI0 := aM (hi); (try clear hb); (try clear hk); (try clear hi); have yF := zc5 qH.out; have yG := fun i_ : Nat => z1_ qH.out i_))
        (try simp only [Act.put, List.setIfInBounds_toArray, List.set_cons_zero, List.set_cons_succ])
        go_cut [61] (fun v61 wc => ∃ (kq : Nat) (q3 : Bool), v61 = .bool q3 ∧ Aside0 (sR_reader_program.j3 kq (wrap64 ((wrap64 (qO * 256)) + qW)) qd q3 s0_0 qo qp qG qE qC qF qL qR 0 0 = some (r1, r2, r3, r4, r5, r6)) ∧ Aside0 (kq ≤ kj17) ∧ Aside0 (Kd.R k63 63 wc w.heap.size (fun k_ => k_ ≠ qJ) qU qC) ∧ Aside0 (wc.heap[qK]? = some (.cells #[.int .i64 0, .int .i64 0, (.slice none 0 0), (.slice none 0 0)] 26 (0, 0))) ∧ Aside0 (wc.heap[qI]? = some (.cells #[.int .i64 qG, .int .i64 qE, qU, (.slice none 0 0)] 26 (0, 0))) ∧ Aside0 (wc.heap[qJ]? = some (.cells #[.int .i64 qF, .int .i64 qL, .int .i64 qR, .int .i64 0, .int .i64 0] 63 (0, 0))) ∧ Aside0 (I8 w0 wc g s0_0 qo qp) ∧ Aside0 (KeepBut w wc g none) ∧ Aside0 (Below w0.heap.size w0 wc))
        case first =>
         have H := jY.out
         clear jY
         by_cases c40 : qF = 3
         ·rw [if_pos c40] at H
          have c40b0 : (qF == 3) = true := beq_iff_eq.mpr c40
          have c40b1 : (qF != 3) = false := bne_eq_false_iff_eq.mpr c40
          clear c40
          (first | rw [c40b0] | (simp only [i64_w, i32_w]; rw [c40b0]) | skip)
          have H' := aM H
          clear H
          have qAP := qr.out
          have qAQ := qq.out
          have qAR := qk.out
          have qAS := qj.out
          have qAT := qc.out
          have qAU := qb.out
          have yH := zc5 qH.out
          have yI := fun i_ : Nat => z1_ qH.out i_
          go_wp2
          go_meet
          case rel => exact ⟨_, (true), zT, H', ⟨by have := HJ4.out; have := HK2.out; have := HJ17.out; first | omega | exact Nat.le_refl _⟩, ⟨by apply rX; exact Kd.z0_ (fA (Kd.z0_ qB.out (fun k_ hk => (⟨hk, hk.2⟩ : _ ∧ k_ ≠ qJ)))) (fun _ hk => hk.1.2)⟩, ⟨zb qD⟩, ⟨zb qA⟩, ⟨by refine lZ ?_; refine blk_put (cs := #[.int .i64 qF, .int .i64 qL, .int .i64 0, .int .i64 0, .int .i64 0]) ?_ 2 _ rfl; refine lZ ?_; exact qH.out⟩, ⟨zSv HI0⟩, ⟨zK HK⟩, ⟨zBv HB⟩⟩
         ·rw [if_neg c40] at H
          have c40b0 : (qF == 3) = false := beq_eq_false_iff_ne.mpr c40
          have c40b1 : (qF != 3) = true := bne_iff_ne.mpr c40
          (first | rw [c40b0] | (simp only [i64_w, i32_w]; rw [c40b0]) | skip)
          have H' := aM H
          clear H
          have qAV := qr.out
          have qAW := qq.out
          have qAX := qk.out
          have qAY := qj.out
          have qAZ := qc.out
          have qAa := qb.out
          have yJ := zc5 qH.out
          have yK := fun i_ : Nat => z1_ qH.out i_
          go_wp2
          go_meet
          case rel => exact ⟨_, ((qF == 4)), zT, H', ⟨by have := HJ4.out; have := HK2.out; have := HJ17.out; first | omega | exact Nat.le_refl _⟩, ⟨by apply rX; exact Kd.z0_ (fA (Kd.z0_ qB.out (fun k_ hk => (⟨hk, hk.2⟩ : _ ∧ k_ ≠ qJ)))) (fun _ hk => hk.1.2)⟩, ⟨zb qD⟩, ⟨zb qA⟩, ⟨by refine lZ ?_; refine blk_put (cs := #[.int .i64 qF, .int .i64 qL, .int .i64 0, .int .i64 0, .int .i64 0]) ?_ 2 _ rfl; refine lZ ?_; exact qH.out⟩, ⟨zSv HI0⟩, ⟨zK HK⟩, ⟨zBv HB⟩⟩
        case rest =>
         clear jY
         try clear c21
         obtain ⟨kq, q3, rfl, HA, HJ24, qB, qD, qA, qH, HI0, HK, HB⟩ := hcut
         cases kq with
         | zero => exact absurd HA.out (by simp [sR_reader_program.j3])
         | succ kj24 =>
          have H := HA.out
          clear HA
          simp only [sR_reader_program.j3] at H
          by_cases c49 : q3 = true
          ·subst c49
           have H1 : ((sR_reader_next.f s0_0 qo qp 0 (wrap64 (qE - 1))).bind fun bt1023 => ((sR_reader_constant.f kj24 s0_0 bt1023.2.1 bt1023.2.2 qF).bind fun bt1026 => (if qC.length < 3518437208883 then (sR_reader_program.l0 kj24 (wrap64 ((wrap64 (qO * 256)) + qW)) (wrap64 (qd + 1)) s0_0 bt1026.2.1 bt1026.2.2 qG qE (qC ++ [(⟨qF, qL, qR, bt1023.1, bt1026.1⟩ : S63)])) else (none)))) = some (r1, r2, r3, r4, r5, r6) := by rw [if_pos rfl] at H; exact H
           clear H
           have H := H1
           clear H1
           replace H := zbs H
           obtain ⟨⟨ql, jF, jG⟩, A500, H⟩ := H
           replace H : ((sR_reader_constant.f kj24 s0_0 jF jG qF).bind fun bt1026 => (if qC.length < 3518437208883 then (sR_reader_program.l0 kj24 (wrap64 ((wrap64 (qO * 256)) + qW)) (wrap64 (qd + 1)) s0_0 bt1026.2.1 bt1026.2.2 qG qE (qC ++ [(⟨qF, qL, qR, ql, bt1026.1⟩ : S63)])) else (none))) = some (r1, r2, r3, r4, r5, r6) := H
           have A50 := aM A500
           clear A500
           replace H := zbs H
           obtain ⟨⟨qu, q4, q5⟩, A510, H⟩ := H
           replace H : (if qC.length < 3518437208883 then (sR_reader_program.l0 kj24 (wrap64 ((wrap64 (qO * 256)) + qW)) (wrap64 (qd + 1)) s0_0 q4 q5 qG qE (qC ++ [(⟨qF, qL, qR, ql, qu⟩ : S63)])) else (none)) = some (r1, r2, r3, r4, r5, r6) := H
           have A51 := aM A510
           clear A510
           by_cases c52 : qC.length < 3518437208883
           ·rw [if_pos c52] at H
            have LMc52 := aM c52
            clear c52
            obtain ⟨y1029, hy1029⟩ : ∃ y_ : List (S63), y_ = (qC ++ [(⟨qF, qL, qR, ql, qu⟩ : S63)]) := ⟨_, rfl⟩
            replace H : (sR_reader_program.l0 kj24 (wrap64 ((wrap64 (qO * 256)) + qW)) (wrap64 (qd + 1)) s0_0 q4 q5 qG qE y1029) = some (r1, r2, r3, r4, r5, r6) := zH hy1029 H
            have Ny1029 := aM hy1029
            clear hy1029
            have H' := aM H
            clear H
            have qAb := qh.out
            have qAc := qg.out
            have qAd := qj.out
            have qAe := qk.out
            have qAf := qQ.out
            have qAg := qP.out
            have yL := zc4 qA.out
            have yM := fun i_ : Nat => z1_ qA.out i_
            go_wp2_with (first | ((with_reducible refine gate_callee (f := 45) rfl ?_); refine z13_ (some 66) rfl rfl Try.func45 zk rfl #[.pointer (some ⟨g, 0, none⟩), .int .i64 0, .int .i64 (wrap64 (qE - 1))] rfl zA ?_; (with_reducible refine (sR_reader_next.calls g s0_0 qo qp 0 (wrap64 (qE - 1)) ql jF jG w0 _ ?side1 ?side2 A50.out).mono ?_); (case side1 => repeat (first | (with_reducible first | exact HI0.out | apply I8.alloc | apply I8.drewN | apply I8.drew | apply I8.set_1 | apply I8.set_2 | refine I8.far ?_ qX.out _ | refine I8.far ?_ qP.out _ | refine I8.far ?_ qb.out _) | exact HI0.out)); (case side2 => exact (zBv HB)); rintro e w57 ⟨rfl, hi, hb, hk⟩; refine ⟨_, rfl, ?_⟩; replace qB := aM (Kd.z0_ (Kd.z22_ (I8.apart (show I8 w0 _ g s0_0 qo qp from zSv HI0) (lR qB) (by decide)) hk (fun _ h => h.2)) (fun _ h => h.1)); replace qD := aM (KeepBut.blk hk (g' := qK) (lK qD) qY.out (by simp)); replace qA := aM (KeepBut.blk hk (g' := qI) (lK qA) qQ.out (by simp)); replace qH := aM (KeepBut.blk hk (g' := qJ) (lK qH) qc.out (by simp)); replace HK := aM (KeepBut.trans (zK HK) hk (.inl rfl)); replace HB := aM (hb); replace HI0 := aM (hi); (try clear hb); (try clear hk); (try clear hi); have qAh := qr.out; have qAi := qq.out; have qAj := qc.out; have qAk := qb.out; have yN := zc5 qH.out; have yO := fun i_ : Nat => z1_ qH.out i_) | ((with_reducible refine gate_callee (f := 60) rfl ?_); refine z13_ (some 74) rfl rfl Try.func60 zk rfl #[.pointer (some ⟨g, 0, none⟩), .int .i64 qF] rfl zA ?_; (with_reducible refine (sR_reader_constant.calls kj24 g s0_0 jF jG qF qu q4 q5 w0 _ ?side1 ?side2 A51.out).mono ?_); (case side1 => repeat (first | (with_reducible first | exact HI0.out | apply I8.alloc | apply I8.drewN | apply I8.drew | apply I8.set_1 | apply I8.set_2 | refine I8.far ?_ qX.out _ | refine I8.far ?_ qP.out _ | refine I8.far ?_ qb.out _) | exact HI0.out)); (case side2 => exact (zBv HB)); rintro e w61 ⟨rfl, hi, hb, hk⟩; refine ⟨_, rfl, ?_⟩; replace qB := aM (Kd.z0_ (Kd.z22_ (I8.apart (show I8 w0 _ g s0_0 jF jG from zSv HI0) (by apply rX; exact (Kd.z0_ (fA (Kd.z0_ qB.out (fun k_ hk => (⟨hk, hk⟩ : _ ∧ k_ ≠ qJ)))) (fun _ h_ => h_.1))) (by decide)) hk (fun _ h => h.2)) (fun _ h => h.1)); replace qD := aM (KeepBut.blk hk (g' := qK) (zb qD) qY.out (by simp)); replace qA := aM (KeepBut.blk hk (g' := qI) (zb qA) qQ.out (by simp)); replace qH := aM (KeepBut.blk hk (g' := qJ) (o := .cells #[.int .i64 qF, .int .i64 qL, .int .i64 qR, .int .i64 ql, .int .i64 0] 63 (0, 0)) (by refine lZ ?_; refine blk_put (cs := #[.int .i64 qF, .int .i64 qL, .int .i64 qR, .int .i64 0, .int .i64 0]) ?_ 3 _ rfl; refine lZ ?_; exact qH.out) qc.out (by simp)); replace HK := aM (KeepBut.trans (zK HK) hk (.inl rfl)); replace HB := aM (hb); replace HI0 := aM (hi); (try clear hb); (try clear hk); (try clear hi); have yP := zc5 qH.out; have yQ := fun i_ : Nat => z1_ qH.out i_; have yR := zc4 qA.out; have yS := fun i_ : Nat => z1_ qA.out i_) | ((with_reducible refine gate_builtin (b := .append) (xs := #[.tmp 77, .tmp 79]) rfl ?_); at_builtin; refine Kd.R_append k63 w.heap.size rfl (.tmp 77) (.tmp 79) 23 63 (.agg #[(.int .i64 0), (.int .i64 0), (.int .i64 0), (.int .i64 0), (.int .i64 0)]) 40 rfl Try.underlying23 info63 rfl (by decide) (by omega) qU qC (⟨qF, qL, qR, ql, qu⟩ : S63) [.int .i64 qF, .int .i64 qL, .int .i64 qR, .int .i64 ql, .int .i64 qu] (fun k_ => k_ ≠ qJ) (fun _ => False) rfl zG ?aP (fun _ hk => hk.elim) ?aF ?aO (Below.refl _ _) ?aS ?aL ?_; (case aP => exact k63_mkM _ _ _ (⟨qF, qL, qR, ql, qu⟩ : S63)); (case aF => exact (fun k_ hk => Kd.freshB (g := qJ) (o := .cells #[.int .i64 qF, .int .i64 qL, .int .i64 qR, .int .i64 ql, .int .i64 qu] 63 (0, 0)) (by refine lZ ?_; refine blk_put (cs := #[.int .i64 qF, .int .i64 qL, .int .i64 qR, .int .i64 ql, .int .i64 0]) ?_ 4 _ rfl; refine lZ ?_; exact qH.out) k_ hk)); (case aO => exact (by apply rX; exact Kd.z0_ (fA (Kd.z0_ qB.out (fun k_ hk => (⟨hk, hk⟩ : _ ∧ k_ ≠ qJ)))) (fun _ hk => hk.1))); (case aS => exact (keep_size (w := w) (g := g) (row := none) (zK HK))); (case aL => have := LMc52.out; omega); intro v1030 w64 ho hb hg hat; rw [← Ny1029.out] at ho; replace qD := aM (blk_grown (g := qK) (zb qD) hg (Kd.R_ne qB.out qD.out (by decide))); replace qA := aM (blk_grown (g := qI) (zb qA) hg (Kd.R_ne qB.out qA.out (by decide))); replace qH := aM (blk_grown (g := qJ) (o := .cells #[.int .i64 qF, .int .i64 qL, .int .i64 qR, .int .i64 ql, .int .i64 qu] 63 (0, 0)) (by refine lZ ?_; refine blk_put (cs := #[.int .i64 qF, .int .i64 qL, .int .i64 qR, .int .i64 ql, .int .i64 0]) ?_ 4 _ rfl; refine lZ ?_; exact qH.out) hg (Kd.R_away qB.out (fun _ hk => hk))); replace HB := aM (below_weaken (zBv HB) HL.out hb); replace HI0 := aM (I8.grown (show I8 w0 _ g s0_0 q4 q5 from zSv HI0) hg (I8.own_ne HI0.out qB.out (by decide))); replace HK := aM (KeepBut.trans (zK HK) (KeepBut.of_grown hg g) (Kd.R_base2 qB.out)); have jU := aM (ho); clear qB; clear ho hb hg hat; obtain ⟨jj, jk, eo65⟩ := Kd.R_slice jU.out; subst eo65; have yT := zc4 qA.out; have yU := fun i_ : Nat => z1_ qA.out i_))
            go_roundg kj24
            case measure => have := HJ4.out; have := HK2.out; have := HJ17.out; have := HJ24.out; omega
            case rel => exact ⟨(wrap64 (qd + 1)), (q4), (q5), (y1029), (.slice jj y1029.length jk), zT, H', ⟨by have := HJ4.out; have := HK2.out; have := HJ17.out; have := HJ24.out; omega⟩, ⟨by apply rX; exact Kd.z0_ (fA (Kd.z3_ jU.out qA.out (by decide))) (fun _ hk => trivial)⟩, ⟨zb qD⟩, ⟨by refine lZ ?_; refine blk_put (cs := #[.int .i64 qG, .int .i64 qE, qU, .slice none 0 0]) ?_ 2 _ rfl; refine lZ ?_; exact qA.out⟩, ⟨zSv HI0⟩, ⟨zK HK⟩, ⟨zBv HB⟩⟩
           ·rw [if_neg c52] at H
            exact absurd H (by simp)
          ·replace c49 := Bool.eq_false_iff.mpr c49
           subst c49
           have H1 : ((sR_reader_next.f s0_0 qo qp 0 0).bind fun bt1032 => ((sR_reader_constant.f kj24 s0_0 bt1032.2.1 bt1032.2.2 qF).bind fun bt1035 => (if qC.length < 3518437208883 then (sR_reader_program.l0 kj24 (wrap64 ((wrap64 (qO * 256)) + qW)) (wrap64 (qd + 1)) s0_0 bt1035.2.1 bt1035.2.2 qG qE (qC ++ [(⟨qF, qL, qR, bt1032.1, bt1035.1⟩ : S63)])) else (none)))) = some (r1, r2, r3, r4, r5, r6) := by rw [if_neg (show ¬ (false = true) by decide)] at H; exact H
           clear H
           have H := H1
           clear H1
           replace H := zbs H
           obtain ⟨⟨qm, jH, jI⟩, A670, H⟩ := H
           replace H : ((sR_reader_constant.f kj24 s0_0 jH jI qF).bind fun bt1035 => (if qC.length < 3518437208883 then (sR_reader_program.l0 kj24 (wrap64 ((wrap64 (qO * 256)) + qW)) (wrap64 (qd + 1)) s0_0 bt1035.2.1 bt1035.2.2 qG qE (qC ++ [(⟨qF, qL, qR, qm, bt1035.1⟩ : S63)])) else (none))) = some (r1, r2, r3, r4, r5, r6) := H
           have A67 := aM A670
           clear A670
           replace H := zbs H
           obtain ⟨⟨qv, q6, q7⟩, A680, H⟩ := H
           replace H : (if qC.length < 3518437208883 then (sR_reader_program.l0 kj24 (wrap64 ((wrap64 (qO * 256)) + qW)) (wrap64 (qd + 1)) s0_0 q6 q7 qG qE (qC ++ [(⟨qF, qL, qR, qm, qv⟩ : S63)])) else (none)) = some (r1, r2, r3, r4, r5, r6) := H
           have A68 := aM A680
           clear A680
           by_cases c69 : qC.length < 3518437208883
           ·rw [if_pos c69] at H
            have LMc69 := aM c69
            clear c69
            obtain ⟨y1038, hy1038⟩ : ∃ y_ : List (S63), y_ = (qC ++ [(⟨qF, qL, qR, qm, qv⟩ : S63)]) := ⟨_, rfl⟩
            replace H : (sR_reader_program.l0 kj24 (wrap64 ((wrap64 (qO * 256)) + qW)) (wrap64 (qd + 1)) s0_0 q6 q7 qG qE y1038) = some (r1, r2, r3, r4, r5, r6) := zH hy1038 H
            have Ny1038 := aM hy1038
            clear hy1038
            have H' := aM H
            clear H
            go_wp2_with (first | ((with_reducible refine gate_callee (f := 45) rfl ?_); refine z13_ (some 69) rfl rfl Try.func45 zk rfl #[.pointer (some ⟨g, 0, none⟩), .int .i64 0, .int .i64 0] rfl zA ?_; (with_reducible refine (sR_reader_next.calls g s0_0 qo qp 0 0 qm jH jI w0 _ ?side1 ?side2 A67.out).mono ?_); (case side1 => repeat (first | (with_reducible first | exact HI0.out | apply I8.alloc | apply I8.drewN | apply I8.drew | apply I8.set_1 | apply I8.set_2 | refine I8.far ?_ qX.out _ | refine I8.far ?_ qP.out _ | refine I8.far ?_ qb.out _) | exact HI0.out)); (case side2 => exact (zBv HB)); rintro e w70 ⟨rfl, hi, hb, hk⟩; refine ⟨_, rfl, ?_⟩; replace qB := aM (Kd.z0_ (Kd.z22_ (I8.apart (show I8 w0 _ g s0_0 qo qp from zSv HI0) (lR qB) (by decide)) hk (fun _ h => h.2)) (fun _ h => h.1)); replace qD := aM (KeepBut.blk hk (g' := qK) (lK qD) qY.out (by simp)); replace qA := aM (KeepBut.blk hk (g' := qI) (lK qA) qQ.out (by simp)); replace qH := aM (KeepBut.blk hk (g' := qJ) (lK qH) qc.out (by simp)); replace HK := aM (KeepBut.trans (zK HK) hk (.inl rfl)); replace HB := aM (hb); replace HI0 := aM (hi); (try clear hb); (try clear hk); (try clear hi); have qAl := qr.out; have qAm := qq.out; have qAn := qk.out; have qAo := qj.out; have qAp := qc.out; have qAq := qb.out; have yV := zc5 qH.out; have yW := fun i_ : Nat => z1_ qH.out i_) | ((with_reducible refine gate_callee (f := 60) rfl ?_); refine z13_ (some 74) rfl rfl Try.func60 zk rfl #[.pointer (some ⟨g, 0, none⟩), .int .i64 qF] rfl zA ?_; (with_reducible refine (sR_reader_constant.calls kj24 g s0_0 jH jI qF qv q6 q7 w0 _ ?side1 ?side2 A68.out).mono ?_); (case side1 => repeat (first | (with_reducible first | exact HI0.out | apply I8.alloc | apply I8.drewN | apply I8.drew | apply I8.set_1 | apply I8.set_2 | refine I8.far ?_ qX.out _ | refine I8.far ?_ qP.out _ | refine I8.far ?_ qb.out _) | exact HI0.out)); (case side2 => exact (zBv HB)); rintro e w75 ⟨rfl, hi, hb, hk⟩; refine ⟨_, rfl, ?_⟩; replace qB := aM (Kd.z0_ (Kd.z22_ (I8.apart (show I8 w0 _ g s0_0 jH jI from zSv HI0) (by apply rX; exact (Kd.z0_ (fA (Kd.z0_ qB.out (fun k_ hk => (⟨hk, hk⟩ : _ ∧ k_ ≠ qJ)))) (fun _ h_ => h_.1))) (by decide)) hk (fun _ h => h.2)) (fun _ h => h.1)); replace qD := aM (KeepBut.blk hk (g' := qK) (zb qD) qY.out (by simp)); replace qA := aM (KeepBut.blk hk (g' := qI) (zb qA) qQ.out (by simp)); replace qH := aM (KeepBut.blk hk (g' := qJ) (o := .cells #[.int .i64 qF, .int .i64 qL, .int .i64 qR, .int .i64 qm, .int .i64 0] 63 (0, 0)) (by refine lZ ?_; refine blk_put (cs := #[.int .i64 qF, .int .i64 qL, .int .i64 qR, .int .i64 0, .int .i64 0]) ?_ 3 _ rfl; refine lZ ?_; exact qH.out) qc.out (by simp)); replace HK := aM (KeepBut.trans (zK HK) hk (.inl rfl)); replace HB := aM (hb); replace HI0 := aM (hi); (try clear hb); (try clear hk); (try clear hi); have yX := zc5 qH.out; have yY := fun i_ : Nat => z1_ qH.out i_; have qAr := qh.out; have qAs := qg.out; have qAt := qQ.out; have qAu := qP.out; have yZ := zc4 qA.out; have ya := fun i_ : Nat => z1_ qA.out i_) | ((with_reducible refine gate_builtin (b := .append) (xs := #[.tmp 77, .tmp 79]) rfl ?_); at_builtin; refine Kd.R_append k63 w.heap.size rfl (.tmp 77) (.tmp 79) 23 63 (.agg #[(.int .i64 0), (.int .i64 0), (.int .i64 0), (.int .i64 0), (.int .i64 0)]) 40 rfl Try.underlying23 info63 rfl (by decide) (by omega) qU qC (⟨qF, qL, qR, qm, qv⟩ : S63) [.int .i64 qF, .int .i64 qL, .int .i64 qR, .int .i64 qm, .int .i64 qv] (fun k_ => k_ ≠ qJ) (fun _ => False) rfl zG ?aP (fun _ hk => hk.elim) ?aF ?aO (Below.refl _ _) ?aS ?aL ?_; (case aP => exact k63_mkM _ _ _ (⟨qF, qL, qR, qm, qv⟩ : S63)); (case aF => exact (fun k_ hk => Kd.freshB (g := qJ) (o := .cells #[.int .i64 qF, .int .i64 qL, .int .i64 qR, .int .i64 qm, .int .i64 qv] 63 (0, 0)) (by refine lZ ?_; refine blk_put (cs := #[.int .i64 qF, .int .i64 qL, .int .i64 qR, .int .i64 qm, .int .i64 0]) ?_ 4 _ rfl; refine lZ ?_; exact qH.out) k_ hk)); (case aO => exact (by apply rX; exact Kd.z0_ (fA (Kd.z0_ qB.out (fun k_ hk => (⟨hk, hk⟩ : _ ∧ k_ ≠ qJ)))) (fun _ hk => hk.1))); (case aS => exact (keep_size (w := w) (g := g) (row := none) (zK HK))); (case aL => have := LMc69.out; omega); intro v1039 w80 ho hb hg hat; rw [← Ny1038.out] at ho; replace qD := aM (blk_grown (g := qK) (zb qD) hg (Kd.R_ne qB.out qD.out (by decide))); replace qA := aM (blk_grown (g := qI) (zb qA) hg (Kd.R_ne qB.out qA.out (by decide))); replace qH := aM (blk_grown (g := qJ) (o := .cells #[.int .i64 qF, .int .i64 qL, .int .i64 qR, .int .i64 qm, .int .i64 qv] 63 (0, 0)) (by refine lZ ?_; refine blk_put (cs := #[.int .i64 qF, .int .i64 qL, .int .i64 qR, .int .i64 qm, .int .i64 0]) ?_ 4 _ rfl; refine lZ ?_; exact qH.out) hg (Kd.R_away qB.out (fun _ hk => hk))); replace HB := aM (below_weaken (zBv HB) HL.out hb); replace HI0 := aM (I8.grown (show I8 w0 _ g s0_0 q6 q7 from zSv HI0) hg (I8.own_ne HI0.out qB.out (by decide))); replace HK := aM (KeepBut.trans (zK HK) (KeepBut.of_grown hg g) (Kd.R_base2 qB.out)); have jV := aM (ho); clear qB; clear ho hb hg hat; obtain ⟨jl, jm, eo81⟩ := Kd.R_slice jV.out; subst eo81; have yb := zc4 qA.out; have yc := fun i_ : Nat => z1_ qA.out i_))
            go_roundg kj24
            case measure => have := HJ4.out; have := HK2.out; have := HJ17.out; have := HJ24.out; omega
            case rel => exact ⟨(wrap64 (qd + 1)), (q6), (q7), (y1038), (.slice jl y1038.length jm), zT, H', ⟨by have := HJ4.out; have := HK2.out; have := HJ17.out; have := HJ24.out; omega⟩, ⟨by apply rX; exact Kd.z0_ (fA (Kd.z3_ jV.out qA.out (by decide))) (fun _ hk => trivial)⟩, ⟨zb qD⟩, ⟨by refine lZ ?_; refine blk_put (cs := #[.int .i64 qG, .int .i64 qE, qU, .slice none 0 0]) ?_ 2 _ rfl; refine lZ ?_; exact qA.out⟩, ⟨zSv HI0⟩, ⟨zK HK⟩, ⟨zBv HB⟩⟩
           ·rw [if_neg c69] at H
            exact absurd H (by simp)
       ·replace c21 := Bool.eq_false_iff.mpr c21
        subst c21
        have H1 : ((sR_reader_next.f s0_0 qe qa 1 128).bind fun bt1041 => (sR_reader_program.l1 kj17 bt1041.1 0 s0_0 bt1041.2.1 bt1041.2.2 qG qE qC ([] : List Int))) = some (r1, r2, r3, r4, r5, r6) := by rw [if_neg (show ¬ (false = true) by decide)] at H; exact H
        clear H
        have H := H1
        clear H1
        replace H := zbs H
        obtain ⟨⟨q0, jS, jT⟩, A830, H⟩ := H
        replace H : (sR_reader_program.l1 kj17 q0 0 s0_0 jS jT qG qE qC ([] : List Int)) = some (r1, r2, r3, r4, r5, r6) := H
        have A83 := aM A830
        clear A830
        have H' := aM H
        clear H
        go_wp2_with (first | ((with_reducible refine gate_callee (f := 45) rfl ?_); refine z13_ (some 83) rfl rfl Try.func45 zk rfl #[.pointer (some ⟨g, 0, none⟩), .int .i64 1, .int .i64 128] rfl zA ?_; (with_reducible refine (sR_reader_next.calls g s0_0 qe qa 1 128 q0 jS jT w0 _ ?side1 ?side2 A83.out).mono ?_); (case side1 => repeat (first | (with_reducible first | exact HI0.out | apply I8.alloc | apply I8.drewN | apply I8.drew | apply I8.set_1 | apply I8.set_2 | refine I8.far ?_ qX.out _ | refine I8.far ?_ qP.out _) | exact HI0.out)); (case side2 => exact (zBv HB)); rintro e w84 ⟨rfl, hi, hb, hk⟩; refine ⟨_, rfl, ?_⟩; replace qB := aM (Kd.z0_ (Kd.z22_ (I8.apart (show I8 w0 _ g s0_0 qe qa from zSv HI0) (lR qB) (by decide)) hk (fun _ h => h.2)) (fun _ h => h.1)); replace qD := aM (KeepBut.blk hk (g' := qK) (lK qD) qY.out (by simp)); replace qA := aM (KeepBut.blk hk (g' := qI) (lK qA) qQ.out (by simp)); replace HK := aM (KeepBut.trans (zK HK) hk (.inl rfl)); replace HB := aM (hb); replace HI0 := aM (hi); (try clear hb); (try clear hk); (try clear hi)))
        go_loopg [8] kj17 (fun kq v8 w' => ∃ (q1 : Int) (qt : Int) (qs : Int) (qZ : List Int) (qn : Value), v8 = .int .i64 q1 ∧ Aside0 (sR_reader_program.l1 kq q0 q1 s0_0 qt qs qG qE qC qZ = some (r1, r2, r3, r4, r5, r6)) ∧ Aside0 (kq ≤ kj17) ∧ Aside0 (Kd.R k63 63 w' w.heap.size (fun _ => True) qU qC) ∧ Aside0 (Kd.R (Kd.int .i64) 3 w' w.heap.size (fun _ => True) qn qZ) ∧ Aside0 (w'.heap[qK]? = some (.cells #[.int .i64 0, .int .i64 0, (.slice none 0 0), (.slice none 0 0)] 26 (0, 0))) ∧ Aside0 (w'.heap[qI]? = some (.cells #[.int .i64 qG, .int .i64 qE, qU, qn] 26 (0, 0))) ∧ Aside0 (I8 w0 w' g s0_0 qt qs) ∧ Aside0 (KeepBut w w' g none) ∧ Aside0 (Below w0.heap.size w0 w'))
        case atStart => exact ⟨(0), (jS), (jT), (([] : List Int)), (.slice none 0 0), zT, H', ⟨Nat.le_refl _⟩, ⟨lR qB⟩, ⟨zn⟩, ⟨zb qD⟩, ⟨zb qA⟩, ⟨zSv HI0⟩, ⟨zK HK⟩, ⟨zBv HB⟩⟩
        case round =>
         clear H'
         try clear c21
         obtain ⟨q1, qt, qs, qZ, qn, rfl, HA, HK4, qB, qM, qD, qA, HI0, HK, HB⟩ := hrel
         cases gk with
         | zero => exact absurd HA.out (by simp [sR_reader_program.l1])
         | succ k4 =>
          have H := HA.out
          clear HA
          simp only [sR_reader_program.l1] at H
          by_cases c85 : q1 < q0
          ·rw [if_pos c85] at H
           have c85b0 := decide_eq_true c85
           clear c85
           by_cases c86 : qs < 0
           ·rw [if_pos c86] at H
            have c86b0 := decide_eq_true c86
            clear c86
            replace H := zbs H
            obtain ⟨⟨q8, q9, jA⟩, A870, H⟩ := H
            replace H : (if qZ.length < 17592186044416 then (sR_reader_program.l1 k4 q0 (wrap64 (q1 + 1)) s0_0 q9 jA qG qE qC (qZ ++ [q8])) else (none)) = some (r1, r2, r3, r4, r5, r6) := H
            have A87 := aM A870
            clear A870
            by_cases c88 : qZ.length < 17592186044416
            ·rw [if_pos c88] at H
             have LMc88 := aM c88
             clear c88
             obtain ⟨y1047, hy1047⟩ : ∃ y_ : List Int, y_ = (qZ ++ [q8]) := ⟨_, rfl⟩
             replace H : (sR_reader_program.l1 k4 q0 (wrap64 (q1 + 1)) s0_0 q9 jA qG qE qC y1047) = some (r1, r2, r3, r4, r5, r6) := zH hy1047 H
             have Ny1047 := aM hy1047
             clear hy1047
             have H' := aM H
             clear H
             obtain ⟨ASz89_0, cSz89_0, HGz89, hgz89, HSz89_0⟩ := HI0.out
             have yd := cellS84_0 HGz89
             have ye := cellS84_1 HGz89
             have yf := cellS84_2 HGz89
             have yg := z1_ HGz89 1
             have yh := z1_ HGz89 2
             clear HGz89 hgz89
             try go_wp2
             replace qB := aM (Kd.R_drew qB.out)
             replace qM := aM (Kd.R_drew qM.out)
             replace qD := aM (blk_drew qD.out)
             replace qA := aM (blk_drew qA.out)
             replace HI0 := aM (I8.drew HI0.out)
             replace HK := aM (keep_drew HK.out)
             replace HB := aM (below_drew1 HB.out)
             refine start_ (n := 11) (S := fun w' => w'.cell? ⟨qI, 0, none⟩ = some (.int .i64 qG) ∧ w'.cell? ⟨qI, 1, none⟩ = some (.int .i64 qE) ∧ w'.cell? ⟨qI, 2, none⟩ = some (qU) ∧ w'.cell? ⟨qI, 3, none⟩ = some (qn)) (ds := [10]) (bs 11 0) zk rfl rfl ⟨(z2_ qA.out 0).trans rfl, (z2_ qA.out 1).trans rfl, (z2_ qA.out 2).trans rfl, (z2_ qA.out 3).trans rfl⟩ (fun hHeld => ?_); refine with_tabW sR_reader_program.tab25 sR_reader_program.bits25 (fun HT_ HW_ => ?_)
             generalize wr.drew = w90 at qB qM qD qA HI0 HK HB hHeld ⊢
             refine pQ 0 96 11 1 ?_
             refine pQ 2 98 11 5 ?_
             refine pQ 3 99 11 13 ?_
             refine take_ (i := 1) (N := some 97) (v := ?_) (a' := ?_) (bs 11 15) rfl rfl (take_ofW HT_.out HW_.out zk) (fun _ _ _ h => h) (Or.inl ⟨by rfl, ?_⟩) hHeld ?_ ?_
             rotate_left
             ·rintro w' ⟨s0, s1, s2, s3⟩
              go_simp
              with_reducible rfl
             rotate_left
             ·simp only [Act.put, List.setIfInBounds_toArray, List.set_cons_zero, List.set_cons_succ, i64_w, i32_w]
              rfl
             refine take_ (i := 4) (N := some 100) (v := ?_) (a' := ?_) (bs 11 31) rfl rfl (take_ofW HT_.out HW_.out zk) (fun _ _ _ h => h) (Or.inl ⟨by rfl, ?_⟩) hHeld ?_ ?_
             rotate_left
             ·rintro w' ⟨s0, s1, s2, s3⟩
              go_simp
              with_reducible rfl
             rotate_left
             ·simp only [Act.put, List.setIfInBounds_toArray, List.set_cons_zero, List.set_cons_succ, i64_w, i32_w]
              rfl
             refine pQ 5 101 11 63 ?_
             refine one_ (i := 6) (N := some 102) (bs 11 127) rfl rfl (one_of HT_.out zk) (by decide) (fun K hK => ?_)
             refine goes_ Try.func45 zk rfl #[.pointer (some ⟨g, 0, none⟩), .int .i64 0, .int .i64 (wrap64 (qE - 1))] (by rfl) rfl rfl zA ?_
             with_reducible refine (sR_reader_next.calls g s0_0 qt qs 0 (wrap64 (qE - 1)) q8 q9 jA w0 _ ?side1 ?side2 A87.out).mono ?_
             (case side1 => repeat (first | (with_reducible first | exact HI0.out | apply I8.alloc | apply I8.drewN | apply I8.drew | apply I8.set_1 | apply I8.set_2 | refine I8.far ?_ qX.out _ | refine I8.far ?_ qP.out _) | exact HI0.out))
             (case side2 => exact (zBv HB))
             rintro e w91 ⟨rfl, hi, hb, hk⟩
             refine ⟨_, rfl, ?_⟩
             replace qB := aM (Kd.z0_ (Kd.z22_ (I8.apart (show I8 w0 _ g s0_0 qt qs from zSv HI0) (lR qB) (by decide)) hk (fun _ h => h.2)) (fun _ h => h.1))
             replace qM := aM (Kd.z0_ (Kd.z22_ (I8.apart (show I8 w0 _ g s0_0 qt qs from zSv HI0) (lR qM) (by decide)) hk (fun _ h => h.2)) (fun _ h => h.1))
             replace qD := aM (KeepBut.blk hk (g' := qK) (lK qD) qY.out (by simp))
             replace qA := aM (KeepBut.blk hk (g' := qI) (lK qA) qQ.out (by simp))
             replace HK := aM (KeepBut.trans (zK HK) hk (.inl rfl))
             replace HB := aM (hb)
             replace HI0 := aM (hi)
             (try clear hb)
             (try clear hb2)
             (try clear hk)
             (try clear hi)
             refine hK.out _ _ ⟨(z2_ qA.out 0).trans rfl, (z2_ qA.out 1).trans rfl, (z2_ qA.out 2).trans rfl, (z2_ qA.out 3).trans rfl⟩ (fun hHeld => ?_)
             clear hK K
             refine norm_ (a' := ?_) ?_ ?_
             rotate_left
             ·show Act.put _ (some 102) _ = _
              simp only [Act.put, List.setIfInBounds_toArray, List.set_cons_zero, List.set_cons_succ, i64_w, i32_w]
              rfl
             refine one_ (i := 7) (N := some 103) (bs 11 255) rfl rfl (one_of HT_.out zk) (by decide) (fun K hK => ?_)
             refine value_ (w1 := ?_) (v := ?_) (by rfl) rfl ?_ ?_
             rotate_left 2
             ·go_simp
              constructor
              ·rfl
              ·rfl
             refine hK.out _ _ ⟨(z2_ (z11_ qA.out _) 0).trans rfl, (z2_ (z11_ qA.out _) 1).trans rfl, (z2_ (z11_ qA.out _) 2).trans rfl, (z2_ (z11_ qA.out _) 3).trans rfl⟩ (fun hHeld => ?_)
             clear hK K
             refine norm_ (a' := ?_) ?_ ?_
             rotate_left
             ·show Act.put _ (some 103) _ = _
              simp only [Act.put, List.setIfInBounds_toArray, List.set_cons_zero, List.set_cons_succ, i64_w, i32_w]
              rfl
             refine one_ (i := 8) (N := some 104) (bs 11 511) rfl rfl (one_of HT_.out zk) (by decide) (fun K hK => ?_)
             refine Kd.R_append_step (Kd.int .i64) w.heap.size (by rfl) (.tmp 97) (.tmp 103) 24 3 (.int .i64 0) 8 rfl Try.underlying24 info3 rfl (by decide) (by omega) qn qZ q8 [.int .i64 q8] (fun _ => True) (fun _ => False) rfl rfl ?aP (fun _ hk => hk.elim) ?aF ?aO (Below.refl _ _) ?aS ?aL ?_
             (case aP => exact rfl)
             (case aF => exact (fun _ _ => trivial))
             (case aO => exact (lR qM))
             (case aS => exact (keep_size (w := w) (g := g) (row := none) (zK HK)))
             (case aL => have := LMc88.out; omega)
             intro v1048 w92 ho hb hg hat
             rw [← Ny1047.out] at ho
             replace qB := aM (Kd.R_over' (lR qB) (Kd.R_typed (lR qM)) (by decide) hg)
             replace qD := aM (blk_grown (g := qK) (lK qD) hg (Kd.R_ne qM.out qD.out (by decide)))
             replace qA := aM (blk_grown (g := qI) (lK qA) hg (Kd.R_ne qM.out qA.out (by decide)))
             replace HB := aM (below_weaken (zBv HB) HL.out hb)
             replace HI0 := aM (I8.grown (show I8 w0 _ g s0_0 q9 jA from zSv HI0) hg (I8.own_ne HI0.out qM.out (by decide)))
             replace HK := aM (KeepBut.trans (zK HK) (KeepBut.of_grown hg g) (Kd.R_base2 qM.out))
             have jW := aM (ho)
             clear qM
             clear ho hb hg hat
             obtain ⟨jn, jo, eo93⟩ := Kd.R_slice jW.out
             (first | subst eo93 | (injection eo93 with f1_ f2_ f3_; have f4_ := f1_.symm; have f5_ := f3_.symm; clear f1_ f2_ f3_; subst f4_; subst f5_))
             refine hK.out _ _ ⟨(z2_ qA.out 0).trans rfl, (z2_ qA.out 1).trans rfl, (z2_ qA.out 2).trans rfl, (z2_ qA.out 3).trans rfl⟩ (fun hHeld => ?_)
             clear hK K
             refine norm_ (a' := ?_) ?_ ?_
             rotate_left
             ·show Act.put _ (some 104) _ = _
              simp only [Act.put, List.setIfInBounds_toArray, List.set_cons_zero, List.set_cons_succ, i64_w, i32_w]
              rfl
             refine pQ 9 105 11 1023 ?_
             refine last_ (i := 10) (N := none) (bs 11 2047) rfl rfl (one_of HT_.out zk) (by decide) (fun K hK => ?_)
             have qA4 : w92.cell? ⟨qI, 3, none⟩ = some (qn) := (z2_ qA.out 3).trans rfl
             have qAv := z1_ qA.out 3
             have yi := qg.out
             have yj := qh.out
             refine skip_ (w1 := ?_) (by rfl) rfl ?_ ?_
             rotate_left
             ·go_simp
              rfl
             refine hK.out _ _ ?_
             clear hK K
             refine done_ (done_of HT_.out zk) ?_
             try go_wp2
             go_roundg k4
             case measure => have := HJ4.out; have := HK2.out; have := HJ17.out; have := HK4.out; omega
             case rel => exact ⟨(wrap64 (q1 + 1)), (q9), (jA), (y1047), (.slice jn y1047.length jo), zT, H', ⟨by have := HJ4.out; have := HK2.out; have := HJ17.out; have := HK4.out; omega⟩, ⟨by apply rX; exact Kd.z0_ (fA (Kd.z3_ qB.out qA.out (by decide))) (fun _ hk => trivial)⟩, ⟨by apply rX; exact Kd.z0_ (fA (Kd.z3_ jW.out qA.out (by decide))) (fun _ hk => trivial)⟩, ⟨zb qD⟩, ⟨by refine lZ ?_; refine blk_put (cs := #[.int .i64 qG, .int .i64 qE, qU, qn]) ?_ 3 _ rfl; refine lZ ?_; exact qA.out⟩, ⟨zSv HI0⟩, ⟨zK HK⟩, ⟨zBv HB⟩⟩
            ·rw [if_neg c88] at H
             exact absurd H (by simp)
           ·rw [if_neg c86] at H
            have c86b0 := decide_eq_false c86
            clear c86
            simp only [Option.some.injEq, Prod.mk.injEq] at H
            obtain ⟨rfl, rfl, rfl, rfl, rfl, rfl⟩ := H
            obtain ⟨ASz95_0, cSz95_0, HGz95, hgz95, HSz95_0⟩ := HI0.out
            have yk := cellS84_0 HGz95
            have yl := cellS84_1 HGz95
            have ym := cellS84_2 HGz95
            have yn := z1_ HGz95 1
            have yo := z1_ HGz95 2
            clear HGz95 hgz95
            have qAw := qh.out
            have qAx := qg.out
            have qAy := qQ.out
            have qAz := qP.out
            have yp := zc4 qA.out
            have yq := fun i_ : Nat => z1_ qA.out i_
            have qA0 := qY.out
            have qA1 := qX.out
            have jp := zc4 qD.out
            have jq := fun i_ : Nat => z1_ qD.out i_
            obtain ⟨jZ, ja, eo101⟩ := Kd.R_slice qB.out
            subst eo101
            obtain ⟨jd, je, eo102⟩ := Kd.R_slice qM.out
            subst eo102
            go_wp2
            refine bodyPost_ret (results_cell_row rfl _ _ qK 26 #[.int .i64 qG, .int .i64 qE, .slice jZ qC.length ja, .slice jd qZ.length je] (0, 0) _ rfl (by refine lZ ?_; refine blk_put (cs := #[.int .i64 qG, .int .i64 qE, .slice jZ qC.length ja, .slice none 0 0]) ?_ 3 _ rfl; refine lZ ?_; refine blk_put (cs := #[.int .i64 qG, .int .i64 qE, .slice none 0 0, .slice none 0 0]) ?_ 2 _ rfl; refine lZ ?_; refine blk_put (cs := #[.int .i64 qG, .int .i64 0, .slice none 0 0, .slice none 0 0]) ?_ 1 _ rfl; refine lZ ?_; refine blk_put (cs := #[.int .i64 0, .int .i64 0, .slice none 0 0, .slice none 0 0]) ?_ 0 _ rfl; refine lZ ?_; exact qD.out) Try.underlying26 rfl zk) rfl ?_
            exact ⟨_, _, zE, by apply rX; exact Kd.z0_ (fA (fA (fA (fA (Kd.z3_ qB.out qD.out (by decide)))))) (fun _ hk => trivial), by apply rX; exact Kd.z0_ (fA (fA (fA (fA (Kd.z3_ qM.out qD.out (by decide)))))) (fun _ hk => trivial), zSv HI0, zBv HB, zK HK⟩
          ·rw [if_neg c85] at H
           have c85b0 := decide_eq_false c85
           clear c85
           simp only [Option.some.injEq, Prod.mk.injEq] at H
           obtain ⟨rfl, rfl, rfl, rfl, rfl, rfl⟩ := H
           have yv := qh.out
           have yw := qg.out
           have yx := qQ.out
           have yy := qP.out
           have jr := zc4 qA.out
           have js := fun i_ : Nat => z1_ qA.out i_
           have yz := qY.out
           have qAA := qX.out
           have jt := zc4 qD.out
           have ju := fun i_ : Nat => z1_ qD.out i_
           obtain ⟨jb, jc, eo108⟩ := Kd.R_slice qB.out
           subst eo108
           obtain ⟨jf, jg, eo109⟩ := Kd.R_slice qM.out
           subst eo109
           go_wp2
           refine bodyPost_ret (results_cell_row rfl _ _ qK 26 #[.int .i64 qG, .int .i64 qE, .slice jb qC.length jc, .slice jf qZ.length jg] (0, 0) _ rfl (by refine lZ ?_; refine blk_put (cs := #[.int .i64 qG, .int .i64 qE, .slice jb qC.length jc, .slice none 0 0]) ?_ 3 _ rfl; refine lZ ?_; refine blk_put (cs := #[.int .i64 qG, .int .i64 qE, .slice none 0 0, .slice none 0 0]) ?_ 2 _ rfl; refine lZ ?_; refine blk_put (cs := #[.int .i64 qG, .int .i64 0, .slice none 0 0, .slice none 0 0]) ?_ 1 _ rfl; refine lZ ?_; refine blk_put (cs := #[.int .i64 0, .int .i64 0, .slice none 0 0, .slice none 0 0]) ?_ 0 _ rfl; refine lZ ?_; exact qD.out) Try.underlying26 rfl zk) rfl ?_
           exact ⟨_, _, zE, by apply rX; exact Kd.z0_ (fA (fA (fA (fA (Kd.z3_ qB.out qD.out (by decide)))))) (fun _ hk => trivial), by apply rX; exact Kd.z0_ (fA (fA (fA (fA (Kd.z3_ qM.out qD.out (by decide)))))) (fun _ hk => trivial), zSv HI0, zBv HB, zK HK⟩
end Go.Proofs.Ytccbdcbeinkjgaa.XA
end
