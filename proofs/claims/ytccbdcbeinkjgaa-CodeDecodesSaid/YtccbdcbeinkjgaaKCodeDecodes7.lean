/- Part 7 of the proof of the law CodeDecodes for every input: words, walks and plain laws. No condition. -/
import Derived.Test.YtccbdcbeinkjgaaKCodeDecodes6
set_option linter.unusedVariables false
set_option linter.unusedSimpArgs false
set_option maxHeartbeats 8000000
set_option maxRecDepth 100000
section
namespace Go.Proofs.Ytccbdcbeinkjgaa.XA
open Go.Proofs.Ytccbdcbeinkjgaa.Lift Go.RowKit Go.Proofs.YtccbdcbeinkjgaaW.PrintWords Go.Proofs.YtccbdcbeinkjgaaW.PrintLast Go.Proofs.YtccbdcbeinkjgaaW.PrintMore
attribute [local go_sem] max2_int min2_int max_two min_two max_three min_three max_four min_four
mutual
def cR_program.j2 : Nat → List Int → Int → Bool → Int → Int → List (S63) → Option (Int × Int × (List (S63)) × List Int × Int × Bool)
 | 0, _, _, _, _, _, _ => none
 | k + 1, qa, qt, qu, qf, qX, qZ => (cR_within.f qa qt qu 1 128).bind fun bt363 => (cR_program.l1 k bt363.1 0 qa bt363.2.1 bt363.2.2 qf qX qZ ([] : List Int))
def cR_program.l1 : Nat → Int → Int → List Int → Int → Bool → Int → Int → List (S63) → List Int → Option (Int × Int × (List (S63)) × List Int × Int × Bool)
 | 0, _, _, _, _, _, _, _, _, _ => none
 | k + 1, x72, x73, qa, qt, qu, qf, qX, qZ, jI => if x73 < x72 then ((cR_within.f qa qt qu 0 (wrap64 (qX - 1))).bind fun bt366 => (if jI.length < 17592186044416 then (cR_program.l1 k x72 (wrap64 (x73 + 1)) qa bt366.2.1 bt366.2.2 qf qX qZ (jI ++ [bt366.1])) else (none))) else (some (qf, qX, qZ, jI, qt, qu))
def cR_program.l0 : Nat → Int → Int → List Int → Int → Bool → Int → Int → List (S63) → Option (Int × Int × (List (S63)) × List Int × Int × Bool)
 | 0, _, _, _, _, _, _, _, _ => none
 | k + 1, x23, x24, qa, qt, qu, qf, qX, qZ => if x24 < x23 then ((cR_within.f qa qt qu 1 8).bind fun bt335 => ((cR_within.f qa bt335.2.1 bt335.2.2 0 (wrap64 (qX - 1))).bind fun bt338 => ((cR_within.f qa bt338.2.1 bt338.2.2 0 (wrap64 (qX - 1))).bind fun bt341 => (if bt335.1 = 3 then (cR_program.j1 k x23 x24 true qa bt341.2.1 bt341.2.2 qf qX qZ bt335.1 bt338.1 bt341.1 0 0) else (cR_program.j1 k x23 x24 (bt335.1 == 4) qa bt341.2.1 bt341.2.2 qf qX qZ bt335.1 bt338.1 bt341.1 0 0))))) else (cR_program.j2 k qa qt qu qf qX qZ)
def cR_program.j1 : Nat → Int → Int → Bool → List Int → Int → Bool → Int → Int → List (S63) → Int → Int → Int → Int → Int → Option (Int × Int × (List (S63)) × List Int × Int × Bool)
 | 0, _, _, _, _, _, _, _, _, _, _, _, _, _, _ => none
 | k + 1, x23, x24, x46, qa, qt, qu, qf, qX, qZ, q8, jQ, jR, ju, yC => if x46 = true then ((cR_within.f qa qt qu 0 (wrap64 (qX - 1))).bind fun bt345 => ((cR_constant.f qa bt345.2.1 bt345.2.2 q8).bind fun bt348 => (if bt348.2.2 = true then (cR_program.j2 k qa bt348.2.1 bt348.2.2 qf qX qZ) else (if qZ.length < 3518437208883 then (cR_program.l0 k x23 (wrap64 (x24 + 1)) qa bt348.2.1 bt348.2.2 qf qX (qZ ++ [(⟨q8, jQ, jR, bt345.1, bt348.1⟩ : S63)])) else (none))))) else ((cR_within.f qa qt qu 0 0).bind fun bt354 => ((cR_constant.f qa bt354.2.1 bt354.2.2 q8).bind fun bt357 => (if bt357.2.2 = true then (cR_program.j2 k qa bt357.2.1 bt357.2.2 qf qX qZ) else (if qZ.length < 3518437208883 then (cR_program.l0 k x23 (wrap64 (x24 + 1)) qa bt357.2.1 bt357.2.2 qf qX (qZ ++ [(⟨q8, jQ, jR, ju, bt357.1⟩ : S63)])) else (none)))))
end
def cR_program.f (k : Nat) (s0_0 : List Int) (s0_1 : Int) (s0_2 : Bool) : Option (Int × Int × (List (S63)) × List Int × Int × Bool) := (cR_within.f s0_0 s0_1 s0_2 1 128).bind fun bt322 => ((cR_within.f s0_0 bt322.2.1 bt322.2.2 bt322.1 128).bind fun bt326 => ((cR_program_1.f s0_0 bt326.2.1 bt326.2.2).bind fun bt329 => ((cR_program_2.f s0_0 bt329.2.1 bt329.2.2 bt329.1).bind fun bt332 => (cR_program.l0 k (Go.bits .or .i64 (wrap64 (bt329.1 * 256)) bt332.1) 0 s0_0 bt332.2.1 bt332.2.2 bt322.1 bt326.1 ([] : List (S63))))))
theorem cR_program.mono_l : ∀ k, (∀ y0 y1 y2 y3 y4 y5, LeO (cR_program.j2 k y0 y1 y2 y3 y4 y5) (cR_program.j2 (k + 1) y0 y1 y2 y3 y4 y5)) ∧ (∀ y0 y1 y2 y3 y4 y5 y6 y7 y8, LeO (cR_program.l1 k y0 y1 y2 y3 y4 y5 y6 y7 y8) (cR_program.l1 (k + 1) y0 y1 y2 y3 y4 y5 y6 y7 y8)) ∧ (∀ y0 y1 y2 y3 y4 y5 y6 y7, LeO (cR_program.l0 k y0 y1 y2 y3 y4 y5 y6 y7) (cR_program.l0 (k + 1) y0 y1 y2 y3 y4 y5 y6 y7)) ∧ (∀ y0 y1 y2 y3 y4 y5 y6 y7 y8 y9 y10 y11 y12 y13, LeO (cR_program.j1 k y0 y1 y2 y3 y4 y5 y6 y7 y8 y9 y10 y11 y12 y13) (cR_program.j1 (k + 1) y0 y1 y2 y3 y4 y5 y6 y7 y8 y9 y10 y11 y12 y13))
 | 0 => ⟨fun _ _ _ _ _ _ r h => by simp [cR_program.j2] at h, fun _ _ _ _ _ _ _ _ _ r h => by simp [cR_program.l1] at h, fun _ _ _ _ _ _ _ _ r h => by simp [cR_program.l0] at h, fun _ _ _ _ _ _ _ _ _ _ _ _ _ _ r h => by simp [cR_program.j1] at h⟩
 | k + 1 => by
  obtain ⟨ih0, ih1, ih2, ih3⟩ := cR_program.mono_l k
  refine ⟨?_, ?_, ?_, ?_⟩
  ·intro y0 y1 y2 y3 y4 y5
   unfold cR_program.j2
   exact zM
  ·intro y0 y1 y2 y3 y4 y5 y6 y7 y8
   unfold cR_program.l1
   exact zM
  ·intro y0 y1 y2 y3 y4 y5 y6 y7
   unfold cR_program.l0
   exact zM
  ·intro y0 y1 y2 y3 y4 y5 y6 y7 y8 y9 y10 y11 y12 y13
   unfold cR_program.j1
   exact zM
theorem cR_program.mono : ∀ a0 a1 a2 k, LeO (cR_program.f k a0 a1 a2) (cR_program.f (k + 1) a0 a1 a2) := by
 intro a0 a1 a2 k
 obtain ⟨ih0, ih1, ih2, ih3⟩ := cR_program.mono_l k
 unfold cR_program.f
 exact zM
def cR_program.T7 : Bool × List (List Nat × List Nat) := (true, [([], []), ([0], [0]), ([], []), ([], []), ([3], [3]), ([4], [4]), ([2, 5, 1], [2, 5]), ([], []), ([], []), ([8], [8]), ([9], [9]), ([7, 10, 6], [7, 10]), ([1, 6, 11], [1, 6, 11]), ([], []), ([13, 12, 11, 0, 1, 2, 3, 4, 5, 6, 7, 8, 9, 10, 11, 12, 13], [12, 13])])
def cR_program.B7 : List Nat := [0, 1, 0, 0, 8, 24, 63, 0, 0, 256, 768, 2047, 4095, 0, 16383]
theorem cR_program.tab7 : rtab .any (opsOf Try.f35 7) = cR_program.T7 := by kernel_rfl
theorem cR_program.bits7 : waitsOk cR_program.T7.2 cR_program.B7 = true := by kernel_rfl
def cR_program.T17 : Bool × List (List Nat × List Nat) := (true, [([], []), ([0], [0]), ([], []), ([], []), ([3], [3]), ([4], [4]), ([2, 5], [2, 5]), ([6], [6]), ([1, 7, 6], [1, 7]), ([0, 1, 2, 3, 4, 5, 6, 7, 8], []), ([9, 8, 8, 0, 1, 2, 3, 4, 5, 6, 7, 8], [8, 9])])
def cR_program.B17 : List Nat := [0, 1, 0, 0, 8, 24, 60, 124, 255, 511, 1023]
theorem cR_program.tab17 : rtab .any (opsOf Try.f35 17) = cR_program.T17 := by kernel_rfl
theorem cR_program.bits17 : waitsOk cR_program.T17.2 cR_program.B17 = true := by kernel_rfl
theorem cR_program.calls (k : Nat) (g : Nat) (s0_0 : List Int) (s0_1 : Int) (s0_2 : Bool) (r1 : Int) (r2 : Int) (r3 : List (S63)) (r4 : List Int) (r5 : Int) (r6 : Bool) (w0 w : World) (hI : I7 w0 w g s0_0 s0_1 s0_2) (hB : Below w0.heap.size w0 w) (h : cR_program.f k s0_0 s0_1 s0_2 = some (r1, r2, r3, r4, r5, r6)) :
  Calls Try.prog 35 #[.pointer (some ⟨g, 0, none⟩)] w fun e w' => ∃ v2_ v3_ : Value, e = .returned (.agg #[.int .i64 r1, .int .i64 r2, v2_, v3_]) ∧ Kd.R k63 63 w' w.heap.size (fun _ => True) v2_ r3 ∧ Kd.R (Kd.int .i64) 3 w' w.heap.size (fun _ => True) v3_ r4 ∧ I7 w0 w' g s0_0 r5 r6 ∧ Below w0.heap.size w0 w' ∧ KeepBut w w' g none := by
 have hu26 := Try.underlying26
 have hu63 := Try.underlying63
 have HI0 := aM hI
 have HK := aM (KeepBut.refl w g none)
 have HL := aM hB.size
 clear hI
 have HW0 := aM hB.size
 have HB := aM hB
 clear hB
 have H : ((cR_within.f s0_0 s0_1 s0_2 1 128).bind fun bt322 => ((cR_within.f s0_0 bt322.2.1 bt322.2.2 bt322.1 128).bind fun bt326 => ((cR_program_1.f s0_0 bt326.2.1 bt326.2.2).bind fun bt329 => ((cR_program_2.f s0_0 bt329.2.1 bt329.2.2 bt329.1).bind fun bt332 => (cR_program.l0 k (Go.bits .or .i64 (wrap64 (bt329.1 * 256)) bt332.1) 0 s0_0 bt332.2.1 bt332.2.2 bt322.1 bt326.1 ([] : List (S63))))))) = some (r1, r2, r3, r4, r5, r6) := h
 clear h
 replace H := zbs H
 obtain ⟨⟨qJ, qq, qr⟩, A20, H⟩ := H
 replace H : ((cR_within.f s0_0 qq qr qJ 128).bind fun bt326 => ((cR_program_1.f s0_0 bt326.2.1 bt326.2.2).bind fun bt329 => ((cR_program_2.f s0_0 bt329.2.1 bt329.2.2 bt329.1).bind fun bt332 => (cR_program.l0 k (Go.bits .or .i64 (wrap64 (bt329.1 * 256)) bt332.1) 0 s0_0 bt332.2.1 bt332.2.2 qJ bt326.1 ([] : List (S63)))))) = some (r1, r2, r3, r4, r5, r6) := H
 have A2 := aM A20
 clear A20
 replace H := zbs H
 obtain ⟨⟨qK, q9, jA⟩, A30, H⟩ := H
 replace H : ((cR_program_1.f s0_0 q9 jA).bind fun bt329 => ((cR_program_2.f s0_0 bt329.2.1 bt329.2.2 bt329.1).bind fun bt332 => (cR_program.l0 k (Go.bits .or .i64 (wrap64 (bt329.1 * 256)) bt332.1) 0 s0_0 bt332.2.1 bt332.2.2 qJ qK ([] : List (S63))))) = some (r1, r2, r3, r4, r5, r6) := H
 have A3 := aM A30
 clear A30
 replace H := zbs H
 obtain ⟨⟨qW, jB, jC⟩, A40, H⟩ := H
 replace H : ((cR_program_2.f s0_0 jB jC qW).bind fun bt332 => (cR_program.l0 k (Go.bits .or .i64 (wrap64 (qW * 256)) bt332.1) 0 s0_0 bt332.2.1 bt332.2.2 qJ qK ([] : List (S63)))) = some (r1, r2, r3, r4, r5, r6) := H
 have A4 := aM A40
 clear A40
 replace H := zbs H
 obtain ⟨⟨qg, jL, jM⟩, A50, H⟩ := H
 replace H : (cR_program.l0 k (Go.bits .or .i64 (wrap64 (qW * 256)) qg) 0 s0_0 jL jM qJ qK ([] : List (S63))) = some (r1, r2, r3, r4, r5, r6) := H
 have A5 := aM A50
 clear A50
 have HC6 := aM H
 clear H
 go_enter Try.func35, Try.ntmps35
 try go_step3
 go_upto_block 0 with (first | ((with_reducible refine gate_dst (N := 2) rfl ?_); refine z16_ rfl (N := 2) rfl (cs := #[.int .i64 0, .int .i64 0, .slice none 0 0, .slice none 0 0]) (t := 26) zG ?_; intro qF hg w7 hbox hb; replace HB := aM (z6_ (zB HB) hb); have qC := aM (hbox); have jh := aM ((by rw [hg]; exact (keep_size (w := w) (g := g) (row := none) (kS HK)) : w.heap.size ≤ qF)); have ji := aM ((Nat.le_trans HW0.out (by rw [hg]; exact (keep_size (w := w) (g := g) (row := none) (kS HK)) : w.heap.size ≤ qF) : w0.heap.size ≤ qF)); replace HK := aM (KeepBut.trans (kS HK) (KeepBut.of_below hb g none) (.inl rfl)); have jJ := aM ((by rw [hg]; exact Nat.ne_of_lt (I7.lt (show I7 w0 _ g s0_0 s0_1 s0_2 from zS HI0)) : g ≠ qF)); have qN := aM ((by rw [hg]; exact Nat.ne_of_gt (I7.lt (show I7 w0 _ g s0_0 s0_1 s0_2 from zS HI0)) : qF ≠ g)); replace HI0 := aM (I7.below (zS HI0) hb); clear hb hbox hg) | ((with_reducible refine gate_callee (f := 33) rfl ?_); refine z13_ (some 8) rfl rfl Try.func33 zk rfl #[.pointer (some ⟨g, 0, none⟩), .int .i64 1, .int .i64 128] rfl zA ?_; (with_reducible refine (cR_within.calls g s0_0 s0_1 s0_2 1 128 qJ qq qr w0 _ ?side1 ?side2 A2.out).mono ?_); (case side1 => exact zS HI0); (case side2 => exact (zB HB)); rintro e w8 ⟨rfl, hi, hb, hk⟩; refine ⟨_, rfl, ?_⟩; replace qC := aM (KeepBut.blk hk (g' := qF) (lK qC) qN.out (by simp)); replace HK := aM (KeepBut.trans (zK HK) hk (.inl rfl)); replace HB := aM (hb); replace HI0 := aM (hi); (try clear hb); (try clear hk); (try clear hi)) | ((with_reducible refine gate_dst (N := 3) rfl ?_); refine z16_ rfl (N := 3) rfl (cs := #[.int .i64 0, .int .i64 0, .slice none 0 0, .slice none 0 0]) (t := 26) zG ?_; intro qE hg w9 hbox hb; replace HB := aM (z6_ (zB HB) hb); have qA := aM (hbox); have jj := aM ((by rw [hg]; exact (keep_size (w := w) (g := g) (row := none) (zK HK)) : w.heap.size ≤ qE)); have jk := aM ((Nat.le_trans HW0.out (by rw [hg]; exact (keep_size (w := w) (g := g) (row := none) (zK HK)) : w.heap.size ≤ qE) : w0.heap.size ≤ qE)); replace HK := aM (KeepBut.trans (zK HK) (KeepBut.of_below hb g none) (.inl rfl)); have qc := aM ((by rw [hg]; exact Nat.ne_of_lt (z19_ (g := qF) (lK qC)) : qF ≠ qE)); have qd := aM ((by rw [hg]; exact Nat.ne_of_gt (z19_ (g := qF) (lK qC)) : qE ≠ qF)); replace qC := aM (z5_ (g := qF) (lK qC) hb); have qm := aM ((by rw [hg]; exact Nat.ne_of_lt (I7.lt (show I7 w0 _ g s0_0 qq qr from zS HI0)) : g ≠ qE)); have qM := aM ((by rw [hg]; exact Nat.ne_of_gt (I7.lt (show I7 w0 _ g s0_0 qq qr from zS HI0)) : qE ≠ g)); replace HI0 := aM (I7.below (zS HI0) hb); clear hb hbox hg; have jl := qd.out; have jm := qc.out; have jn := qM.out; have jo := qm.out; obtain ⟨jS, jT, jU, jV⟩ := zc4 qA.out; have jW := fun i_ : Nat => z1_ qA.out i_) | ((with_reducible refine gate_callee (f := 33) rfl ?_); refine z13_ (some 13) rfl rfl Try.func33 zk rfl #[.pointer (some ⟨g, 0, none⟩), .int .i64 qJ, .int .i64 128] rfl zA ?_; (with_reducible refine (cR_within.calls g s0_0 qq qr qJ 128 qK q9 jA w0 _ ?side1 ?side2 A3.out).mono ?_); (case side1 => exact zS HI0); (case side2 => exact (zB HB)); rintro e w13 ⟨rfl, hi, hb, hk⟩; refine ⟨_, rfl, ?_⟩; replace qC := aM (KeepBut.blk hk (g' := qF) (zb qC) qN.out (by simp)); replace qA := aM (KeepBut.blk hk (g' := qE) (o := .cells #[.int .i64 qJ, .int .i64 0, .slice none 0 0, .slice none 0 0] 26 (0, 0)) (by refine lZ ?_; refine blk_put (cs := #[.int .i64 qJ, .int .i64 0, .slice none 0 0, .slice none 0 0]) ?_ 3 _ rfl; refine lZ ?_; refine blk_put (cs := #[.int .i64 qJ, .int .i64 0, .slice none 0 0, .slice none 0 0]) ?_ 2 _ rfl; refine lZ ?_; refine blk_put (cs := #[.int .i64 qJ, .int .i64 0, .slice none 0 0, .slice none 0 0]) ?_ 1 _ rfl; refine lZ ?_; refine blk_put (cs := #[.int .i64 0, .int .i64 0, .slice none 0 0, .slice none 0 0]) ?_ 0 _ rfl; refine lZ ?_; exact qA.out) qM.out (by simp)); replace HK := aM (KeepBut.trans (zK HK) hk (.inl rfl)); replace HB := aM (hb); replace HI0 := aM (hi); (try clear hb); (try clear hk); (try clear hi); obtain ⟨jX, jY, jZ, ja⟩ := zc4 qA.out; have jb := fun i_ : Nat => z1_ qA.out i_) | ((with_reducible refine gate_callee (f := 51) rfl ?_); refine z13_ (some 16) rfl rfl Try.func51 zk rfl #[.pointer (some ⟨g, 0, none⟩), .func (.func 54) #[] #[]] rfl zA ?_; (with_reducible refine (cR_program_1.calls g s0_0 q9 jA qW jB jC w0 _ ?side1 ?side2 A4.out).mono ?_); (case side1 => exact zS HI0); (case side2 => exact (zB HB)); rintro e w15 ⟨rfl, hi, hb, hk⟩; refine ⟨_, rfl, ?_⟩; replace qC := aM (KeepBut.blk hk (g' := qF) (zb qC) qN.out (by simp)); replace qA := aM (KeepBut.blk hk (g' := qE) (o := .cells #[.int .i64 qJ, .int .i64 qK, .slice none 0 0, .slice none 0 0] 26 (0, 0)) (by refine lZ ?_; refine blk_put (cs := #[.int .i64 qJ, .int .i64 0, .slice none 0 0, .slice none 0 0]) ?_ 1 _ rfl; refine lZ ?_; exact qA.out) qM.out (by simp)); replace HK := aM (KeepBut.trans (zK HK) hk (.inl rfl)); replace HB := aM (hb); replace HI0 := aM (hi); (try clear hb); (try clear hk); (try clear hi)) | ((with_reducible refine gate_callee (f := 51) rfl ?_); refine z13_ (some 19) rfl rfl Try.func51 zk rfl #[.pointer (some ⟨g, 0, none⟩), .func (.func 55) #[] #[.pointer (some ⟨w15.heap.size, 0, none⟩)]] rfl zA ?_; (with_reducible refine (cR_program_2.calls g s0_0 jB jC qW qg jL jM w0 _ ?side1 ?side2 A5.out w15.heap.size (by go_simp) (by simp)).mono ?_); (case side1 => exact zS HI0); (case side2 => exact (zB HB)); rintro e w16 ⟨rfl, hi, hb, hk⟩; refine ⟨_, rfl, ?_⟩; have hcH := keep_cellc (b := w15.heap.size) (v := .int .i64 qW) hk rfl (by go_simp) (by simp) (Nat.ne_of_gt (I7.lt HI0.out)); replace qC := aM (KeepBut.blk hk (g' := qF) (lK qC) qN.out (by simp)); replace qA := aM (KeepBut.blk hk (g' := qE) (lK qA) qM.out (by simp)); replace HK := aM (KeepBut.trans (zK HK) hk (.inl rfl)); replace HB := aM (hb); replace HI0 := aM (hi); (try clear hb); (try clear hk); (try clear hi)))
 go_step3
 go_upto_block 0 with (first | ((with_reducible refine gate_dst (N := 2) rfl ?_); refine z16_ rfl (N := 2) rfl (cs := #[.int .i64 0, .int .i64 0, .slice none 0 0, .slice none 0 0]) (t := 26) zG ?_; intro qF hg w7 hbox hb; replace HB := aM (z6_ (zB HB) hb); have qC := aM (hbox); have jh := aM ((by rw [hg]; exact (keep_size (w := w) (g := g) (row := none) (kS HK)) : w.heap.size ≤ qF)); have ji := aM ((Nat.le_trans HW0.out (by rw [hg]; exact (keep_size (w := w) (g := g) (row := none) (kS HK)) : w.heap.size ≤ qF) : w0.heap.size ≤ qF)); replace HK := aM (KeepBut.trans (kS HK) (KeepBut.of_below hb g none) (.inl rfl)); have jJ := aM ((by rw [hg]; exact Nat.ne_of_lt (I7.lt (show I7 w0 _ g s0_0 s0_1 s0_2 from zS HI0)) : g ≠ qF)); have qN := aM ((by rw [hg]; exact Nat.ne_of_gt (I7.lt (show I7 w0 _ g s0_0 s0_1 s0_2 from zS HI0)) : qF ≠ g)); replace HI0 := aM (I7.below (zS HI0) hb); clear hb hbox hg) | ((with_reducible refine gate_callee (f := 33) rfl ?_); refine z13_ (some 8) rfl rfl Try.func33 zk rfl #[.pointer (some ⟨g, 0, none⟩), .int .i64 1, .int .i64 128] rfl zA ?_; (with_reducible refine (cR_within.calls g s0_0 s0_1 s0_2 1 128 qJ qq qr w0 _ ?side1 ?side2 A2.out).mono ?_); (case side1 => exact zS HI0); (case side2 => exact (zB HB)); rintro e w8 ⟨rfl, hi, hb, hk⟩; refine ⟨_, rfl, ?_⟩; replace qC := aM (KeepBut.blk hk (g' := qF) (lK qC) qN.out (by simp)); replace HK := aM (KeepBut.trans (zK HK) hk (.inl rfl)); replace HB := aM (hb); replace HI0 := aM (hi); (try clear hb); (try clear hk); (try clear hi)) | ((with_reducible refine gate_dst (N := 3) rfl ?_); refine z16_ rfl (N := 3) rfl (cs := #[.int .i64 0, .int .i64 0, .slice none 0 0, .slice none 0 0]) (t := 26) zG ?_; intro qE hg w9 hbox hb; replace HB := aM (z6_ (zB HB) hb); have qA := aM (hbox); have jj := aM ((by rw [hg]; exact (keep_size (w := w) (g := g) (row := none) (zK HK)) : w.heap.size ≤ qE)); have jk := aM ((Nat.le_trans HW0.out (by rw [hg]; exact (keep_size (w := w) (g := g) (row := none) (zK HK)) : w.heap.size ≤ qE) : w0.heap.size ≤ qE)); replace HK := aM (KeepBut.trans (zK HK) (KeepBut.of_below hb g none) (.inl rfl)); have qc := aM ((by rw [hg]; exact Nat.ne_of_lt (z19_ (g := qF) (lK qC)) : qF ≠ qE)); have qd := aM ((by rw [hg]; exact Nat.ne_of_gt (z19_ (g := qF) (lK qC)) : qE ≠ qF)); replace qC := aM (z5_ (g := qF) (lK qC) hb); have qm := aM ((by rw [hg]; exact Nat.ne_of_lt (I7.lt (show I7 w0 _ g s0_0 qq qr from zS HI0)) : g ≠ qE)); have qM := aM ((by rw [hg]; exact Nat.ne_of_gt (I7.lt (show I7 w0 _ g s0_0 qq qr from zS HI0)) : qE ≠ g)); replace HI0 := aM (I7.below (zS HI0) hb); clear hb hbox hg; have jl := qd.out; have jm := qc.out; have jn := qM.out; have jo := qm.out; obtain ⟨jS, jT, jU, jV⟩ := zc4 qA.out; have jW := fun i_ : Nat => z1_ qA.out i_) | ((with_reducible refine gate_callee (f := 33) rfl ?_); refine z13_ (some 13) rfl rfl Try.func33 zk rfl #[.pointer (some ⟨g, 0, none⟩), .int .i64 qJ, .int .i64 128] rfl zA ?_; (with_reducible refine (cR_within.calls g s0_0 qq qr qJ 128 qK q9 jA w0 _ ?side1 ?side2 A3.out).mono ?_); (case side1 => exact zS HI0); (case side2 => exact (zB HB)); rintro e w13 ⟨rfl, hi, hb, hk⟩; refine ⟨_, rfl, ?_⟩; replace qC := aM (KeepBut.blk hk (g' := qF) (zb qC) qN.out (by simp)); replace qA := aM (KeepBut.blk hk (g' := qE) (o := .cells #[.int .i64 qJ, .int .i64 0, .slice none 0 0, .slice none 0 0] 26 (0, 0)) (by refine lZ ?_; refine blk_put (cs := #[.int .i64 qJ, .int .i64 0, .slice none 0 0, .slice none 0 0]) ?_ 3 _ rfl; refine lZ ?_; refine blk_put (cs := #[.int .i64 qJ, .int .i64 0, .slice none 0 0, .slice none 0 0]) ?_ 2 _ rfl; refine lZ ?_; refine blk_put (cs := #[.int .i64 qJ, .int .i64 0, .slice none 0 0, .slice none 0 0]) ?_ 1 _ rfl; refine lZ ?_; refine blk_put (cs := #[.int .i64 0, .int .i64 0, .slice none 0 0, .slice none 0 0]) ?_ 0 _ rfl; refine lZ ?_; exact qA.out) qM.out (by simp)); replace HK := aM (KeepBut.trans (zK HK) hk (.inl rfl)); replace HB := aM (hb); replace HI0 := aM (hi); (try clear hb); (try clear hk); (try clear hi); obtain ⟨jX, jY, jZ, ja⟩ := zc4 qA.out; have jb := fun i_ : Nat => z1_ qA.out i_) | ((with_reducible refine gate_callee (f := 51) rfl ?_); refine z13_ (some 16) rfl rfl Try.func51 zk rfl #[.pointer (some ⟨g, 0, none⟩), .func (.func 54) #[] #[]] rfl zA ?_; (with_reducible refine (cR_program_1.calls g s0_0 q9 jA qW jB jC w0 _ ?side1 ?side2 A4.out).mono ?_); (case side1 => exact zS HI0); (case side2 => exact (zB HB)); rintro e w15 ⟨rfl, hi, hb, hk⟩; refine ⟨_, rfl, ?_⟩; replace qC := aM (KeepBut.blk hk (g' := qF) (zb qC) qN.out (by simp)); replace qA := aM (KeepBut.blk hk (g' := qE) (o := .cells #[.int .i64 qJ, .int .i64 qK, .slice none 0 0, .slice none 0 0] 26 (0, 0)) (by refine lZ ?_; refine blk_put (cs := #[.int .i64 qJ, .int .i64 0, .slice none 0 0, .slice none 0 0]) ?_ 1 _ rfl; refine lZ ?_; exact qA.out) qM.out (by simp)); replace HK := aM (KeepBut.trans (zK HK) hk (.inl rfl)); replace HB := aM (hb); replace HI0 := aM (hi); (try clear hb); (try clear hk); (try clear hi)) | ((with_reducible refine gate_callee (f := 51) rfl ?_); refine z13_ (some 19) rfl rfl Try.func51 zk rfl #[.pointer (some ⟨g, 0, none⟩), .func (.func 55) #[] #[.pointer (some ⟨w15.heap.size, 0, none⟩)]] rfl zA ?_; (with_reducible refine (cR_program_2.calls g s0_0 jB jC qW qg jL jM w0 _ ?side1 ?side2 A5.out w15.heap.size (by go_simp) (by simp)).mono ?_); (case side1 => exact zS HI0); (case side2 => exact (zB HB)); rintro e w16 ⟨rfl, hi, hb, hk⟩; refine ⟨_, rfl, ?_⟩; have hcH := keep_cellc (b := w15.heap.size) (v := .int .i64 qW) hk rfl (by go_simp) (by simp) (Nat.ne_of_gt (I7.lt HI0.out)); replace qC := aM (KeepBut.blk hk (g' := qF) (lK qC) qN.out (by simp)); replace qA := aM (KeepBut.blk hk (g' := qE) (lK qA) qM.out (by simp)); replace HK := aM (KeepBut.trans (zK HK) hk (.inl rfl)); replace HB := aM (hb); replace HI0 := aM (hi); (try clear hb); (try clear hk); (try clear hi)))
 go_step3
 go_upto_block 0 with (first | ((with_reducible refine gate_dst (N := 2) rfl ?_); refine z16_ rfl (N := 2) rfl (cs := #[.int .i64 0, .int .i64 0, .slice none 0 0, .slice none 0 0]) (t := 26) zG ?_; intro qF hg w7 hbox hb; replace HB := aM (z6_ (zB HB) hb); have qC := aM (hbox); have jh := aM ((by rw [hg]; exact (keep_size (w := w) (g := g) (row := none) (kS HK)) : w.heap.size ≤ qF)); have ji := aM ((Nat.le_trans HW0.out (by rw [hg]; exact (keep_size (w := w) (g := g) (row := none) (kS HK)) : w.heap.size ≤ qF) : w0.heap.size ≤ qF)); replace HK := aM (KeepBut.trans (kS HK) (KeepBut.of_below hb g none) (.inl rfl)); have jJ := aM ((by rw [hg]; exact Nat.ne_of_lt (I7.lt (show I7 w0 _ g s0_0 s0_1 s0_2 from zS HI0)) : g ≠ qF)); have qN := aM ((by rw [hg]; exact Nat.ne_of_gt (I7.lt (show I7 w0 _ g s0_0 s0_1 s0_2 from zS HI0)) : qF ≠ g)); replace HI0 := aM (I7.below (zS HI0) hb); clear hb hbox hg) | ((with_reducible refine gate_callee (f := 33) rfl ?_); refine z13_ (some 8) rfl rfl Try.func33 zk rfl #[.pointer (some ⟨g, 0, none⟩), .int .i64 1, .int .i64 128] rfl zA ?_; (with_reducible refine (cR_within.calls g s0_0 s0_1 s0_2 1 128 qJ qq qr w0 _ ?side1 ?side2 A2.out).mono ?_); (case side1 => exact zS HI0); (case side2 => exact (zB HB)); rintro e w8 ⟨rfl, hi, hb, hk⟩; refine ⟨_, rfl, ?_⟩; replace qC := aM (KeepBut.blk hk (g' := qF) (lK qC) qN.out (by simp)); replace HK := aM (KeepBut.trans (zK HK) hk (.inl rfl)); replace HB := aM (hb); replace HI0 := aM (hi); (try clear hb); (try clear hk); (try clear hi)) | ((with_reducible refine gate_dst (N := 3) rfl ?_); refine z16_ rfl (N := 3) rfl (cs := #[.int .i64 0, .int .i64 0, .slice none 0 0, .slice none 0 0]) (t := 26) zG ?_; intro qE hg w9 hbox hb; replace HB := aM (z6_ (zB HB) hb); have qA := aM (hbox); have jj := aM ((by rw [hg]; exact (keep_size (w := w) (g := g) (row := none) (zK HK)) : w.heap.size ≤ qE)); have jk := aM ((Nat.le_trans HW0.out (by rw [hg]; exact (keep_size (w := w) (g := g) (row := none) (zK HK)) : w.heap.size ≤ qE) : w0.heap.size ≤ qE)); replace HK := aM (KeepBut.trans (zK HK) (KeepBut.of_below hb g none) (.inl rfl)); have qc := aM ((by rw [hg]; exact Nat.ne_of_lt (z19_ (g := qF) (lK qC)) : qF ≠ qE)); have qd := aM ((by rw [hg]; exact Nat.ne_of_gt (z19_ (g := qF) (lK qC)) : qE ≠ qF)); replace qC := aM (z5_ (g := qF) (lK qC) hb); have qm := aM ((by rw [hg]; exact Nat.ne_of_lt (I7.lt (show I7 w0 _ g s0_0 qq qr from zS HI0)) : g ≠ qE)); have qM := aM ((by rw [hg]; exact Nat.ne_of_gt (I7.lt (show I7 w0 _ g s0_0 qq qr from zS HI0)) : qE ≠ g)); replace HI0 := aM (I7.below (zS HI0) hb); clear hb hbox hg; have jl := qd.out; have jm := qc.out; have jn := qM.out; have jo := qm.out; obtain ⟨jS, jT, jU, jV⟩ := zc4 qA.out; have jW := fun i_ : Nat => z1_ qA.out i_) | ((with_reducible refine gate_callee (f := 33) rfl ?_); refine z13_ (some 13) rfl rfl Try.func33 zk rfl #[.pointer (some ⟨g, 0, none⟩), .int .i64 qJ, .int .i64 128] rfl zA ?_; (with_reducible refine (cR_within.calls g s0_0 qq qr qJ 128 qK q9 jA w0 _ ?side1 ?side2 A3.out).mono ?_); (case side1 => exact zS HI0); (case side2 => exact (zB HB)); rintro e w13 ⟨rfl, hi, hb, hk⟩; refine ⟨_, rfl, ?_⟩; replace qC := aM (KeepBut.blk hk (g' := qF) (zb qC) qN.out (by simp)); replace qA := aM (KeepBut.blk hk (g' := qE) (o := .cells #[.int .i64 qJ, .int .i64 0, .slice none 0 0, .slice none 0 0] 26 (0, 0)) (by refine lZ ?_; refine blk_put (cs := #[.int .i64 qJ, .int .i64 0, .slice none 0 0, .slice none 0 0]) ?_ 3 _ rfl; refine lZ ?_; refine blk_put (cs := #[.int .i64 qJ, .int .i64 0, .slice none 0 0, .slice none 0 0]) ?_ 2 _ rfl; refine lZ ?_; refine blk_put (cs := #[.int .i64 qJ, .int .i64 0, .slice none 0 0, .slice none 0 0]) ?_ 1 _ rfl; refine lZ ?_; refine blk_put (cs := #[.int .i64 0, .int .i64 0, .slice none 0 0, .slice none 0 0]) ?_ 0 _ rfl; refine lZ ?_; exact qA.out) qM.out (by simp)); replace HK := aM (KeepBut.trans (zK HK) hk (.inl rfl)); replace HB := aM (hb); replace HI0 := aM (hi); (try clear hb); (try clear hk); (try clear hi); obtain ⟨jX, jY, jZ, ja⟩ := zc4 qA.out; have jb := fun i_ : Nat => z1_ qA.out i_) | ((with_reducible refine gate_callee (f := 51) rfl ?_); refine z13_ (some 16) rfl rfl Try.func51 zk rfl #[.pointer (some ⟨g, 0, none⟩), .func (.func 54) #[] #[]] rfl zA ?_; (with_reducible refine (cR_program_1.calls g s0_0 q9 jA qW jB jC w0 _ ?side1 ?side2 A4.out).mono ?_); (case side1 => exact zS HI0); (case side2 => exact (zB HB)); rintro e w15 ⟨rfl, hi, hb, hk⟩; refine ⟨_, rfl, ?_⟩; replace qC := aM (KeepBut.blk hk (g' := qF) (zb qC) qN.out (by simp)); replace qA := aM (KeepBut.blk hk (g' := qE) (o := .cells #[.int .i64 qJ, .int .i64 qK, .slice none 0 0, .slice none 0 0] 26 (0, 0)) (by refine lZ ?_; refine blk_put (cs := #[.int .i64 qJ, .int .i64 0, .slice none 0 0, .slice none 0 0]) ?_ 1 _ rfl; refine lZ ?_; exact qA.out) qM.out (by simp)); replace HK := aM (KeepBut.trans (zK HK) hk (.inl rfl)); replace HB := aM (hb); replace HI0 := aM (hi); (try clear hb); (try clear hk); (try clear hi)) | ((with_reducible refine gate_callee (f := 51) rfl ?_); refine z13_ (some 19) rfl rfl Try.func51 zk rfl #[.pointer (some ⟨g, 0, none⟩), .func (.func 55) #[] #[.pointer (some ⟨w15.heap.size, 0, none⟩)]] rfl zA ?_; (with_reducible refine (cR_program_2.calls g s0_0 jB jC qW qg jL jM w0 _ ?side1 ?side2 A5.out w15.heap.size (by go_simp) (by simp)).mono ?_); (case side1 => exact zS HI0); (case side2 => exact (zB HB)); rintro e w16 ⟨rfl, hi, hb, hk⟩; refine ⟨_, rfl, ?_⟩; have hcH := keep_cellc (b := w15.heap.size) (v := .int .i64 qW) hk rfl (by go_simp) (by simp) (Nat.ne_of_gt (I7.lt HI0.out)); replace qC := aM (KeepBut.blk hk (g' := qF) (lK qC) qN.out (by simp)); replace qA := aM (KeepBut.blk hk (g' := qE) (lK qA) qM.out (by simp)); replace HK := aM (KeepBut.trans (zK HK) hk (.inl rfl)); replace HB := aM (hb); replace HI0 := aM (hi); (try clear hb); (try clear hk); (try clear hi)))
 (try simp only [Act.put, List.setIfInBounds_toArray, List.set_cons_zero, List.set_cons_succ])
 go_cut [] (fun wc => ∃ (kq : Nat) (q5 : Int) (q6 : Bool) (qe : List (S63)) (qP : Value), Aside0 (cR_program.j2 kq s0_0 q5 q6 qJ qK qe = some (r1, r2, r3, r4, r5, r6)) ∧ Aside0 (kq ≤ k) ∧ Aside0 (Kd.R k63 63 wc w.heap.size (fun _ => True) qP qe) ∧ Aside0 (wc.heap[qF]? = some (.cells #[.int .i64 0, .int .i64 0, (.slice none 0 0), (.slice none 0 0)] 26 (0, 0))) ∧ Aside0 (wc.heap[qE]? = some (.cells #[.int .i64 qJ, .int .i64 qK, qP, (.slice none 0 0)] 26 (0, 0))) ∧ Aside0 (I7 w0 wc g s0_0 q5 q6) ∧ Aside0 (KeepBut w wc g none) ∧ Aside0 (Below w0.heap.size w0 wc))
 case first =>
  have H := HC6.out
  clear HC6
  have H' := aM H
  clear H
  go_wp2
  repeat (go_step3; go_wp2)
  go_loopg [24] k (fun kq v24 w' => ∃ (qY : Int) (qk : Int) (ql : Bool) (qG : List (S63)) (qP : Value), v24 = .int .i64 qY ∧ Aside0 (cR_program.l0 kq (Go.bits .or .i64 (wrap64 (qW * 256)) qg) qY s0_0 qk ql qJ qK qG = some (r1, r2, r3, r4, r5, r6)) ∧ Aside0 (kq ≤ k) ∧ Aside0 (Kd.R k63 63 w' w.heap.size (fun _ => True) qP qG) ∧ Aside0 (w'.heap[qF]? = some (.cells #[.int .i64 0, .int .i64 0, (.slice none 0 0), (.slice none 0 0)] 26 (0, 0))) ∧ Aside0 (w'.heap[qE]? = some (.cells #[.int .i64 qJ, .int .i64 qK, qP, (.slice none 0 0)] 26 (0, 0))) ∧ Aside0 (I7 w0 w' g s0_0 qk ql) ∧ Aside0 (KeepBut w w' g none) ∧ Aside0 (Below w0.heap.size w0 w'))
  case atStart => exact ⟨(0), (jL), (jM), (([] : List (S63))), (.slice none 0 0), zT, H', ⟨Nat.le_refl _⟩, ⟨zn⟩, ⟨zb qC⟩, ⟨zb qA⟩, ⟨zS HI0⟩, ⟨zK HK⟩, ⟨zB HB⟩⟩
  case round =>
   clear H'
   obtain ⟨qY, qk, ql, qG, qP, rfl, HA, HK1, qB, qC, qA, HI0, HK, HB⟩ := hrel
   cases gk with
   | zero => exact absurd HA.out (by simp [cR_program.l0])
   | succ k1 =>
    have H := HA.out
    clear HA
    simp only [cR_program.l0] at H
    by_cases c17 : qY < (Go.bits .or .i64 (wrap64 (qW * 256)) qg)
    ·rw [if_pos c17] at H
     have c17b0 := decide_eq_true c17
     clear c17
     (first | rw [c17b0] | (simp only [i64_w, i32_w]; rw [c17b0]) | skip)
     replace H := zbs H
     obtain ⟨⟨qL, qx, qy⟩, A180, H⟩ := H
     replace H : ((cR_within.f s0_0 qx qy 0 (wrap64 (qK - 1))).bind fun bt338 => ((cR_within.f s0_0 bt338.2.1 bt338.2.2 0 (wrap64 (qK - 1))).bind fun bt341 => (if qL = 3 then (cR_program.j1 k1 (Go.bits .or .i64 (wrap64 (qW * 256)) qg) qY true s0_0 bt341.2.1 bt341.2.2 qJ qK qG qL bt338.1 bt341.1 0 0) else (cR_program.j1 k1 (Go.bits .or .i64 (wrap64 (qW * 256)) qg) qY (qL == 4) s0_0 bt341.2.1 bt341.2.2 qJ qK qG qL bt338.1 bt341.1 0 0)))) = some (r1, r2, r3, r4, r5, r6) := H
     have A18 := aM A180
     clear A180
     replace H := zbs H
     obtain ⟨⟨qQ, qo, qp⟩, A190, H⟩ := H
     replace H : ((cR_within.f s0_0 qo qp 0 (wrap64 (qK - 1))).bind fun bt341 => (if qL = 3 then (cR_program.j1 k1 (Go.bits .or .i64 (wrap64 (qW * 256)) qg) qY true s0_0 bt341.2.1 bt341.2.2 qJ qK qG qL qQ bt341.1 0 0) else (cR_program.j1 k1 (Go.bits .or .i64 (wrap64 (qW * 256)) qg) qY (qL == 4) s0_0 bt341.2.1 bt341.2.2 qJ qK qG qL qQ bt341.1 0 0))) = some (r1, r2, r3, r4, r5, r6) := H
     have A19 := aM A190
     clear A190
     replace H := zbs H
     obtain ⟨⟨qU, qh, qi⟩, A200, H⟩ := H
     replace H : (if qL = 3 then (cR_program.j1 k1 (Go.bits .or .i64 (wrap64 (qW * 256)) qg) qY true s0_0 qh qi qJ qK qG qL qQ qU 0 0) else (cR_program.j1 k1 (Go.bits .or .i64 (wrap64 (qW * 256)) qg) qY (qL == 4) s0_0 qh qi qJ qK qG qL qQ qU 0 0)) = some (r1, r2, r3, r4, r5, r6) := H
     have A20 := aM A200
     clear A200
     have je := aM H
     clear H
     try go_wp2
     replace qB := aM (Kd.R_drew qB.out)
     replace qC := aM (blk_drew qC.out)
     replace qA := aM (blk_drew qA.out)
     replace HI0 := aM (I7.drew HI0.out)
     replace HK := aM (keep_drew HK.out)
     replace HB := aM (below_drew1 HB.out)
     refine start_ (n := 15) (S := fun w' => w'.cell? ⟨qE, 0, none⟩ = some (.int .i64 qJ) ∧ w'.cell? ⟨qE, 1, none⟩ = some (.int .i64 qK) ∧ w'.cell? ⟨qE, 2, none⟩ = some (qP) ∧ w'.cell? ⟨qE, 3, none⟩ = some (.slice none 0 0)) (ds := []) (bs 15 0) zk rfl rfl ⟨(z2_ qA.out 0).trans rfl, (z2_ qA.out 1).trans rfl, (z2_ qA.out 2).trans rfl, (z2_ qA.out 3).trans rfl⟩ (fun hHeld => ?_); refine with_tabW cR_program.tab7 cR_program.bits7 (fun HT_ HW_ => ?_)
     generalize wr.drew = w22 at qB qC qA HI0 HK HB hHeld ⊢
     refine pQ 0 26 15 1 ?_
     refine pQ 2 28 15 5 ?_
     refine pQ 3 29 15 13 ?_
     refine pQ 7 33 15 141 ?_
     refine pQ 8 34 15 397 ?_
     refine take_ (i := 4) (N := some 30) (v := ?_) (a' := ?_) (bs 15 413) rfl rfl (take_ofW HT_.out HW_.out zk) (fun _ _ _ h => h) (Or.inl ⟨by rfl, ?_⟩) hHeld ?_ ?_
     rotate_left
     ·rintro w' ⟨s0, s1, s2, s3⟩
      go_simp
      with_reducible rfl
     rotate_left
     ·simp only [Act.put, List.setIfInBounds_toArray, List.set_cons_zero, List.set_cons_succ, i64_w, i32_w]
      rfl
     refine pQ 5 31 15 445 ?_
     refine take_ (i := 9) (N := some 35) (v := ?_) (a' := ?_) (bs 15 957) rfl rfl (take_ofW HT_.out HW_.out zk) (fun _ _ _ h => h) (Or.inl ⟨by rfl, ?_⟩) hHeld ?_ ?_
     rotate_left
     ·rintro w' ⟨s0, s1, s2, s3⟩
      go_simp
      with_reducible rfl
     rotate_left
     ·simp only [Act.put, List.setIfInBounds_toArray, List.set_cons_zero, List.set_cons_succ, i64_w, i32_w]
      rfl
     refine pQ 10 36 15 1981 ?_
     refine join_ (σ := Nat) 1 (bs 15 16383) (fun s_ => [(27, .int .i64 qL), (32, .int .i64 qQ), (37, .int .i64 qU), (6, .pointer (some ⟨s_, 0, none⟩)), (38, .agg #[.int .i64 qL, .int .i64 qQ, .int .i64 qU, .int .i64 0, .int .i64 0])]) (fun s_ w' => (w'.cell? ⟨qE, 0, none⟩ = some (.int .i64 qJ) ∧ w'.cell? ⟨qE, 1, none⟩ = some (.int .i64 qK) ∧ w'.cell? ⟨qE, 2, none⟩ = some (qP) ∧ w'.cell? ⟨qE, 3, none⟩ = some (.slice none 0 0)) ∧ (Kd.R k63 63 w' w.heap.size (fun k_ => k_ ≠ s_) qP qG) ∧ (w'.heap[qF]? = some (.cells #[.int .i64 0, .int .i64 0, .slice none 0 0, .slice none 0 0] 26 (0, 0))) ∧ (w'.heap[qE]? = some (.cells #[.int .i64 qJ, .int .i64 qK, qP, .slice none 0 0] 26 (0, 0))) ∧ (w'.heap[s_]? = some (.cells #[.int .i64 0, .int .i64 0, .int .i64 0, .int .i64 0, .int .i64 0] 63 (0, 0))) ∧ (w.heap.size ≤ s_) ∧ (w0.heap.size ≤ s_) ∧ (g ≠ s_) ∧ (s_ ≠ g) ∧ (qF ≠ s_) ∧ (s_ ≠ qF) ∧ (qE ≠ s_) ∧ (s_ ≠ qE) ∧ (I7 w0 w' g s0_0 qh qi) ∧ (KeepBut w w' g none) ∧ (Below w0.heap.size w0 w')) ?_ ?_
     rotate_left
     ·intro hCont
      refine two_ (i := 1) (j := 13) (Ni := some 27) (Nj := some 6) (bs 15 1983) (bs 15 10173) rfl rfl rfl rfl (two_of HT_.out zk) (by decide) (by decide) (fun K hK => ?_) (fun K hK => ?_)
      ·skip
       refine goes_ Try.func33 zk rfl #[.pointer (some ⟨g, 0, none⟩), .int .i64 1, .int .i64 8] (by rfl) rfl rfl zA ?_
       with_reducible refine (cR_within.calls g s0_0 qk ql 1 8 qL qx qy w0 _ ?side1 ?side2 A18.out).mono ?_
       (case side1 => exact zS HI0)
       (case side2 => exact (zB HB))
       rintro e w23 ⟨rfl, hi, hb, hk⟩
       refine ⟨_, rfl, ?_⟩
       replace qB := aM (Kd.z0_ (Kd.z22_ (I7.apart (show I7 w0 _ g s0_0 qk ql from zS HI0) (lR qB) (by decide)) hk (fun _ h => h.2)) (fun _ h => h.1))
       replace qC := aM (KeepBut.blk hk (g' := qF) (lK qC) qN.out (by simp))
       replace qA := aM (KeepBut.blk hk (g' := qE) (lK qA) qM.out (by simp))
       replace HK := aM (KeepBut.trans (zK HK) hk (.inl rfl))
       replace HB := aM (hb)
       replace HI0 := aM (hi)
       (try clear hb)
       (try clear hb2)
       (try clear hk)
       (try clear hi)
       refine hK.out _ _ ⟨(z2_ qA.out 0).trans rfl, (z2_ qA.out 1).trans rfl, (z2_ qA.out 2).trans rfl, (z2_ qA.out 3).trans rfl⟩ (fun hHeld => ?_)
       clear hK K
       refine norm_ (a' := ?_) ?_ ?_
       rotate_left
       ·show Act.put _ (some 27) _ = _
        simp only [Act.put, List.setIfInBounds_toArray, List.set_cons_zero, List.set_cons_succ, i64_w, i32_w]
        rfl
       refine two_ (i := 6) (j := 13) (Ni := some 32) (Nj := some 6) (bs 15 2047) (bs 15 10175) rfl rfl rfl rfl (two_of HT_.out zk) (by decide) (by decide) (fun K hK => ?_) (fun K hK => ?_)
       ·skip
        refine goes_ Try.func33 zk rfl #[.pointer (some ⟨g, 0, none⟩), .int .i64 0, .int .i64 (wrap64 (qK - 1))] (by rfl) rfl rfl zA ?_
        with_reducible refine (cR_within.calls g s0_0 qx qy 0 (wrap64 (qK - 1)) qQ qo qp w0 _ ?side1 ?side2 A19.out).mono ?_
        (case side1 => exact zS HI0)
        (case side2 => exact (zB HB))
        rintro e w24 ⟨rfl, hi, hb, hk⟩
        refine ⟨_, rfl, ?_⟩
        replace qB := aM (Kd.z0_ (Kd.z22_ (I7.apart (show I7 w0 _ g s0_0 qx qy from zS HI0) (lR qB) (by decide)) hk (fun _ h => h.2)) (fun _ h => h.1))
        replace qC := aM (KeepBut.blk hk (g' := qF) (lK qC) qN.out (by simp))
        replace qA := aM (KeepBut.blk hk (g' := qE) (lK qA) qM.out (by simp))
        replace HK := aM (KeepBut.trans (zK HK) hk (.inl rfl))
        replace HB := aM (hb)
        replace HI0 := aM (hi)
        (try clear hb)
        (try clear hb2)
        (try clear hk)
        (try clear hi)
        refine hK.out _ _ ⟨(z2_ qA.out 0).trans rfl, (z2_ qA.out 1).trans rfl, (z2_ qA.out 2).trans rfl, (z2_ qA.out 3).trans rfl⟩ (fun hHeld => ?_)
        clear hK K
        refine norm_ (a' := ?_) ?_ ?_
        rotate_left
        ·show Act.put _ (some 32) _ = _
         simp only [Act.put, List.setIfInBounds_toArray, List.set_cons_zero, List.set_cons_succ, i64_w, i32_w]
         rfl
        refine two_ (i := 11) (j := 13) (Ni := some 37) (Nj := some 6) (bs 15 4095) (bs 15 10239) rfl rfl rfl rfl (two_of HT_.out zk) (by decide) (by decide) (fun K hK => ?_) (fun K hK => ?_)
        ·skip
         refine goes_ Try.func33 zk rfl #[.pointer (some ⟨g, 0, none⟩), .int .i64 0, .int .i64 (wrap64 (qK - 1))] (by rfl) rfl rfl zA ?_
         with_reducible refine (cR_within.calls g s0_0 qo qp 0 (wrap64 (qK - 1)) qU qh qi w0 _ ?side1 ?side2 A20.out).mono ?_
         (case side1 => exact zS HI0)
         (case side2 => exact (zB HB))
         rintro e w25 ⟨rfl, hi, hb, hk⟩
         refine ⟨_, rfl, ?_⟩
         replace qB := aM (Kd.z0_ (Kd.z22_ (I7.apart (show I7 w0 _ g s0_0 qo qp from zS HI0) (lR qB) (by decide)) hk (fun _ h => h.2)) (fun _ h => h.1))
         replace qC := aM (KeepBut.blk hk (g' := qF) (lK qC) qN.out (by simp))
         replace qA := aM (KeepBut.blk hk (g' := qE) (lK qA) qM.out (by simp))
         replace HK := aM (KeepBut.trans (zK HK) hk (.inl rfl))
         replace HB := aM (hb)
         replace HI0 := aM (hi)
         (try clear hb)
         (try clear hb2)
         (try clear hk)
         (try clear hi)
         refine hK.out _ _ ⟨(z2_ qA.out 0).trans rfl, (z2_ qA.out 1).trans rfl, (z2_ qA.out 2).trans rfl, (z2_ qA.out 3).trans rfl⟩ (fun hHeld => ?_)
         clear hK K
         refine norm_ (a' := ?_) ?_ ?_
         rotate_left
         ·show Act.put _ (some 37) _ = _
          simp only [Act.put, List.setIfInBounds_toArray, List.set_cons_zero, List.set_cons_succ, i64_w, i32_w]
          rfl
         refine pQ 12 38 15 8191 ?_
         refine one_ (i := 13) (N := some 6) (bs 15 16383) rfl rfl (one_of HT_.out zk) (by decide) (fun K hK => ?_)
         refine box_step ?hg (N := 6) ?hd (cs := #[.int .i64 0, .int .i64 0, .int .i64 0, .int .i64 0, .int .i64 0]) (t := 63) ?hr ?_; (case hd => rfl); (case hg => rfl); (case hr => first | (go_simp; done) | (go_simp; rfl))
         intro qD hg w26 hbox hb
         replace qB := aM (Kd.z7_ (Kd.R_elderB (lR qB) qD (Nat.le_of_eq hg.symm)) hb)
         replace HB := aM (z6_ (zB HB) hb)
         have qH := aM (hbox)
         have qz := aM ((by rw [hg]; exact (keep_size (w := w) (g := g) (row := none) (zK HK)) : w.heap.size ≤ qD))
         have q0 := aM ((Nat.le_trans HW0.out (by rw [hg]; exact (keep_size (w := w) (g := g) (row := none) (zK HK)) : w.heap.size ≤ qD) : w0.heap.size ≤ qD))
         replace HK := aM (KeepBut.trans (zK HK) (KeepBut.of_below hb g none) (.inl rfl))
         have qR := aM ((by rw [hg]; exact Nat.ne_of_lt (z19_ (g := qF) (lK qC)) : qF ≠ qD))
         have qS := aM ((by rw [hg]; exact Nat.ne_of_gt (z19_ (g := qF) (lK qC)) : qD ≠ qF))
         replace qC := aM (z5_ (g := qF) (lK qC) hb)
         have qI := aM ((by rw [hg]; exact Nat.ne_of_lt (z19_ (g := qE) (lK qA)) : qE ≠ qD))
         have qT := aM ((by rw [hg]; exact Nat.ne_of_gt (z19_ (g := qE) (lK qA)) : qD ≠ qE))
         replace qA := aM (z5_ (g := qE) (lK qA) hb)
         have qb := aM ((by rw [hg]; exact Nat.ne_of_lt (I7.lt (show I7 w0 _ g s0_0 qh qi from zS HI0)) : g ≠ qD))
         have qO := aM ((by rw [hg]; exact Nat.ne_of_gt (I7.lt (show I7 w0 _ g s0_0 qh qi from zS HI0)) : qD ≠ g))
         replace HI0 := aM (I7.below (zS HI0) hb)
         clear hb hbox hg
         refine hK.out _ _ ⟨(z2_ qA.out 0).trans rfl, (z2_ qA.out 1).trans rfl, (z2_ qA.out 2).trans rfl, (z2_ qA.out 3).trans rfl⟩ (fun hHeld => ?_)
         clear hK K
         refine norm_ (a' := ?_) ?_ ?_
         rotate_left
         ·show Act.put _ (some 6) _ = _
          simp only [Act.put, List.setIfInBounds_toArray, List.set_cons_zero, List.set_cons_succ, i64_w, i32_w]
          rfl
         exact norm_ (by simp only [putAll, Act.put, List.setIfInBounds_toArray, List.set_cons_zero, List.set_cons_succ]) (hCont (qD) _ ⟨hHeld, (by apply rX; exact Kd.z0_ qB.out (fun _ hk => hk.2)), (lK qC), (lK qA), (lK qH), qz.out, q0.out, qb.out, qO.out, qR.out, qS.out, qI.out, qT.out, (zS HI0), (zK HK), (zB HB)⟩)
        ·skip
         refine box_step ?hg (N := 6) ?hd (cs := #[.int .i64 0, .int .i64 0, .int .i64 0, .int .i64 0, .int .i64 0]) (t := 63) ?hr ?_; (case hd => rfl); (case hg => rfl); (case hr => first | (go_simp; done) | (go_simp; rfl))
         intro qD hg w25 hbox hb
         replace qB := aM (Kd.z7_ (Kd.R_elderB (lR qB) qD (Nat.le_of_eq hg.symm)) hb)
         replace HB := aM (z6_ (zB HB) hb)
         have qH := aM (hbox)
         have qz := aM ((by rw [hg]; exact (keep_size (w := w) (g := g) (row := none) (zK HK)) : w.heap.size ≤ qD))
         have q0 := aM ((Nat.le_trans HW0.out (by rw [hg]; exact (keep_size (w := w) (g := g) (row := none) (zK HK)) : w.heap.size ≤ qD) : w0.heap.size ≤ qD))
         replace HK := aM (KeepBut.trans (zK HK) (KeepBut.of_below hb g none) (.inl rfl))
         have qR := aM ((by rw [hg]; exact Nat.ne_of_lt (z19_ (g := qF) (lK qC)) : qF ≠ qD))
         have qS := aM ((by rw [hg]; exact Nat.ne_of_gt (z19_ (g := qF) (lK qC)) : qD ≠ qF))
         replace qC := aM (z5_ (g := qF) (lK qC) hb)
         have qI := aM ((by rw [hg]; exact Nat.ne_of_lt (z19_ (g := qE) (lK qA)) : qE ≠ qD))
         have qT := aM ((by rw [hg]; exact Nat.ne_of_gt (z19_ (g := qE) (lK qA)) : qD ≠ qE))
         replace qA := aM (z5_ (g := qE) (lK qA) hb)
         have qb := aM ((by rw [hg]; exact Nat.ne_of_lt (I7.lt (show I7 w0 _ g s0_0 qo qp from zS HI0)) : g ≠ qD))
         have qO := aM ((by rw [hg]; exact Nat.ne_of_gt (I7.lt (show I7 w0 _ g s0_0 qo qp from zS HI0)) : qD ≠ g))
         replace HI0 := aM (I7.below (zS HI0) hb)
         clear hb hbox hg
         refine hK.out _ _ ⟨(z2_ qA.out 0).trans rfl, (z2_ qA.out 1).trans rfl, (z2_ qA.out 2).trans rfl, (z2_ qA.out 3).trans rfl⟩ (fun hHeld => ?_)
         clear hK K
         refine norm_ (a' := ?_) ?_ ?_
         rotate_left
         ·show Act.put _ (some 6) _ = _
          simp only [Act.put, List.setIfInBounds_toArray, List.set_cons_zero, List.set_cons_succ, i64_w, i32_w]
          rfl
         refine one_ (i := 11) (N := some 37) (bs 15 12287) rfl rfl (one_of HT_.out zk) (by decide) (fun K hK => ?_)
         refine goes_ Try.func33 zk rfl #[.pointer (some ⟨g, 0, none⟩), .int .i64 0, .int .i64 (wrap64 (qK - 1))] (by rfl) rfl rfl zA ?_
         with_reducible refine (cR_within.calls g s0_0 qo qp 0 (wrap64 (qK - 1)) qU qh qi w0 _ ?side1 ?side2 A20.out).mono ?_
         (case side1 => exact zS HI0)
         (case side2 => exact (zB HB))
         rintro e w26 ⟨rfl, hi, hb, hk⟩
         refine ⟨_, rfl, ?_⟩
         replace qB := aM (Kd.z0_ (Kd.z22_ (I7.apart (show I7 w0 _ g s0_0 qo qp from zS HI0) (lR qB) (by decide)) hk (fun _ h => h.2)) (fun _ h => h.1))
         replace qC := aM (KeepBut.blk hk (g' := qF) (lK qC) qN.out (by simp))
         replace qA := aM (KeepBut.blk hk (g' := qE) (lK qA) qM.out (by simp))
         replace qH := aM (KeepBut.blk hk (g' := qD) (lK qH) qO.out (by simp))
         replace HK := aM (KeepBut.trans (zK HK) hk (.inl rfl))
         replace HB := aM (hb)
         replace HI0 := aM (hi)
         (try clear hb)
         (try clear hb2)
         (try clear hk)
         (try clear hi)
         refine hK.out _ _ ⟨(z2_ qA.out 0).trans rfl, (z2_ qA.out 1).trans rfl, (z2_ qA.out 2).trans rfl, (z2_ qA.out 3).trans rfl⟩ (fun hHeld => ?_)
         clear hK K
         refine norm_ (a' := ?_) ?_ ?_
         rotate_left
         ·show Act.put _ (some 37) _ = _
          simp only [Act.put, List.setIfInBounds_toArray, List.set_cons_zero, List.set_cons_succ, i64_w, i32_w]
          rfl
         refine pQ 12 38 15 16383 ?_
         exact norm_ (by simp only [putAll, Act.put, List.setIfInBounds_toArray, List.set_cons_zero, List.set_cons_succ]) (hCont (qD) _ ⟨hHeld, (by apply rX; exact Kd.z0_ qB.out (fun _ hk => hk.2)), (lK qC), (lK qA), (lK qH), qz.out, q0.out, qb.out, qO.out, qR.out, qS.out, qI.out, qT.out, (zS HI0), (zK HK), (zB HB)⟩)
       ·skip
        refine box_step ?hg (N := 6) ?hd (cs := #[.int .i64 0, .int .i64 0, .int .i64 0, .int .i64 0, .int .i64 0]) (t := 63) ?hr ?_; (case hd => rfl); (case hg => rfl); (case hr => first | (go_simp; done) | (go_simp; rfl))
        intro qD hg w24 hbox hb
        replace qB := aM (Kd.z7_ (Kd.R_elderB (lR qB) qD (Nat.le_of_eq hg.symm)) hb)
        replace HB := aM (z6_ (zB HB) hb)
        have qH := aM (hbox)
        have qz := aM ((by rw [hg]; exact (keep_size (w := w) (g := g) (row := none) (zK HK)) : w.heap.size ≤ qD))
        have q0 := aM ((Nat.le_trans HW0.out (by rw [hg]; exact (keep_size (w := w) (g := g) (row := none) (zK HK)) : w.heap.size ≤ qD) : w0.heap.size ≤ qD))
        replace HK := aM (KeepBut.trans (zK HK) (KeepBut.of_below hb g none) (.inl rfl))
        have qR := aM ((by rw [hg]; exact Nat.ne_of_lt (z19_ (g := qF) (lK qC)) : qF ≠ qD))
        have qS := aM ((by rw [hg]; exact Nat.ne_of_gt (z19_ (g := qF) (lK qC)) : qD ≠ qF))
        replace qC := aM (z5_ (g := qF) (lK qC) hb)
        have qI := aM ((by rw [hg]; exact Nat.ne_of_lt (z19_ (g := qE) (lK qA)) : qE ≠ qD))
        have qT := aM ((by rw [hg]; exact Nat.ne_of_gt (z19_ (g := qE) (lK qA)) : qD ≠ qE))
        replace qA := aM (z5_ (g := qE) (lK qA) hb)
        have qb := aM ((by rw [hg]; exact Nat.ne_of_lt (I7.lt (show I7 w0 _ g s0_0 qx qy from zS HI0)) : g ≠ qD))
        have qO := aM ((by rw [hg]; exact Nat.ne_of_gt (I7.lt (show I7 w0 _ g s0_0 qx qy from zS HI0)) : qD ≠ g))
        replace HI0 := aM (I7.below (zS HI0) hb)
        clear hb hbox hg
        refine hK.out _ _ ⟨(z2_ qA.out 0).trans rfl, (z2_ qA.out 1).trans rfl, (z2_ qA.out 2).trans rfl, (z2_ qA.out 3).trans rfl⟩ (fun hHeld => ?_)
        clear hK K
        refine norm_ (a' := ?_) ?_ ?_
        rotate_left
        ·show Act.put _ (some 6) _ = _
         simp only [Act.put, List.setIfInBounds_toArray, List.set_cons_zero, List.set_cons_succ, i64_w, i32_w]
         rfl
        refine one_ (i := 6) (N := some 32) (bs 15 10239) rfl rfl (one_of HT_.out zk) (by decide) (fun K hK => ?_)
        refine goes_ Try.func33 zk rfl #[.pointer (some ⟨g, 0, none⟩), .int .i64 0, .int .i64 (wrap64 (qK - 1))] (by rfl) rfl rfl zA ?_
        with_reducible refine (cR_within.calls g s0_0 qx qy 0 (wrap64 (qK - 1)) qQ qo qp w0 _ ?side1 ?side2 A19.out).mono ?_
        (case side1 => exact zS HI0)
        (case side2 => exact (zB HB))
        rintro e w25 ⟨rfl, hi, hb, hk⟩
        refine ⟨_, rfl, ?_⟩
        replace qB := aM (Kd.z0_ (Kd.z22_ (I7.apart (show I7 w0 _ g s0_0 qx qy from zS HI0) (lR qB) (by decide)) hk (fun _ h => h.2)) (fun _ h => h.1))
        replace qC := aM (KeepBut.blk hk (g' := qF) (lK qC) qN.out (by simp))
        replace qA := aM (KeepBut.blk hk (g' := qE) (lK qA) qM.out (by simp))
        replace qH := aM (KeepBut.blk hk (g' := qD) (lK qH) qO.out (by simp))
        replace HK := aM (KeepBut.trans (zK HK) hk (.inl rfl))
        replace HB := aM (hb)
        replace HI0 := aM (hi)
        (try clear hb)
        (try clear hb2)
        (try clear hk)
        (try clear hi)
        refine hK.out _ _ ⟨(z2_ qA.out 0).trans rfl, (z2_ qA.out 1).trans rfl, (z2_ qA.out 2).trans rfl, (z2_ qA.out 3).trans rfl⟩ (fun hHeld => ?_)
        clear hK K
        refine norm_ (a' := ?_) ?_ ?_
        rotate_left
        ·show Act.put _ (some 32) _ = _
         simp only [Act.put, List.setIfInBounds_toArray, List.set_cons_zero, List.set_cons_succ, i64_w, i32_w]
         rfl
        refine one_ (i := 11) (N := some 37) (bs 15 12287) rfl rfl (one_of HT_.out zk) (by decide) (fun K hK => ?_)
        refine goes_ Try.func33 zk rfl #[.pointer (some ⟨g, 0, none⟩), .int .i64 0, .int .i64 (wrap64 (qK - 1))] (by rfl) rfl rfl zA ?_
        with_reducible refine (cR_within.calls g s0_0 qo qp 0 (wrap64 (qK - 1)) qU qh qi w0 _ ?side1 ?side2 A20.out).mono ?_
        (case side1 => exact zS HI0)
        (case side2 => exact (zB HB))
        rintro e w26 ⟨rfl, hi, hb, hk⟩
        refine ⟨_, rfl, ?_⟩
        replace qB := aM (Kd.z0_ (Kd.z22_ (I7.apart (show I7 w0 _ g s0_0 qo qp from zS HI0) (lR qB) (by decide)) hk (fun _ h => h.2)) (fun _ h => h.1))
        replace qC := aM (KeepBut.blk hk (g' := qF) (lK qC) qN.out (by simp))
        replace qA := aM (KeepBut.blk hk (g' := qE) (lK qA) qM.out (by simp))
        replace qH := aM (KeepBut.blk hk (g' := qD) (lK qH) qO.out (by simp))
        replace HK := aM (KeepBut.trans (zK HK) hk (.inl rfl))
        replace HB := aM (hb)
        replace HI0 := aM (hi)
        (try clear hb)
        (try clear hb2)
        (try clear hk)
        (try clear hi)
        refine hK.out _ _ ⟨(z2_ qA.out 0).trans rfl, (z2_ qA.out 1).trans rfl, (z2_ qA.out 2).trans rfl, (z2_ qA.out 3).trans rfl⟩ (fun hHeld => ?_)
        clear hK K
        refine norm_ (a' := ?_) ?_ ?_
        rotate_left
        ·show Act.put _ (some 37) _ = _
         simp only [Act.put, List.setIfInBounds_toArray, List.set_cons_zero, List.set_cons_succ, i64_w, i32_w]
         rfl
        refine pQ 12 38 15 16383 ?_
        exact norm_ (by simp only [putAll, Act.put, List.setIfInBounds_toArray, List.set_cons_zero, List.set_cons_succ]) (hCont (qD) _ ⟨hHeld, (by apply rX; exact Kd.z0_ qB.out (fun _ hk => hk.2)), (lK qC), (lK qA), (lK qH), qz.out, q0.out, qb.out, qO.out, qR.out, qS.out, qI.out, qT.out, (zS HI0), (zK HK), (zB HB)⟩)
      ·skip
       refine box_step ?hg (N := 6) ?hd (cs := #[.int .i64 0, .int .i64 0, .int .i64 0, .int .i64 0, .int .i64 0]) (t := 63) ?hr ?_; (case hd => rfl); (case hg => rfl); (case hr => first | (go_simp; done) | (go_simp; rfl))
       intro qD hg w23 hbox hb
       replace qB := aM (Kd.z7_ (Kd.R_elderB (lR qB) qD (Nat.le_of_eq hg.symm)) hb)
       replace HB := aM (z6_ (zB HB) hb)
       have qH := aM (hbox)
       have qz := aM ((by rw [hg]; exact (keep_size (w := w) (g := g) (row := none) (zK HK)) : w.heap.size ≤ qD))
       have q0 := aM ((Nat.le_trans HW0.out (by rw [hg]; exact (keep_size (w := w) (g := g) (row := none) (zK HK)) : w.heap.size ≤ qD) : w0.heap.size ≤ qD))
       replace HK := aM (KeepBut.trans (zK HK) (KeepBut.of_below hb g none) (.inl rfl))
       have qR := aM ((by rw [hg]; exact Nat.ne_of_lt (z19_ (g := qF) (lK qC)) : qF ≠ qD))
       have qS := aM ((by rw [hg]; exact Nat.ne_of_gt (z19_ (g := qF) (lK qC)) : qD ≠ qF))
       replace qC := aM (z5_ (g := qF) (lK qC) hb)
       have qI := aM ((by rw [hg]; exact Nat.ne_of_lt (z19_ (g := qE) (lK qA)) : qE ≠ qD))
       have qT := aM ((by rw [hg]; exact Nat.ne_of_gt (z19_ (g := qE) (lK qA)) : qD ≠ qE))
       replace qA := aM (z5_ (g := qE) (lK qA) hb)
       have qb := aM ((by rw [hg]; exact Nat.ne_of_lt (I7.lt (show I7 w0 _ g s0_0 qk ql from zS HI0)) : g ≠ qD))
       have qO := aM ((by rw [hg]; exact Nat.ne_of_gt (I7.lt (show I7 w0 _ g s0_0 qk ql from zS HI0)) : qD ≠ g))
       replace HI0 := aM (I7.below (zS HI0) hb)
       clear hb hbox hg
       refine hK.out _ _ ⟨(z2_ qA.out 0).trans rfl, (z2_ qA.out 1).trans rfl, (z2_ qA.out 2).trans rfl, (z2_ qA.out 3).trans rfl⟩ (fun hHeld => ?_)
       clear hK K
       refine norm_ (a' := ?_) ?_ ?_
       rotate_left
       ·show Act.put _ (some 6) _ = _
        simp only [Act.put, List.setIfInBounds_toArray, List.set_cons_zero, List.set_cons_succ, i64_w, i32_w]
        rfl
       refine one_ (i := 1) (N := some 27) (bs 15 10175) rfl rfl (one_of HT_.out zk) (by decide) (fun K hK => ?_)
       refine goes_ Try.func33 zk rfl #[.pointer (some ⟨g, 0, none⟩), .int .i64 1, .int .i64 8] (by rfl) rfl rfl zA ?_
       with_reducible refine (cR_within.calls g s0_0 qk ql 1 8 qL qx qy w0 _ ?side1 ?side2 A18.out).mono ?_
       (case side1 => exact zS HI0)
       (case side2 => exact (zB HB))
       rintro e w24 ⟨rfl, hi, hb, hk⟩
       refine ⟨_, rfl, ?_⟩
       replace qB := aM (Kd.z0_ (Kd.z22_ (I7.apart (show I7 w0 _ g s0_0 qk ql from zS HI0) (lR qB) (by decide)) hk (fun _ h => h.2)) (fun _ h => h.1))
       replace qC := aM (KeepBut.blk hk (g' := qF) (lK qC) qN.out (by simp))
       replace qA := aM (KeepBut.blk hk (g' := qE) (lK qA) qM.out (by simp))
       replace qH := aM (KeepBut.blk hk (g' := qD) (lK qH) qO.out (by simp))
       replace HK := aM (KeepBut.trans (zK HK) hk (.inl rfl))
       replace HB := aM (hb)
       replace HI0 := aM (hi)
       (try clear hb)
       (try clear hb2)
       (try clear hk)
       (try clear hi)
       refine hK.out _ _ ⟨(z2_ qA.out 0).trans rfl, (z2_ qA.out 1).trans rfl, (z2_ qA.out 2).trans rfl, (z2_ qA.out 3).trans rfl⟩ (fun hHeld => ?_)
       clear hK K
       refine norm_ (a' := ?_) ?_ ?_
       rotate_left
       ·show Act.put _ (some 27) _ = _
        simp only [Act.put, List.setIfInBounds_toArray, List.set_cons_zero, List.set_cons_succ, i64_w, i32_w]
        rfl
       refine one_ (i := 6) (N := some 32) (bs 15 10239) rfl rfl (one_of HT_.out zk) (by decide) (fun K hK => ?_)
       refine goes_ Try.func33 zk rfl #[.pointer (some ⟨g, 0, none⟩), .int .i64 0, .int .i64 (wrap64 (qK - 1))] (by rfl) rfl rfl zA ?_
       with_reducible refine (cR_within.calls g s0_0 qx qy 0 (wrap64 (qK - 1)) qQ qo qp w0 _ ?side1 ?side2 A19.out).mono ?_
       (case side1 => exact zS HI0)
       (case side2 => exact (zB HB))
       rintro e w25 ⟨rfl, hi, hb, hk⟩
       refine ⟨_, rfl, ?_⟩
       replace qB := aM (Kd.z0_ (Kd.z22_ (I7.apart (show I7 w0 _ g s0_0 qx qy from zS HI0) (lR qB) (by decide)) hk (fun _ h => h.2)) (fun _ h => h.1))
       replace qC := aM (KeepBut.blk hk (g' := qF) (lK qC) qN.out (by simp))
       replace qA := aM (KeepBut.blk hk (g' := qE) (lK qA) qM.out (by simp))
       replace qH := aM (KeepBut.blk hk (g' := qD) (lK qH) qO.out (by simp))
       replace HK := aM (KeepBut.trans (zK HK) hk (.inl rfl))
       replace HB := aM (hb)
       replace HI0 := aM (hi)
       (try clear hb)
       (try clear hb2)
       (try clear hk)
       (try clear hi)
       refine hK.out _ _ ⟨(z2_ qA.out 0).trans rfl, (z2_ qA.out 1).trans rfl, (z2_ qA.out 2).trans rfl, (z2_ qA.out 3).trans rfl⟩ (fun hHeld => ?_)
       clear hK K
       refine norm_ (a' := ?_) ?_ ?_
       rotate_left
       ·show Act.put _ (some 32) _ = _
        simp only [Act.put, List.setIfInBounds_toArray, List.set_cons_zero, List.set_cons_succ, i64_w, i32_w]
        rfl
       refine one_ (i := 11) (N := some 37) (bs 15 12287) rfl rfl (one_of HT_.out zk) (by decide) (fun K hK => ?_)
       refine goes_ Try.func33 zk rfl #[.pointer (some ⟨g, 0, none⟩), .int .i64 0, .int .i64 (wrap64 (qK - 1))] (by rfl) rfl rfl zA ?_
       with_reducible refine (cR_within.calls g s0_0 qo qp 0 (wrap64 (qK - 1)) qU qh qi w0 _ ?side1 ?side2 A20.out).mono ?_
       (case side1 => exact zS HI0)
       (case side2 => exact (zB HB))
       rintro e w26 ⟨rfl, hi, hb, hk⟩
       refine ⟨_, rfl, ?_⟩
       replace qB := aM (Kd.z0_ (Kd.z22_ (I7.apart (show I7 w0 _ g s0_0 qo qp from zS HI0) (lR qB) (by decide)) hk (fun _ h => h.2)) (fun _ h => h.1))
       replace qC := aM (KeepBut.blk hk (g' := qF) (lK qC) qN.out (by simp))
       replace qA := aM (KeepBut.blk hk (g' := qE) (lK qA) qM.out (by simp))
       replace qH := aM (KeepBut.blk hk (g' := qD) (lK qH) qO.out (by simp))
       replace HK := aM (KeepBut.trans (zK HK) hk (.inl rfl))
       replace HB := aM (hb)
       replace HI0 := aM (hi)
       (try clear hb)
       (try clear hb2)
       (try clear hk)
       (try clear hi)
       refine hK.out _ _ ⟨(z2_ qA.out 0).trans rfl, (z2_ qA.out 1).trans rfl, (z2_ qA.out 2).trans rfl, (z2_ qA.out 3).trans rfl⟩ (fun hHeld => ?_)
       clear hK K
       refine norm_ (a' := ?_) ?_ ?_
       rotate_left
       ·show Act.put _ (some 37) _ = _
        simp only [Act.put, List.setIfInBounds_toArray, List.set_cons_zero, List.set_cons_succ, i64_w, i32_w]
        rfl
       refine pQ 12 38 15 16383 ?_
       exact norm_ (by simp only [putAll, Act.put, List.setIfInBounds_toArray, List.set_cons_zero, List.set_cons_succ]) (hCont (qD) _ ⟨hHeld, (by apply rX; exact Kd.z0_ qB.out (fun _ hk => hk.2)), (lK qC), (lK qA), (lK qH), qz.out, q0.out, qb.out, qO.out, qR.out, qS.out, qI.out, qT.out, (zS HI0), (zK HK), (zB HB)⟩)
     rintro qD w27 ⟨hS_, h0_, h1_, h2_, h3_, h4_, h5_, h6_, h7_, h8_, h9_, h10_, h11_, h12_, h13_, h14_⟩
     have n0_ : Aside0 (Kd.R k63 63 w27 w.heap.size (fun k_ => k_ ≠ qD) qP qG) := ⟨h0_⟩
     have n1_ : Aside0 (w27.heap[qF]? = some (.cells #[.int .i64 0, .int .i64 0, .slice none 0 0, .slice none 0 0] 26 (0, 0))) := ⟨h1_⟩
     have n2_ : Aside0 (w27.heap[qE]? = some (.cells #[.int .i64 qJ, .int .i64 qK, qP, .slice none 0 0] 26 (0, 0))) := ⟨h2_⟩
     have n3_ : Aside0 (w27.heap[qD]? = some (.cells #[.int .i64 0, .int .i64 0, .int .i64 0, .int .i64 0, .int .i64 0] 63 (0, 0))) := ⟨h3_⟩
     have n4_ : Aside0 (w.heap.size ≤ qD) := ⟨h4_⟩
     have n5_ : Aside0 (w0.heap.size ≤ qD) := ⟨h5_⟩
     have n6_ : Aside0 (g ≠ qD) := ⟨h6_⟩
     have n7_ : Aside0 (qD ≠ g) := ⟨h7_⟩
     have n8_ : Aside0 (qF ≠ qD) := ⟨h8_⟩
     have n9_ : Aside0 (qD ≠ qF) := ⟨h9_⟩
     have n10_ : Aside0 (qE ≠ qD) := ⟨h10_⟩
     have n11_ : Aside0 (qD ≠ qE) := ⟨h11_⟩
     have n12_ : Aside0 (I7 w0 w27 g s0_0 qh qi) := ⟨h12_⟩
     have n13_ : Aside0 (KeepBut w w27 g none) := ⟨h13_⟩
     have n14_ : Aside0 (Below w0.heap.size w0 w27) := ⟨h14_⟩
     clear qB
     clear qC
     clear qA
     clear HI0
     clear HK
     clear HB
     clear h0_ h1_ h2_ h3_ h4_ h5_ h6_ h7_ h8_ h9_ h10_ h11_ h12_ h13_ h14_
     have qB := n0_
     have qC := n1_
     have qA := n2_
     have qH := n3_
     have qz := n4_
     have q0 := n5_
     have qb := n6_
     have qO := n7_
     have qR := n8_
     have qS := n9_
     have qI := n10_
     have qT := n11_
     have HI0 := n12_
     have HK := n13_
     have HB := n14_
     clear n0_ n1_ n2_ n3_ n4_ n5_ n6_ n7_ n8_ n9_ n10_ n11_ n12_ n13_ n14_
     have hHeld : w27.cell? ⟨qE, 0, none⟩ = some (.int .i64 qJ) ∧ w27.cell? ⟨qE, 1, none⟩ = some (.int .i64 qK) ∧ w27.cell? ⟨qE, 2, none⟩ = some (qP) ∧ w27.cell? ⟨qE, 3, none⟩ = some (.slice none 0 0) := hS_
     refine norm_ (a' := ?_) ?_ ?_
     rotate_left
     ·simp only [putAll, Act.put, List.setIfInBounds_toArray, List.set_cons_zero, List.set_cons_succ]
      rfl
     refine one_ (i := 14) (N := none) (bs 15 32767) rfl rfl (one_of HT_.out zk) (by decide) (fun K hK => ?_)
     have qBW : w27.cell? ⟨qD, 0, none⟩ = some (.int .i64 0) := (z2_ qH.out 0).trans rfl
     have qAe := z1_ qH.out 0
     have yD := qR.out
     have yE := qI.out
     have yF := qS.out
     have yG := qT.out
     have qBX : w27.cell? ⟨qD, 1, none⟩ = some (.int .i64 0) := (z2_ qH.out 1).trans rfl
     have qAf := z1_ qH.out 1
     have yH := qR.out
     have yI := qI.out
     have yJ := qS.out
     have yK := qT.out
     have qBY : w27.cell? ⟨qD, 2, none⟩ = some (.int .i64 0) := (z2_ qH.out 2).trans rfl
     have qAg := z1_ qH.out 2
     have yL := qR.out
     have yM := qI.out
     have yN := qS.out
     have yO := qT.out
     have qBZ : w27.cell? ⟨qD, 3, none⟩ = some (.int .i64 0) := (z2_ qH.out 3).trans rfl
     have qAh := z1_ qH.out 3
     have yP := qR.out
     have yQ := qI.out
     have yR := qS.out
     have yS := qT.out
     have qBa : w27.cell? ⟨qD, 4, none⟩ = some (.int .i64 0) := (z2_ qH.out 4).trans rfl
     have qAi := z1_ qH.out 4
     have yT := qR.out
     have yU := qI.out
     have yV := qS.out
     have yW := qT.out
     refine skip_ (w1 := ?_) (by rfl) rfl ?_ ?_
     rotate_left
     ·go_simp
      rfl
     refine hK.out _ _ ⟨((z14_ (p := ⟨qD, _, none⟩) qI.out _).trans (((z14_ (p := ⟨qD, _, none⟩) qI.out _).trans (((z14_ (p := ⟨qD, _, none⟩) qI.out _).trans (((z14_ (p := ⟨qD, _, none⟩) qI.out _).trans (((z14_ (p := ⟨qD, _, none⟩) qI.out _).trans (hHeld.1)))))))))), ((z14_ (p := ⟨qD, _, none⟩) qI.out _).trans (((z14_ (p := ⟨qD, _, none⟩) qI.out _).trans (((z14_ (p := ⟨qD, _, none⟩) qI.out _).trans (((z14_ (p := ⟨qD, _, none⟩) qI.out _).trans (((z14_ (p := ⟨qD, _, none⟩) qI.out _).trans (hHeld.2.1)))))))))), ((z14_ (p := ⟨qD, _, none⟩) qI.out _).trans (((z14_ (p := ⟨qD, _, none⟩) qI.out _).trans (((z14_ (p := ⟨qD, _, none⟩) qI.out _).trans (((z14_ (p := ⟨qD, _, none⟩) qI.out _).trans (((z14_ (p := ⟨qD, _, none⟩) qI.out _).trans (hHeld.2.2.1)))))))))), ((z14_ (p := ⟨qD, _, none⟩) qI.out _).trans (((z14_ (p := ⟨qD, _, none⟩) qI.out _).trans (((z14_ (p := ⟨qD, _, none⟩) qI.out _).trans (((z14_ (p := ⟨qD, _, none⟩) qI.out _).trans (((z14_ (p := ⟨qD, _, none⟩) qI.out _).trans (hHeld.2.2.2))))))))))⟩ (fun hHeld => ?_)
     clear hK K
     refine done_ (done_of HT_.out zk) ?_
     go_upto_region 8 with (fail)
     go_cut [46] (fun v46 wc => ∃ (kq : Nat) (jH : Bool), v46 = .bool jH ∧ Aside0 (cR_program.j1 kq (Go.bits .or .i64 (wrap64 (qW * 256)) qg) qY jH s0_0 qh qi qJ qK qG qL qQ qU 0 0 = some (r1, r2, r3, r4, r5, r6)) ∧ Aside0 (kq ≤ k1) ∧ Aside0 (Kd.R k63 63 wc w.heap.size (fun k_ => k_ ≠ qD) qP qG) ∧ Aside0 (wc.heap[qF]? = some (.cells #[.int .i64 0, .int .i64 0, (.slice none 0 0), (.slice none 0 0)] 26 (0, 0))) ∧ Aside0 (wc.heap[qE]? = some (.cells #[.int .i64 qJ, .int .i64 qK, qP, (.slice none 0 0)] 26 (0, 0))) ∧ Aside0 (wc.heap[qD]? = some (.cells #[.int .i64 qL, .int .i64 qQ, .int .i64 qU, .int .i64 0, .int .i64 0] 63 (0, 0))) ∧ Aside0 (I7 w0 wc g s0_0 qh qi) ∧ Aside0 (KeepBut w wc g none) ∧ Aside0 (Below w0.heap.size w0 wc))
     case first =>
      have H := je.out
      clear je
      by_cases c33 : qL = 3
      ·rw [if_pos c33] at H
       have c33b0 : (qL == 3) = true := beq_iff_eq.mpr c33
       have c33b1 : (qL != 3) = false := bne_eq_false_iff_eq.mpr c33
       clear c33
       (first | rw [c33b0] | (simp only [i64_w, i32_w]; rw [c33b0]) | skip)
       have H' := aM H
       clear H
       have qAj := qS.out
       have qAk := qR.out
       have qAl := qT.out
       have qAm := qI.out
       have qAn := qO.out
       have qAo := qb.out
       have yX := zc5 qH.out
       have yY := fun i_ : Nat => z1_ qH.out i_
       go_wp2
       repeat (go_step3; go_wp2)
       go_meet
       case rel => exact ⟨_, (true), zT, H', ⟨by have := HK1.out; first | omega | exact Nat.le_refl _⟩, ⟨by apply rX; exact Kd.z0_ (fA (fA (fA (fA (fA (Kd.z0_ qB.out (fun k_ hk => (⟨hk, hk⟩ : _ ∧ k_ ≠ qD)))))))) (fun _ hk => hk.1)⟩, ⟨zb qC⟩, ⟨zb qA⟩, ⟨by refine lZ ?_; refine blk_put (cs := #[.int .i64 qL, .int .i64 qQ, .int .i64 qU, .int .i64 0, .int .i64 0]) ?_ 4 _ rfl; refine lZ ?_; refine blk_put (cs := #[.int .i64 qL, .int .i64 qQ, .int .i64 qU, .int .i64 0, .int .i64 0]) ?_ 3 _ rfl; refine lZ ?_; refine blk_put (cs := #[.int .i64 qL, .int .i64 qQ, .int .i64 0, .int .i64 0, .int .i64 0]) ?_ 2 _ rfl; refine lZ ?_; refine blk_put (cs := #[.int .i64 qL, .int .i64 0, .int .i64 0, .int .i64 0, .int .i64 0]) ?_ 1 _ rfl; refine lZ ?_; refine blk_put (cs := #[.int .i64 0, .int .i64 0, .int .i64 0, .int .i64 0, .int .i64 0]) ?_ 0 _ rfl; refine lZ ?_; exact qH.out⟩, ⟨zS HI0⟩, ⟨zK HK⟩, ⟨zB HB⟩⟩
      ·rw [if_neg c33] at H
       have c33b0 : (qL == 3) = false := beq_eq_false_iff_ne.mpr c33
       have c33b1 : (qL != 3) = true := bne_iff_ne.mpr c33
       (first | rw [c33b0] | (simp only [i64_w, i32_w]; rw [c33b0]) | skip)
       have H' := aM H
       clear H
       have qAp := qS.out
       have qAq := qR.out
       have qAr := qT.out
       have qAs := qI.out
       have qAt := qO.out
       have qAu := qb.out
       have yZ := zc5 qH.out
       have ya := fun i_ : Nat => z1_ qH.out i_
       go_wp2
       repeat (go_step3; go_wp2)
       go_meet
       case rel => exact ⟨_, ((qL == 4)), zT, H', ⟨by have := HK1.out; first | omega | exact Nat.le_refl _⟩, ⟨by apply rX; exact Kd.z0_ (fA (fA (fA (fA (fA (Kd.z0_ qB.out (fun k_ hk => (⟨hk, hk⟩ : _ ∧ k_ ≠ qD)))))))) (fun _ hk => hk.1)⟩, ⟨zb qC⟩, ⟨zb qA⟩, ⟨by refine lZ ?_; refine blk_put (cs := #[.int .i64 qL, .int .i64 qQ, .int .i64 qU, .int .i64 0, .int .i64 0]) ?_ 4 _ rfl; refine lZ ?_; refine blk_put (cs := #[.int .i64 qL, .int .i64 qQ, .int .i64 qU, .int .i64 0, .int .i64 0]) ?_ 3 _ rfl; refine lZ ?_; refine blk_put (cs := #[.int .i64 qL, .int .i64 qQ, .int .i64 0, .int .i64 0, .int .i64 0]) ?_ 2 _ rfl; refine lZ ?_; refine blk_put (cs := #[.int .i64 qL, .int .i64 0, .int .i64 0, .int .i64 0, .int .i64 0]) ?_ 1 _ rfl; refine lZ ?_; refine blk_put (cs := #[.int .i64 0, .int .i64 0, .int .i64 0, .int .i64 0, .int .i64 0]) ?_ 0 _ rfl; refine lZ ?_; exact qH.out⟩, ⟨zS HI0⟩, ⟨zK HK⟩, ⟨zB HB⟩⟩
     case rest =>
      clear je
      obtain ⟨kq, jH, rfl, HA, HJ20, qB, qC, qA, qH, HI0, HK, HB⟩ := hcut
      cases kq with
      | zero => exact absurd HA.out (by simp [cR_program.j1])
      | succ kj20 =>
       have H := HA.out
       clear HA
       simp only [cR_program.j1] at H
       by_cases c42 : jH = true
       ·subst c42
        have H1 : ((cR_within.f s0_0 qh qi 0 (wrap64 (qK - 1))).bind fun bt345 => ((cR_constant.f s0_0 bt345.2.1 bt345.2.2 qL).bind fun bt348 => (if bt348.2.2 = true then (cR_program.j2 kj20 s0_0 bt348.2.1 bt348.2.2 qJ qK qG) else (if qG.length < 3518437208883 then (cR_program.l0 kj20 (Go.bits .or .i64 (wrap64 (qW * 256)) qg) (wrap64 (qY + 1)) s0_0 bt348.2.1 bt348.2.2 qJ qK (qG ++ [(⟨qL, qQ, qU, bt345.1, bt348.1⟩ : S63)])) else (none))))) = some (r1, r2, r3, r4, r5, r6) := by rw [if_pos rfl] at H; exact H
        clear H
        have H := H1
        clear H1
        replace H := zbs H
        obtain ⟨⟨qn, jD, jE⟩, A430, H⟩ := H
        replace H : ((cR_constant.f s0_0 jD jE qL).bind fun bt348 => (if bt348.2.2 = true then (cR_program.j2 kj20 s0_0 bt348.2.1 bt348.2.2 qJ qK qG) else (if qG.length < 3518437208883 then (cR_program.l0 kj20 (Go.bits .or .i64 (wrap64 (qW * 256)) qg) (wrap64 (qY + 1)) s0_0 bt348.2.1 bt348.2.2 qJ qK (qG ++ [(⟨qL, qQ, qU, qn, bt348.1⟩ : S63)])) else (none)))) = some (r1, r2, r3, r4, r5, r6) := H
        have A43 := aM A430
        clear A430
        replace H := zbs H
        obtain ⟨⟨q1, q2, jc⟩, A440, H⟩ := H
        replace H : (if jc = true then (cR_program.j2 kj20 s0_0 q2 jc qJ qK qG) else (if qG.length < 3518437208883 then (cR_program.l0 kj20 (Go.bits .or .i64 (wrap64 (qW * 256)) qg) (wrap64 (qY + 1)) s0_0 q2 jc qJ qK (qG ++ [(⟨qL, qQ, qU, qn, q1⟩ : S63)])) else (none))) = some (r1, r2, r3, r4, r5, r6) := H
        have A44 := aM A440
        clear A440
        by_cases c45 : jc = true
        ·subst c45
         have H1 : (cR_program.j2 kj20 s0_0 q2 true qJ qK qG) = some (r1, r2, r3, r4, r5, r6) := by rw [if_pos rfl] at H; exact H
         clear H
         have H := H1
         clear H1
         have H' := aM H
         clear H
         have qAv := qd.out
         have qAw := qc.out
         have qAx := qI.out
         have qAy := qT.out
         have qAz := qM.out
         have qA0 := qm.out
         have yb := zc4 qA.out
         have yc := fun i_ : Nat => z1_ qA.out i_
         go_wp2_with (first | ((with_reducible refine gate_callee (f := 33) rfl ?_); refine z13_ (some 51) rfl rfl Try.func33 zk rfl #[.pointer (some ⟨g, 0, none⟩), .int .i64 0, .int .i64 (wrap64 (qK - 1))] rfl zA ?_; (with_reducible refine (cR_within.calls g s0_0 qh qi 0 (wrap64 (qK - 1)) qn jD jE w0 _ ?side1 ?side2 A43.out).mono ?_); (case side1 => exact zS HI0); (case side2 => exact (zB HB)); rintro e w50 ⟨rfl, hi, hb, hk⟩; refine ⟨_, rfl, ?_⟩; replace qB := aM (Kd.z0_ (Kd.z22_ (I7.apart (show I7 w0 _ g s0_0 qh qi from zS HI0) (lR qB) (by decide)) hk (fun _ h => h.2)) (fun _ h => h.1)); replace qC := aM (KeepBut.blk hk (g' := qF) (lK qC) qN.out (by simp)); replace qA := aM (KeepBut.blk hk (g' := qE) (lK qA) qM.out (by simp)); replace qH := aM (KeepBut.blk hk (g' := qD) (lK qH) qO.out (by simp)); replace HK := aM (KeepBut.trans (zK HK) hk (.inl rfl)); replace HB := aM (hb); replace HI0 := aM (hi); (try clear hb); (try clear hk); (try clear hi); have qA1 := qS.out; have qA2 := qR.out; have qA3 := qO.out; have qA4 := qb.out; have yd := zc5 qH.out; have ye := fun i_ : Nat => z1_ qH.out i_) | ((with_reducible refine gate_callee (f := 56) rfl ?_); refine z13_ (some 58) rfl rfl Try.func56 zk rfl #[.pointer (some ⟨g, 0, none⟩), .int .i64 qL] rfl zA ?_; (with_reducible refine (cR_constant.calls g s0_0 jD jE qL q1 q2 true w0 _ ?side1 ?side2 A44.out).mono ?_); (case side1 => exact zS HI0); (case side2 => exact (zB HB)); rintro e w54 ⟨rfl, hi, hb, hk⟩; refine ⟨_, rfl, ?_⟩; replace qB := aM (Kd.z0_ (Kd.z22_ (I7.apart (show I7 w0 _ g s0_0 jD jE from zS HI0) (by apply rX; exact (Kd.z0_ (fA (Kd.z0_ qB.out (fun k_ hk => (⟨hk, hk⟩ : _ ∧ k_ ≠ qD)))) (fun _ h_ => h_.1))) (by decide)) hk (fun _ h => h.2)) (fun _ h => h.1)); replace qC := aM (KeepBut.blk hk (g' := qF) (zb qC) qN.out (by simp)); replace qA := aM (KeepBut.blk hk (g' := qE) (zb qA) qM.out (by simp)); replace qH := aM (KeepBut.blk hk (g' := qD) (o := .cells #[.int .i64 qL, .int .i64 qQ, .int .i64 qU, .int .i64 qn, .int .i64 0] 63 (0, 0)) (by refine lZ ?_; refine blk_put (cs := #[.int .i64 qL, .int .i64 qQ, .int .i64 qU, .int .i64 0, .int .i64 0]) ?_ 3 _ rfl; refine lZ ?_; exact qH.out) qO.out (by simp)); replace HK := aM (KeepBut.trans (zK HK) hk (.inl rfl)); replace HB := aM (hb); replace HI0 := aM (hi); (try clear hb); (try clear hk); (try clear hi); have yf := zc5 qH.out; have yg := fun i_ : Nat => z1_ qH.out i_; obtain ⟨ASz56_0, cSz56_0, HGz56, hgz56, HSz56_0⟩ := HI0.out; have yh := cellS70_0 HGz56; have yi := cellS70_1 HGz56; have yj := cellS70_2 HGz56; have yk := z1_ HGz56 1; have yl := z1_ HGz56 2; clear HGz56 hgz56))
         go_meet
         case rel => exact ⟨_, (q2), (true), (qG), (qP), H', ⟨by have := HK1.out; have := HJ20.out; first | omega | exact Nat.le_refl _⟩, ⟨by apply rX; exact Kd.z0_ (fA (Kd.z0_ qB.out (fun k_ hk => (⟨hk, hk⟩ : _ ∧ k_ ≠ qD)))) (fun _ hk => trivial)⟩, ⟨zb qC⟩, ⟨zb qA⟩, ⟨zS HI0⟩, ⟨zK HK⟩, ⟨zB HB⟩⟩
        ·replace c45 := Bool.eq_false_iff.mpr c45
         subst c45
         have H1 : (if qG.length < 3518437208883 then (cR_program.l0 kj20 (Go.bits .or .i64 (wrap64 (qW * 256)) qg) (wrap64 (qY + 1)) s0_0 q2 false qJ qK (qG ++ [(⟨qL, qQ, qU, qn, q1⟩ : S63)])) else (none)) = some (r1, r2, r3, r4, r5, r6) := by rw [if_neg (show ¬ (false = true) by decide)] at H; exact H
         clear H
         have H := H1
         clear H1
         by_cases c57 : qG.length < 3518437208883
         ·rw [if_pos c57] at H
          have LMc57 := aM c57
          clear c57
          obtain ⟨y351, hy351⟩ : ∃ y_ : List (S63), y_ = (qG ++ [(⟨qL, qQ, qU, qn, q1⟩ : S63)]) := ⟨_, rfl⟩
          replace H : (cR_program.l0 kj20 (Go.bits .or .i64 (wrap64 (qW * 256)) qg) (wrap64 (qY + 1)) s0_0 q2 false qJ qK y351) = some (r1, r2, r3, r4, r5, r6) := zH hy351 H
          have Ny351 := aM hy351
          clear hy351
          have H' := aM H
          clear H
          have qA5 := qd.out
          have qA6 := qc.out
          have qA7 := qI.out
          have qA8 := qT.out
          have qA9 := qM.out
          have qBA := qm.out
          have ym := zc4 qA.out
          have yn := fun i_ : Nat => z1_ qA.out i_
          go_wp2_with (first | ((with_reducible refine gate_callee (f := 33) rfl ?_); refine z13_ (some 51) rfl rfl Try.func33 zk rfl #[.pointer (some ⟨g, 0, none⟩), .int .i64 0, .int .i64 (wrap64 (qK - 1))] rfl zA ?_; (with_reducible refine (cR_within.calls g s0_0 qh qi 0 (wrap64 (qK - 1)) qn jD jE w0 _ ?side1 ?side2 A43.out).mono ?_); (case side1 => exact zS HI0); (case side2 => exact (zB HB)); rintro e w62 ⟨rfl, hi, hb, hk⟩; refine ⟨_, rfl, ?_⟩; replace qB := aM (Kd.z0_ (Kd.z22_ (I7.apart (show I7 w0 _ g s0_0 qh qi from zS HI0) (lR qB) (by decide)) hk (fun _ h => h.2)) (fun _ h => h.1)); replace qC := aM (KeepBut.blk hk (g' := qF) (lK qC) qN.out (by simp)); replace qA := aM (KeepBut.blk hk (g' := qE) (lK qA) qM.out (by simp)); replace qH := aM (KeepBut.blk hk (g' := qD) (lK qH) qO.out (by simp)); replace HK := aM (KeepBut.trans (zK HK) hk (.inl rfl)); replace HB := aM (hb); replace HI0 := aM (hi); (try clear hb); (try clear hk); (try clear hi); have qBB := qS.out; have qBC := qR.out; have qBD := qO.out; have qBE := qb.out; have yo := zc5 qH.out; have yp := fun i_ : Nat => z1_ qH.out i_) | ((with_reducible refine gate_callee (f := 56) rfl ?_); refine z13_ (some 58) rfl rfl Try.func56 zk rfl #[.pointer (some ⟨g, 0, none⟩), .int .i64 qL] rfl zA ?_; (with_reducible refine (cR_constant.calls g s0_0 jD jE qL q1 q2 false w0 _ ?side1 ?side2 A44.out).mono ?_); (case side1 => exact zS HI0); (case side2 => exact (zB HB)); rintro e w66 ⟨rfl, hi, hb, hk⟩; refine ⟨_, rfl, ?_⟩; replace qB := aM (Kd.z0_ (Kd.z22_ (I7.apart (show I7 w0 _ g s0_0 jD jE from zS HI0) (by apply rX; exact (Kd.z0_ (fA (Kd.z0_ qB.out (fun k_ hk => (⟨hk, hk⟩ : _ ∧ k_ ≠ qD)))) (fun _ h_ => h_.1))) (by decide)) hk (fun _ h => h.2)) (fun _ h => h.1)); replace qC := aM (KeepBut.blk hk (g' := qF) (zb qC) qN.out (by simp)); replace qA := aM (KeepBut.blk hk (g' := qE) (zb qA) qM.out (by simp)); replace qH := aM (KeepBut.blk hk (g' := qD) (o := .cells #[.int .i64 qL, .int .i64 qQ, .int .i64 qU, .int .i64 qn, .int .i64 0] 63 (0, 0)) (by refine lZ ?_; refine blk_put (cs := #[.int .i64 qL, .int .i64 qQ, .int .i64 qU, .int .i64 0, .int .i64 0]) ?_ 3 _ rfl; refine lZ ?_; exact qH.out) qO.out (by simp)); replace HK := aM (KeepBut.trans (zK HK) hk (.inl rfl)); replace HB := aM (hb); replace HI0 := aM (hi); (try clear hb); (try clear hk); (try clear hi); have yq := zc5 qH.out; have yr := fun i_ : Nat => z1_ qH.out i_; obtain ⟨ASz68_0, cSz68_0, HGz68, hgz68, HSz68_0⟩ := HI0.out; have ys := cellS70_0 HGz68; have yt := cellS70_1 HGz68; have yu := cellS70_2 HGz68; have yv := z1_ HGz68 1; have yw := z1_ HGz68 2; clear HGz68 hgz68; have yx := zc4 qA.out; have yy := fun i_ : Nat => z1_ qA.out i_) | ((with_reducible refine gate_builtin (b := .append) (xs := #[.tmp 65, .tmp 67]) rfl ?_); at_builtin; refine Kd.R_append k63 w.heap.size rfl (.tmp 65) (.tmp 67) 23 63 (.agg #[(.int .i64 0), (.int .i64 0), (.int .i64 0), (.int .i64 0), (.int .i64 0)]) 40 rfl Try.underlying23 info63 rfl (by decide) (by omega) qP qG (⟨qL, qQ, qU, qn, q1⟩ : S63) [.int .i64 qL, .int .i64 qQ, .int .i64 qU, .int .i64 qn, .int .i64 q1] (fun k_ => k_ ≠ qD) (fun _ => False) rfl zG ?aP (fun _ hk => hk.elim) ?aF ?aO (Below.refl _ _) ?aS ?aL ?_; (case aP => exact k63_mkM _ _ _ (⟨qL, qQ, qU, qn, q1⟩ : S63)); (case aF => exact (fun k_ hk => Kd.freshB (g := qD) (o := .cells #[.int .i64 qL, .int .i64 qQ, .int .i64 qU, .int .i64 qn, .int .i64 q1] 63 (0, 0)) (by refine lZ ?_; refine blk_put (cs := #[.int .i64 qL, .int .i64 qQ, .int .i64 qU, .int .i64 qn, .int .i64 0]) ?_ 4 _ rfl; refine lZ ?_; exact qH.out) k_ hk)); (case aO => exact (by apply rX; exact Kd.z0_ (fA (Kd.z0_ qB.out (fun k_ hk => (⟨hk, hk⟩ : _ ∧ k_ ≠ qD)))) (fun _ hk => hk.1))); (case aS => exact (keep_size (w := w) (g := g) (row := none) (zK HK))); (case aL => have := LMc57.out; omega); intro v352 w70 ho hb hg hat; rw [← Ny351.out] at ho; replace qC := aM (blk_grown (g := qF) (zb qC) hg (Kd.R_ne qB.out qC.out (by decide))); replace qA := aM (blk_grown (g := qE) (zb qA) hg (Kd.R_ne qB.out qA.out (by decide))); replace qH := aM (blk_grown (g := qD) (o := .cells #[.int .i64 qL, .int .i64 qQ, .int .i64 qU, .int .i64 qn, .int .i64 q1] 63 (0, 0)) (by refine lZ ?_; refine blk_put (cs := #[.int .i64 qL, .int .i64 qQ, .int .i64 qU, .int .i64 qn, .int .i64 0]) ?_ 4 _ rfl; refine lZ ?_; exact qH.out) hg (Kd.R_away qB.out (fun _ hk => hk))); replace HB := aM (below_weaken (zB HB) HL.out hb); replace HI0 := aM (I7.grown (show I7 w0 _ g s0_0 q2 false from zS HI0) hg (I7.own_ne HI0.out qB.out (by decide))); replace HK := aM (KeepBut.trans (zK HK) (KeepBut.of_grown hg g) (Kd.R_base2 qB.out)); have jp := aM (ho); clear qB; clear ho hb hg hat; obtain ⟨j0, j3, eo71⟩ := Kd.R_slice jp.out; subst eo71; have yz := zc4 qA.out; have qAA := fun i_ : Nat => z1_ qA.out i_))
          go_roundg kj20
          case measure => have := HK1.out; have := HJ20.out; omega
          case rel => exact ⟨(wrap64 (qY + 1)), (q2), (false), (y351), (.slice j0 y351.length j3), zT, H', ⟨by have := HK1.out; have := HJ20.out; omega⟩, ⟨by apply rX; exact Kd.z0_ (fA (Kd.z3_ jp.out qA.out (by decide))) (fun _ hk => trivial)⟩, ⟨zb qC⟩, ⟨by refine lZ ?_; refine blk_put (cs := #[.int .i64 qJ, .int .i64 qK, qP, .slice none 0 0]) ?_ 2 _ rfl; refine lZ ?_; exact qA.out⟩, ⟨zS HI0⟩, ⟨zK HK⟩, ⟨zB HB⟩⟩
         ·rw [if_neg c57] at H
          exact absurd H (by simp)
       ·replace c42 := Bool.eq_false_iff.mpr c42
        subst c42
        have H1 : ((cR_within.f s0_0 qh qi 0 0).bind fun bt354 => ((cR_constant.f s0_0 bt354.2.1 bt354.2.2 qL).bind fun bt357 => (if bt357.2.2 = true then (cR_program.j2 kj20 s0_0 bt357.2.1 bt357.2.2 qJ qK qG) else (if qG.length < 3518437208883 then (cR_program.l0 kj20 (Go.bits .or .i64 (wrap64 (qW * 256)) qg) (wrap64 (qY + 1)) s0_0 bt357.2.1 bt357.2.2 qJ qK (qG ++ [(⟨qL, qQ, qU, 0, bt357.1⟩ : S63)])) else (none))))) = some (r1, r2, r3, r4, r5, r6) := by rw [if_neg (show ¬ (false = true) by decide)] at H; exact H
        clear H
        have H := H1
        clear H1
        replace H := zbs H
        obtain ⟨⟨jv, jF, jG⟩, A730, H⟩ := H
        replace H : ((cR_constant.f s0_0 jF jG qL).bind fun bt357 => (if bt357.2.2 = true then (cR_program.j2 kj20 s0_0 bt357.2.1 bt357.2.2 qJ qK qG) else (if qG.length < 3518437208883 then (cR_program.l0 kj20 (Go.bits .or .i64 (wrap64 (qW * 256)) qg) (wrap64 (qY + 1)) s0_0 bt357.2.1 bt357.2.2 qJ qK (qG ++ [(⟨qL, qQ, qU, 0, bt357.1⟩ : S63)])) else (none)))) = some (r1, r2, r3, r4, r5, r6) := H
        have A73 := aM A730
        clear A730
        replace H := zbs H
        obtain ⟨⟨q3, q4, jd⟩, A740, H⟩ := H
        replace H : (if jd = true then (cR_program.j2 kj20 s0_0 q4 jd qJ qK qG) else (if qG.length < 3518437208883 then (cR_program.l0 kj20 (Go.bits .or .i64 (wrap64 (qW * 256)) qg) (wrap64 (qY + 1)) s0_0 q4 jd qJ qK (qG ++ [(⟨qL, qQ, qU, 0, q3⟩ : S63)])) else (none))) = some (r1, r2, r3, r4, r5, r6) := H
        have A74 := aM A740
        clear A740
        by_cases c75 : jd = true
        ·subst c75
         have H1 : (cR_program.j2 kj20 s0_0 q4 true qJ qK qG) = some (r1, r2, r3, r4, r5, r6) := by rw [if_pos rfl] at H; exact H
         clear H
         have H := H1
         clear H1
         have H' := aM H
         clear H
         go_wp2_with (first | ((with_reducible refine gate_callee (f := 33) rfl ?_); refine z13_ (some 54) rfl rfl Try.func33 zk rfl #[.pointer (some ⟨g, 0, none⟩), .int .i64 0, .int .i64 0] rfl zA ?_; (with_reducible refine (cR_within.calls g s0_0 qh qi 0 0 jv jF jG w0 _ ?side1 ?side2 A73.out).mono ?_); (case side1 => exact zS HI0); (case side2 => exact (zB HB)); rintro e w76 ⟨rfl, hi, hb, hk⟩; refine ⟨_, rfl, ?_⟩; replace qB := aM (Kd.z0_ (Kd.z22_ (I7.apart (show I7 w0 _ g s0_0 qh qi from zS HI0) (lR qB) (by decide)) hk (fun _ h => h.2)) (fun _ h => h.1)); replace qC := aM (KeepBut.blk hk (g' := qF) (lK qC) qN.out (by simp)); replace qA := aM (KeepBut.blk hk (g' := qE) (lK qA) qM.out (by simp)); replace qH := aM (KeepBut.blk hk (g' := qD) (lK qH) qO.out (by simp)); replace HK := aM (KeepBut.trans (zK HK) hk (.inl rfl)); replace HB := aM (hb); replace HI0 := aM (hi); (try clear hb); (try clear hk); (try clear hi); have qBF := qS.out; have qBG := qR.out; have qBH := qT.out; have qBI := qI.out; have qBJ := qO.out; have qBK := qb.out; have qAB := zc5 qH.out; have qAC := fun i_ : Nat => z1_ qH.out i_) | ((with_reducible refine gate_callee (f := 56) rfl ?_); refine z13_ (some 58) rfl rfl Try.func56 zk rfl #[.pointer (some ⟨g, 0, none⟩), .int .i64 qL] rfl zA ?_; (with_reducible refine (cR_constant.calls g s0_0 jF jG qL q3 q4 true w0 _ ?side1 ?side2 A74.out).mono ?_); (case side1 => exact zS HI0); (case side2 => exact (zB HB)); rintro e w81 ⟨rfl, hi, hb, hk⟩; refine ⟨_, rfl, ?_⟩; replace qB := aM (Kd.z0_ (Kd.z22_ (I7.apart (show I7 w0 _ g s0_0 jF jG from zS HI0) (lR qB) (by decide)) hk (fun _ h => h.2)) (fun _ h => h.1)); replace qC := aM (KeepBut.blk hk (g' := qF) (lK qC) qN.out (by simp)); replace qA := aM (KeepBut.blk hk (g' := qE) (lK qA) qM.out (by simp)); replace qH := aM (KeepBut.blk hk (g' := qD) (lK qH) qO.out (by simp)); replace HK := aM (KeepBut.trans (zK HK) hk (.inl rfl)); replace HB := aM (hb); replace HI0 := aM (hi); (try clear hb); (try clear hk); (try clear hi); have qAD := zc5 qH.out; have qAE := fun i_ : Nat => z1_ qH.out i_; obtain ⟨ASz83_0, cSz83_0, HGz83, hgz83, HSz83_0⟩ := HI0.out; have qAF := cellS70_0 HGz83; have qAG := cellS70_1 HGz83; have qAH := cellS70_2 HGz83; have qAI := z1_ HGz83 1; have qAJ := z1_ HGz83 2; clear HGz83 hgz83))
         go_meet
         case rel => exact ⟨_, (q4), (true), (qG), (qP), H', ⟨by have := HK1.out; have := HJ20.out; first | omega | exact Nat.le_refl _⟩, ⟨by apply rX; exact Kd.z0_ (fA (Kd.z0_ qB.out (fun k_ hk => (⟨hk, hk⟩ : _ ∧ k_ ≠ qD)))) (fun _ hk => trivial)⟩, ⟨zb qC⟩, ⟨zb qA⟩, ⟨zS HI0⟩, ⟨zK HK⟩, ⟨zB HB⟩⟩
        ·replace c75 := Bool.eq_false_iff.mpr c75
         subst c75
         have H1 : (if qG.length < 3518437208883 then (cR_program.l0 kj20 (Go.bits .or .i64 (wrap64 (qW * 256)) qg) (wrap64 (qY + 1)) s0_0 q4 false qJ qK (qG ++ [(⟨qL, qQ, qU, 0, q3⟩ : S63)])) else (none)) = some (r1, r2, r3, r4, r5, r6) := by rw [if_neg (show ¬ (false = true) by decide)] at H; exact H
         clear H
         have H := H1
         clear H1
         by_cases c84 : qG.length < 3518437208883
         ·rw [if_pos c84] at H
          have LMc84 := aM c84
          clear c84
          obtain ⟨y360, hy360⟩ : ∃ y_ : List (S63), y_ = (qG ++ [(⟨qL, qQ, qU, 0, q3⟩ : S63)]) := ⟨_, rfl⟩
          replace H : (cR_program.l0 kj20 (Go.bits .or .i64 (wrap64 (qW * 256)) qg) (wrap64 (qY + 1)) s0_0 q4 false qJ qK y360) = some (r1, r2, r3, r4, r5, r6) := zH hy360 H
          have Ny360 := aM hy360
          clear hy360
          have H' := aM H
          clear H
          go_wp2_with (first | ((with_reducible refine gate_callee (f := 33) rfl ?_); refine z13_ (some 54) rfl rfl Try.func33 zk rfl #[.pointer (some ⟨g, 0, none⟩), .int .i64 0, .int .i64 0] rfl zA ?_; (with_reducible refine (cR_within.calls g s0_0 qh qi 0 0 jv jF jG w0 _ ?side1 ?side2 A73.out).mono ?_); (case side1 => exact zS HI0); (case side2 => exact (zB HB)); rintro e w85 ⟨rfl, hi, hb, hk⟩; refine ⟨_, rfl, ?_⟩; replace qB := aM (Kd.z0_ (Kd.z22_ (I7.apart (show I7 w0 _ g s0_0 qh qi from zS HI0) (lR qB) (by decide)) hk (fun _ h => h.2)) (fun _ h => h.1)); replace qC := aM (KeepBut.blk hk (g' := qF) (lK qC) qN.out (by simp)); replace qA := aM (KeepBut.blk hk (g' := qE) (lK qA) qM.out (by simp)); replace qH := aM (KeepBut.blk hk (g' := qD) (lK qH) qO.out (by simp)); replace HK := aM (KeepBut.trans (zK HK) hk (.inl rfl)); replace HB := aM (hb); replace HI0 := aM (hi); (try clear hb); (try clear hk); (try clear hi); have qBL := qS.out; have qBM := qR.out; have qBN := qT.out; have qBO := qI.out; have qBP := qO.out; have qBQ := qb.out; have qAK := zc5 qH.out; have qAL := fun i_ : Nat => z1_ qH.out i_) | ((with_reducible refine gate_callee (f := 56) rfl ?_); refine z13_ (some 58) rfl rfl Try.func56 zk rfl #[.pointer (some ⟨g, 0, none⟩), .int .i64 qL] rfl zA ?_; (with_reducible refine (cR_constant.calls g s0_0 jF jG qL q3 q4 false w0 _ ?side1 ?side2 A74.out).mono ?_); (case side1 => exact zS HI0); (case side2 => exact (zB HB)); rintro e w90 ⟨rfl, hi, hb, hk⟩; refine ⟨_, rfl, ?_⟩; replace qB := aM (Kd.z0_ (Kd.z22_ (I7.apart (show I7 w0 _ g s0_0 jF jG from zS HI0) (lR qB) (by decide)) hk (fun _ h => h.2)) (fun _ h => h.1)); replace qC := aM (KeepBut.blk hk (g' := qF) (lK qC) qN.out (by simp)); replace qA := aM (KeepBut.blk hk (g' := qE) (lK qA) qM.out (by simp)); replace qH := aM (KeepBut.blk hk (g' := qD) (lK qH) qO.out (by simp)); replace HK := aM (KeepBut.trans (zK HK) hk (.inl rfl)); replace HB := aM (hb); replace HI0 := aM (hi); (try clear hb); (try clear hk); (try clear hi); have qAM := zc5 qH.out; have qAN := fun i_ : Nat => z1_ qH.out i_; obtain ⟨ASz92_0, cSz92_0, HGz92, hgz92, HSz92_0⟩ := HI0.out; have qAO := cellS70_0 HGz92; have qAP := cellS70_1 HGz92; have qAQ := cellS70_2 HGz92; have qAR := z1_ HGz92 1; have qAS := z1_ HGz92 2; clear HGz92 hgz92; have qBR := qd.out; have qBS := qc.out; have qBT := qM.out; have qBU := qm.out; have qAT := zc4 qA.out; have qAU := fun i_ : Nat => z1_ qA.out i_) | ((with_reducible refine gate_builtin (b := .append) (xs := #[.tmp 65, .tmp 67]) rfl ?_); at_builtin; refine Kd.R_append k63 w.heap.size rfl (.tmp 65) (.tmp 67) 23 63 (.agg #[(.int .i64 0), (.int .i64 0), (.int .i64 0), (.int .i64 0), (.int .i64 0)]) 40 rfl Try.underlying23 info63 rfl (by decide) (by omega) qP qG (⟨qL, qQ, qU, 0, q3⟩ : S63) [.int .i64 qL, .int .i64 qQ, .int .i64 qU, .int .i64 0, .int .i64 q3] (fun k_ => k_ ≠ qD) (fun _ => False) rfl zG ?aP (fun _ hk => hk.elim) ?aF ?aO (Below.refl _ _) ?aS ?aL ?_; (case aP => exact k63_mkM _ _ _ (⟨qL, qQ, qU, 0, q3⟩ : S63)); (case aF => exact (fun k_ hk => Kd.freshB (g := qD) (o := .cells #[.int .i64 qL, .int .i64 qQ, .int .i64 qU, .int .i64 0, .int .i64 q3] 63 (0, 0)) (by refine lZ ?_; refine blk_put (cs := #[.int .i64 qL, .int .i64 qQ, .int .i64 qU, .int .i64 0, .int .i64 0]) ?_ 4 _ rfl; refine lZ ?_; exact qH.out) k_ hk)); (case aO => exact (by apply rX; exact Kd.z0_ (fA (Kd.z0_ qB.out (fun k_ hk => (⟨hk, hk⟩ : _ ∧ k_ ≠ qD)))) (fun _ hk => hk.1))); (case aS => exact (keep_size (w := w) (g := g) (row := none) (zK HK))); (case aL => have := LMc84.out; omega); intro v361 w96 ho hb hg hat; rw [← Ny360.out] at ho; replace qC := aM (blk_grown (g := qF) (zb qC) hg (Kd.R_ne qB.out qC.out (by decide))); replace qA := aM (blk_grown (g := qE) (zb qA) hg (Kd.R_ne qB.out qA.out (by decide))); replace qH := aM (blk_grown (g := qD) (o := .cells #[.int .i64 qL, .int .i64 qQ, .int .i64 qU, .int .i64 0, .int .i64 q3] 63 (0, 0)) (by refine lZ ?_; refine blk_put (cs := #[.int .i64 qL, .int .i64 qQ, .int .i64 qU, .int .i64 0, .int .i64 0]) ?_ 4 _ rfl; refine lZ ?_; exact qH.out) hg (Kd.R_away qB.out (fun _ hk => hk))); replace HB := aM (below_weaken (zB HB) HL.out hb); replace HI0 := aM (I7.grown (show I7 w0 _ g s0_0 q4 false from zS HI0) hg (I7.own_ne HI0.out qB.out (by decide))); replace HK := aM (KeepBut.trans (zK HK) (KeepBut.of_grown hg g) (Kd.R_base2 qB.out)); have jq := aM (ho); clear qB; clear ho hb hg hat; obtain ⟨j4, j5, eo97⟩ := Kd.R_slice jq.out; subst eo97; have qAV := zc4 qA.out; have qAW := fun i_ : Nat => z1_ qA.out i_))
          go_roundg kj20
          case measure => have := HK1.out; have := HJ20.out; omega
          case rel => exact ⟨(wrap64 (qY + 1)), (q4), (false), (y360), (.slice j4 y360.length j5), zT, H', ⟨by have := HK1.out; have := HJ20.out; omega⟩, ⟨by apply rX; exact Kd.z0_ (fA (Kd.z3_ jq.out qA.out (by decide))) (fun _ hk => trivial)⟩, ⟨zb qC⟩, ⟨by refine lZ ?_; refine blk_put (cs := #[.int .i64 qJ, .int .i64 qK, qP, .slice none 0 0]) ?_ 2 _ rfl; refine lZ ?_; exact qA.out⟩, ⟨zS HI0⟩, ⟨zK HK⟩, ⟨zB HB⟩⟩
         ·rw [if_neg c84] at H
          exact absurd H (by simp)
    ·rw [if_neg c17] at H
     have c17b0 := decide_eq_false c17
     clear c17
     (first | rw [c17b0] | (simp only [i64_w, i32_w]; rw [c17b0]) | skip)
     have H' := aM H
     clear H
     go_wp2
     repeat (go_step3; go_wp2)
     go_meet
     case rel => exact ⟨_, (qk), (ql), (qG), (qP), H', ⟨by have := HK1.out; first | omega | exact Nat.le_refl _⟩, ⟨lR qB⟩, ⟨zb qC⟩, ⟨zb qA⟩, ⟨zS HI0⟩, ⟨zK HK⟩, ⟨zB HB⟩⟩
 case rest =>
  clear HC6
  obtain ⟨kq, q5, q6, qe, qP, HA, HJ5, qB, qC, qA, HI0, HK, HB⟩ := hcut
  cases kq with
  | zero => exact absurd HA.out (by simp [cR_program.j2])
  | succ kj5 =>
   have H := HA.out
   clear HA
   simp only [cR_program.j2] at H
   replace H := zbs H
   obtain ⟨⟨jK, jf, jg⟩, A990, H⟩ := H
   replace H : (cR_program.l1 kj5 jK 0 s0_0 jf jg qJ qK qe ([] : List Int)) = some (r1, r2, r3, r4, r5, r6) := H
   have A99 := aM A990
   clear A990
   have H' := aM H
   clear H
   go_wp2_with (first | ((with_reducible refine gate_callee (f := 33) rfl ?_); refine z13_ (some 72) rfl rfl Try.func33 zk rfl #[.pointer (some ⟨g, 0, none⟩), .int .i64 1, .int .i64 128] rfl zA ?_; (with_reducible refine (cR_within.calls g s0_0 q5 q6 1 128 jK jf jg w0 _ ?side1 ?side2 A99.out).mono ?_); (case side1 => exact zS HI0); (case side2 => exact (zB HB)); rintro e w100 ⟨rfl, hi, hb, hk⟩; refine ⟨_, rfl, ?_⟩; replace qB := aM (Kd.z0_ (Kd.z22_ (I7.apart (show I7 w0 _ g s0_0 q5 q6 from zS HI0) (lR qB) (by decide)) hk (fun _ h => h.2)) (fun _ h => h.1)); replace qC := aM (KeepBut.blk hk (g' := qF) (lK qC) qN.out (by simp)); replace qA := aM (KeepBut.blk hk (g' := qE) (lK qA) qM.out (by simp)); replace HK := aM (KeepBut.trans (zK HK) hk (.inl rfl)); replace HB := aM (hb); replace HI0 := aM (hi); (try clear hb); (try clear hk); (try clear hi)))
   go_loopg [73] kj5 (fun kq v73 w' => ∃ (q7 : Int) (qv : Int) (qw : Bool) (qj : List Int) (qs : Value), v73 = .int .i64 q7 ∧ Aside0 (cR_program.l1 kq jK q7 s0_0 qv qw qJ qK qe qj = some (r1, r2, r3, r4, r5, r6)) ∧ Aside0 (kq ≤ kj5) ∧ Aside0 (Kd.R k63 63 w' w.heap.size (fun _ => True) qP qe) ∧ Aside0 (Kd.R (Kd.int .i64) 3 w' w.heap.size (fun _ => True) qs qj) ∧ Aside0 (w'.heap[qF]? = some (.cells #[.int .i64 0, .int .i64 0, (.slice none 0 0), (.slice none 0 0)] 26 (0, 0))) ∧ Aside0 (w'.heap[qE]? = some (.cells #[.int .i64 qJ, .int .i64 qK, qP, qs] 26 (0, 0))) ∧ Aside0 (I7 w0 w' g s0_0 qv qw) ∧ Aside0 (KeepBut w w' g none) ∧ Aside0 (Below w0.heap.size w0 w'))
   case atStart => exact ⟨(0), (jf), (jg), (([] : List Int)), (.slice none 0 0), zT, H', ⟨Nat.le_refl _⟩, ⟨lR qB⟩, ⟨zn⟩, ⟨zb qC⟩, ⟨zb qA⟩, ⟨zS HI0⟩, ⟨zK HK⟩, ⟨zB HB⟩⟩
   case round =>
    clear H'
    obtain ⟨q7, qv, qw, qj, qs, rfl, HA, HK2, qB, qV, qC, qA, HI0, HK, HB⟩ := hrel
    cases gk with
    | zero => exact absurd HA.out (by simp [cR_program.l1])
    | succ k2 =>
     have H := HA.out
     clear HA
     simp only [cR_program.l1] at H
     by_cases c101 : q7 < jK
     ·rw [if_pos c101] at H
      have c101b0 := decide_eq_true c101
      clear c101
      replace H := zbs H
      obtain ⟨⟨jN, jO, jP⟩, A1020, H⟩ := H
      replace H : (if qj.length < 17592186044416 then (cR_program.l1 k2 jK (wrap64 (q7 + 1)) s0_0 jO jP qJ qK qe (qj ++ [jN])) else (none)) = some (r1, r2, r3, r4, r5, r6) := H
      have A102 := aM A1020
      clear A1020
      by_cases c103 : qj.length < 17592186044416
      ·rw [if_pos c103] at H
       have LMc103 := aM c103
       clear c103
       obtain ⟨y369, hy369⟩ : ∃ y_ : List Int, y_ = (qj ++ [jN]) := ⟨_, rfl⟩
       replace H : (cR_program.l1 k2 jK (wrap64 (q7 + 1)) s0_0 jO jP qJ qK qe y369) = some (r1, r2, r3, r4, r5, r6) := zH hy369 H
       have Ny369 := aM hy369
       clear hy369
       have H' := aM H
       clear H
       try go_wp2
       replace qB := aM (Kd.R_drew qB.out)
       replace qV := aM (Kd.R_drew qV.out)
       replace qC := aM (blk_drew qC.out)
       replace qA := aM (blk_drew qA.out)
       replace HI0 := aM (I7.drew HI0.out)
       replace HK := aM (keep_drew HK.out)
       replace HB := aM (below_drew1 HB.out)
       refine start_ (n := 11) (S := fun w' => w'.cell? ⟨qE, 0, none⟩ = some (.int .i64 qJ) ∧ w'.cell? ⟨qE, 1, none⟩ = some (.int .i64 qK) ∧ w'.cell? ⟨qE, 2, none⟩ = some (qP) ∧ w'.cell? ⟨qE, 3, none⟩ = some (qs)) (ds := [10]) (bs 11 0) zk rfl rfl ⟨(z2_ qA.out 0).trans rfl, (z2_ qA.out 1).trans rfl, (z2_ qA.out 2).trans rfl, (z2_ qA.out 3).trans rfl⟩ (fun hHeld => ?_); refine with_tabW cR_program.tab17 cR_program.bits17 (fun HT_ HW_ => ?_)
       generalize wr.drew = w104 at qB qV qC qA HI0 HK HB hHeld ⊢
       refine pQ 0 75 11 1 ?_
       refine pQ 2 77 11 5 ?_
       refine pQ 3 78 11 13 ?_
       refine take_ (i := 1) (N := some 76) (v := ?_) (a' := ?_) (bs 11 15) rfl rfl (take_ofW HT_.out HW_.out zk) (fun _ _ _ h => h) (Or.inl ⟨by rfl, ?_⟩) hHeld ?_ ?_
       rotate_left
       ·rintro w' ⟨s0, s1, s2, s3⟩
        go_simp
        with_reducible rfl
       rotate_left
       ·simp only [Act.put, List.setIfInBounds_toArray, List.set_cons_zero, List.set_cons_succ, i64_w, i32_w]
        rfl
       refine take_ (i := 4) (N := some 79) (v := ?_) (a' := ?_) (bs 11 31) rfl rfl (take_ofW HT_.out HW_.out zk) (fun _ _ _ h => h) (Or.inl ⟨by rfl, ?_⟩) hHeld ?_ ?_
       rotate_left
       ·rintro w' ⟨s0, s1, s2, s3⟩
        go_simp
        with_reducible rfl
       rotate_left
       ·simp only [Act.put, List.setIfInBounds_toArray, List.set_cons_zero, List.set_cons_succ, i64_w, i32_w]
        rfl
       refine pQ 5 80 11 63 ?_
       refine one_ (i := 6) (N := some 81) (bs 11 127) rfl rfl (one_of HT_.out zk) (by decide) (fun K hK => ?_)
       refine goes_ Try.func33 zk rfl #[.pointer (some ⟨g, 0, none⟩), .int .i64 0, .int .i64 (wrap64 (qK - 1))] (by rfl) rfl rfl zA ?_
       with_reducible refine (cR_within.calls g s0_0 qv qw 0 (wrap64 (qK - 1)) jN jO jP w0 _ ?side1 ?side2 A102.out).mono ?_
       (case side1 => exact zS HI0)
       (case side2 => exact (zB HB))
       rintro e w105 ⟨rfl, hi, hb, hk⟩
       refine ⟨_, rfl, ?_⟩
       replace qB := aM (Kd.z0_ (Kd.z22_ (I7.apart (show I7 w0 _ g s0_0 qv qw from zS HI0) (lR qB) (by decide)) hk (fun _ h => h.2)) (fun _ h => h.1))
       replace qV := aM (Kd.z0_ (Kd.z22_ (I7.apart (show I7 w0 _ g s0_0 qv qw from zS HI0) (lR qV) (by decide)) hk (fun _ h => h.2)) (fun _ h => h.1))
       replace qC := aM (KeepBut.blk hk (g' := qF) (lK qC) qN.out (by simp))
       replace qA := aM (KeepBut.blk hk (g' := qE) (lK qA) qM.out (by simp))
       replace HK := aM (KeepBut.trans (zK HK) hk (.inl rfl))
       replace HB := aM (hb)
       replace HI0 := aM (hi)
       (try clear hb)
       (try clear hb2)
       (try clear hk)
       (try clear hi)
       refine hK.out _ _ ⟨(z2_ qA.out 0).trans rfl, (z2_ qA.out 1).trans rfl, (z2_ qA.out 2).trans rfl, (z2_ qA.out 3).trans rfl⟩ (fun hHeld => ?_)
       clear hK K
       refine norm_ (a' := ?_) ?_ ?_
       rotate_left
       ·show Act.put _ (some 81) _ = _
        simp only [Act.put, List.setIfInBounds_toArray, List.set_cons_zero, List.set_cons_succ, i64_w, i32_w]
        rfl
       refine one_ (i := 7) (N := some 82) (bs 11 255) rfl rfl (one_of HT_.out zk) (by decide) (fun K hK => ?_)
       refine value_ (w1 := ?_) (v := ?_) (by rfl) rfl ?_ ?_
       rotate_left 2
       ·go_simp
        constructor
        ·rfl
        ·rfl
       refine hK.out _ _ ⟨(z2_ (z11_ qA.out _) 0).trans rfl, (z2_ (z11_ qA.out _) 1).trans rfl, (z2_ (z11_ qA.out _) 2).trans rfl, (z2_ (z11_ qA.out _) 3).trans rfl⟩ (fun hHeld => ?_)
       clear hK K
       refine norm_ (a' := ?_) ?_ ?_
       rotate_left
       ·show Act.put _ (some 82) _ = _
        simp only [Act.put, List.setIfInBounds_toArray, List.set_cons_zero, List.set_cons_succ, i64_w, i32_w]
        rfl
       refine one_ (i := 8) (N := some 83) (bs 11 511) rfl rfl (one_of HT_.out zk) (by decide) (fun K hK => ?_)
       refine Kd.R_append_step (Kd.int .i64) w.heap.size (by rfl) (.tmp 76) (.tmp 82) 24 3 (.int .i64 0) 8 rfl Try.underlying24 info3 rfl (by decide) (by omega) qs qj jN [.int .i64 jN] (fun _ => True) (fun _ => False) rfl rfl ?aP (fun _ hk => hk.elim) ?aF ?aO (Below.refl _ _) ?aS ?aL ?_
       (case aP => exact rfl)
       (case aF => exact (fun _ _ => trivial))
       (case aO => exact (lR qV))
       (case aS => exact (keep_size (w := w) (g := g) (row := none) (zK HK)))
       (case aL => have := LMc103.out; omega)
       intro v370 w106 ho hb hg hat
       rw [← Ny369.out] at ho
       replace qB := aM (Kd.R_over' (lR qB) (Kd.R_typed (lR qV)) (by decide) hg)
       replace qC := aM (blk_grown (g := qF) (lK qC) hg (Kd.R_ne qV.out qC.out (by decide)))
       replace qA := aM (blk_grown (g := qE) (lK qA) hg (Kd.R_ne qV.out qA.out (by decide)))
       replace HB := aM (below_weaken (zB HB) HL.out hb)
       replace HI0 := aM (I7.grown (show I7 w0 _ g s0_0 jO jP from zS HI0) hg (I7.own_ne HI0.out qV.out (by decide)))
       replace HK := aM (KeepBut.trans (zK HK) (KeepBut.of_grown hg g) (Kd.R_base2 qV.out))
       have jr := aM (ho)
       clear qV
       clear ho hb hg hat
       obtain ⟨jw, jx, eo107⟩ := Kd.R_slice jr.out
       (first | subst eo107 | (injection eo107 with f1_ f2_ f3_; have f4_ := f1_.symm; have f5_ := f3_.symm; clear f1_ f2_ f3_; subst f4_; subst f5_))
       refine hK.out _ _ ⟨(z2_ qA.out 0).trans rfl, (z2_ qA.out 1).trans rfl, (z2_ qA.out 2).trans rfl, (z2_ qA.out 3).trans rfl⟩ (fun hHeld => ?_)
       clear hK K
       refine norm_ (a' := ?_) ?_ ?_
       rotate_left
       ·show Act.put _ (some 83) _ = _
        simp only [Act.put, List.setIfInBounds_toArray, List.set_cons_zero, List.set_cons_succ, i64_w, i32_w]
        rfl
       refine pQ 9 84 11 1023 ?_
       refine last_ (i := 10) (N := none) (bs 11 2047) rfl rfl (one_of HT_.out zk) (by decide) (fun K hK => ?_)
       have qBV : w106.cell? ⟨qE, 3, none⟩ = some (qs) := (z2_ qA.out 3).trans rfl
       have qAX := z1_ qA.out 3
       have j6 := qc.out
       have j7 := qd.out
       refine skip_ (w1 := ?_) (by rfl) rfl ?_ ?_
       rotate_left
       ·go_simp
        rfl
       refine hK.out _ _ ?_
       clear hK K
       refine done_ (done_of HT_.out zk) ?_
       try go_wp2
       go_roundg k2
       case measure => have := HJ5.out; have := HK2.out; omega
       case rel => exact ⟨(wrap64 (q7 + 1)), (jO), (jP), (y369), (.slice jw y369.length jx), zT, H', ⟨by have := HJ5.out; have := HK2.out; omega⟩, ⟨by apply rX; exact Kd.z0_ (fA (Kd.z3_ qB.out qA.out (by decide))) (fun _ hk => trivial)⟩, ⟨by apply rX; exact Kd.z0_ (fA (Kd.z3_ jr.out qA.out (by decide))) (fun _ hk => trivial)⟩, ⟨zb qC⟩, ⟨by refine lZ ?_; refine blk_put (cs := #[.int .i64 qJ, .int .i64 qK, qP, qs]) ?_ 3 _ rfl; refine lZ ?_; exact qA.out⟩, ⟨zS HI0⟩, ⟨zK HK⟩, ⟨zB HB⟩⟩
      ·rw [if_neg c103] at H
       exact absurd H (by simp)
     ·rw [if_neg c101] at H
      have c101b0 := decide_eq_false c101
      clear c101
      simp only [Option.some.injEq, Prod.mk.injEq] at H
      obtain ⟨rfl, rfl, rfl, rfl, rfl, rfl⟩ := H
      have qAY := qd.out
      have qAZ := qc.out
      have qAa := qM.out
      have qAb := qm.out
      have j8 := zc4 qA.out
      have j9 := fun i_ : Nat => z1_ qA.out i_
      have qAc := qN.out
      have qAd := jJ.out
      have yA := zc4 qC.out
      have yB := fun i_ : Nat => z1_ qC.out i_
      obtain ⟨js, jt, eo114⟩ := Kd.R_slice qB.out
      subst eo114
      obtain ⟨jy, jz, eo115⟩ := Kd.R_slice qV.out
      subst eo115
      go_wp2
      repeat (go_step3; go_wp2)
      refine bodyPost_ret (results_cell_row rfl _ _ qF 26 #[.int .i64 qJ, .int .i64 qK, .slice js qe.length jt, .slice jy qj.length jz] (0, 0) _ rfl (by refine lZ ?_; refine blk_put (cs := #[.int .i64 qJ, .int .i64 qK, .slice js qe.length jt, .slice none 0 0]) ?_ 3 _ rfl; refine lZ ?_; refine blk_put (cs := #[.int .i64 qJ, .int .i64 qK, .slice none 0 0, .slice none 0 0]) ?_ 2 _ rfl; refine lZ ?_; refine blk_put (cs := #[.int .i64 qJ, .int .i64 0, .slice none 0 0, .slice none 0 0]) ?_ 1 _ rfl; refine lZ ?_; refine blk_put (cs := #[.int .i64 0, .int .i64 0, .slice none 0 0, .slice none 0 0]) ?_ 0 _ rfl; refine lZ ?_; exact qC.out) Try.underlying26 rfl zk) rfl ?_
      exact ⟨_, _, zE, by apply rX; exact Kd.z0_ (fA (fA (fA (fA (Kd.z3_ qB.out qC.out (by decide)))))) (fun _ hk => trivial), by apply rX; exact Kd.z0_ (fA (fA (fA (fA (Kd.z3_ qV.out qC.out (by decide)))))) (fun _ hk => trivial), zS HI0, zB HB, zK HK⟩
end Go.Proofs.Ytccbdcbeinkjgaa.XA
end
