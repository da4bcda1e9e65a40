/- Part 9 of the proof of the law CodeDecodes for every input: words, walks and plain laws. No condition. -/
import Derived.Lib.SlBytesConst
import Derived.Test.YtccbdcbeinkjgaaKCodeDecodes8
set_option linter.unusedVariables false
set_option linter.unusedSimpArgs false
set_option maxHeartbeats 8000000
set_option maxRecDepth 100000
section
namespace Go.Proofs.Ytccbdcbeinkjgaa.XA
open Go.Proofs.Ytccbdcbeinkjgaa.Lift Go.RowKit Go.Proofs.YtccbdcbeinkjgaaW.PrintWords Go.Proofs.YtccbdcbeinkjgaaW.PrintLast Go.Proofs.YtccbdcbeinkjgaaW.PrintMore
attribute [local go_sem] max2_int min2_int max_two min_two max_three min_three max_four min_four
--IMPORT Derived.Lib.SlBytesConst
mutual
def code_Decode.l0 : Nat → List Int → List Int → Int → Int → List Int → Int → Bool → Option (Int × Int × (List (S48)) × Int × Int × (List (S63)) × List Int × Int × Int × (List (S63)) × List Int × Int × Int × (List (S63)) × List Int × Int × Int)
 | 0, _, _, _, _, _, _, _ => none
 | k + 1, x0, x16, x17, x18, qv, q7, q9 => if x18 < x17 then (if 0 ≤ x18 then (if x18 < (x16.length : Int) then ((cR_within.f qv q7 q9 (wrap64 (rd x16 x18)) (wrap64 (rd x16 x18))).bind fun bt382 => (code_Decode.l0 k x0 x16 x17 (wrap64 (x18 + 1)) qv bt382.2.1 bt382.2.2)) else (none)) else (none)) else ((cR_within.f qv q7 q9 1 8).bind fun bt385 => ((cR_within.f qv bt385.2.1 bt385.2.2 1 8).bind fun bt388 => ((cR_within.f qv bt388.2.1 bt388.2.2 0 255).bind fun bt392 => (code_Decode.l1 k x0 bt392.1 0 qv bt392.2.1 bt392.2.2 bt385.1 bt388.1 ([] : List (S48)) 0 0 0 0 0 0))))
def code_Decode.l1 : Nat → List Int → Int → Int → List Int → Int → Bool → Int → Int → List (S48) → Int → Int → Int → Int → Int → Int → Option (Int × Int × (List (S48)) × Int × Int × (List (S63)) × List Int × Int × Int × (List (S63)) × List Int × Int × Int × (List (S63)) × List Int × Int × Int)
 | 0, _, _, _, _, _, _, _, _, _, _, _, _, _, _, _ => none
 | k + 1, x0, x35, x36, qv, q7, q9, jH, jI, jF, jM, jN, jO, jP, jQ, jR => if x36 < x35 then ((cR_signed.f qv q7 q9).bind fun bt395 => ((cR_signed.f qv bt395.2.1 bt395.2.2).bind fun bt398 => (if jF.length < 8796093022208 then (code_Decode.l1 k x0 x35 (wrap64 (x36 + 1)) qv bt398.2.1 bt398.2.2 jH jI (jF ++ [(⟨bt395.1, bt398.1⟩ : S48)]) jM jN jO jP jQ jR) else (none)))) else ((code_programs.f 391).bind fun yL => (code_Decode.l2 k x0 0 qv q7 q9 jH jI jF jM jN ([] : List (S63)) ([] : List Int) jO jP ([] : List (S63)) ([] : List Int) jQ jR ([] : List (S63)) ([] : List Int)))
def code_Decode.l2 : Nat → List Int → Int → List Int → Int → Bool → Int → Int → List (S48) → Int → Int → List (S63) → List Int → Int → Int → List (S63) → List Int → Int → Int → List (S63) → List Int → Option (Int × Int × (List (S48)) × Int × Int × (List (S63)) × List Int × Int × Int × (List (S63)) × List Int × Int × Int × (List (S63)) × List Int × Int × Int)
 | 0, _, _, _, _, _, _, _, _, _, _, _, _, _, _, _, _, _, _, _, _ => none
 | k + 1, x0, x51, qv, q7, q9, jH, jI, jF, jM, jN, jY, jZ, jO, jP, ja, jb, jQ, jR, jc, jd => if x51 < 3 then (if x51 = 0 then ((cR_program.f k qv q7 q9).bind fun bt405 => (code_Decode.l2 k x0 (0 + 1) qv bt405.2.2.2.2.1 bt405.2.2.2.2.2 jH jI jF bt405.1 bt405.2.1 bt405.2.2.1 bt405.2.2.2.1 jO jP ja jb jQ jR jc jd)) else (if x51 = 1 then ((cR_program.f k qv q7 q9).bind fun bt415 => (code_Decode.l2 k x0 (1 + 1) qv bt415.2.2.2.2.1 bt415.2.2.2.2.2 jH jI jF jM jN jY jZ bt415.1 bt415.2.1 bt415.2.2.1 bt415.2.2.2.1 jQ jR jc jd)) else (if x51 = 2 then ((cR_program.f k qv q7 q9).bind fun bt425 => (code_Decode.l2 k x0 (2 + 1) qv bt425.2.2.2.2.1 bt425.2.2.2.2.2 jH jI jF jM jN jY jZ jO jP ja jb bt425.1 bt425.2.1 bt425.2.2.1 bt425.2.2.2.1)) else (none)))) else (if q9 = true then (some (0, 0, ([] : List (S48)), 0, 0, ([] : List (S63)), ([] : List Int), 0, 0, ([] : List (S63)), ([] : List Int), 0, 0, ([] : List (S63)), ([] : List Int), 170, q7)) else (if 0 ≤ q7 then (if q7 ≤ (x0.length : Int) then ((code_check.f k (x0.take (q7 : Int).toNat)).bind fun qj => ((cR_within.f qv q7 q9 (qj / 256) (qj / 256)).bind fun bt437 => ((cR_within.f qv bt437.2.1 bt437.2.2 (Go.bits .and .i64 qj 255) (Go.bits .and .i64 qj 255)).bind fun bt440 => (if bt440.2.2 = true then (some (0, 0, ([] : List (S48)), 0, 0, ([] : List (S63)), ([] : List Int), 0, 0, ([] : List (S63)), ([] : List Int), 0, 0, ([] : List (S63)), ([] : List Int), 170, bt440.2.1)) else (if bt440.2.1 < (x0.length : Int) then (some (0, 0, ([] : List (S48)), 0, 0, ([] : List (S63)), ([] : List Int), 0, 0, ([] : List (S63)), ([] : List Int), 0, 0, ([] : List (S63)), ([] : List Int), 170, bt440.2.1)) else (some (jH, jI, jF, jM, jN, jY, jZ, jO, jP, ja, jb, jQ, jR, jc, jd, 0, 0))))))) else (none)) else (none)))
end
def code_Decode.f (k : Nat) (l0 : List Int) : Option (Int × Int × (List (S48)) × Int × Int × (List (S63)) × List Int × Int × Int × (List (S63)) × List Int × Int × Int × (List (S63)) × List Int × Int × Int) := (code_newreader.f l0).bind fun bt374 => ((code_marked.f).bind fun q8 => (code_Decode.l0 k l0 q8 (q8.length : Int) 0 bt374.1 bt374.2.1 bt374.2.2))
theorem code_Decode.mono_l : ∀ k, (∀ y0 y1 y2 y3 y4 y5 y6, LeO (code_Decode.l0 k y0 y1 y2 y3 y4 y5 y6) (code_Decode.l0 (k + 1) y0 y1 y2 y3 y4 y5 y6)) ∧ (∀ y0 y1 y2 y3 y4 y5 y6 y7 y8 y9 y10 y11 y12 y13 y14, LeO (code_Decode.l1 k y0 y1 y2 y3 y4 y5 y6 y7 y8 y9 y10 y11 y12 y13 y14) (code_Decode.l1 (k + 1) y0 y1 y2 y3 y4 y5 y6 y7 y8 y9 y10 y11 y12 y13 y14)) ∧ (∀ y0 y1 y2 y3 y4 y5 y6 y7 y8 y9 y10 y11 y12 y13 y14 y15 y16 y17 y18 y19, LeO (code_Decode.l2 k y0 y1 y2 y3 y4 y5 y6 y7 y8 y9 y10 y11 y12 y13 y14 y15 y16 y17 y18 y19) (code_Decode.l2 (k + 1) y0 y1 y2 y3 y4 y5 y6 y7 y8 y9 y10 y11 y12 y13 y14 y15 y16 y17 y18 y19))
 | 0 => ⟨fun _ _ _ _ _ _ _ r h => by simp [code_Decode.l0] at h, fun _ _ _ _ _ _ _ _ _ _ _ _ _ _ _ r h => by simp [code_Decode.l1] at h, fun _ _ _ _ _ _ _ _ _ _ _ _ _ _ _ _ _ _ _ _ r h => by simp [code_Decode.l2] at h⟩
 | k + 1 => by
  obtain ⟨ih0, ih1, ih2⟩ := code_Decode.mono_l k
  refine ⟨?_, ?_, ?_⟩
  ·intro y0 y1 y2 y3 y4 y5 y6
   unfold code_Decode.l0
   have im0 := @code_check.mono; have im1 := @cR_program.mono; exact zM
  ·intro y0 y1 y2 y3 y4 y5 y6 y7 y8 y9 y10 y11 y12 y13 y14
   unfold code_Decode.l1
   have im0 := @code_check.mono; have im1 := @cR_program.mono; exact zM
  ·intro y0 y1 y2 y3 y4 y5 y6 y7 y8 y9 y10 y11 y12 y13 y14 y15 y16 y17 y18 y19
   unfold code_Decode.l2
   have im0 := @code_check.mono; have im1 := @cR_program.mono; exact zM
theorem code_Decode.mono : ∀ a0 k, LeO (code_Decode.f k a0) (code_Decode.f (k + 1) a0) := by
 intro a0 k
 obtain ⟨ih0, ih1, ih2⟩ := code_Decode.mono_l k
 unfold code_Decode.f
 have im0 := @code_check.mono; have im1 := @cR_program.mono; exact zM
def code_Decode.T11 : Bool × List (List Nat × List Nat) := (true, [([], []), ([0], [0]), ([], []), ([], []), ([3], [3]), ([2, 4], [2, 4]), ([5], [5]), ([1, 6, 4], [1, 6]), ([0, 1, 2, 3, 4, 5, 6, 7], []), ([8, 7, 7, 0, 1, 2, 3, 4, 5, 6, 7], [7, 8])])
def code_Decode.B11 : List Nat := [0, 1, 0, 0, 8, 28, 60, 127, 255, 511]
theorem code_Decode.tab11 : rtab .any (opsOf Try.f17 11) = code_Decode.T11 := by kernel_rfl
theorem code_Decode.bits11 : waitsOk code_Decode.T11.2 code_Decode.B11 = true := by kernel_rfl
def code_Decode.T23 : Bool × List (List Nat × List Nat) := (true, [([], []), ([], []), ([1], [1]), ([2], [2]), ([3], [3]), ([4], [4]), ([0, 0], [0]), ([5, 6, 0, 1, 2, 3, 4, 5, 6], [5])])
def code_Decode.B23 : List Nat := [0, 0, 2, 6, 14, 30, 1, 127]
theorem code_Decode.tab23 : rtab .any (opsOf Try.f17 23) = code_Decode.T23 := by kernel_rfl
theorem code_Decode.bits23 : waitsOk code_Decode.T23.2 code_Decode.B23 = true := by kernel_rfl
set_option maxHeartbeats 80000000 in
theorem code_Decode.calls (k : Nat) (A0 : Option Addr) (c0 : Nat) (l0 : List Int) (r1 : Int) (r2 : Int) (r3 : List (S48)) (r4 : Int) (r5 : Int) (r6 : List (S63)) (r7 : List Int) (r8 : Int) (r9 : Int) (r10 : List (S63)) (r11 : List Int) (r12 : Int) (r13 : Int) (r14 : List (S63)) (r15 : List Int) (r16 : Int) (r17 : Int) (w : World) (hr0 : Kd.C (Kd.int .u8) w A0 l0.length l0) (hc0 : l0.length ≤ c0) (h : code_Decode.f k l0 = some (r1, r2, r3, r4, r5, r6, r7, r8, r9, r10, r11, r12, r13, r14, r15, r16, r17)) :
  Calls Try.prog 17 #[.slice A0 l0.length c0] w fun e w' => ∃ v2_ v5_ v6_ v9_ v10_ v13_ v14_ : Value, e = .returned (.tuple #[.agg #[.int .i64 r1, .int .i64 r2, v2_, .int .i64 r4, .int .i64 r5, v5_, v6_, .int .i64 r8, .int .i64 r9, v9_, v10_, .int .i64 r12, .int .i64 r13, v13_, v14_], .agg #[.int .i64 r16, .int .i64 r17]]) ∧ Kd.R k48 48 w' w.heap.size (fun _ => True) v2_ r3 ∧ Kd.R k63 63 w' w.heap.size (fun k_ => some k_ ≠ (v9_ : Value).ownBlock ∧ some k_ ≠ (v13_ : Value).ownBlock) v5_ r6 ∧ Kd.R (Kd.int .i64) 3 w' w.heap.size (fun k_ => some k_ ≠ (v10_ : Value).ownBlock ∧ some k_ ≠ (v14_ : Value).ownBlock) v6_ r7 ∧ Kd.R k63 63 w' w.heap.size (fun k_ => some k_ ≠ (v5_ : Value).ownBlock ∧ some k_ ≠ (v13_ : Value).ownBlock) v9_ r10 ∧ Kd.R (Kd.int .i64) 3 w' w.heap.size (fun k_ => some k_ ≠ (v6_ : Value).ownBlock ∧ some k_ ≠ (v14_ : Value).ownBlock) v10_ r11 ∧ Kd.R k63 63 w' w.heap.size (fun k_ => some k_ ≠ (v5_ : Value).ownBlock ∧ some k_ ≠ (v9_ : Value).ownBlock) v13_ r14 ∧ Kd.R (Kd.int .i64) 3 w' w.heap.size (fun k_ => some k_ ≠ (v6_ : Value).ownBlock ∧ some k_ ≠ (v10_ : Value).ownBlock) v14_ r15 ∧ Below w.heap.size w w' := by
 have hu70 := Try.underlying70
 have hu28 := Try.underlying28
 have hu43 := Try.underlying43
 have hu48 := Try.underlying48
 have hu26 := Try.underlying26
 have HR0 := aM hr0
 have HC0 := aM hc0
 clear hr0 hc0
 have HB := aM (Below.refl w.heap.size w)
 have H : ((code_newreader.f l0).bind fun bt374 => ((code_marked.f).bind fun q8 => (code_Decode.l0 k l0 q8 (q8.length : Int) 0 bt374.1 bt374.2.1 bt374.2.2))) = some (r1, r2, r3, r4, r5, r6, r7, r8, r9, r10, r11, r12, r13, r14, r15, r16, r17) := h
 clear h
 replace H := zbs H
 obtain ⟨⟨qL, js, jt⟩, A20, H⟩ := H
 replace H : ((code_marked.f).bind fun q8 => (code_Decode.l0 k l0 q8 (q8.length : Int) 0 qL js jt)) = some (r1, r2, r3, r4, r5, r6, r7, r8, r9, r10, r11, r12, r13, r14, r15, r16, r17) := H
 have A2 := aM A20
 clear A20
 replace H := zbs H
 obtain ⟨q8, A30, H⟩ := H
 replace H : (code_Decode.l0 k l0 q8 (q8.length : Int) 0 qL js jt) = some (r1, r2, r3, r4, r5, r6, r7, r8, r9, r10, r11, r12, r13, r14, r15, r16, r17) := H
 have A3 := aM A30
 clear A30
 have H' := aM H
 clear H
 have qCQ : ∀ (g_ : Nat) (W : World), Sem.run Try.prog (Instr.index 58 (.agg #[.pointer (some ⟨g_, 3, none⟩), .pointer (some ⟨g_, 7, none⟩), .pointer (some ⟨g_, 11, none⟩)]) (.int .i64 0)) W = .ok (.pointer (some ⟨g_, 3, none⟩)) W := fun _ _ => by kernel_rfl
 have qCR : ∀ (g_ : Nat) (W : World), Sem.run Try.prog (Instr.index 58 (.agg #[.pointer (some ⟨g_, 3, none⟩), .pointer (some ⟨g_, 7, none⟩), .pointer (some ⟨g_, 11, none⟩)]) (.int .i64 1)) W = .ok (.pointer (some ⟨g_, 7, none⟩)) W := fun _ _ => by kernel_rfl
 have qCS : ∀ (g_ : Nat) (W : World), Sem.run Try.prog (Instr.index 58 (.agg #[.pointer (some ⟨g_, 3, none⟩), .pointer (some ⟨g_, 7, none⟩), .pointer (some ⟨g_, 11, none⟩)]) (.int .i64 2)) W = .ok (.pointer (some ⟨g_, 11, none⟩)) W := fun _ _ => by kernel_rfl
 have kcB := fun (w : World) (C : Array Value) (n c : Nat) => Lib.run_convert_bytes_const (P := Try.prog) w 31 5 C n c Try.underlying31 Try.underlying5
 go_enter Try.func17, Try.ntmps17
 go_wp2_with (first | ((with_reducible refine gate_dst (N := 2) rfl ?_); (try (refine gate_guard (by rfl) ?_; dsimp only)); refine z16_ rfl (N := 2) rfl (cs := #[.int .i64 0, .int .i64 0, .slice none 0 0, .int .i64 0, .int .i64 0, .slice none 0 0, .slice none 0 0, .int .i64 0, .int .i64 0, .slice none 0 0, .slice none 0 0, .int .i64 0, .int .i64 0, .slice none 0 0, .slice none 0 0]) (t := 28) zG ?_; intro qI hg w4 hbox hb; have qB := aM (hbox); have qEt := aM ((by rw [hg]; exact (z4_ (lB HB)) : w.heap.size ≤ qI)); have qEu := aM ((by rw [hg]; exact (z4_ (lB HB)) : w.heap.size ≤ qI)); replace HB := aM (z6_ (lB HB) hb); clear hb hbox hg) | ((with_reducible refine gate_dst (N := 3) rfl ?_); (try (refine gate_guard (by rfl) ?_; dsimp only)); refine z16_ rfl (N := 3) rfl (cs := #[.int .i64 0, .int .i64 0]) (t := 43) zG ?_; intro qS hg w5 hbox hb; have qH := aM (hbox); have qEv := aM ((by rw [hg]; exact (z4_ (zB HB)) : w.heap.size ≤ qS)); have qEw := aM ((by rw [hg]; exact (z4_ (zB HB)) : w.heap.size ≤ qS)); replace HB := aM (z6_ (zB HB) hb); have qF := aM ((by rw [hg]; exact Nat.ne_of_lt (z19_ (g := qI) (lK qB)) : qI ≠ qS)); have qA := aM ((by rw [hg]; exact Nat.ne_of_gt (z19_ (g := qI) (lK qB)) : qS ≠ qI)); replace qB := aM (z5_ (g := qI) (lK qB) hb); clear hb hbox hg) | ((with_reducible refine gate_dst (N := 14) rfl ?_); (try (refine gate_guard (by rfl) ?_; dsimp only)); refine z16_ rfl (N := 14) rfl (cs := #[.slice A0 l0.length c0, .int .i64 0, .bool false]) (t := 70) zG ?_; intro g377 hg w6 hbox hb2; have hi : I7 w w6 g377 qL js jt := code_newreader.is A2.out ⟨A0, c0, hbox, (by rw [hg]; exact z4_ (zB HB)), HR0.out⟩; have hb := z6_ (zB HB) hb2; clear hbox hg; replace HB := aM (hb); have qC := aM (hi); have jB := aM (I7.ne_blk hi (z5_ (g := qI) (lK qB) hb2) (by decide)); have qn := aM (Ne.symm (I7.ne_blk hi (z5_ (g := qI) (lK qB) hb2) (by decide))); replace qB := aM (z5_ (g := qI) (lK qB) hb2); have qw := aM (I7.ne_blk hi (z5_ (g := qS) (lK qH) hb2) (by decide)); have qo := aM (Ne.symm (I7.ne_blk hi (z5_ (g := qS) (lK qH) hb2) (by decide))); replace qH := aM (z5_ (g := qS) (lK qH) hb2); (try clear hb); (try clear hb2); (try clear hi)) | ((with_reducible refine gate_dst (N := 16) rfl ?_); refine code_marked.event (r := q8) rfl A3.out ?hr ?_; (case hr => first | (go_simp; done) | (go_simp; rfl)); rintro e w7 ⟨v379, rfl, ho0, hb⟩; refine ⟨_, rfl, ?_⟩; have yD := aM (Kd.V_lower (Kd.V_mono (ok' := fun k_ => k_ ≠ qI ∧ k_ ≠ qS ∧ k_ ≠ g377) ho0 (fun k_ hk_ => ⟨(Kd.freshB (g := qI) (o := .cells #[.int .i64 0, .int .i64 0, .slice none 0 0, .int .i64 0, .int .i64 0, .slice none 0 0, .slice none 0 0, .int .i64 0, .int .i64 0, .slice none 0 0, .slice none 0 0, .int .i64 0, .int .i64 0, .slice none 0 0, .slice none 0 0] 28 (0, 0)) (lK qB) k_ hk_), (Kd.freshB (g := qS) (o := .cells #[.int .i64 0, .int .i64 0] 43 (0, 0)) (lK qH) k_ hk_), (I7.fresh (zS qC) k_ hk_)⟩)) (z4_ (zB HB))); replace qB := aM (z5_ (g := qI) (lK qB) hb); replace qH := aM (z5_ (g := qS) (lK qH) hb); replace HB := aM (z6_ (zB HB) hb); replace qC := aM (I7.below (zS qC) hb); (try clear hb); (try clear ho0); obtain ⟨Ao8, co8, eo8⟩ := Kd.V_slice yD.out; subst eo8))
 go_loopg [18] k (fun kq v18 w' => ∃ (jA : Int) (jJ : Int) (jK : Bool), v18 = .int .i64 jA ∧ Aside0 (code_Decode.l0 kq l0 q8 (q8.length : Int) jA qL jJ jK = some (r1, r2, r3, r4, r5, r6, r7, r8, r9, r10, r11, r12, r13, r14, r15, r16, r17)) ∧ Aside0 (kq ≤ k) ∧ Aside0 (Kd.V (Kd.int .u8) 5 w' w.heap.size (fun k_ => k_ ≠ qI ∧ k_ ≠ qS ∧ k_ ≠ g377) (.slice Ao8 q8.length co8) q8) ∧ Aside0 (w'.heap[qI]? = some (.cells #[.int .i64 0, .int .i64 0, (.slice none 0 0), .int .i64 0, .int .i64 0, (.slice none 0 0), (.slice none 0 0), .int .i64 0, .int .i64 0, (.slice none 0 0), (.slice none 0 0), .int .i64 0, .int .i64 0, (.slice none 0 0), (.slice none 0 0)] 28 (0, 0))) ∧ Aside0 (w'.heap[qS]? = some (.cells #[.int .i64 0, .int .i64 0] 43 (0, 0))) ∧ Aside0 (I7 w w' g377 qL jJ jK) ∧ Aside0 (Below w.heap.size w w'))
 case atStart => exact ⟨(0), (js), (jt), (by first | rfl | (simp; done) | (simp [*]; done) | (simp [wrap64]; done)), H', ⟨Nat.le_refl _⟩, ⟨by (with_reducible repeat (first | apply Kd.V_alloc | apply Kd.V_drewN | apply Kd.V_drew)); exact yD.out⟩, ⟨zb qB⟩, ⟨zb qH⟩, ⟨zS qC⟩, ⟨zB HB⟩⟩
 case round =>
  clear H'
  obtain ⟨jA, jJ, jK, rfl, HA, HK1, jE, qB, qH, qC, HB⟩ := hrel
  cases gk with
  | zero => exact absurd HA.out (by simp [code_Decode.l0])
  | succ k1 =>
   have H := HA.out
   clear HA
   simp only [code_Decode.l0] at H
   by_cases c9 : jA < (q8.length : Int)
   ·rw [if_pos c9] at H
    have c9b0 := decide_eq_true c9
    clear c9
    by_cases c10 : 0 ≤ jA
    ·rw [if_pos c10] at H
     have c10b0 := decide_eq_true c10
     clear c10
     by_cases c11 : jA < (q8.length : Int)
     ·rw [if_pos c11] at H
      have c11b0 := decide_eq_true c11
      clear c11
      replace H := zbs H
      obtain ⟨⟨yh, jz, j0⟩, A120, H⟩ := H
      replace H : (code_Decode.l0 k1 l0 q8 (q8.length : Int) (wrap64 (jA + 1)) qL jz j0) = some (r1, r2, r3, r4, r5, r6, r7, r8, r9, r10, r11, r12, r13, r14, r15, r16, r17) := H
      have A12 := aM A120
      clear A120
      have H' := aM H
      clear H
      have p381 : 0 ≤ (jA : Int) := of_decide_eq_true za
      have q381 : jA < (q8.length : Int) := of_decide_eq_true za
      obtain ⟨ad381, e381, hx381_0⟩ := Kd.at_int (Kd.V_reads' jE.out).2.2 jA p381 q381
      cases e381
      replace p381 := eq_true p381
      replace q381 := eq_true q381
      go_wp2_with (first | ((with_reducible refine gate_callee (f := 33) rfl ?_); refine z13_ (some 27) rfl rfl Try.func33 zk rfl #[.pointer (some ⟨g377, 0, none⟩), .int .i64 (wrap64 (rd q8 jA)), .int .i64 (wrap64 (rd q8 jA))] rfl zA ?_; (with_reducible refine (cR_within.calls g377 qL jJ jK (wrap64 (rd q8 jA)) (wrap64 (rd q8 jA)) yh jz j0 w _ ?side1 ?side2 A12.out).mono ?_); (case side1 => exact zS qC); (case side2 => exact (zB HB)); rintro e w13 ⟨rfl, hi, hb, hk⟩; refine ⟨_, rfl, ?_⟩; replace jE := aM (Kd.V_mono (Kd.V_keep (Kd.V_mono (ok := fun k_ => (k_ ≠ qI ∧ (k_ ≠ qS ∧ k_ ≠ g377))) (lV jE) (fun k_ hk_ => (⟨hk_, hk_.2.2⟩ : _ ∧ k_ ≠ g377))) hk (fun _ h => h.2)) (fun _ h => h.1)); replace qB := aM (KeepBut.blk hk (g' := qI) (lK qB) qn.out (by simp)); replace qH := aM (KeepBut.blk hk (g' := qS) (lK qH) qo.out (by simp)); replace HB := aM (hb); replace qC := aM (hi); (try clear hb); (try clear hk); (try clear hi)))
      go_roundg k1
      case measure => have := HK1.out; omega
      case rel => exact ⟨(wrap64 (jA + 1)), (jz), (j0), (by first | rfl | (simp; done) | (simp [*]; done) | (simp [wrap64]; done)), H', ⟨by have := HK1.out; omega⟩, ⟨by (with_reducible repeat (first | apply Kd.V_alloc | apply Kd.V_drewN | apply Kd.V_drew)); exact jE.out⟩, ⟨zb qB⟩, ⟨zb qH⟩, ⟨zS qC⟩, ⟨zB HB⟩⟩
     ·rw [if_neg c11] at H
      exact absurd H (by simp)
    ·rw [if_neg c10] at H
     exact absurd H (by simp)
   ·rw [if_neg c9] at H
    have c9b0 := decide_eq_false c9
    clear c9
    replace H := zbs H
    obtain ⟨⟨qk, j1, j2⟩, A140, H⟩ := H
    replace H : ((cR_within.f qL j1 j2 1 8).bind fun bt388 => ((cR_within.f qL bt388.2.1 bt388.2.2 0 255).bind fun bt392 => (code_Decode.l1 k1 l0 bt392.1 0 qL bt392.2.1 bt392.2.2 qk bt388.1 ([] : List (S48)) 0 0 0 0 0 0))) = some (r1, r2, r3, r4, r5, r6, r7, r8, r9, r10, r11, r12, r13, r14, r15, r16, r17) := H
    have A14 := aM A140
    clear A140
    replace H := zbs H
    obtain ⟨⟨qm, ji, jj⟩, A150, H⟩ := H
    replace H : ((cR_within.f qL ji jj 0 255).bind fun bt392 => (code_Decode.l1 k1 l0 bt392.1 0 qL bt392.2.1 bt392.2.2 qk qm ([] : List (S48)) 0 0 0 0 0 0)) = some (r1, r2, r3, r4, r5, r6, r7, r8, r9, r10, r11, r12, r13, r14, r15, r16, r17) := H
    have A15 := aM A150
    clear A150
    replace H := zbs H
    obtain ⟨⟨jU, j3, j4⟩, A160, H⟩ := H
    replace H : (code_Decode.l1 k1 l0 jU 0 qL j3 j4 qk qm ([] : List (S48)) 0 0 0 0 0 0) = some (r1, r2, r3, r4, r5, r6, r7, r8, r9, r10, r11, r12, r13, r14, r15, r16, r17) := H
    have A16 := aM A160
    clear A160
    have H' := aM H
    clear H
    go_wp2_with (first | ((with_reducible refine gate_callee (f := 33) rfl ?_); refine z13_ (some 30) rfl rfl Try.func33 zk rfl #[.pointer (some ⟨g377, 0, none⟩), .int .i64 1, .int .i64 8] rfl zA ?_; (with_reducible refine (cR_within.calls g377 qL jJ jK 1 8 qk j1 j2 w _ ?side1 ?side2 A14.out).mono ?_); (case side1 => exact zS qC); (case side2 => exact (zB HB)); rintro e w17 ⟨rfl, hi, hb, hk⟩; refine ⟨_, rfl, ?_⟩; replace jE := aM (Kd.V_mono (Kd.V_keep (Kd.V_mono (ok := fun k_ => (k_ ≠ qI ∧ (k_ ≠ qS ∧ k_ ≠ g377))) (lV jE) (fun k_ hk_ => (⟨hk_, hk_.2.2⟩ : _ ∧ k_ ≠ g377))) hk (fun _ h => h.2)) (fun _ h => h.1)); replace qB := aM (KeepBut.blk hk (g' := qI) (lK qB) qn.out (by simp)); replace qH := aM (KeepBut.blk hk (g' := qS) (lK qH) qo.out (by simp)); replace HB := aM (hb); replace qC := aM (hi); (try clear hb); (try clear hk); (try clear hi)) | ((with_reducible refine gate_callee (f := 33) rfl ?_); refine z13_ (some 32) rfl rfl Try.func33 zk rfl #[.pointer (some ⟨g377, 0, none⟩), .int .i64 1, .int .i64 8] rfl zA ?_; (with_reducible refine (cR_within.calls g377 qL j1 j2 1 8 qm ji jj w _ ?side1 ?side2 A15.out).mono ?_); (case side1 => exact zS qC); (case side2 => exact (zB HB)); rintro e w18 ⟨rfl, hi, hb, hk⟩; refine ⟨_, rfl, ?_⟩; replace jE := aM (Kd.V_mono (Kd.V_keep (Kd.V_mono (ok := fun k_ => (k_ ≠ qI ∧ (k_ ≠ qS ∧ k_ ≠ g377))) (lV jE) (fun k_ hk_ => (⟨hk_, hk_.2.2⟩ : _ ∧ k_ ≠ g377))) hk (fun _ h => h.2)) (fun _ h => h.1)); replace qB := aM (KeepBut.blk hk (g' := qI) (lK qB) qn.out (by simp)); replace qH := aM (KeepBut.blk hk (g' := qS) (lK qH) qo.out (by simp)); replace HB := aM (hb); replace qC := aM (hi); (try clear hb); (try clear hk); (try clear hi)) | ((with_reducible refine gate_dst (N := 7) rfl ?_); (try (refine gate_guard (by rfl) ?_; dsimp only)); refine z16_ rfl (N := 7) rfl (cs := #[.int .i64 0, .int .i64 0, .slice none 0 0, .int .i64 0, .int .i64 0, .slice none 0 0, .slice none 0 0, .int .i64 0, .int .i64 0, .slice none 0 0, .slice none 0 0, .int .i64 0, .int .i64 0, .slice none 0 0, .slice none 0 0]) (t := 28) zG ?_; intro qT hg w19 hbox hb; replace jE := aM (Kd.V_below (Kd.V_elderB (lV jE) qT (Nat.le_of_eq hg.symm)) hb); have qE := aM (hbox); have qEx := aM ((by rw [hg]; exact (z4_ (zB HB)) : w.heap.size ≤ qT)); have qEy := aM ((by rw [hg]; exact (z4_ (zB HB)) : w.heap.size ≤ qT)); replace HB := aM (z6_ (zB HB) hb); have qJ := aM ((by rw [hg]; exact Nat.ne_of_lt (z19_ (g := qI) (lK qB)) : qI ≠ qT)); have qK := aM ((by rw [hg]; exact Nat.ne_of_gt (z19_ (g := qI) (lK qB)) : qT ≠ qI)); replace qB := aM (z5_ (g := qI) (lK qB) hb); have qx := aM ((by rw [hg]; exact Nat.ne_of_lt (z19_ (g := qS) (lK qH)) : qS ≠ qT)); have qy := aM ((by rw [hg]; exact Nat.ne_of_gt (z19_ (g := qS) (lK qH)) : qT ≠ qS)); replace qH := aM (z5_ (g := qS) (lK qH) hb); have jL := aM ((by rw [hg]; exact Nat.ne_of_lt (I7.lt (show I7 w _ g377 qL ji jj from zS qC)) : g377 ≠ qT)); have ql := aM ((by rw [hg]; exact Nat.ne_of_gt (I7.lt (show I7 w _ g377 qL ji jj from zS qC)) : qT ≠ g377)); replace qC := aM (I7.below (zS qC) hb); clear hb hbox hg; have qEz := qK.out; have qE0 := qJ.out; have qE1 := qy.out; have qE2 := qx.out; have qE3 := ql.out; have qE4 := jL.out; have qCT := zc15 qE.out; have qCU := fun i_ : Nat => z1_ qE.out i_) | ((with_reducible refine gate_callee (f := 33) rfl ?_); refine z13_ (some 35) rfl rfl Try.func33 zk rfl #[.pointer (some ⟨g377, 0, none⟩), .int .i64 0, .int .i64 255] rfl zA ?_; (with_reducible refine (cR_within.calls g377 qL ji jj 0 255 jU j3 j4 w _ ?side1 ?side2 A16.out).mono ?_); (case side1 => exact zS qC); (case side2 => exact (zB HB)); rintro e w24 ⟨rfl, hi, hb, hk⟩; refine ⟨_, rfl, ?_⟩; replace jE := aM (Kd.V_mono (Kd.V_keep (Kd.V_mono (ok := fun k_ => ((k_ ≠ qI ∧ (k_ ≠ qS ∧ k_ ≠ g377)) ∧ k_ ≠ qT)) (by (with_reducible repeat (first | apply Kd.V_alloc | apply Kd.V_drewN | apply Kd.V_drew)); exact (Kd.V_mono (Kd.V_far (p := ⟨qT, 14, none⟩) (Kd.V_far (p := ⟨qT, 13, none⟩) (Kd.V_far (p := ⟨qT, 12, none⟩) (Kd.V_far (p := ⟨qT, 11, none⟩) (Kd.V_far (p := ⟨qT, 10, none⟩) (Kd.V_far (p := ⟨qT, 9, none⟩) (Kd.V_far (p := ⟨qT, 8, none⟩) (Kd.V_far (p := ⟨qT, 7, none⟩) (Kd.V_far (p := ⟨qT, 6, none⟩) (Kd.V_far (p := ⟨qT, 5, none⟩) (Kd.V_far (p := ⟨qT, 4, none⟩) (Kd.V_far (p := ⟨qT, 3, none⟩) (Kd.V_far (p := ⟨qT, 2, none⟩) (Kd.V_far (p := ⟨qT, 1, none⟩) (Kd.V_far (p := ⟨qT, 0, none⟩) (Kd.V_mono jE.out (fun k_ hk => (⟨hk, hk.2⟩ : _ ∧ k_ ≠ qT))) (fun _ hk => hk.2) (.int .i64 qk)) (fun _ hk => hk.2) (.int .i64 qm)) (fun _ hk => hk.2) (.slice none 0 0)) (fun _ hk => hk.2) (.int .i64 0)) (fun _ hk => hk.2) (.int .i64 0)) (fun _ hk => hk.2) (.slice none 0 0)) (fun _ hk => hk.2) (.slice none 0 0)) (fun _ hk => hk.2) (.int .i64 0)) (fun _ hk => hk.2) (.int .i64 0)) (fun _ hk => hk.2) (.slice none 0 0)) (fun _ hk => hk.2) (.slice none 0 0)) (fun _ hk => hk.2) (.int .i64 0)) (fun _ hk => hk.2) (.int .i64 0)) (fun _ hk => hk.2) (.slice none 0 0)) (fun _ hk => hk.2) (.slice none 0 0)) (fun _ h_ => h_.1))) (fun k_ hk_ => (⟨hk_, hk_.1.2.2⟩ : _ ∧ k_ ≠ g377))) hk (fun _ h => h.2)) (fun _ h => h.1)); replace qB := aM (KeepBut.blk hk (g' := qI) (zb qB) qn.out (by simp)); replace qH := aM (KeepBut.blk hk (g' := qS) (zb qH) qo.out (by simp)); replace qE := aM (KeepBut.blk hk (g' := qT) (o := .cells #[.int .i64 qk, .int .i64 qm, .slice none 0 0, .int .i64 0, .int .i64 0, .slice none 0 0, .slice none 0 0, .int .i64 0, .int .i64 0, .slice none 0 0, .slice none 0 0, .int .i64 0, .int .i64 0, .slice none 0 0, .slice none 0 0] 28 (0, 0)) (by refine lZ ?_; apply zp15; refine lZ ?_; exact qE.out) ql.out (by simp)); replace HB := aM (hb); replace qC := aM (hi); (try clear hb); (try clear hk); (try clear hi)))
    go_loopg [36] k1 (fun kq v36 w' => ∃ (jS : Int) (jC : Int) (jD : Bool) (qY : List (S48)) (qi : Value), v36 = .int .i64 jS ∧ Aside0 (code_Decode.l1 kq l0 jU jS qL jC jD qk qm qY 0 0 0 0 0 0 = some (r1, r2, r3, r4, r5, r6, r7, r8, r9, r10, r11, r12, r13, r14, r15, r16, r17)) ∧ Aside0 (kq ≤ k1) ∧ Aside0 (Kd.R k48 48 w' w.heap.size (fun _ => True) qi qY) ∧ Aside0 (w'.heap[qI]? = some (.cells #[.int .i64 0, .int .i64 0, (.slice none 0 0), .int .i64 0, .int .i64 0, (.slice none 0 0), (.slice none 0 0), .int .i64 0, .int .i64 0, (.slice none 0 0), (.slice none 0 0), .int .i64 0, .int .i64 0, (.slice none 0 0), (.slice none 0 0)] 28 (0, 0))) ∧ Aside0 (w'.heap[qS]? = some (.cells #[.int .i64 0, .int .i64 0] 43 (0, 0))) ∧ Aside0 (w'.heap[qT]? = some (.cells #[.int .i64 qk, .int .i64 qm, qi, .int .i64 0, .int .i64 0, (.slice none 0 0), (.slice none 0 0), .int .i64 0, .int .i64 0, (.slice none 0 0), (.slice none 0 0), .int .i64 0, .int .i64 0, (.slice none 0 0), (.slice none 0 0)] 28 (0, 0))) ∧ Aside0 (I7 w w' g377 qL jC jD) ∧ Aside0 (Below w.heap.size w w'))
    case atStart => exact ⟨(0), (j3), (j4), (([] : List (S48))), (.slice none 0 0), (by first | rfl | (simp; done) | (simp [*]; done) | (simp [wrap64]; done)), H', ⟨Nat.le_refl _⟩, ⟨zn⟩, ⟨zb qB⟩, ⟨zb qH⟩, ⟨zb qE⟩, ⟨zS qC⟩, ⟨zB HB⟩⟩
    case round =>
     clear H'
     try clear c9
     obtain ⟨jS, jC, jD, qY, qi, rfl, HA, HK2, qG, qB, qH, qE, qC, HB⟩ := hrel
     cases gk with
     | zero => exact absurd HA.out (by simp [code_Decode.l1])
     | succ k2 =>
      have H := HA.out
      clear HA
      simp only [code_Decode.l1] at H
      by_cases c25 : jS < jU
      ·rw [if_pos c25] at H
       have c25b0 := decide_eq_true c25
       clear c25
       replace H := zbs H
       obtain ⟨⟨jV, ju, jv⟩, A260, H⟩ := H
       replace H : ((cR_signed.f qL ju jv).bind fun bt398 => (if qY.length < 8796093022208 then (code_Decode.l1 k2 l0 jU (wrap64 (jS + 1)) qL bt398.2.1 bt398.2.2 qk qm (qY ++ [(⟨jV, bt398.1⟩ : S48)]) 0 0 0 0 0 0) else (none))) = some (r1, r2, r3, r4, r5, r6, r7, r8, r9, r10, r11, r12, r13, r14, r15, r16, r17) := H
       have A26 := aM A260
       clear A260
       replace H := zbs H
       obtain ⟨⟨je, jk, jl⟩, A270, H⟩ := H
       replace H : (if qY.length < 8796093022208 then (code_Decode.l1 k2 l0 jU (wrap64 (jS + 1)) qL jk jl qk qm (qY ++ [(⟨jV, je⟩ : S48)]) 0 0 0 0 0 0) else (none)) = some (r1, r2, r3, r4, r5, r6, r7, r8, r9, r10, r11, r12, r13, r14, r15, r16, r17) := H
       have A27 := aM A270
       clear A270
       by_cases c28 : qY.length < 8796093022208
       ·rw [if_pos c28] at H
        have LMc28 := aM c28
        clear c28
        obtain ⟨y401, hy401⟩ : ∃ y_ : List (S48), y_ = (qY ++ [(⟨jV, je⟩ : S48)]) := ⟨_, rfl⟩
        replace H : (code_Decode.l1 k2 l0 jU (wrap64 (jS + 1)) qL jk jl qk qm y401 0 0 0 0 0 0) = some (r1, r2, r3, r4, r5, r6, r7, r8, r9, r10, r11, r12, r13, r14, r15, r16, r17) := zH hy401 H
        have Ny401 := aM hy401
        clear hy401
        have H' := aM H
        clear H
        try go_wp2_with (first | ((with_reducible refine gate_callee (f := 34) rfl ?_); refine z13_ (some 39) rfl rfl Try.func34 zk rfl #[.pointer (some ⟨g377, 0, none⟩)] rfl zA ?_; (with_reducible refine (cR_signed.calls g377 qL jC jD jV ju jv w _ ?side1 ?side2 A26.out).mono ?_); (case side1 => exact zS qC); (case side2 => exact (zB HB)); rintro e w29 ⟨rfl, hi, hb, hk⟩; refine ⟨_, rfl, ?_⟩; replace qG := aM (Kd.z0_ (Kd.z22_ (I7.apart (show I7 w _ g377 qL jC jD from zS qC) (lR qG) (by decide)) hk (fun _ h => h.2)) (fun _ h => h.1)); replace qB := aM (KeepBut.blk hk (g' := qI) (lK qB) qn.out (by simp)); replace qH := aM (KeepBut.blk hk (g' := qS) (lK qH) qo.out (by simp)); replace qE := aM (KeepBut.blk hk (g' := qT) (lK qE) ql.out (by simp)); replace HB := aM (hb); replace qC := aM (hi); (try clear hb); (try clear hk); (try clear hi)))
        replace qG := aM (Kd.R_drew qG.out)
        replace qB := aM (blk_drew qB.out)
        replace qH := aM (blk_drew qH.out)
        replace qE := aM (blk_drew qE.out)
        replace qC := aM (I7.drew qC.out)
        replace HB := aM (below_drew1 HB.out)
        refine start_ (n := 10) (S := fun w' => w'.cell? ⟨qT, 0, none⟩ = some (.int .i64 qk) ∧ w'.cell? ⟨qT, 1, none⟩ = some (.int .i64 qm) ∧ w'.cell? ⟨qT, 2, none⟩ = some (qi) ∧ w'.cell? ⟨qT, 3, none⟩ = some (.int .i64 0) ∧ w'.cell? ⟨qT, 4, none⟩ = some (.int .i64 0) ∧ w'.cell? ⟨qT, 5, none⟩ = some (.slice none 0 0) ∧ w'.cell? ⟨qT, 6, none⟩ = some (.slice none 0 0) ∧ w'.cell? ⟨qT, 7, none⟩ = some (.int .i64 0) ∧ w'.cell? ⟨qT, 8, none⟩ = some (.int .i64 0) ∧ w'.cell? ⟨qT, 9, none⟩ = some (.slice none 0 0) ∧ w'.cell? ⟨qT, 10, none⟩ = some (.slice none 0 0) ∧ w'.cell? ⟨qT, 11, none⟩ = some (.int .i64 0) ∧ w'.cell? ⟨qT, 12, none⟩ = some (.int .i64 0) ∧ w'.cell? ⟨qT, 13, none⟩ = some (.slice none 0 0) ∧ w'.cell? ⟨qT, 14, none⟩ = some (.slice none 0 0)) (ds := [9]) (bs 10 0) zk rfl rfl ⟨(z2_ qE.out 0).trans rfl, (z2_ qE.out 1).trans rfl, (z2_ qE.out 2).trans rfl, (z2_ qE.out 3).trans rfl, (z2_ qE.out 4).trans rfl, (z2_ qE.out 5).trans rfl, (z2_ qE.out 6).trans rfl, (z2_ qE.out 7).trans rfl, (z2_ qE.out 8).trans rfl, (z2_ qE.out 9).trans rfl, (z2_ qE.out 10).trans rfl, (z2_ qE.out 11).trans rfl, (z2_ qE.out 12).trans rfl, (z2_ qE.out 13).trans rfl, (z2_ qE.out 14).trans rfl⟩ (fun hHeld => ?_); refine with_tabW code_Decode.tab11 code_Decode.bits11 (fun HT_ HW_ => ?_)
        generalize w29.drew = w30 at qG qB qH qE qC HB hHeld ⊢
        refine pQ 0 40 10 1 ?_
        refine pQ 2 42 10 5 ?_
        refine pQ 3 43 10 13 ?_
        refine take_ (i := 1) (N := some 41) (v := ?_) (a' := ?_) (bs 10 15) rfl rfl (take_ofW HT_.out HW_.out zk) (fun _ _ _ h => h) (Or.inl ⟨by rfl, ?_⟩) hHeld ?_ ?_
        rotate_left
        ·rintro w' ⟨s0, s1, s2, s3, s4, s5, s6, s7, s8, s9, s10, s11, s12, s13, s14⟩
         go_simp
         with_reducible rfl
        rotate_left
        ·simp only [Act.put, List.setIfInBounds_toArray, List.set_cons_zero, List.set_cons_succ, i64_w, i32_w]
         rfl
        refine one_ (i := 4) (N := some 44) (bs 10 31) rfl rfl (one_of HT_.out zk) (by decide) (fun K hK => ?_)
        refine goes_ Try.func34 zk rfl #[.pointer (some ⟨g377, 0, none⟩)] (by rfl) rfl rfl zA ?_
        with_reducible refine (cR_signed.calls g377 qL ju jv je jk jl w _ ?side1 ?side2 A27.out).mono ?_
        (case side1 => exact zS qC)
        (case side2 => exact (zB HB))
        rintro e w31 ⟨rfl, hi, hb, hk⟩
        refine ⟨_, rfl, ?_⟩
        replace qG := aM (Kd.z0_ (Kd.z22_ (I7.apart (show I7 w _ g377 qL ju jv from zS qC) (lR qG) (by decide)) hk (fun _ h => h.2)) (fun _ h => h.1))
        replace qB := aM (KeepBut.blk hk (g' := qI) (lK qB) qn.out (by simp))
        replace qH := aM (KeepBut.blk hk (g' := qS) (lK qH) qo.out (by simp))
        replace qE := aM (KeepBut.blk hk (g' := qT) (lK qE) ql.out (by simp))
        replace HB := aM (hb)
        replace qC := aM (hi)
        (try clear hb)
        (try clear hb2)
        (try clear hk)
        (try clear hi)
        refine hK.out _ _ (zc15 qE.out) (fun hHeld => ?_)
        clear hK K
        refine norm_ (a' := ?_) ?_ ?_
        rotate_left
        ·show Act.put _ (some 44) _ = _
         simp only [Act.put, List.setIfInBounds_toArray, List.set_cons_zero, List.set_cons_succ, i64_w, i32_w]
         rfl
        refine pQ 5 45 10 63 ?_
        refine one_ (i := 6) (N := some 46) (bs 10 127) rfl rfl (one_of HT_.out zk) (by decide) (fun K hK => ?_)
        refine value_ (w1 := ?_) (v := ?_) (by rfl) rfl ?_ ?_
        rotate_left 2
        ·go_simp
         constructor
         ·rfl
         ·rfl
        refine hK.out _ _ ⟨(z2_ (z11_ qE.out _) 0).trans rfl, (z2_ (z11_ qE.out _) 1).trans rfl, (z2_ (z11_ qE.out _) 2).trans rfl, (z2_ (z11_ qE.out _) 3).trans rfl, (z2_ (z11_ qE.out _) 4).trans rfl, (z2_ (z11_ qE.out _) 5).trans rfl, (z2_ (z11_ qE.out _) 6).trans rfl, (z2_ (z11_ qE.out _) 7).trans rfl, (z2_ (z11_ qE.out _) 8).trans rfl, (z2_ (z11_ qE.out _) 9).trans rfl, (z2_ (z11_ qE.out _) 10).trans rfl, (z2_ (z11_ qE.out _) 11).trans rfl, (z2_ (z11_ qE.out _) 12).trans rfl, (z2_ (z11_ qE.out _) 13).trans rfl, (z2_ (z11_ qE.out _) 14).trans rfl⟩ (fun hHeld => ?_)
        clear hK K
        refine norm_ (a' := ?_) ?_ ?_
        rotate_left
        ·show Act.put _ (some 46) _ = _
         simp only [Act.put, List.setIfInBounds_toArray, List.set_cons_zero, List.set_cons_succ, i64_w, i32_w]
         rfl
        refine one_ (i := 7) (N := some 47) (bs 10 255) rfl rfl (one_of HT_.out zk) (by decide) (fun K hK => ?_)
        refine Kd.R_append_step k48 (w0 := w) w.heap.size (by rfl) (.tmp 41) (.tmp 46) 22 48 (.agg #[(.int .i64 0), (.int .i64 0)]) 16 rfl Try.underlying22 info48 rfl (by decide) (by omega) qi qY (⟨jV, je⟩ : S48) [.int .i64 jV, .int .i64 je] (fun _ => True) (fun _ => False) rfl rfl ?aP (fun _ hk => hk.elim) ?aF ?aO ?aB ?aS ?aL ?_
        (case aP => exact k48_mkM _ _ _ (⟨jV, je⟩ : S48))
        (case aB => exact (zB HB))
        (case aF => exact (fun _ _ => trivial))
        (case aO => exact (lR qG))
        (case aS => exact (z4_ (zB HB)))
        (case aL => have := LMc28.out; omega)
        intro v402 w32 ho hb hg hat
        rw [← Ny401.out] at ho
        replace qB := aM (blk_grown (g := qI) (lK qB) hg (Kd.R_ne qG.out qB.out (by decide)))
        replace qH := aM (blk_grown (g := qS) (lK qH) hg (Kd.R_ne qG.out qH.out (by decide)))
        replace qE := aM (blk_grown (g := qT) (lK qE) hg (Kd.R_ne qG.out qE.out (by decide)))
        replace qC := aM (I7.grown (show I7 w _ g377 qL jk jl from zS qC) hg (I7.own_ne qC.out qG.out (by decide)))
        replace HB := aM (hb)
        have yE := aM (ho)
        clear qG
        clear ho hb hg hat
        obtain ⟨yi, yj, eo33⟩ := Kd.R_slice yE.out
        (first | subst eo33 | (injection eo33 with f1_ f2_ f3_; have f4_ := f1_.symm; have f5_ := f3_.symm; clear f1_ f2_ f3_; subst f4_; subst f5_))
        refine hK.out _ _ (zc15 qE.out) (fun hHeld => ?_)
        clear hK K
        refine norm_ (a' := ?_) ?_ ?_
        rotate_left
        ·show Act.put _ (some 47) _ = _
         simp only [Act.put, List.setIfInBounds_toArray, List.set_cons_zero, List.set_cons_succ, i64_w, i32_w]
         rfl
        refine pQ 8 48 10 511 ?_
        refine last_ (i := 9) (N := none) (bs 10 1023) rfl rfl (one_of HT_.out zk) (by decide) (fun K hK => ?_)
        have qGD : w32.cell? ⟨qT, 2, none⟩ = some (qi) := (z2_ qE.out 2).trans rfl
        have qE5 := z1_ qE.out 2
        have qCV := qJ.out
        have qCW := qx.out
        have qCX := qK.out
        have qCY := qy.out
        refine skip_ (w1 := ?_) (by rfl) rfl ?_ ?_
        rotate_left
        ·go_simp
         rfl
        refine hK.out _ _ ?_
        clear hK K
        refine done_ (done_of HT_.out zk) ?_
        try go_wp2
        go_roundg k2
        case measure => have := HK1.out; have := HK2.out; omega
        case rel => exact ⟨(wrap64 (jS + 1)), (jk), (jl), (y401), (.slice yi y401.length yj), (by first | rfl | (simp; done) | (simp [*]; done) | (simp [wrap64]; done)), H', ⟨by have := HK1.out; have := HK2.out; omega⟩, ⟨by apply rX; exact Kd.z0_ (fA (Kd.z3_ yE.out qE.out (by decide))) (fun _ hk => trivial)⟩, ⟨zb qB⟩, ⟨zb qH⟩, ⟨by refine lZ ?_; refine blk_put (cs := #[.int .i64 qk, .int .i64 qm, qi, .int .i64 0, .int .i64 0, .slice none 0 0, .slice none 0 0, .int .i64 0, .int .i64 0, .slice none 0 0, .slice none 0 0, .int .i64 0, .int .i64 0, .slice none 0 0, .slice none 0 0]) ?_ 2 _ rfl; refine lZ ?_; exact qE.out⟩, ⟨zS qC⟩, ⟨zB HB⟩⟩
       ·rw [if_neg c28] at H
        exact absurd H (by simp)
      ·rw [if_neg c25] at H
       have c25b0 := decide_eq_false c25
       clear c25
       replace H := zbs H
       obtain ⟨yL, A350, H⟩ := H
       replace H : (code_Decode.l2 k2 l0 0 qL jC jD qk qm qY 0 0 ([] : List (S63)) ([] : List Int) 0 0 ([] : List (S63)) ([] : List Int) 0 0 ([] : List (S63)) ([] : List Int)) = some (r1, r2, r3, r4, r5, r6, r7, r8, r9, r10, r11, r12, r13, r14, r15, r16, r17) := H
       have A35 := aM A350
       clear A350
       have H' := aM H
       clear H
       go_wp2_with (first | ((with_reducible refine gate_callee (f := 27) rfl ?_); refine z13_ (some 50) rfl rfl Try.func27 zk rfl #[.pointer (some ⟨qT, 0, none⟩)] rfl zA ?_; (with_reducible refine (code_programs.calls 391 yL qT _ A35.out).mono ?_); rintro e w36 ⟨rfl, hb⟩; refine ⟨_, rfl, ?_⟩; replace qG := aM (Kd.z7_ (lR qG) hb); replace qB := aM (z5_ (g := qI) (lK qB) hb); replace qH := aM (z5_ (g := qS) (lK qH) hb); replace qE := aM (z5_ (g := qT) (lK qE) hb); replace HB := aM (z6_ (zB HB) hb); replace qC := aM (I7.below (zS qC) hb); (try clear hb)))
       go_loopg [51] k2 (fun kq v51 w' => ∃ (jT : Int) (q1 : Int) (q2 : Int) (q3 : Int) (q4 : Int) (q5 : Int) (q6 : Int) (qD : Int) (qU : Bool) (qZ : Int) (qV : Int) (qp : List (S63)) (qq : List Int) (qa : Int) (qW : Int) (qr : List (S63)) (qs : List Int) (qb : Int) (qX : Int) (qt : List (S63)) (qu : List Int) (qf : Value) (qc : Value) (qg : Value) (qd : Value) (qh : Value) (qe : Value), v51 = .int .i64 jT ∧ Aside0 (code_Decode.l2 kq l0 jT qL qD qU qk qm qY qZ qV qp qq qa qW qr qs qb qX qt qu = some (r1, r2, r3, r4, r5, r6, r7, r8, r9, r10, r11, r12, r13, r14, r15, r16, r17)) ∧ Aside0 (kq ≤ k2) ∧ Aside0 (Kd.R k48 48 w' w.heap.size (fun _ => True) qi qY) ∧ Aside0 (Kd.R k63 63 w' w.heap.size (fun k_ => some k_ ≠ (qg : Value).ownBlock ∧ some k_ ≠ (qh : Value).ownBlock) qf qp) ∧ Aside0 (Kd.R (Kd.int .i64) 3 w' w.heap.size (fun k_ => some k_ ≠ (qd : Value).ownBlock ∧ some k_ ≠ (qe : Value).ownBlock) qc qq) ∧ Aside0 (Kd.R k63 63 w' w.heap.size (fun k_ => some k_ ≠ (qf : Value).ownBlock ∧ some k_ ≠ (qh : Value).ownBlock) qg qr) ∧ Aside0 (Kd.R (Kd.int .i64) 3 w' w.heap.size (fun k_ => some k_ ≠ (qc : Value).ownBlock ∧ some k_ ≠ (qe : Value).ownBlock) qd qs) ∧ Aside0 (Kd.R k63 63 w' w.heap.size (fun k_ => some k_ ≠ (qf : Value).ownBlock ∧ some k_ ≠ (qg : Value).ownBlock) qh qt) ∧ Aside0 (Kd.R (Kd.int .i64) 3 w' w.heap.size (fun k_ => some k_ ≠ (qc : Value).ownBlock ∧ some k_ ≠ (qd : Value).ownBlock) qe qu) ∧ Aside0 (w'.heap[qI]? = some (.cells #[.int .i64 0, .int .i64 0, (.slice none 0 0), .int .i64 q1, .int .i64 q2, (.slice none 0 0), (.slice none 0 0), .int .i64 q3, .int .i64 q4, (.slice none 0 0), (.slice none 0 0), .int .i64 q5, .int .i64 q6, (.slice none 0 0), (.slice none 0 0)] 28 (0, 0))) ∧ Aside0 (w'.heap[qS]? = some (.cells #[.int .i64 0, .int .i64 0] 43 (0, 0))) ∧ Aside0 (w'.heap[qT]? = some (.cells #[.int .i64 qk, .int .i64 qm, qi, .int .i64 qZ, .int .i64 qV, qf, qc, .int .i64 qa, .int .i64 qW, qg, qd, .int .i64 qb, .int .i64 qX, qh, qe] 28 (0, 0))) ∧ Aside0 (I7 w w' g377 qL qD qU) ∧ Aside0 (Below w.heap.size w w'))
       case atStart => exact ⟨(0), (0), (0), (0), (0), (0), (0), (jC), (jD), (0), (0), (([] : List (S63))), (([] : List Int)), (0), (0), (([] : List (S63))), (([] : List Int)), (0), (0), (([] : List (S63))), (([] : List Int)), (.slice none 0 0), (.slice none 0 0), (.slice none 0 0), (.slice none 0 0), (.slice none 0 0), (.slice none 0 0), (by first | rfl | (simp; done) | (simp [*]; done) | (simp [wrap64]; done)), H', ⟨Nat.le_refl _⟩, ⟨lR qG⟩, ⟨zn⟩, ⟨zn⟩, ⟨zn⟩, ⟨zn⟩, ⟨zn⟩, ⟨zn⟩, ⟨zb qB⟩, ⟨zb qH⟩, ⟨zb qE⟩, ⟨zS qC⟩, ⟨zB HB⟩⟩
       case round =>
        clear H'
        try clear c9
        try clear c25
        obtain ⟨jT, q1, q2, q3, q4, q5, q6, qD, qU, qZ, qV, qp, qq, qa, qW, qr, qs, qb, qX, qt, qu, qf, qc, qg, qd, qh, qe, rfl, HA, HK3, qG, qM, qN, qO, qP, qQ, qR, qB, qH, qE, qC, HB⟩ := hrel
        cases gk with
        | zero => exact absurd HA.out (by simp [code_Decode.l2])
        | succ k3 =>
         have H := HA.out
         clear HA
         simp only [code_Decode.l2] at H
         by_cases c37 : jT < 3
         ·rw [if_pos c37] at H
          have c37b0 := decide_eq_true c37
          clear c37
          by_cases c38 : jT = 0
          ·rw [if_pos c38] at H
           (first | rw [c38] | skip)
           replace H := zbs H
           obtain ⟨⟨jf, jm, jn, jw, j5, j6⟩, A390, H⟩ := H
           replace H : (code_Decode.l2 k3 l0 (0 + 1) qL j5 j6 qk qm qY jf jm jn jw qa qW qr qs qb qX qt qu) = some (r1, r2, r3, r4, r5, r6, r7, r8, r9, r10, r11, r12, r13, r14, r15, r16, r17) := H
           have A39 := aM A390
           clear A390
           have H' := aM H
           clear H
           go_wp2_with (first | ((with_reducible refine gate_callee (f := 35) rfl ?_); refine z13_ (some 56) rfl rfl Try.func35 zk rfl #[.pointer (some ⟨g377, 0, none⟩)] rfl zA ?_; (with_reducible refine (cR_program.calls k3 g377 qL qD qU jf jm jn jw j5 j6 w _ ?side1 ?side2 A39.out).mono ?_); (case side1 => exact zS qC); (case side2 => exact (zB HB)); rintro e w40 ⟨v408, v411, rfl, ho0, ho1, hi, hb, hk⟩; refine ⟨_, rfl, ?_⟩; replace qG := aM (Kd.z0_ (Kd.z22_ (I7.apart (show I7 w _ g377 qL qD qU from zS qC) (lR qG) (by decide)) hk (fun _ h => h.2)) (fun _ h => h.1)); replace qB := aM (KeepBut.blk hk (g' := qI) (lK qB) qn.out (by simp)); replace qH := aM (KeepBut.blk hk (g' := qS) (lK qH) qo.out (by simp)); replace qE := aM (KeepBut.blk hk (g' := qT) (lK qE) ql.out (by simp)); have yF := aM (Kd.z20_ (Kd.z21_ (Kd.z21_ (Kd.z21_ ho0 (Kd.R_lt (lR qM))) (Kd.R_lt (lR qO))) (Kd.R_lt (lR qQ))) (z4_ (zB HB))); replace qM := aM (Kd.z0_ (Kd.R_told (Kd.R_oldK (I7.apart (show I7 w _ g377 qL qD qU from zS qC) (lR qM) (by decide)) hk) (Kd.R_base ho0)) (fun _ h_ => h_.1)); replace qO := aM (Kd.z0_ (Kd.R_told (Kd.R_oldK (I7.apart (show I7 w _ g377 qL qD qU from zS qC) (lR qO) (by decide)) hk) (Kd.R_base ho0)) (fun _ h_ => h_.1)); replace qQ := aM (Kd.z0_ (Kd.R_told (Kd.R_oldK (I7.apart (show I7 w _ g377 qL qD qU from zS qC) (lR qQ) (by decide)) hk) (Kd.R_base ho0)) (fun _ h_ => h_.1)); have yG := aM (Kd.z20_ (Kd.z21_ (Kd.z21_ (Kd.z21_ ho1 (Kd.R_lt (lR qN))) (Kd.R_lt (lR qP))) (Kd.R_lt (lR qR))) (z4_ (zB HB))); replace qN := aM (Kd.z0_ (Kd.R_told (Kd.R_oldK (I7.apart (show I7 w _ g377 qL qD qU from zS qC) (lR qN) (by decide)) hk) (Kd.R_base ho1)) (fun _ h_ => h_.1)); replace qP := aM (Kd.z0_ (Kd.R_told (Kd.R_oldK (I7.apart (show I7 w _ g377 qL qD qU from zS qC) (lR qP) (by decide)) hk) (Kd.R_base ho1)) (fun _ h_ => h_.1)); replace qR := aM (Kd.z0_ (Kd.R_told (Kd.R_oldK (I7.apart (show I7 w _ g377 qL qD qU from zS qC) (lR qR) (by decide)) hk) (Kd.R_base ho1)) (fun _ h_ => h_.1)); replace HB := aM (hb); replace qC := aM (hi); (try clear hb); (try clear hk); (try clear hi); (try clear ho0); (try clear ho1); have qE6 := qK.out; have qE7 := qJ.out; have qE8 := qy.out; have qE9 := qx.out; have qFA := ql.out; have qFB := jL.out; have qCZ := zc15 qE.out; have qCa := fun i_ : Nat => z1_ qE.out i_; obtain ⟨yM, yN, eo45⟩ := Kd.R_slice yF.out; subst eo45; obtain ⟨yk, yl, eo46⟩ := Kd.R_slice yG.out; subst eo46))
           go_roundg k3
           case measure => have := HK1.out; have := HK2.out; have := HK3.out; omega
           case rel => exact ⟨(0 + 1), (q1), (q2), (q3), (q4), (q5), (q6), (j5), (j6), (jf), (jm), (jn), (jw), (qa), (qW), (qr), (qs), (qb), (qX), (qt), (qu), (.slice yM jn.length yN), (.slice yk jw.length yl), (qg), (qd), (qh), (qe), (by first | rfl | (simp; done) | (simp [*]; done) | (simp [wrap64]; done)), H', ⟨by have := HK1.out; have := HK2.out; have := HK3.out; omega⟩, ⟨by apply rX; exact Kd.z0_ (fA (fA (fA (fA (Kd.z3_ qG.out qE.out (by decide)))))) (fun _ hk => trivial)⟩, ⟨by apply rX; exact Kd.z0_ (fA (fA (fA (fA (Kd.z3_ yF.out qE.out (by decide)))))) (fun _ hk => ⟨hk.1.1.2, hk.1.2⟩)⟩, ⟨by apply rX; exact Kd.z0_ (fA (fA (fA (fA (Kd.z3_ yG.out qE.out (by decide)))))) (fun _ hk => ⟨hk.1.1.2, hk.1.2⟩)⟩, ⟨by apply rX; exact Kd.z0_ (fA (fA (fA (fA (Kd.z3_ qO.out qE.out (by decide)))))) (fun _ hk => ⟨hk.1.2, hk.1.1.2⟩)⟩, ⟨by apply rX; exact Kd.z0_ (fA (fA (fA (fA (Kd.z3_ qP.out qE.out (by decide)))))) (fun _ hk => ⟨hk.1.2, hk.1.1.2⟩)⟩, ⟨by apply rX; exact Kd.z0_ (fA (fA (fA (fA (Kd.z3_ qQ.out qE.out (by decide)))))) (fun _ hk => ⟨hk.1.2, hk.1.1.2⟩)⟩, ⟨by apply rX; exact Kd.z0_ (fA (fA (fA (fA (Kd.z3_ qR.out qE.out (by decide)))))) (fun _ hk => ⟨hk.1.2, hk.1.1.2⟩)⟩, ⟨zb qB⟩, ⟨zb qH⟩, ⟨by refine lZ ?_; refine blk_put (cs := #[.int .i64 qk, .int .i64 qm, qi, .int .i64 jf, .int .i64 jm, .slice yM jn.length yN, qc, .int .i64 qa, .int .i64 qW, qg, qd, .int .i64 qb, .int .i64 qX, qh, qe]) ?_ 6 _ rfl; refine lZ ?_; refine blk_put (cs := #[.int .i64 qk, .int .i64 qm, qi, .int .i64 jf, .int .i64 jm, qf, qc, .int .i64 qa, .int .i64 qW, qg, qd, .int .i64 qb, .int .i64 qX, qh, qe]) ?_ 5 _ rfl; refine lZ ?_; refine blk_put (cs := #[.int .i64 qk, .int .i64 qm, qi, .int .i64 jf, .int .i64 qV, qf, qc, .int .i64 qa, .int .i64 qW, qg, qd, .int .i64 qb, .int .i64 qX, qh, qe]) ?_ 4 _ rfl; refine lZ ?_; refine blk_put (cs := #[.int .i64 qk, .int .i64 qm, qi, .int .i64 qZ, .int .i64 qV, qf, qc, .int .i64 qa, .int .i64 qW, qg, qd, .int .i64 qb, .int .i64 qX, qh, qe]) ?_ 3 _ rfl; refine lZ ?_; exact qE.out⟩, ⟨zS qC⟩, ⟨zB HB⟩⟩
          ·rw [if_neg c38] at H
           by_cases c47 : jT = 1
           ·rw [if_pos c47] at H
            (first | rw [c47] | skip)
            replace H := zbs H
            obtain ⟨⟨jg, jo, jp, jx, j7, j8⟩, A480, H⟩ := H
            replace H : (code_Decode.l2 k3 l0 (1 + 1) qL j7 j8 qk qm qY qZ qV qp qq jg jo jp jx qb qX qt qu) = some (r1, r2, r3, r4, r5, r6, r7, r8, r9, r10, r11, r12, r13, r14, r15, r16, r17) := H
            have A48 := aM A480
            clear A480
            have H' := aM H
            clear H
            go_wp2_with (first | ((with_reducible refine gate_callee (f := 35) rfl ?_); refine z13_ (some 56) rfl rfl Try.func35 zk rfl #[.pointer (some ⟨g377, 0, none⟩)] rfl zA ?_; (with_reducible refine (cR_program.calls k3 g377 qL qD qU jg jo jp jx j7 j8 w _ ?side1 ?side2 A48.out).mono ?_); (case side1 => exact zS qC); (case side2 => exact (zB HB)); rintro e w49 ⟨v418, v421, rfl, ho0, ho1, hi, hb, hk⟩; refine ⟨_, rfl, ?_⟩; replace qG := aM (Kd.z0_ (Kd.z22_ (I7.apart (show I7 w _ g377 qL qD qU from zS qC) (lR qG) (by decide)) hk (fun _ h => h.2)) (fun _ h => h.1)); replace qB := aM (KeepBut.blk hk (g' := qI) (lK qB) qn.out (by simp)); replace qH := aM (KeepBut.blk hk (g' := qS) (lK qH) qo.out (by simp)); replace qE := aM (KeepBut.blk hk (g' := qT) (lK qE) ql.out (by simp)); have yH := aM (Kd.z20_ (Kd.z21_ (Kd.z21_ (Kd.z21_ ho0 (Kd.R_lt (lR qM))) (Kd.R_lt (lR qO))) (Kd.R_lt (lR qQ))) (z4_ (zB HB))); replace qM := aM (Kd.z0_ (Kd.R_told (Kd.R_oldK (I7.apart (show I7 w _ g377 qL qD qU from zS qC) (lR qM) (by decide)) hk) (Kd.R_base ho0)) (fun _ h_ => h_.1)); replace qO := aM (Kd.z0_ (Kd.R_told (Kd.R_oldK (I7.apart (show I7 w _ g377 qL qD qU from zS qC) (lR qO) (by decide)) hk) (Kd.R_base ho0)) (fun _ h_ => h_.1)); replace qQ := aM (Kd.z0_ (Kd.R_told (Kd.R_oldK (I7.apart (show I7 w _ g377 qL qD qU from zS qC) (lR qQ) (by decide)) hk) (Kd.R_base ho0)) (fun _ h_ => h_.1)); have yI := aM (Kd.z20_ (Kd.z21_ (Kd.z21_ (Kd.z21_ ho1 (Kd.R_lt (lR qN))) (Kd.R_lt (lR qP))) (Kd.R_lt (lR qR))) (z4_ (zB HB))); replace qN := aM (Kd.z0_ (Kd.R_told (Kd.R_oldK (I7.apart (show I7 w _ g377 qL qD qU from zS qC) (lR qN) (by decide)) hk) (Kd.R_base ho1)) (fun _ h_ => h_.1)); replace qP := aM (Kd.z0_ (Kd.R_told (Kd.R_oldK (I7.apart (show I7 w _ g377 qL qD qU from zS qC) (lR qP) (by decide)) hk) (Kd.R_base ho1)) (fun _ h_ => h_.1)); replace qR := aM (Kd.z0_ (Kd.R_told (Kd.R_oldK (I7.apart (show I7 w _ g377 qL qD qU from zS qC) (lR qR) (by decide)) hk) (Kd.R_base ho1)) (fun _ h_ => h_.1)); replace HB := aM (hb); replace qC := aM (hi); (try clear hb); (try clear hk); (try clear hi); (try clear ho0); (try clear ho1); have qFC := qK.out; have qFD := qJ.out; have qFE := qy.out; have qFF := qx.out; have qFG := ql.out; have qFH := jL.out; have qCb := zc15 qE.out; have qCc := fun i_ : Nat => z1_ qE.out i_; obtain ⟨yO, yP, eo54⟩ := Kd.R_slice yH.out; subst eo54; obtain ⟨ym, yn, eo55⟩ := Kd.R_slice yI.out; subst eo55))
            go_roundg k3
            case measure => have := HK1.out; have := HK2.out; have := HK3.out; omega
            case rel => exact ⟨(1 + 1), (q1), (q2), (q3), (q4), (q5), (q6), (j7), (j8), (qZ), (qV), (qp), (qq), (jg), (jo), (jp), (jx), (qb), (qX), (qt), (qu), (qf), (qc), (.slice yO jp.length yP), (.slice ym jx.length yn), (qh), (qe), (by first | rfl | (simp; done) | (simp [*]; done) | (simp [wrap64]; done)), H', ⟨by have := HK1.out; have := HK2.out; have := HK3.out; omega⟩, ⟨by apply rX; exact Kd.z0_ (fA (fA (fA (fA (Kd.z3_ qG.out qE.out (by decide)))))) (fun _ hk => trivial)⟩, ⟨by apply rX; exact Kd.z0_ (fA (fA (fA (fA (Kd.z3_ qM.out qE.out (by decide)))))) (fun _ hk => ⟨hk.1.2, hk.1.1.2⟩)⟩, ⟨by apply rX; exact Kd.z0_ (fA (fA (fA (fA (Kd.z3_ qN.out qE.out (by decide)))))) (fun _ hk => ⟨hk.1.2, hk.1.1.2⟩)⟩, ⟨by apply rX; exact Kd.z0_ (fA (fA (fA (fA (Kd.z3_ yH.out qE.out (by decide)))))) (fun _ hk => ⟨hk.1.1.1.2, hk.1.2⟩)⟩, ⟨by apply rX; exact Kd.z0_ (fA (fA (fA (fA (Kd.z3_ yI.out qE.out (by decide)))))) (fun _ hk => ⟨hk.1.1.1.2, hk.1.2⟩)⟩, ⟨by apply rX; exact Kd.z0_ (fA (fA (fA (fA (Kd.z3_ qQ.out qE.out (by decide)))))) (fun _ hk => ⟨hk.1.1.1, hk.1.2⟩)⟩, ⟨by apply rX; exact Kd.z0_ (fA (fA (fA (fA (Kd.z3_ qR.out qE.out (by decide)))))) (fun _ hk => ⟨hk.1.1.1, hk.1.2⟩)⟩, ⟨zb qB⟩, ⟨zb qH⟩, ⟨by refine lZ ?_; refine blk_put (cs := #[.int .i64 qk, .int .i64 qm, qi, .int .i64 qZ, .int .i64 qV, qf, qc, .int .i64 jg, .int .i64 jo, .slice yO jp.length yP, qd, .int .i64 qb, .int .i64 qX, qh, qe]) ?_ 10 _ rfl; refine lZ ?_; refine blk_put (cs := #[.int .i64 qk, .int .i64 qm, qi, .int .i64 qZ, .int .i64 qV, qf, qc, .int .i64 jg, .int .i64 jo, qg, qd, .int .i64 qb, .int .i64 qX, qh, qe]) ?_ 9 _ rfl; refine lZ ?_; refine blk_put (cs := #[.int .i64 qk, .int .i64 qm, qi, .int .i64 qZ, .int .i64 qV, qf, qc, .int .i64 jg, .int .i64 qW, qg, qd, .int .i64 qb, .int .i64 qX, qh, qe]) ?_ 8 _ rfl; refine lZ ?_; refine blk_put (cs := #[.int .i64 qk, .int .i64 qm, qi, .int .i64 qZ, .int .i64 qV, qf, qc, .int .i64 qa, .int .i64 qW, qg, qd, .int .i64 qb, .int .i64 qX, qh, qe]) ?_ 7 _ rfl; refine lZ ?_; exact qE.out⟩, ⟨zS qC⟩, ⟨zB HB⟩⟩
           ·rw [if_neg c47] at H
            by_cases c56 : jT = 2
            ·rw [if_pos c56] at H
             (first | rw [c56] | skip)
             replace H := zbs H
             obtain ⟨⟨jh, jq, jr, jy, j9, yA⟩, A570, H⟩ := H
             replace H : (code_Decode.l2 k3 l0 (2 + 1) qL j9 yA qk qm qY qZ qV qp qq qa qW qr qs jh jq jr jy) = some (r1, r2, r3, r4, r5, r6, r7, r8, r9, r10, r11, r12, r13, r14, r15, r16, r17) := H
             have A57 := aM A570
             clear A570
             have H' := aM H
             clear H
             go_wp2_with (first | ((with_reducible refine gate_callee (f := 35) rfl ?_); refine z13_ (some 56) rfl rfl Try.func35 zk rfl #[.pointer (some ⟨g377, 0, none⟩)] rfl zA ?_; (with_reducible refine (cR_program.calls k3 g377 qL qD qU jh jq jr jy j9 yA w _ ?side1 ?side2 A57.out).mono ?_); (case side1 => exact zS qC); (case side2 => exact (zB HB)); rintro e w58 ⟨v428, v431, rfl, ho0, ho1, hi, hb, hk⟩; refine ⟨_, rfl, ?_⟩; replace qG := aM (Kd.z0_ (Kd.z22_ (I7.apart (show I7 w _ g377 qL qD qU from zS qC) (lR qG) (by decide)) hk (fun _ h => h.2)) (fun _ h => h.1)); replace qB := aM (KeepBut.blk hk (g' := qI) (lK qB) qn.out (by simp)); replace qH := aM (KeepBut.blk hk (g' := qS) (lK qH) qo.out (by simp)); replace qE := aM (KeepBut.blk hk (g' := qT) (lK qE) ql.out (by simp)); have yJ := aM (Kd.z20_ (Kd.z21_ (Kd.z21_ (Kd.z21_ ho0 (Kd.R_lt (lR qM))) (Kd.R_lt (lR qO))) (Kd.R_lt (lR qQ))) (z4_ (zB HB))); replace qM := aM (Kd.z0_ (Kd.R_told (Kd.R_oldK (I7.apart (show I7 w _ g377 qL qD qU from zS qC) (lR qM) (by decide)) hk) (Kd.R_base ho0)) (fun _ h_ => h_.1)); replace qO := aM (Kd.z0_ (Kd.R_told (Kd.R_oldK (I7.apart (show I7 w _ g377 qL qD qU from zS qC) (lR qO) (by decide)) hk) (Kd.R_base ho0)) (fun _ h_ => h_.1)); replace qQ := aM (Kd.z0_ (Kd.R_told (Kd.R_oldK (I7.apart (show I7 w _ g377 qL qD qU from zS qC) (lR qQ) (by decide)) hk) (Kd.R_base ho0)) (fun _ h_ => h_.1)); have yK := aM (Kd.z20_ (Kd.z21_ (Kd.z21_ (Kd.z21_ ho1 (Kd.R_lt (lR qN))) (Kd.R_lt (lR qP))) (Kd.R_lt (lR qR))) (z4_ (zB HB))); replace qN := aM (Kd.z0_ (Kd.R_told (Kd.R_oldK (I7.apart (show I7 w _ g377 qL qD qU from zS qC) (lR qN) (by decide)) hk) (Kd.R_base ho1)) (fun _ h_ => h_.1)); replace qP := aM (Kd.z0_ (Kd.R_told (Kd.R_oldK (I7.apart (show I7 w _ g377 qL qD qU from zS qC) (lR qP) (by decide)) hk) (Kd.R_base ho1)) (fun _ h_ => h_.1)); replace qR := aM (Kd.z0_ (Kd.R_told (Kd.R_oldK (I7.apart (show I7 w _ g377 qL qD qU from zS qC) (lR qR) (by decide)) hk) (Kd.R_base ho1)) (fun _ h_ => h_.1)); replace HB := aM (hb); replace qC := aM (hi); (try clear hb); (try clear hk); (try clear hi); (try clear ho0); (try clear ho1); have qFI := qK.out; have qFJ := qJ.out; have qFK := qy.out; have qFL := qx.out; have qFM := ql.out; have qFN := jL.out; have qCd := zc15 qE.out; have qCe := fun i_ : Nat => z1_ qE.out i_; obtain ⟨yQ, yR, eo63⟩ := Kd.R_slice yJ.out; subst eo63; obtain ⟨yo, yp, eo64⟩ := Kd.R_slice yK.out; subst eo64))
             go_roundg k3
             case measure => have := HK1.out; have := HK2.out; have := HK3.out; omega
             case rel => exact ⟨(2 + 1), (q1), (q2), (q3), (q4), (q5), (q6), (j9), (yA), (qZ), (qV), (qp), (qq), (qa), (qW), (qr), (qs), (jh), (jq), (jr), (jy), (qf), (qc), (qg), (qd), (.slice yQ jr.length yR), (.slice yo jy.length yp), (by first | rfl | (simp; done) | (simp [*]; done) | (simp [wrap64]; done)), H', ⟨by have := HK1.out; have := HK2.out; have := HK3.out; omega⟩, ⟨by apply rX; exact Kd.z0_ (fA (fA (fA (fA (Kd.z3_ qG.out qE.out (by decide)))))) (fun _ hk => trivial)⟩, ⟨by apply rX; exact Kd.z0_ (fA (fA (fA (fA (Kd.z3_ qM.out qE.out (by decide)))))) (fun _ hk => ⟨hk.1.1.1, hk.1.2⟩)⟩, ⟨by apply rX; exact Kd.z0_ (fA (fA (fA (fA (Kd.z3_ qN.out qE.out (by decide)))))) (fun _ hk => ⟨hk.1.1.1, hk.1.2⟩)⟩, ⟨by apply rX; exact Kd.z0_ (fA (fA (fA (fA (Kd.z3_ qO.out qE.out (by decide)))))) (fun _ hk => ⟨hk.1.1.1, hk.1.2⟩)⟩, ⟨by apply rX; exact Kd.z0_ (fA (fA (fA (fA (Kd.z3_ qP.out qE.out (by decide)))))) (fun _ hk => ⟨hk.1.1.1, hk.1.2⟩)⟩, ⟨by apply rX; exact Kd.z0_ (fA (fA (fA (fA (Kd.z3_ yJ.out qE.out (by decide)))))) (fun _ hk => ⟨hk.1.1.1.2, hk.1.1.2⟩)⟩, ⟨by apply rX; exact Kd.z0_ (fA (fA (fA (fA (Kd.z3_ yK.out qE.out (by decide)))))) (fun _ hk => ⟨hk.1.1.1.2, hk.1.1.2⟩)⟩, ⟨zb qB⟩, ⟨zb qH⟩, ⟨by refine lZ ?_; refine blk_put (cs := #[.int .i64 qk, .int .i64 qm, qi, .int .i64 qZ, .int .i64 qV, qf, qc, .int .i64 qa, .int .i64 qW, qg, qd, .int .i64 jh, .int .i64 jq, .slice yQ jr.length yR, qe]) ?_ 14 _ rfl; refine lZ ?_; refine blk_put (cs := #[.int .i64 qk, .int .i64 qm, qi, .int .i64 qZ, .int .i64 qV, qf, qc, .int .i64 qa, .int .i64 qW, qg, qd, .int .i64 jh, .int .i64 jq, qh, qe]) ?_ 13 _ rfl; refine lZ ?_; refine blk_put (cs := #[.int .i64 qk, .int .i64 qm, qi, .int .i64 qZ, .int .i64 qV, qf, qc, .int .i64 qa, .int .i64 qW, qg, qd, .int .i64 jh, .int .i64 qX, qh, qe]) ?_ 12 _ rfl; refine lZ ?_; refine blk_put (cs := #[.int .i64 qk, .int .i64 qm, qi, .int .i64 qZ, .int .i64 qV, qf, qc, .int .i64 qa, .int .i64 qW, qg, qd, .int .i64 qb, .int .i64 qX, qh, qe]) ?_ 11 _ rfl; refine lZ ?_; exact qE.out⟩, ⟨zS qC⟩, ⟨zB HB⟩⟩
            ·rw [if_neg c56] at H
             exact absurd H (by simp)
         ·rw [if_neg c37] at H
          have c37b0 := decide_eq_false c37
          clear c37
          by_cases c65 : qU = true
          ·subst c65
           have H1 : (some (0, 0, ([] : List (S48)), 0, 0, ([] : List (S63)), ([] : List Int), 0, 0, ([] : List (S63)), ([] : List Int), 0, 0, ([] : List (S63)), ([] : List Int), 170, qD)) = some (r1, r2, r3, r4, r5, r6, r7, r8, r9, r10, r11, r12, r13, r14, r15, r16, r17) := by rw [if_pos rfl] at H; exact H
           clear H
           have H := H1
           clear H1
           simp only [Option.some.injEq, Prod.mk.injEq] at H
           obtain ⟨rfl, rfl, rfl, rfl, rfl, rfl, rfl, rfl, rfl, rfl, rfl, rfl, rfl, rfl, rfl, rfl, rfl⟩ := H
           obtain ⟨ASz66_0, cSz66_0, HGz66, hgz66, HSz66_0⟩ := qC.out
           have qCf := cellS70_0 HGz66
           have qCg := cellS70_1 HGz66
           have qCh := cellS70_2 HGz66
           have qCi := z1_ HGz66 1
           have qCj := z1_ HGz66 2
           clear HGz66 hgz66
           try go_wp2
           replace qG := aM (Kd.R_drew qG.out)
           replace qM := aM (Kd.R_drew qM.out)
           replace qN := aM (Kd.R_drew qN.out)
           replace qO := aM (Kd.R_drew qO.out)
           replace qP := aM (Kd.R_drew qP.out)
           replace qQ := aM (Kd.R_drew qQ.out)
           replace qR := aM (Kd.R_drew qR.out)
           replace qB := aM (blk_drew qB.out)
           replace qH := aM (blk_drew qH.out)
           replace qE := aM (blk_drew qE.out)
           replace qC := aM (I7.drew qC.out)
           replace HB := aM (below_drew1 HB.out)
           refine start_ (n := 8) (S := fun w' => w'.cell? ⟨g377, 1, none⟩ = some (.int .i64 qD) ∧ w'.cell? ⟨g377, 2, none⟩ = some (.bool true)) (ds := []) (bs 8 0) zk rfl rfl ⟨(by obtain ⟨_, _, hz_, _⟩ := qC.out; exact (z2_ hz_ 1).trans rfl), (by obtain ⟨_, _, hz_, _⟩ := qC.out; exact (z2_ hz_ 2).trans rfl)⟩ (fun hHeld => ?_); refine with_tabW code_Decode.tab23 code_Decode.bits23 (fun HT_ HW_ => ?_)
           generalize wr.drew = w67 at qG qM qN qO qP qQ qR qB qH qE qC HB hHeld ⊢
           refine pQ 0 96 8 1 ?_
           refine pQ 1 97 8 3 ?_
           refine pQ 2 98 8 7 ?_
           refine pQ 3 99 8 15 ?_
           refine take_ (i := 4) (N := some 100) (v := ?_) (a' := ?_) (bs 8 31) rfl rfl (take_ofW HT_.out HW_.out zk) (fun _ _ _ h => h) (Or.inl ⟨by rfl, ?_⟩) hHeld ?_ ?_
           rotate_left
           ·rintro w' ⟨s0, s1⟩
            go_simp
            with_reducible rfl
           rotate_left
           ·simp only [Act.put, List.setIfInBounds_toArray, List.set_cons_zero, List.set_cons_succ, i64_w, i32_w]
            rfl
           refine pQ 5 101 8 63 ?_
           refine one_ (i := 6) (N := none) (bs 8 127) rfl rfl (one_of HT_.out zk) (by decide) (fun K hK => ?_)
           have qGE : w67.cell? ⟨qI, 0, none⟩ = some (.int .i64 0) := (z2_ qB.out 0).trans rfl
           have qFO := z1_ qB.out 0
           have qCk := qA.out
           have qCl := qK.out
           have qCm := qF.out
           have qCn := qJ.out
           have qGF : w67.cell? ⟨qI, 1, none⟩ = some (.int .i64 0) := (z2_ qB.out 1).trans rfl
           have qFP := z1_ qB.out 1
           have qCo := qA.out
           have qCp := qK.out
           have qCq := qF.out
           have qCr := qJ.out
           have qGG : w67.cell? ⟨qI, 2, none⟩ = some (.slice none 0 0) := (z2_ qB.out 2).trans rfl
           have qFQ := z1_ qB.out 2
           have qCs := qA.out
           have qCt := qK.out
           have qCu := qF.out
           have qCv := qJ.out
           have qGH : w67.cell? ⟨qI, 3, none⟩ = some (.int .i64 q1) := (z2_ qB.out 3).trans rfl
           have qFR := z1_ qB.out 3
           have qCw := qA.out
           have qCx := qK.out
           have qCy := qF.out
           have qCz := qJ.out
           have qGI : w67.cell? ⟨qI, 4, none⟩ = some (.int .i64 q2) := (z2_ qB.out 4).trans rfl
           have qFS := z1_ qB.out 4
           have qC0 := qA.out
           have qC1 := qK.out
           have qC2 := qF.out
           have qC3 := qJ.out
           have qGJ : w67.cell? ⟨qI, 5, none⟩ = some (.slice none 0 0) := (z2_ qB.out 5).trans rfl
           have qFT := z1_ qB.out 5
           have qC4 := qA.out
           have qC5 := qK.out
           have qC6 := qF.out
           have qC7 := qJ.out
           have qGK : w67.cell? ⟨qI, 6, none⟩ = some (.slice none 0 0) := (z2_ qB.out 6).trans rfl
           have qFU := z1_ qB.out 6
           have qC8 := qA.out
           have qC9 := qK.out
           have qDA := qF.out
           have qDB := qJ.out
           have qGL : w67.cell? ⟨qI, 7, none⟩ = some (.int .i64 q3) := (z2_ qB.out 7).trans rfl
           have qFV := z1_ qB.out 7
           have qDC := qA.out
           have qDD := qK.out
           have qDE := qF.out
           have qDF := qJ.out
           have qGM : w67.cell? ⟨qI, 8, none⟩ = some (.int .i64 q4) := (z2_ qB.out 8).trans rfl
           have qFW := z1_ qB.out 8
           have qDG := qA.out
           have qDH := qK.out
           have qDI := qF.out
           have qDJ := qJ.out
           have qGN : w67.cell? ⟨qI, 9, none⟩ = some (.slice none 0 0) := (z2_ qB.out 9).trans rfl
           have qFX := z1_ qB.out 9
           have qDK := qA.out
           have qDL := qK.out
           have qDM := qF.out
           have qDN := qJ.out
           have qGO : w67.cell? ⟨qI, 10, none⟩ = some (.slice none 0 0) := (z2_ qB.out 10).trans rfl
           have qFY := z1_ qB.out 10
           have qDO := qA.out
           have qDP := qK.out
           have qDQ := qF.out
           have qDR := qJ.out
           have qGP : w67.cell? ⟨qI, 11, none⟩ = some (.int .i64 q5) := (z2_ qB.out 11).trans rfl
           have qFZ := z1_ qB.out 11
           have qDS := qA.out
           have qDT := qK.out
           have qDU := qF.out
           have qDV := qJ.out
           have qGQ : w67.cell? ⟨qI, 12, none⟩ = some (.int .i64 q6) := (z2_ qB.out 12).trans rfl
           have qFa := z1_ qB.out 12
           have qDW := qA.out
           have qDX := qK.out
           have qDY := qF.out
           have qDZ := qJ.out
           have qGR : w67.cell? ⟨qI, 13, none⟩ = some (.slice none 0 0) := (z2_ qB.out 13).trans rfl
           have qFb := z1_ qB.out 13
           have qDa := qA.out
           have qDb := qK.out
           have qDc := qF.out
           have qDd := qJ.out
           have qGS : w67.cell? ⟨qI, 14, none⟩ = some (.slice none 0 0) := (z2_ qB.out 14).trans rfl
           have qFc := z1_ qB.out 14
           have qDe := qA.out
           have qDf := qK.out
           have qDg := qF.out
           have qDh := qJ.out
           refine skip_ (w1 := ?_) (by rfl) rfl ?_ ?_
           rotate_left
           ·go_simp
            rfl
           refine hK.out _ _ ⟨((zf15 jB.out).trans (hHeld.1)), ((zf15 jB.out).trans (hHeld.2))⟩ (fun hHeld => ?_)
           clear hK K
           refine one_ (i := 7) (N := none) (bs 8 255) rfl rfl (one_of HT_.out zk) (by decide) (fun K hK => ?_)
           have qGT : w67.cell? ⟨qS, 0, none⟩ = some (.int .i64 0) := (z2_ qH.out 0).trans rfl
           have qFd := z1_ qH.out 0
           have qDi := qF.out
           have qDj := qy.out
           have qDk := qA.out
           have qDl := qx.out
           have qGU : w67.cell? ⟨qS, 1, none⟩ = some (.int .i64 0) := (z2_ qH.out 1).trans rfl
           have qFe := z1_ qH.out 1
           have qDm := qF.out
           have qDn := qy.out
           have qDo := qA.out
           have qDp := qx.out
           generalize hW_ : World.setCell _ _ _ = W_
           have hc0_ : W_.cell? ⟨qS, 0, none⟩ = some (.int .i64 0) := by
            subst hW_
            go_simp
           have hf0_ : W_.frozen? ⟨qS, 0, none⟩ = false := by
            subst hW_
            go_simp
           have hc1_ : W_.cell? ⟨qS, 1, none⟩ = some (.int .i64 0) := by
            subst hW_
            go_simp
           have hf1_ : W_.frozen? ⟨qS, 1, none⟩ = false := by
            subst hW_
            go_simp
           refine skip_ (w1 := ?_) (by rfl) rfl ?_ ?_
           rotate_left
           ·go_simp
            rfl
           subst hW_
           refine hK.out _ _ ⟨((z14_ (p := ⟨qS, _, none⟩) qw.out _).trans (((z14_ (p := ⟨qS, _, none⟩) qw.out _).trans (hHeld.1)))), ((z14_ (p := ⟨qS, _, none⟩) qw.out _).trans (((z14_ (p := ⟨qS, _, none⟩) qw.out _).trans (hHeld.2))))⟩ (fun hHeld => ?_)
           clear hK K
           refine done_ (done_of HT_.out zk) ?_
           try go_wp2
           refine bodyPost_ret (results_cc rfl _ _ qI qS 28 43 #[.int .i64 0, .int .i64 0, .slice none 0 0, .int .i64 0, .int .i64 0, .slice none 0 0, .slice none 0 0, .int .i64 0, .int .i64 0, .slice none 0 0, .slice none 0 0, .int .i64 0, .int .i64 0, .slice none 0 0, .slice none 0 0] #[.int .i64 170, .int .i64 qD] (0, 0) (0, 0) _ _ rfl (by refine lZ ?_; refine z18_ ?_ qF.out _; refine lZ ?_; refine z18_ ?_ qF.out _; refine lZ ?_; apply zp15; refine lZ ?_; exact qB.out) Try.underlying28 rfl zk rfl (by refine lZ ?_; refine blk_put (cs := #[.int .i64 170, .int .i64 0]) ?_ 1 _ rfl; refine lZ ?_; refine blk_put (cs := #[.int .i64 0, .int .i64 0]) ?_ 0 _ rfl; refine lZ ?_; refine z18_ ?_ qA.out _; refine lZ ?_; refine z18_ ?_ qA.out _; refine lZ ?_; refine z18_ ?_ qA.out _; refine lZ ?_; refine z18_ ?_ qA.out _; refine lZ ?_; refine z18_ ?_ qA.out _; refine lZ ?_; refine z18_ ?_ qA.out _; refine lZ ?_; refine z18_ ?_ qA.out _; refine lZ ?_; refine z18_ ?_ qA.out _; refine lZ ?_; refine z18_ ?_ qA.out _; refine lZ ?_; refine z18_ ?_ qA.out _; refine lZ ?_; refine z18_ ?_ qA.out _; refine lZ ?_; refine z18_ ?_ qA.out _; refine lZ ?_; refine z18_ ?_ qA.out _; refine lZ ?_; refine z18_ ?_ qA.out _; refine lZ ?_; refine z18_ ?_ qA.out _; refine lZ ?_; exact qH.out) Try.underlying43 rfl zk) rfl ?_
           exact ⟨_, _, _, _, _, _, _, zE, by first | exact Kd.R_nil _ _ _ _ _ | exact Kd.N_nil _ _ _ _ _ | exact Kd.V_nil _ _ _ _ _ | exact Kd.Q_nil _ _ _ _ _ | exact Kd.S_nil _ _ _ _ _, by first | exact Kd.R_nil _ _ _ _ _ | exact Kd.N_nil _ _ _ _ _ | exact Kd.V_nil _ _ _ _ _ | exact Kd.Q_nil _ _ _ _ _ | exact Kd.S_nil _ _ _ _ _, by first | exact Kd.R_nil _ _ _ _ _ | exact Kd.N_nil _ _ _ _ _ | exact Kd.V_nil _ _ _ _ _ | exact Kd.Q_nil _ _ _ _ _ | exact Kd.S_nil _ _ _ _ _, by first | exact Kd.R_nil _ _ _ _ _ | exact Kd.N_nil _ _ _ _ _ | exact Kd.V_nil _ _ _ _ _ | exact Kd.Q_nil _ _ _ _ _ | exact Kd.S_nil _ _ _ _ _, by first | exact Kd.R_nil _ _ _ _ _ | exact Kd.N_nil _ _ _ _ _ | exact Kd.V_nil _ _ _ _ _ | exact Kd.Q_nil _ _ _ _ _ | exact Kd.S_nil _ _ _ _ _, by first | exact Kd.R_nil _ _ _ _ _ | exact Kd.N_nil _ _ _ _ _ | exact Kd.V_nil _ _ _ _ _ | exact Kd.Q_nil _ _ _ _ _ | exact Kd.S_nil _ _ _ _ _, by first | exact Kd.R_nil _ _ _ _ _ | exact Kd.N_nil _ _ _ _ _ | exact Kd.V_nil _ _ _ _ _ | exact Kd.Q_nil _ _ _ _ _ | exact Kd.S_nil _ _ _ _ _, zB HB⟩
          ·replace c65 := Bool.eq_false_iff.mpr c65
           subst c65
           have H1 : (if 0 ≤ qD then (if qD ≤ (l0.length : Int) then ((code_check.f k3 (l0.take (qD : Int).toNat)).bind fun qj => ((cR_within.f qL qD false (qj / 256) (qj / 256)).bind fun bt437 => ((cR_within.f qL bt437.2.1 bt437.2.2 (Go.bits .and .i64 qj 255) (Go.bits .and .i64 qj 255)).bind fun bt440 => (if bt440.2.2 = true then (some (0, 0, ([] : List (S48)), 0, 0, ([] : List (S63)), ([] : List Int), 0, 0, ([] : List (S63)), ([] : List Int), 0, 0, ([] : List (S63)), ([] : List Int), 170, bt440.2.1)) else (if bt440.2.1 < (l0.length : Int) then (some (0, 0, ([] : List (S48)), 0, 0, ([] : List (S63)), ([] : List Int), 0, 0, ([] : List (S63)), ([] : List Int), 0, 0, ([] : List (S63)), ([] : List Int), 170, bt440.2.1)) else (some (qk, qm, qY, qZ, qV, qp, qq, qa, qW, qr, qs, qb, qX, qt, qu, 0, 0))))))) else (none)) else (none)) = some (r1, r2, r3, r4, r5, r6, r7, r8, r9, r10, r11, r12, r13, r14, r15, r16, r17) := by rw [if_neg (show ¬ (false = true) by decide)] at H; exact H
           clear H
           have H := H1
           clear H1
           by_cases c85 : 0 ≤ qD
           ·rw [if_pos c85] at H
            have c85b0 := eq_true c85
            have c85b1 := decide_eq_true c85
            clear c85
            by_cases c86 : qD ≤ (l0.length : Int)
            ·rw [if_pos c86] at H
             have c86b0 := eq_true c86
             have c86b1 := decide_eq_true c86
             clear c86
             replace H := zbs H
             obtain ⟨qj, A870, H⟩ := H
             replace H : ((cR_within.f qL qD false (qj / 256) (qj / 256)).bind fun bt437 => ((cR_within.f qL bt437.2.1 bt437.2.2 (Go.bits .and .i64 qj 255) (Go.bits .and .i64 qj 255)).bind fun bt440 => (if bt440.2.2 = true then (some (0, 0, ([] : List (S48)), 0, 0, ([] : List (S63)), ([] : List Int), 0, 0, ([] : List (S63)), ([] : List Int), 0, 0, ([] : List (S63)), ([] : List Int), 170, bt440.2.1)) else (if bt440.2.1 < (l0.length : Int) then (some (0, 0, ([] : List (S48)), 0, 0, ([] : List (S63)), ([] : List Int), 0, 0, ([] : List (S63)), ([] : List Int), 0, 0, ([] : List (S63)), ([] : List Int), 170, bt440.2.1)) else (some (qk, qm, qY, qZ, qV, qp, qq, qa, qW, qr, qs, qb, qX, qt, qu, 0, 0)))))) = some (r1, r2, r3, r4, r5, r6, r7, r8, r9, r10, r11, r12, r13, r14, r15, r16, r17) := H
             have A87 := aM A870
             clear A870
             replace H := zbs H
             obtain ⟨⟨yB, qz, q0⟩, A880, H⟩ := H
             replace H : ((cR_within.f qL qz q0 (Go.bits .and .i64 qj 255) (Go.bits .and .i64 qj 255)).bind fun bt440 => (if bt440.2.2 = true then (some (0, 0, ([] : List (S48)), 0, 0, ([] : List (S63)), ([] : List Int), 0, 0, ([] : List (S63)), ([] : List Int), 0, 0, ([] : List (S63)), ([] : List Int), 170, bt440.2.1)) else (if bt440.2.1 < (l0.length : Int) then (some (0, 0, ([] : List (S48)), 0, 0, ([] : List (S63)), ([] : List Int), 0, 0, ([] : List (S63)), ([] : List Int), 0, 0, ([] : List (S63)), ([] : List Int), 170, bt440.2.1)) else (some (qk, qm, qY, qZ, qV, qp, qq, qa, qW, qr, qs, qb, qX, qt, qu, 0, 0))))) = some (r1, r2, r3, r4, r5, r6, r7, r8, r9, r10, r11, r12, r13, r14, r15, r16, r17) := H
             have A88 := aM A880
             clear A880
             replace H := zbs H
             obtain ⟨⟨yC, jG, yS⟩, A890, H⟩ := H
             replace H : (if yS = true then (some (0, 0, ([] : List (S48)), 0, 0, ([] : List (S63)), ([] : List Int), 0, 0, ([] : List (S63)), ([] : List Int), 0, 0, ([] : List (S63)), ([] : List Int), 170, jG)) else (if jG < (l0.length : Int) then (some (0, 0, ([] : List (S48)), 0, 0, ([] : List (S63)), ([] : List Int), 0, 0, ([] : List (S63)), ([] : List Int), 0, 0, ([] : List (S63)), ([] : List Int), 170, jG)) else (some (qk, qm, qY, qZ, qV, qp, qq, qa, qW, qr, qs, qb, qX, qt, qu, 0, 0)))) = some (r1, r2, r3, r4, r5, r6, r7, r8, r9, r10, r11, r12, r13, r14, r15, r16, r17) := H
             have A89 := aM A890
             clear A890
             by_cases c90 : yS = true
             ·subst c90
              have H1 : (some (0, 0, ([] : List (S48)), 0, 0, ([] : List (S63)), ([] : List Int), 0, 0, ([] : List (S63)), ([] : List Int), 0, 0, ([] : List (S63)), ([] : List Int), 170, jG)) = some (r1, r2, r3, r4, r5, r6, r7, r8, r9, r10, r11, r12, r13, r14, r15, r16, r17) := by rw [if_pos rfl] at H; exact H
              clear H
              have H := H1
              clear H1
              simp only [Option.some.injEq, Prod.mk.injEq] at H
              obtain ⟨rfl, rfl, rfl, rfl, rfl, rfl, rfl, rfl, rfl, rfl, rfl, rfl, rfl, rfl, rfl, rfl, rfl⟩ := H
              obtain ⟨ASz91_0, cSz91_0, HGz91, hgz91, HSz91_0⟩ := qC.out
              have qDq := cellS70_0 HGz91
              have qDr := cellS70_1 HGz91
              have qDs := cellS70_2 HGz91
              have qDt := z1_ HGz91 1
              have qDu := z1_ HGz91 2
              clear HGz91 hgz91
              obtain ⟨i092, hi092, _, hsz92, _⟩ := info_parts info5
              obtain ⟨hcut92, hA92, hC92⟩ := print_take_of (P := Try.prog) (Value.int .u8) 0 31 5 .i64 Try.underlying31 hi092 hsz92 A0 c0 l0 qD (of_decide_eq_true za) (of_decide_eq_true za) HC0.out
              have jW := aM (Kd.C_of_reads (h1 := fun _ => rfl) (hA92 _ (Kd.reads_of_C HR0.out)))
              have jX := aM hC92
              clear hA92 hC92 hi092 hsz92
              try go_wp2_with (first | ((with_reducible refine gate_callee (f := 29) rfl ?_); refine z13_ (some 70) rfl rfl Try.func29 zk rfl #[.slice A0 (l0.take (qD : Int).toNat).length c0] rfl (by (try simp only [List.map_toArray, List.map_cons, List.map_nil]); first | done | (rw [show (l0.take (qD : Int).toNat).length = qD.toNat from (by rw [List.length_take]; have h_ : (qD : Int) ≤ (l0.length : Int) := of_decide_eq_true za; omega)] <;> rfl) | rfl | (simp only [List.length_drop, List.length_take]; rfl)) ?_; (with_reducible refine (code_check.calls k3 _ _ (l0.take (qD : Int).toNat) qj _ ?side1 ?side2 A87.out).mono ?_); (case side1 => refine lY ?_; exact (Kd.z8_ jW.out HB.out)); (case side2 => exact jX.out); rintro e w' ⟨rfl, ⟨nd, rfl⟩⟩; refine ⟨_, rfl, ?_⟩; (try (rw [drewN_self wr]; generalize hq_ : World.drewN wr _ = wr; have n0_ : Aside0 (Kd.R k48 48 wr w.heap.size (fun _ => True) qi qY) := ⟨by rw [← hq_]; exact (lR qG)⟩; have n1_ : Aside0 (Kd.R k63 63 wr w.heap.size (fun k_ => some k_ ≠ (qg : Value).ownBlock ∧ some k_ ≠ (qh : Value).ownBlock) qf qp) := ⟨by rw [← hq_]; exact (lR qM)⟩; have n2_ : Aside0 (Kd.R (Kd.int .i64) 3 wr w.heap.size (fun k_ => some k_ ≠ (qd : Value).ownBlock ∧ some k_ ≠ (qe : Value).ownBlock) qc qq) := ⟨by rw [← hq_]; exact (lR qN)⟩; have n3_ : Aside0 (Kd.R k63 63 wr w.heap.size (fun k_ => some k_ ≠ (qf : Value).ownBlock ∧ some k_ ≠ (qh : Value).ownBlock) qg qr) := ⟨by rw [← hq_]; exact (lR qO)⟩; have n4_ : Aside0 (Kd.R (Kd.int .i64) 3 wr w.heap.size (fun k_ => some k_ ≠ (qc : Value).ownBlock ∧ some k_ ≠ (qe : Value).ownBlock) qd qs) := ⟨by rw [← hq_]; exact (lR qP)⟩; have n5_ : Aside0 (Kd.R k63 63 wr w.heap.size (fun k_ => some k_ ≠ (qf : Value).ownBlock ∧ some k_ ≠ (qg : Value).ownBlock) qh qt) := ⟨by rw [← hq_]; exact (lR qQ)⟩; have n6_ : Aside0 (Kd.R (Kd.int .i64) 3 wr w.heap.size (fun k_ => some k_ ≠ (qc : Value).ownBlock ∧ some k_ ≠ (qd : Value).ownBlock) qe qu) := ⟨by rw [← hq_]; exact (lR qR)⟩; have n7_ : Aside0 (wr.heap[qI]? = some (.cells #[.int .i64 0, .int .i64 0, .slice none 0 0, .int .i64 q1, .int .i64 q2, .slice none 0 0, .slice none 0 0, .int .i64 q3, .int .i64 q4, .slice none 0 0, .slice none 0 0, .int .i64 q5, .int .i64 q6, .slice none 0 0, .slice none 0 0] 28 (0, 0))) := ⟨by rw [← hq_]; exact (lK qB)⟩; have n8_ : Aside0 (wr.heap[qS]? = some (.cells #[.int .i64 0, .int .i64 0] 43 (0, 0))) := ⟨by rw [← hq_]; exact (lK qH)⟩; have n9_ : Aside0 (wr.heap[qT]? = some (.cells #[.int .i64 qk, .int .i64 qm, qi, .int .i64 qZ, .int .i64 qV, qf, qc, .int .i64 qa, .int .i64 qW, qg, qd, .int .i64 qb, .int .i64 qX, qh, qe] 28 (0, 0))) := ⟨by rw [← hq_]; exact (lK qE)⟩; have n10_ : Aside0 (I7 w wr g377 qL qD false) := ⟨by rw [← hq_]; exact (zS qC)⟩; have n11_ : Aside0 (Below w.heap.size w wr) := ⟨by rw [← hq_]; exact (zB HB)⟩; clear qG qM qN qO qP qQ qR qB qH qE qC HB hq_; have qG := n0_; have qM := n1_; have qN := n2_; have qO := n3_; have qP := n4_; have qQ := n5_; have qR := n6_; have qB := n7_; have qH := n8_; have qE := n9_; have qC := n10_; have HB := n11_; clear n0_ n1_ n2_ n3_ n4_ n5_ n6_ n7_ n8_ n9_ n10_ n11_))) | ((with_reducible refine gate_callee (f := 33) rfl ?_); refine z13_ (some 76) rfl rfl Try.func33 zk rfl #[.pointer (some ⟨g377, 0, none⟩), .int .i64 (qj / 256), .int .i64 (qj / 256)] rfl zA ?_; (with_reducible refine (cR_within.calls g377 qL qD false (qj / 256) (qj / 256) yB qz q0 w _ ?side1 ?side2 A88.out).mono ?_); (case side1 => exact zS qC); (case side2 => exact (zB HB)); rintro e w93 ⟨rfl, hi, hb, hk⟩; refine ⟨_, rfl, ?_⟩; replace qG := aM (Kd.z0_ (Kd.z22_ (I7.apart (show I7 w _ g377 qL qD false from zS qC) (lR qG) (by decide)) hk (fun _ h => h.2)) (fun _ h => h.1)); replace qM := aM (Kd.z0_ (Kd.z22_ (I7.apart (show I7 w _ g377 qL qD false from zS qC) (lR qM) (by decide)) hk (fun _ h => h.2)) (fun _ h => h.1)); replace qN := aM (Kd.z0_ (Kd.z22_ (I7.apart (show I7 w _ g377 qL qD false from zS qC) (lR qN) (by decide)) hk (fun _ h => h.2)) (fun _ h => h.1)); replace qO := aM (Kd.z0_ (Kd.z22_ (I7.apart (show I7 w _ g377 qL qD false from zS qC) (lR qO) (by decide)) hk (fun _ h => h.2)) (fun _ h => h.1)); replace qP := aM (Kd.z0_ (Kd.z22_ (I7.apart (show I7 w _ g377 qL qD false from zS qC) (lR qP) (by decide)) hk (fun _ h => h.2)) (fun _ h => h.1)); replace qQ := aM (Kd.z0_ (Kd.z22_ (I7.apart (show I7 w _ g377 qL qD false from zS qC) (lR qQ) (by decide)) hk (fun _ h => h.2)) (fun _ h => h.1)); replace qR := aM (Kd.z0_ (Kd.z22_ (I7.apart (show I7 w _ g377 qL qD false from zS qC) (lR qR) (by decide)) hk (fun _ h => h.2)) (fun _ h => h.1)); replace qB := aM (KeepBut.blk hk (g' := qI) (lK qB) qn.out (by simp)); replace qH := aM (KeepBut.blk hk (g' := qS) (lK qH) qo.out (by simp)); replace qE := aM (KeepBut.blk hk (g' := qT) (lK qE) ql.out (by simp)); replace HB := aM (hb); replace qC := aM (hi); (try clear hb); (try clear hk); (try clear hi)) | ((with_reducible refine gate_callee (f := 33) rfl ?_); refine z13_ (some 82) rfl rfl Try.func33 zk rfl #[.pointer (some ⟨g377, 0, none⟩), .int .i64 (Go.bits .and .i64 qj 255), .int .i64 (Go.bits .and .i64 qj 255)] rfl zA ?_; (with_reducible refine (cR_within.calls g377 qL qz q0 (Go.bits .and .i64 qj 255) (Go.bits .and .i64 qj 255) yC jG true w _ ?side1 ?side2 A89.out).mono ?_); (case side1 => exact zS qC); (case side2 => exact (zB HB)); rintro e w94 ⟨rfl, hi, hb, hk⟩; refine ⟨_, rfl, ?_⟩; replace qG := aM (Kd.z0_ (Kd.z22_ (I7.apart (show I7 w _ g377 qL qz q0 from zS qC) (lR qG) (by decide)) hk (fun _ h => h.2)) (fun _ h => h.1)); replace qM := aM (Kd.z0_ (Kd.z22_ (I7.apart (show I7 w _ g377 qL qz q0 from zS qC) (lR qM) (by decide)) hk (fun _ h => h.2)) (fun _ h => h.1)); replace qN := aM (Kd.z0_ (Kd.z22_ (I7.apart (show I7 w _ g377 qL qz q0 from zS qC) (lR qN) (by decide)) hk (fun _ h => h.2)) (fun _ h => h.1)); replace qO := aM (Kd.z0_ (Kd.z22_ (I7.apart (show I7 w _ g377 qL qz q0 from zS qC) (lR qO) (by decide)) hk (fun _ h => h.2)) (fun _ h => h.1)); replace qP := aM (Kd.z0_ (Kd.z22_ (I7.apart (show I7 w _ g377 qL qz q0 from zS qC) (lR qP) (by decide)) hk (fun _ h => h.2)) (fun _ h => h.1)); replace qQ := aM (Kd.z0_ (Kd.z22_ (I7.apart (show I7 w _ g377 qL qz q0 from zS qC) (lR qQ) (by decide)) hk (fun _ h => h.2)) (fun _ h => h.1)); replace qR := aM (Kd.z0_ (Kd.z22_ (I7.apart (show I7 w _ g377 qL qz q0 from zS qC) (lR qR) (by decide)) hk (fun _ h => h.2)) (fun _ h => h.1)); replace qB := aM (KeepBut.blk hk (g' := qI) (lK qB) qn.out (by simp)); replace qH := aM (KeepBut.blk hk (g' := qS) (lK qH) qo.out (by simp)); replace qE := aM (KeepBut.blk hk (g' := qT) (lK qE) ql.out (by simp)); replace HB := aM (hb); replace qC := aM (hi); (try clear hb); (try clear hk); (try clear hi); obtain ⟨ASz95_0, cSz95_0, HGz95, hgz95, HSz95_0⟩ := qC.out; have qDv := cellS70_0 HGz95; have qDw := cellS70_1 HGz95; have qDx := cellS70_2 HGz95; have qDy := z1_ HGz95 1; have qDz := z1_ HGz95 2; clear HGz95 hgz95))
              replace qG := aM (Kd.R_drew qG.out)
              replace qM := aM (Kd.R_drew qM.out)
              replace qN := aM (Kd.R_drew qN.out)
              replace qO := aM (Kd.R_drew qO.out)
              replace qP := aM (Kd.R_drew qP.out)
              replace qQ := aM (Kd.R_drew qQ.out)
              replace qR := aM (Kd.R_drew qR.out)
              replace qB := aM (blk_drew qB.out)
              replace qH := aM (blk_drew qH.out)
              replace qE := aM (blk_drew qE.out)
              replace qC := aM (I7.drew qC.out)
              replace HB := aM (below_drew1 HB.out)
              refine start_ (n := 8) (S := fun w' => w'.cell? ⟨g377, 1, none⟩ = some (.int .i64 jG) ∧ w'.cell? ⟨g377, 2, none⟩ = some (.bool true)) (ds := []) (bs 8 0) zk rfl rfl ⟨(by obtain ⟨_, _, hz_, _⟩ := qC.out; exact (z2_ hz_ 1).trans rfl), (by obtain ⟨_, _, hz_, _⟩ := qC.out; exact (z2_ hz_ 2).trans rfl)⟩ (fun hHeld => ?_); refine with_tabW code_Decode.tab23 code_Decode.bits23 (fun HT_ HW_ => ?_)
              generalize w94.drew = w96 at qG qM qN qO qP qQ qR qB qH qE qC HB hHeld ⊢
              refine pQ 0 96 8 1 ?_
              refine pQ 1 97 8 3 ?_
              refine pQ 2 98 8 7 ?_
              refine pQ 3 99 8 15 ?_
              refine take_ (i := 4) (N := some 100) (v := ?_) (a' := ?_) (bs 8 31) rfl rfl (take_ofW HT_.out HW_.out zk) (fun _ _ _ h => h) (Or.inl ⟨by rfl, ?_⟩) hHeld ?_ ?_
              rotate_left
              ·rintro w' ⟨s0, s1⟩
               go_simp
               with_reducible rfl
              rotate_left
              ·simp only [Act.put, List.setIfInBounds_toArray, List.set_cons_zero, List.set_cons_succ, i64_w, i32_w]
               rfl
              refine pQ 5 101 8 63 ?_
              refine one_ (i := 6) (N := none) (bs 8 127) rfl rfl (one_of HT_.out zk) (by decide) (fun K hK => ?_)
              have qGV : w96.cell? ⟨qI, 0, none⟩ = some (.int .i64 0) := (z2_ qB.out 0).trans rfl
              have qFf := z1_ qB.out 0
              have qD0 := qA.out
              have qD1 := qK.out
              have qD2 := qF.out
              have qD3 := qJ.out
              have qGW : w96.cell? ⟨qI, 1, none⟩ = some (.int .i64 0) := (z2_ qB.out 1).trans rfl
              have qFg := z1_ qB.out 1
              have qD4 := qA.out
              have qD5 := qK.out
              have qD6 := qF.out
              have qD7 := qJ.out
              have qGX : w96.cell? ⟨qI, 2, none⟩ = some (.slice none 0 0) := (z2_ qB.out 2).trans rfl
              have qFh := z1_ qB.out 2
              have qD8 := qA.out
              have qD9 := qK.out
              have qEA := qF.out
              have qEB := qJ.out
              have qFi : w96.cell? ⟨qI, 3, none⟩ = some (.int .i64 q1) := (z2_ qB.out 3).trans rfl
              have qEC := z1_ qB.out 3
              have yq := qA.out
              have yr := qK.out
              have ys := qF.out
              have yt := qJ.out
              have qFj : w96.cell? ⟨qI, 4, none⟩ = some (.int .i64 q2) := (z2_ qB.out 4).trans rfl
              have qED := z1_ qB.out 4
              have yu := qA.out
              have yv := qK.out
              have yw := qF.out
              have yx := qJ.out
              have qFk : w96.cell? ⟨qI, 5, none⟩ = some (.slice none 0 0) := (z2_ qB.out 5).trans rfl
              have qEE := z1_ qB.out 5
              have yy := qA.out
              have yz := qK.out
              have qAA := qF.out
              have qAB := qJ.out
              have qFl : w96.cell? ⟨qI, 6, none⟩ = some (.slice none 0 0) := (z2_ qB.out 6).trans rfl
              have qEF := z1_ qB.out 6
              have qAC := qA.out
              have qAD := qK.out
              have qAE := qF.out
              have qAF := qJ.out
              have qFm : w96.cell? ⟨qI, 7, none⟩ = some (.int .i64 q3) := (z2_ qB.out 7).trans rfl
              have qEG := z1_ qB.out 7
              have qAG := qA.out
              have qAH := qK.out
              have qAI := qF.out
              have qAJ := qJ.out
              have qFn : w96.cell? ⟨qI, 8, none⟩ = some (.int .i64 q4) := (z2_ qB.out 8).trans rfl
              have qEH := z1_ qB.out 8
              have qAK := qA.out
              have qAL := qK.out
              have qAM := qF.out
              have qAN := qJ.out
              have qFo : w96.cell? ⟨qI, 9, none⟩ = some (.slice none 0 0) := (z2_ qB.out 9).trans rfl
              have qEI := z1_ qB.out 9
              have qAO := qA.out
              have qAP := qK.out
              have qAQ := qF.out
              have qAR := qJ.out
              have qFp : w96.cell? ⟨qI, 10, none⟩ = some (.slice none 0 0) := (z2_ qB.out 10).trans rfl
              have qEJ := z1_ qB.out 10
              have qAS := qA.out
              have qAT := qK.out
              have qAU := qF.out
              have qAV := qJ.out
              have qFq : w96.cell? ⟨qI, 11, none⟩ = some (.int .i64 q5) := (z2_ qB.out 11).trans rfl
              have qEK := z1_ qB.out 11
              have qAW := qA.out
              have qAX := qK.out
              have qAY := qF.out
              have qAZ := qJ.out
              have qFr : w96.cell? ⟨qI, 12, none⟩ = some (.int .i64 q6) := (z2_ qB.out 12).trans rfl
              have qEL := z1_ qB.out 12
              have qAa := qA.out
              have qAb := qK.out
              have qAc := qF.out
              have qAd := qJ.out
              have qFs : w96.cell? ⟨qI, 13, none⟩ = some (.slice none 0 0) := (z2_ qB.out 13).trans rfl
              have qEM := z1_ qB.out 13
              have qAe := qA.out
              have qAf := qK.out
              have qAg := qF.out
              have qAh := qJ.out
              have qFt : w96.cell? ⟨qI, 14, none⟩ = some (.slice none 0 0) := (z2_ qB.out 14).trans rfl
              have qEN := z1_ qB.out 14
              have qAi := qA.out
              have qAj := qK.out
              have qAk := qF.out
              have qAl := qJ.out
              refine skip_ (w1 := ?_) (by rfl) rfl ?_ ?_
              rotate_left
              ·go_simp
               rfl
              refine hK.out _ _ ⟨((zf15 jB.out).trans (hHeld.1)), ((zf15 jB.out).trans (hHeld.2))⟩ (fun hHeld => ?_)
              clear hK K
              refine one_ (i := 7) (N := none) (bs 8 255) rfl rfl (one_of HT_.out zk) (by decide) (fun K hK => ?_)
              have qFu : w96.cell? ⟨qS, 0, none⟩ = some (.int .i64 0) := (z2_ qH.out 0).trans rfl
              have qEO := z1_ qH.out 0
              have qAm := qF.out
              have qAn := qy.out
              have qAo := qA.out
              have qAp := qx.out
              have qFv : w96.cell? ⟨qS, 1, none⟩ = some (.int .i64 0) := (z2_ qH.out 1).trans rfl
              have qEP := z1_ qH.out 1
              have qAq := qF.out
              have qAr := qy.out
              have qAs := qA.out
              have qAt := qx.out
              generalize hW_ : World.setCell _ _ _ = W_
              have hc0_ : W_.cell? ⟨qS, 0, none⟩ = some (.int .i64 0) := by
               subst hW_
               go_simp
              have hf0_ : W_.frozen? ⟨qS, 0, none⟩ = false := by
               subst hW_
               go_simp
              have hc1_ : W_.cell? ⟨qS, 1, none⟩ = some (.int .i64 0) := by
               subst hW_
               go_simp
              have hf1_ : W_.frozen? ⟨qS, 1, none⟩ = false := by
               subst hW_
               go_simp
              refine skip_ (w1 := ?_) (by rfl) rfl ?_ ?_
              rotate_left
              ·go_simp
               rfl
              subst hW_
              refine hK.out _ _ ⟨((z14_ (p := ⟨qS, _, none⟩) qw.out _).trans (((z14_ (p := ⟨qS, _, none⟩) qw.out _).trans (hHeld.1)))), ((z14_ (p := ⟨qS, _, none⟩) qw.out _).trans (((z14_ (p := ⟨qS, _, none⟩) qw.out _).trans (hHeld.2))))⟩ (fun hHeld => ?_)
              clear hK K
              refine done_ (done_of HT_.out zk) ?_
              try go_wp2
              refine bodyPost_ret (results_cc rfl _ _ qI qS 28 43 #[.int .i64 0, .int .i64 0, .slice none 0 0, .int .i64 0, .int .i64 0, .slice none 0 0, .slice none 0 0, .int .i64 0, .int .i64 0, .slice none 0 0, .slice none 0 0, .int .i64 0, .int .i64 0, .slice none 0 0, .slice none 0 0] #[.int .i64 170, .int .i64 jG] (0, 0) (0, 0) _ _ rfl (by refine lZ ?_; refine z18_ ?_ qF.out _; refine lZ ?_; refine z18_ ?_ qF.out _; refine lZ ?_; apply zp15; refine lZ ?_; exact qB.out) Try.underlying28 rfl zk rfl (by refine lZ ?_; refine blk_put (cs := #[.int .i64 170, .int .i64 0]) ?_ 1 _ rfl; refine lZ ?_; refine blk_put (cs := #[.int .i64 0, .int .i64 0]) ?_ 0 _ rfl; refine lZ ?_; refine z18_ ?_ qA.out _; refine lZ ?_; refine z18_ ?_ qA.out _; refine lZ ?_; refine z18_ ?_ qA.out _; refine lZ ?_; refine z18_ ?_ qA.out _; refine lZ ?_; refine z18_ ?_ qA.out _; refine lZ ?_; refine z18_ ?_ qA.out _; refine lZ ?_; refine z18_ ?_ qA.out _; refine lZ ?_; refine z18_ ?_ qA.out _; refine lZ ?_; refine z18_ ?_ qA.out _; refine lZ ?_; refine z18_ ?_ qA.out _; refine lZ ?_; refine z18_ ?_ qA.out _; refine lZ ?_; refine z18_ ?_ qA.out _; refine lZ ?_; refine z18_ ?_ qA.out _; refine lZ ?_; refine z18_ ?_ qA.out _; refine lZ ?_; refine z18_ ?_ qA.out _; refine lZ ?_; exact qH.out) Try.underlying43 rfl zk) rfl ?_
              exact ⟨_, _, _, _, _, _, _, zE, by first | exact Kd.R_nil _ _ _ _ _ | exact Kd.N_nil _ _ _ _ _ | exact Kd.V_nil _ _ _ _ _ | exact Kd.Q_nil _ _ _ _ _ | exact Kd.S_nil _ _ _ _ _, by first | exact Kd.R_nil _ _ _ _ _ | exact Kd.N_nil _ _ _ _ _ | exact Kd.V_nil _ _ _ _ _ | exact Kd.Q_nil _ _ _ _ _ | exact Kd.S_nil _ _ _ _ _, by first | exact Kd.R_nil _ _ _ _ _ | exact Kd.N_nil _ _ _ _ _ | exact Kd.V_nil _ _ _ _ _ | exact Kd.Q_nil _ _ _ _ _ | exact Kd.S_nil _ _ _ _ _, by first | exact Kd.R_nil _ _ _ _ _ | exact Kd.N_nil _ _ _ _ _ | exact Kd.V_nil _ _ _ _ _ | exact Kd.Q_nil _ _ _ _ _ | exact Kd.S_nil _ _ _ _ _, by first | exact Kd.R_nil _ _ _ _ _ | exact Kd.N_nil _ _ _ _ _ | exact Kd.V_nil _ _ _ _ _ | exact Kd.Q_nil _ _ _ _ _ | exact Kd.S_nil _ _ _ _ _, by first | exact Kd.R_nil _ _ _ _ _ | exact Kd.N_nil _ _ _ _ _ | exact Kd.V_nil _ _ _ _ _ | exact Kd.Q_nil _ _ _ _ _ | exact Kd.S_nil _ _ _ _ _, by first | exact Kd.R_nil _ _ _ _ _ | exact Kd.N_nil _ _ _ _ _ | exact Kd.V_nil _ _ _ _ _ | exact Kd.Q_nil _ _ _ _ _ | exact Kd.S_nil _ _ _ _ _, zB HB⟩
             ·replace c90 := Bool.eq_false_iff.mpr c90
              subst c90
              have H1 : (if jG < (l0.length : Int) then (some (0, 0, ([] : List (S48)), 0, 0, ([] : List (S63)), ([] : List Int), 0, 0, ([] : List (S63)), ([] : List Int), 0, 0, ([] : List (S63)), ([] : List Int), 170, jG)) else (some (qk, qm, qY, qZ, qV, qp, qq, qa, qW, qr, qs, qb, qX, qt, qu, 0, 0))) = some (r1, r2, r3, r4, r5, r6, r7, r8, r9, r10, r11, r12, r13, r14, r15, r16, r17) := by rw [if_neg (show ¬ (false = true) by decide)] at H; exact H
              clear H
              have H := H1
              clear H1
              by_cases c114 : jG < (l0.length : Int)
              ·rw [if_pos c114] at H
               have c114b0 := decide_eq_true c114
               clear c114
               simp only [Option.some.injEq, Prod.mk.injEq] at H
               obtain ⟨rfl, rfl, rfl, rfl, rfl, rfl, rfl, rfl, rfl, rfl, rfl, rfl, rfl, rfl, rfl, rfl, rfl⟩ := H
               obtain ⟨ASz115_0, cSz115_0, HGz115, hgz115, HSz115_0⟩ := qC.out
               have qAu := cellS70_0 HGz115
               have qAv := cellS70_1 HGz115
               have qAw := cellS70_2 HGz115
               have qAx := z1_ HGz115 1
               have qAy := z1_ HGz115 2
               clear HGz115 hgz115
               obtain ⟨i0116, hi0116, _, hsz116, _⟩ := info_parts info5
               obtain ⟨hcut116, hA116, hC116⟩ := print_take_of (P := Try.prog) (Value.int .u8) 0 31 5 .i64 Try.underlying31 hi0116 hsz116 A0 c0 l0 qD (of_decide_eq_true za) (of_decide_eq_true za) HC0.out
               have jW := aM (Kd.C_of_reads (h1 := fun _ => rfl) (hA116 _ (Kd.reads_of_C HR0.out)))
               have jX := aM hC116
               clear hA116 hC116 hi0116 hsz116
               try go_wp2_with (first | ((with_reducible refine gate_callee (f := 29) rfl ?_); refine z13_ (some 70) rfl rfl Try.func29 zk rfl #[.slice A0 (l0.take (qD : Int).toNat).length c0] rfl (by (try simp only [List.map_toArray, List.map_cons, List.map_nil]); first | done | (rw [show (l0.take (qD : Int).toNat).length = qD.toNat from (by rw [List.length_take]; have h_ : (qD : Int) ≤ (l0.length : Int) := of_decide_eq_true za; omega)] <;> rfl) | rfl | (simp only [List.length_drop, List.length_take]; rfl)) ?_; (with_reducible refine (code_check.calls k3 _ _ (l0.take (qD : Int).toNat) qj _ ?side1 ?side2 A87.out).mono ?_); (case side1 => refine lY ?_; exact (Kd.z8_ jW.out HB.out)); (case side2 => exact jX.out); rintro e w' ⟨rfl, ⟨nd, rfl⟩⟩; refine ⟨_, rfl, ?_⟩; (try (rw [drewN_self wr]; generalize hq_ : World.drewN wr _ = wr; have n0_ : Aside0 (Kd.R k48 48 wr w.heap.size (fun _ => True) qi qY) := ⟨by rw [← hq_]; exact (lR qG)⟩; have n1_ : Aside0 (Kd.R k63 63 wr w.heap.size (fun k_ => some k_ ≠ (qg : Value).ownBlock ∧ some k_ ≠ (qh : Value).ownBlock) qf qp) := ⟨by rw [← hq_]; exact (lR qM)⟩; have n2_ : Aside0 (Kd.R (Kd.int .i64) 3 wr w.heap.size (fun k_ => some k_ ≠ (qd : Value).ownBlock ∧ some k_ ≠ (qe : Value).ownBlock) qc qq) := ⟨by rw [← hq_]; exact (lR qN)⟩; have n3_ : Aside0 (Kd.R k63 63 wr w.heap.size (fun k_ => some k_ ≠ (qf : Value).ownBlock ∧ some k_ ≠ (qh : Value).ownBlock) qg qr) := ⟨by rw [← hq_]; exact (lR qO)⟩; have n4_ : Aside0 (Kd.R (Kd.int .i64) 3 wr w.heap.size (fun k_ => some k_ ≠ (qc : Value).ownBlock ∧ some k_ ≠ (qe : Value).ownBlock) qd qs) := ⟨by rw [← hq_]; exact (lR qP)⟩; have n5_ : Aside0 (Kd.R k63 63 wr w.heap.size (fun k_ => some k_ ≠ (qf : Value).ownBlock ∧ some k_ ≠ (qg : Value).ownBlock) qh qt) := ⟨by rw [← hq_]; exact (lR qQ)⟩; have n6_ : Aside0 (Kd.R (Kd.int .i64) 3 wr w.heap.size (fun k_ => some k_ ≠ (qc : Value).ownBlock ∧ some k_ ≠ (qd : Value).ownBlock) qe qu) := ⟨by rw [← hq_]; exact (lR qR)⟩; have n7_ : Aside0 (wr.heap[qI]? = some (.cells #[.int .i64 0, .int .i64 0, .slice none 0 0, .int .i64 q1, .int .i64 q2, .slice none 0 0, .slice none 0 0, .int .i64 q3, .int .i64 q4, .slice none 0 0, .slice none 0 0, .int .i64 q5, .int .i64 q6, .slice none 0 0, .slice none 0 0] 28 (0, 0))) := ⟨by rw [← hq_]; exact (lK qB)⟩; have n8_ : Aside0 (wr.heap[qS]? = some (.cells #[.int .i64 0, .int .i64 0] 43 (0, 0))) := ⟨by rw [← hq_]; exact (lK qH)⟩; have n9_ : Aside0 (wr.heap[qT]? = some (.cells #[.int .i64 qk, .int .i64 qm, qi, .int .i64 qZ, .int .i64 qV, qf, qc, .int .i64 qa, .int .i64 qW, qg, qd, .int .i64 qb, .int .i64 qX, qh, qe] 28 (0, 0))) := ⟨by rw [← hq_]; exact (lK qE)⟩; have n10_ : Aside0 (I7 w wr g377 qL qD false) := ⟨by rw [← hq_]; exact (zS qC)⟩; have n11_ : Aside0 (Below w.heap.size w wr) := ⟨by rw [← hq_]; exact (zB HB)⟩; clear qG qM qN qO qP qQ qR qB qH qE qC HB hq_; have qG := n0_; have qM := n1_; have qN := n2_; have qO := n3_; have qP := n4_; have qQ := n5_; have qR := n6_; have qB := n7_; have qH := n8_; have qE := n9_; have qC := n10_; have HB := n11_; clear n0_ n1_ n2_ n3_ n4_ n5_ n6_ n7_ n8_ n9_ n10_ n11_))) | ((with_reducible refine gate_callee (f := 33) rfl ?_); refine z13_ (some 76) rfl rfl Try.func33 zk rfl #[.pointer (some ⟨g377, 0, none⟩), .int .i64 (qj / 256), .int .i64 (qj / 256)] rfl zA ?_; (with_reducible refine (cR_within.calls g377 qL qD false (qj / 256) (qj / 256) yB qz q0 w _ ?side1 ?side2 A88.out).mono ?_); (case side1 => exact zS qC); (case side2 => exact (zB HB)); rintro e w117 ⟨rfl, hi, hb, hk⟩; refine ⟨_, rfl, ?_⟩; replace qG := aM (Kd.z0_ (Kd.z22_ (I7.apart (show I7 w _ g377 qL qD false from zS qC) (lR qG) (by decide)) hk (fun _ h => h.2)) (fun _ h => h.1)); replace qM := aM (Kd.z0_ (Kd.z22_ (I7.apart (show I7 w _ g377 qL qD false from zS qC) (lR qM) (by decide)) hk (fun _ h => h.2)) (fun _ h => h.1)); replace qN := aM (Kd.z0_ (Kd.z22_ (I7.apart (show I7 w _ g377 qL qD false from zS qC) (lR qN) (by decide)) hk (fun _ h => h.2)) (fun _ h => h.1)); replace qO := aM (Kd.z0_ (Kd.z22_ (I7.apart (show I7 w _ g377 qL qD false from zS qC) (lR qO) (by decide)) hk (fun _ h => h.2)) (fun _ h => h.1)); replace qP := aM (Kd.z0_ (Kd.z22_ (I7.apart (show I7 w _ g377 qL qD false from zS qC) (lR qP) (by decide)) hk (fun _ h => h.2)) (fun _ h => h.1)); replace qQ := aM (Kd.z0_ (Kd.z22_ (I7.apart (show I7 w _ g377 qL qD false from zS qC) (lR qQ) (by decide)) hk (fun _ h => h.2)) (fun _ h => h.1)); replace qR := aM (Kd.z0_ (Kd.z22_ (I7.apart (show I7 w _ g377 qL qD false from zS qC) (lR qR) (by decide)) hk (fun _ h => h.2)) (fun _ h => h.1)); replace qB := aM (KeepBut.blk hk (g' := qI) (lK qB) qn.out (by simp)); replace qH := aM (KeepBut.blk hk (g' := qS) (lK qH) qo.out (by simp)); replace qE := aM (KeepBut.blk hk (g' := qT) (lK qE) ql.out (by simp)); replace HB := aM (hb); replace qC := aM (hi); (try clear hb); (try clear hk); (try clear hi)) | ((with_reducible refine gate_callee (f := 33) rfl ?_); refine z13_ (some 82) rfl rfl Try.func33 zk rfl #[.pointer (some ⟨g377, 0, none⟩), .int .i64 (Go.bits .and .i64 qj 255), .int .i64 (Go.bits .and .i64 qj 255)] rfl zA ?_; (with_reducible refine (cR_within.calls g377 qL qz q0 (Go.bits .and .i64 qj 255) (Go.bits .and .i64 qj 255) yC jG false w _ ?side1 ?side2 A89.out).mono ?_); (case side1 => exact zS qC); (case side2 => exact (zB HB)); rintro e w118 ⟨rfl, hi, hb, hk⟩; refine ⟨_, rfl, ?_⟩; replace qG := aM (Kd.z0_ (Kd.z22_ (I7.apart (show I7 w _ g377 qL qz q0 from zS qC) (lR qG) (by decide)) hk (fun _ h => h.2)) (fun _ h => h.1)); replace qM := aM (Kd.z0_ (Kd.z22_ (I7.apart (show I7 w _ g377 qL qz q0 from zS qC) (lR qM) (by decide)) hk (fun _ h => h.2)) (fun _ h => h.1)); replace qN := aM (Kd.z0_ (Kd.z22_ (I7.apart (show I7 w _ g377 qL qz q0 from zS qC) (lR qN) (by decide)) hk (fun _ h => h.2)) (fun _ h => h.1)); replace qO := aM (Kd.z0_ (Kd.z22_ (I7.apart (show I7 w _ g377 qL qz q0 from zS qC) (lR qO) (by decide)) hk (fun _ h => h.2)) (fun _ h => h.1)); replace qP := aM (Kd.z0_ (Kd.z22_ (I7.apart (show I7 w _ g377 qL qz q0 from zS qC) (lR qP) (by decide)) hk (fun _ h => h.2)) (fun _ h => h.1)); replace qQ := aM (Kd.z0_ (Kd.z22_ (I7.apart (show I7 w _ g377 qL qz q0 from zS qC) (lR qQ) (by decide)) hk (fun _ h => h.2)) (fun _ h => h.1)); replace qR := aM (Kd.z0_ (Kd.z22_ (I7.apart (show I7 w _ g377 qL qz q0 from zS qC) (lR qR) (by decide)) hk (fun _ h => h.2)) (fun _ h => h.1)); replace qB := aM (KeepBut.blk hk (g' := qI) (lK qB) qn.out (by simp)); replace qH := aM (KeepBut.blk hk (g' := qS) (lK qH) qo.out (by simp)); replace qE := aM (KeepBut.blk hk (g' := qT) (lK qE) ql.out (by simp)); replace HB := aM (hb); replace qC := aM (hi); (try clear hb); (try clear hk); (try clear hi); obtain ⟨ASz119_0, cSz119_0, HGz119, hgz119, HSz119_0⟩ := qC.out; have qAz := cellS70_0 HGz119; have qA0 := cellS70_1 HGz119; have qA1 := cellS70_2 HGz119; have qA2 := z1_ HGz119 1; have qA3 := z1_ HGz119 2; clear HGz119 hgz119))
               replace qG := aM (Kd.R_drew qG.out)
               replace qM := aM (Kd.R_drew qM.out)
               replace qN := aM (Kd.R_drew qN.out)
               replace qO := aM (Kd.R_drew qO.out)
               replace qP := aM (Kd.R_drew qP.out)
               replace qQ := aM (Kd.R_drew qQ.out)
               replace qR := aM (Kd.R_drew qR.out)
               replace qB := aM (blk_drew qB.out)
               replace qH := aM (blk_drew qH.out)
               replace qE := aM (blk_drew qE.out)
               replace qC := aM (I7.drew qC.out)
               replace HB := aM (below_drew1 HB.out)
               refine start_ (n := 8) (S := fun w' => w'.cell? ⟨g377, 1, none⟩ = some (.int .i64 jG) ∧ w'.cell? ⟨g377, 2, none⟩ = some (.bool false)) (ds := []) (bs 8 0) zk rfl rfl ⟨(by obtain ⟨_, _, hz_, _⟩ := qC.out; exact (z2_ hz_ 1).trans rfl), (by obtain ⟨_, _, hz_, _⟩ := qC.out; exact (z2_ hz_ 2).trans rfl)⟩ (fun hHeld => ?_); refine with_tabW code_Decode.tab23 code_Decode.bits23 (fun HT_ HW_ => ?_)
               generalize w118.drew = w120 at qG qM qN qO qP qQ qR qB qH qE qC HB hHeld ⊢
               refine pQ 0 96 8 1 ?_
               refine pQ 1 97 8 3 ?_
               refine pQ 2 98 8 7 ?_
               refine pQ 3 99 8 15 ?_
               refine take_ (i := 4) (N := some 100) (v := ?_) (a' := ?_) (bs 8 31) rfl rfl (take_ofW HT_.out HW_.out zk) (fun _ _ _ h => h) (Or.inl ⟨by rfl, ?_⟩) hHeld ?_ ?_
               rotate_left
               ·rintro w' ⟨s0, s1⟩
                go_simp
                with_reducible rfl
               rotate_left
               ·simp only [Act.put, List.setIfInBounds_toArray, List.set_cons_zero, List.set_cons_succ, i64_w, i32_w]
                rfl
               refine pQ 5 101 8 63 ?_
               refine one_ (i := 6) (N := none) (bs 8 127) rfl rfl (one_of HT_.out zk) (by decide) (fun K hK => ?_)
               have qFw : w120.cell? ⟨qI, 0, none⟩ = some (.int .i64 0) := (z2_ qB.out 0).trans rfl
               have qEQ := z1_ qB.out 0
               have qA4 := qA.out
               have qA5 := qK.out
               have qA6 := qF.out
               have qA7 := qJ.out
               have qFx : w120.cell? ⟨qI, 1, none⟩ = some (.int .i64 0) := (z2_ qB.out 1).trans rfl
               have qER := z1_ qB.out 1
               have qA8 := qA.out
               have qA9 := qK.out
               have qBA := qF.out
               have qBB := qJ.out
               have qFy : w120.cell? ⟨qI, 2, none⟩ = some (.slice none 0 0) := (z2_ qB.out 2).trans rfl
               have qES := z1_ qB.out 2
               have qBC := qA.out
               have qBD := qK.out
               have qBE := qF.out
               have qBF := qJ.out
               have qFz : w120.cell? ⟨qI, 3, none⟩ = some (.int .i64 q1) := (z2_ qB.out 3).trans rfl
               have qET := z1_ qB.out 3
               have qBG := qA.out
               have qBH := qK.out
               have qBI := qF.out
               have qBJ := qJ.out
               have qF0 : w120.cell? ⟨qI, 4, none⟩ = some (.int .i64 q2) := (z2_ qB.out 4).trans rfl
               have qEU := z1_ qB.out 4
               have qBK := qA.out
               have qBL := qK.out
               have qBM := qF.out
               have qBN := qJ.out
               have qF1 : w120.cell? ⟨qI, 5, none⟩ = some (.slice none 0 0) := (z2_ qB.out 5).trans rfl
               have qEV := z1_ qB.out 5
               have qBO := qA.out
               have qBP := qK.out
               have qBQ := qF.out
               have qBR := qJ.out
               have qF2 : w120.cell? ⟨qI, 6, none⟩ = some (.slice none 0 0) := (z2_ qB.out 6).trans rfl
               have qEW := z1_ qB.out 6
               have qBS := qA.out
               have qBT := qK.out
               have qBU := qF.out
               have qBV := qJ.out
               have qF3 : w120.cell? ⟨qI, 7, none⟩ = some (.int .i64 q3) := (z2_ qB.out 7).trans rfl
               have qEX := z1_ qB.out 7
               have qBW := qA.out
               have qBX := qK.out
               have qBY := qF.out
               have qBZ := qJ.out
               have qF4 : w120.cell? ⟨qI, 8, none⟩ = some (.int .i64 q4) := (z2_ qB.out 8).trans rfl
               have qEY := z1_ qB.out 8
               have qBa := qA.out
               have qBb := qK.out
               have qBc := qF.out
               have qBd := qJ.out
               have qF5 : w120.cell? ⟨qI, 9, none⟩ = some (.slice none 0 0) := (z2_ qB.out 9).trans rfl
               have qEZ := z1_ qB.out 9
               have qBe := qA.out
               have qBf := qK.out
               have qBg := qF.out
               have qBh := qJ.out
               have qF6 : w120.cell? ⟨qI, 10, none⟩ = some (.slice none 0 0) := (z2_ qB.out 10).trans rfl
               have qEa := z1_ qB.out 10
               have qBi := qA.out
               have qBj := qK.out
               have qBk := qF.out
               have qBl := qJ.out
               have qF7 : w120.cell? ⟨qI, 11, none⟩ = some (.int .i64 q5) := (z2_ qB.out 11).trans rfl
               have qEb := z1_ qB.out 11
               have qBm := qA.out
               have qBn := qK.out
               have qBo := qF.out
               have qBp := qJ.out
               have qF8 : w120.cell? ⟨qI, 12, none⟩ = some (.int .i64 q6) := (z2_ qB.out 12).trans rfl
               have qEc := z1_ qB.out 12
               have qBq := qA.out
               have qBr := qK.out
               have qBs := qF.out
               have qBt := qJ.out
               have qF9 : w120.cell? ⟨qI, 13, none⟩ = some (.slice none 0 0) := (z2_ qB.out 13).trans rfl
               have qEd := z1_ qB.out 13
               have qBu := qA.out
               have qBv := qK.out
               have qBw := qF.out
               have qBx := qJ.out
               have qGA : w120.cell? ⟨qI, 14, none⟩ = some (.slice none 0 0) := (z2_ qB.out 14).trans rfl
               have qEe := z1_ qB.out 14
               have qBy := qA.out
               have qBz := qK.out
               have qB0 := qF.out
               have qB1 := qJ.out
               refine skip_ (w1 := ?_) (by rfl) rfl ?_ ?_
               rotate_left
               ·go_simp
                rfl
               refine hK.out _ _ ⟨((zf15 jB.out).trans (hHeld.1)), ((zf15 jB.out).trans (hHeld.2))⟩ (fun hHeld => ?_)
               clear hK K
               refine one_ (i := 7) (N := none) (bs 8 255) rfl rfl (one_of HT_.out zk) (by decide) (fun K hK => ?_)
               have qGB : w120.cell? ⟨qS, 0, none⟩ = some (.int .i64 0) := (z2_ qH.out 0).trans rfl
               have qEf := z1_ qH.out 0
               have qB2 := qF.out
               have qB3 := qy.out
               have qB4 := qA.out
               have qB5 := qx.out
               have qGC : w120.cell? ⟨qS, 1, none⟩ = some (.int .i64 0) := (z2_ qH.out 1).trans rfl
               have qEg := z1_ qH.out 1
               have qB6 := qF.out
               have qB7 := qy.out
               have qB8 := qA.out
               have qB9 := qx.out
               generalize hW_ : World.setCell _ _ _ = W_
               have hc0_ : W_.cell? ⟨qS, 0, none⟩ = some (.int .i64 0) := by
                subst hW_
                go_simp
               have hf0_ : W_.frozen? ⟨qS, 0, none⟩ = false := by
                subst hW_
                go_simp
               have hc1_ : W_.cell? ⟨qS, 1, none⟩ = some (.int .i64 0) := by
                subst hW_
                go_simp
               have hf1_ : W_.frozen? ⟨qS, 1, none⟩ = false := by
                subst hW_
                go_simp
               refine skip_ (w1 := ?_) (by rfl) rfl ?_ ?_
               rotate_left
               ·go_simp
                rfl
               subst hW_
               refine hK.out _ _ ⟨((z14_ (p := ⟨qS, _, none⟩) qw.out _).trans (((z14_ (p := ⟨qS, _, none⟩) qw.out _).trans (hHeld.1)))), ((z14_ (p := ⟨qS, _, none⟩) qw.out _).trans (((z14_ (p := ⟨qS, _, none⟩) qw.out _).trans (hHeld.2))))⟩ (fun hHeld => ?_)
               clear hK K
               refine done_ (done_of HT_.out zk) ?_
               try go_wp2
               refine bodyPost_ret (results_cc rfl _ _ qI qS 28 43 #[.int .i64 0, .int .i64 0, .slice none 0 0, .int .i64 0, .int .i64 0, .slice none 0 0, .slice none 0 0, .int .i64 0, .int .i64 0, .slice none 0 0, .slice none 0 0, .int .i64 0, .int .i64 0, .slice none 0 0, .slice none 0 0] #[.int .i64 170, .int .i64 jG] (0, 0) (0, 0) _ _ rfl (by refine lZ ?_; refine z18_ ?_ qF.out _; refine lZ ?_; refine z18_ ?_ qF.out _; refine lZ ?_; apply zp15; refine lZ ?_; exact qB.out) Try.underlying28 rfl zk rfl (by refine lZ ?_; refine blk_put (cs := #[.int .i64 170, .int .i64 0]) ?_ 1 _ rfl; refine lZ ?_; refine blk_put (cs := #[.int .i64 0, .int .i64 0]) ?_ 0 _ rfl; refine lZ ?_; refine z18_ ?_ qA.out _; refine lZ ?_; refine z18_ ?_ qA.out _; refine lZ ?_; refine z18_ ?_ qA.out _; refine lZ ?_; refine z18_ ?_ qA.out _; refine lZ ?_; refine z18_ ?_ qA.out _; refine lZ ?_; refine z18_ ?_ qA.out _; refine lZ ?_; refine z18_ ?_ qA.out _; refine lZ ?_; refine z18_ ?_ qA.out _; refine lZ ?_; refine z18_ ?_ qA.out _; refine lZ ?_; refine z18_ ?_ qA.out _; refine lZ ?_; refine z18_ ?_ qA.out _; refine lZ ?_; refine z18_ ?_ qA.out _; refine lZ ?_; refine z18_ ?_ qA.out _; refine lZ ?_; refine z18_ ?_ qA.out _; refine lZ ?_; refine z18_ ?_ qA.out _; refine lZ ?_; exact qH.out) Try.underlying43 rfl zk) rfl ?_
               exact ⟨_, _, _, _, _, _, _, zE, by first | exact Kd.R_nil _ _ _ _ _ | exact Kd.N_nil _ _ _ _ _ | exact Kd.V_nil _ _ _ _ _ | exact Kd.Q_nil _ _ _ _ _ | exact Kd.S_nil _ _ _ _ _, by first | exact Kd.R_nil _ _ _ _ _ | exact Kd.N_nil _ _ _ _ _ | exact Kd.V_nil _ _ _ _ _ | exact Kd.Q_nil _ _ _ _ _ | exact Kd.S_nil _ _ _ _ _, by first | exact Kd.R_nil _ _ _ _ _ | exact Kd.N_nil _ _ _ _ _ | exact Kd.V_nil _ _ _ _ _ | exact Kd.Q_nil _ _ _ _ _ | exact Kd.S_nil _ _ _ _ _, by first | exact Kd.R_nil _ _ _ _ _ | exact Kd.N_nil _ _ _ _ _ | exact Kd.V_nil _ _ _ _ _ | exact Kd.Q_nil _ _ _ _ _ | exact Kd.S_nil _ _ _ _ _, by first | exact Kd.R_nil _ _ _ _ _ | exact Kd.N_nil _ _ _ _ _ | exact Kd.V_nil _ _ _ _ _ | exact Kd.Q_nil _ _ _ _ _ | exact Kd.S_nil _ _ _ _ _, by first | exact Kd.R_nil _ _ _ _ _ | exact Kd.N_nil _ _ _ _ _ | exact Kd.V_nil _ _ _ _ _ | exact Kd.Q_nil _ _ _ _ _ | exact Kd.S_nil _ _ _ _ _, by first | exact Kd.R_nil _ _ _ _ _ | exact Kd.N_nil _ _ _ _ _ | exact Kd.V_nil _ _ _ _ _ | exact Kd.Q_nil _ _ _ _ _ | exact Kd.S_nil _ _ _ _ _, zB HB⟩
              ·rw [if_neg c114] at H
               have c114b0 := decide_eq_false c114
               clear c114
               simp only [Option.some.injEq, Prod.mk.injEq] at H
               obtain ⟨rfl, rfl, rfl, rfl, rfl, rfl, rfl, rfl, rfl, rfl, rfl, rfl, rfl, rfl, rfl, rfl, rfl⟩ := H
               obtain ⟨ASz138_0, cSz138_0, HGz138, hgz138, HSz138_0⟩ := qC.out
               have qCA := cellS70_0 HGz138
               have qCB := cellS70_1 HGz138
               have qCC := cellS70_2 HGz138
               have qCD := z1_ HGz138 1
               have qCE := z1_ HGz138 2
               clear HGz138 hgz138
               obtain ⟨i0139, hi0139, _, hsz139, _⟩ := info_parts info5
               obtain ⟨hcut139, hA139, hC139⟩ := print_take_of (P := Try.prog) (Value.int .u8) 0 31 5 .i64 Try.underlying31 hi0139 hsz139 A0 c0 l0 qD (of_decide_eq_true za) (of_decide_eq_true za) HC0.out
               have jW := aM (Kd.C_of_reads (h1 := fun _ => rfl) (hA139 _ (Kd.reads_of_C HR0.out)))
               have jX := aM hC139
               clear hA139 hC139 hi0139 hsz139
               go_wp2_with (first | ((with_reducible refine gate_callee (f := 29) rfl ?_); refine z13_ (some 70) rfl rfl Try.func29 zk rfl #[.slice A0 (l0.take (qD : Int).toNat).length c0] rfl (by (try simp only [List.map_toArray, List.map_cons, List.map_nil]); first | done | (rw [show (l0.take (qD : Int).toNat).length = qD.toNat from (by rw [List.length_take]; have h_ : (qD : Int) ≤ (l0.length : Int) := of_decide_eq_true za; omega)] <;> rfl) | rfl | (simp only [List.length_drop, List.length_take]; rfl)) ?_; (with_reducible refine (code_check.calls k3 _ _ (l0.take (qD : Int).toNat) qj _ ?side1 ?side2 A87.out).mono ?_); (case side1 => refine lY ?_; exact (Kd.z8_ jW.out HB.out)); (case side2 => exact jX.out); rintro e w' ⟨rfl, ⟨nd, rfl⟩⟩; refine ⟨_, rfl, ?_⟩; (try (rw [drewN_self wr]; generalize hq_ : World.drewN wr _ = wr; have n0_ : Aside0 (Kd.R k48 48 wr w.heap.size (fun _ => True) qi qY) := ⟨by rw [← hq_]; exact (lR qG)⟩; have n1_ : Aside0 (Kd.R k63 63 wr w.heap.size (fun k_ => some k_ ≠ (qg : Value).ownBlock ∧ some k_ ≠ (qh : Value).ownBlock) qf qp) := ⟨by rw [← hq_]; exact (lR qM)⟩; have n2_ : Aside0 (Kd.R (Kd.int .i64) 3 wr w.heap.size (fun k_ => some k_ ≠ (qd : Value).ownBlock ∧ some k_ ≠ (qe : Value).ownBlock) qc qq) := ⟨by rw [← hq_]; exact (lR qN)⟩; have n3_ : Aside0 (Kd.R k63 63 wr w.heap.size (fun k_ => some k_ ≠ (qf : Value).ownBlock ∧ some k_ ≠ (qh : Value).ownBlock) qg qr) := ⟨by rw [← hq_]; exact (lR qO)⟩; have n4_ : Aside0 (Kd.R (Kd.int .i64) 3 wr w.heap.size (fun k_ => some k_ ≠ (qc : Value).ownBlock ∧ some k_ ≠ (qe : Value).ownBlock) qd qs) := ⟨by rw [← hq_]; exact (lR qP)⟩; have n5_ : Aside0 (Kd.R k63 63 wr w.heap.size (fun k_ => some k_ ≠ (qf : Value).ownBlock ∧ some k_ ≠ (qg : Value).ownBlock) qh qt) := ⟨by rw [← hq_]; exact (lR qQ)⟩; have n6_ : Aside0 (Kd.R (Kd.int .i64) 3 wr w.heap.size (fun k_ => some k_ ≠ (qc : Value).ownBlock ∧ some k_ ≠ (qd : Value).ownBlock) qe qu) := ⟨by rw [← hq_]; exact (lR qR)⟩; have n7_ : Aside0 (wr.heap[qI]? = some (.cells #[.int .i64 0, .int .i64 0, .slice none 0 0, .int .i64 q1, .int .i64 q2, .slice none 0 0, .slice none 0 0, .int .i64 q3, .int .i64 q4, .slice none 0 0, .slice none 0 0, .int .i64 q5, .int .i64 q6, .slice none 0 0, .slice none 0 0] 28 (0, 0))) := ⟨by rw [← hq_]; exact (lK qB)⟩; have n8_ : Aside0 (wr.heap[qS]? = some (.cells #[.int .i64 0, .int .i64 0] 43 (0, 0))) := ⟨by rw [← hq_]; exact (lK qH)⟩; have n9_ : Aside0 (wr.heap[qT]? = some (.cells #[.int .i64 qk, .int .i64 qm, qi, .int .i64 qZ, .int .i64 qV, qf, qc, .int .i64 qa, .int .i64 qW, qg, qd, .int .i64 qb, .int .i64 qX, qh, qe] 28 (0, 0))) := ⟨by rw [← hq_]; exact (lK qE)⟩; have n10_ : Aside0 (I7 w wr g377 qL qD false) := ⟨by rw [← hq_]; exact (zS qC)⟩; have n11_ : Aside0 (Below w.heap.size w wr) := ⟨by rw [← hq_]; exact (zB HB)⟩; clear qG qM qN qO qP qQ qR qB qH qE qC HB hq_; have qG := n0_; have qM := n1_; have qN := n2_; have qO := n3_; have qP := n4_; have qQ := n5_; have qR := n6_; have qB := n7_; have qH := n8_; have qE := n9_; have qC := n10_; have HB := n11_; clear n0_ n1_ n2_ n3_ n4_ n5_ n6_ n7_ n8_ n9_ n10_ n11_))) | ((with_reducible refine gate_callee (f := 33) rfl ?_); refine z13_ (some 76) rfl rfl Try.func33 zk rfl #[.pointer (some ⟨g377, 0, none⟩), .int .i64 (qj / 256), .int .i64 (qj / 256)] rfl zA ?_; (with_reducible refine (cR_within.calls g377 qL qD false (qj / 256) (qj / 256) yB qz q0 w _ ?side1 ?side2 A88.out).mono ?_); (case side1 => exact zS qC); (case side2 => exact (zB HB)); rintro e w140 ⟨rfl, hi, hb, hk⟩; refine ⟨_, rfl, ?_⟩; replace qG := aM (Kd.z0_ (Kd.z22_ (I7.apart (show I7 w _ g377 qL qD false from zS qC) (lR qG) (by decide)) hk (fun _ h => h.2)) (fun _ h => h.1)); replace qM := aM (Kd.z0_ (Kd.z22_ (I7.apart (show I7 w _ g377 qL qD false from zS qC) (lR qM) (by decide)) hk (fun _ h => h.2)) (fun _ h => h.1)); replace qN := aM (Kd.z0_ (Kd.z22_ (I7.apart (show I7 w _ g377 qL qD false from zS qC) (lR qN) (by decide)) hk (fun _ h => h.2)) (fun _ h => h.1)); replace qO := aM (Kd.z0_ (Kd.z22_ (I7.apart (show I7 w _ g377 qL qD false from zS qC) (lR qO) (by decide)) hk (fun _ h => h.2)) (fun _ h => h.1)); replace qP := aM (Kd.z0_ (Kd.z22_ (I7.apart (show I7 w _ g377 qL qD false from zS qC) (lR qP) (by decide)) hk (fun _ h => h.2)) (fun _ h => h.1)); replace qQ := aM (Kd.z0_ (Kd.z22_ (I7.apart (show I7 w _ g377 qL qD false from zS qC) (lR qQ) (by decide)) hk (fun _ h => h.2)) (fun _ h => h.1)); replace qR := aM (Kd.z0_ (Kd.z22_ (I7.apart (show I7 w _ g377 qL qD false from zS qC) (lR qR) (by decide)) hk (fun _ h => h.2)) (fun _ h => h.1)); replace qB := aM (KeepBut.blk hk (g' := qI) (lK qB) qn.out (by simp)); replace qH := aM (KeepBut.blk hk (g' := qS) (lK qH) qo.out (by simp)); replace qE := aM (KeepBut.blk hk (g' := qT) (lK qE) ql.out (by simp)); replace HB := aM (hb); replace qC := aM (hi); (try clear hb); (try clear hk); (try clear hi)) | ((with_reducible refine gate_callee (f := 33) rfl ?_); refine z13_ (some 82) rfl rfl Try.func33 zk rfl #[.pointer (some ⟨g377, 0, none⟩), .int .i64 (Go.bits .and .i64 qj 255), .int .i64 (Go.bits .and .i64 qj 255)] rfl zA ?_; (with_reducible refine (cR_within.calls g377 qL qz q0 (Go.bits .and .i64 qj 255) (Go.bits .and .i64 qj 255) yC jG false w _ ?side1 ?side2 A89.out).mono ?_); (case side1 => exact zS qC); (case side2 => exact (zB HB)); rintro e w141 ⟨rfl, hi, hb, hk⟩; refine ⟨_, rfl, ?_⟩; replace qG := aM (Kd.z0_ (Kd.z22_ (I7.apart (show I7 w _ g377 qL qz q0 from zS qC) (lR qG) (by decide)) hk (fun _ h => h.2)) (fun _ h => h.1)); replace qM := aM (Kd.z0_ (Kd.z22_ (I7.apart (show I7 w _ g377 qL qz q0 from zS qC) (lR qM) (by decide)) hk (fun _ h => h.2)) (fun _ h => h.1)); replace qN := aM (Kd.z0_ (Kd.z22_ (I7.apart (show I7 w _ g377 qL qz q0 from zS qC) (lR qN) (by decide)) hk (fun _ h => h.2)) (fun _ h => h.1)); replace qO := aM (Kd.z0_ (Kd.z22_ (I7.apart (show I7 w _ g377 qL qz q0 from zS qC) (lR qO) (by decide)) hk (fun _ h => h.2)) (fun _ h => h.1)); replace qP := aM (Kd.z0_ (Kd.z22_ (I7.apart (show I7 w _ g377 qL qz q0 from zS qC) (lR qP) (by decide)) hk (fun _ h => h.2)) (fun _ h => h.1)); replace qQ := aM (Kd.z0_ (Kd.z22_ (I7.apart (show I7 w _ g377 qL qz q0 from zS qC) (lR qQ) (by decide)) hk (fun _ h => h.2)) (fun _ h => h.1)); replace qR := aM (Kd.z0_ (Kd.z22_ (I7.apart (show I7 w _ g377 qL qz q0 from zS qC) (lR qR) (by decide)) hk (fun _ h => h.2)) (fun _ h => h.1)); replace qB := aM (KeepBut.blk hk (g' := qI) (lK qB) qn.out (by simp)); replace qH := aM (KeepBut.blk hk (g' := qS) (lK qH) qo.out (by simp)); replace qE := aM (KeepBut.blk hk (g' := qT) (lK qE) ql.out (by simp)); replace HB := aM (hb); replace qC := aM (hi); (try clear hb); (try clear hk); (try clear hi); obtain ⟨ASz142_0, cSz142_0, HGz142, hgz142, HSz142_0⟩ := qC.out; have qCF := cellS70_0 HGz142; have qCG := cellS70_1 HGz142; have qCH := cellS70_2 HGz142; have qCI := z1_ HGz142 1; have qCJ := z1_ HGz142 2; clear HGz142 hgz142; have qEh := qK.out; have qEi := qJ.out; have qEj := qy.out; have qEk := qx.out; have qEl := ql.out; have qEm := jL.out; have qCK := zc15 qE.out; have qCL := fun i_ : Nat => z1_ qE.out i_; have qEn := qF.out; have qEo := qA.out; have qEp := qn.out; have qEq := jB.out; have qCM := zc15 qB.out; have qCN := fun i_ : Nat => z1_ qB.out i_; obtain ⟨yT, yU, eo150⟩ := Kd.R_slice qG.out; subst eo150; obtain ⟨yV, yW, eo151⟩ := Kd.R_slice qM.out; subst eo151; obtain ⟨yX, yY, eo152⟩ := Kd.R_slice qN.out; subst eo152; obtain ⟨yZ, ya, eo153⟩ := Kd.R_slice qO.out; subst eo153; obtain ⟨yb, yc, eo154⟩ := Kd.R_slice qP.out; subst eo154; obtain ⟨yd, ye, eo155⟩ := Kd.R_slice qQ.out; subst eo155; obtain ⟨yf, yg, eo156⟩ := Kd.R_slice qR.out; subst eo156; have qEr := qo.out; have qEs := qw.out; have qCO := zc2 qH.out; have qCP := fun i_ : Nat => z1_ qH.out i_))
               refine bodyPost_ret (results_cc rfl _ _ qI qS 28 43 #[.int .i64 qk, .int .i64 qm, .slice yT qY.length yU, .int .i64 qZ, .int .i64 qV, .slice yV qp.length yW, .slice yX qq.length yY, .int .i64 qa, .int .i64 qW, .slice yZ qr.length ya, .slice yb qs.length yc, .int .i64 qb, .int .i64 qX, .slice yd qt.length ye, .slice yf qu.length yg] #[.int .i64 0, .int .i64 0] (0, 0) (0, 0) _ _ rfl (by refine lZ ?_; refine z18_ ?_ qF.out _; refine lZ ?_; refine z18_ ?_ qF.out _; refine lZ ?_; apply zp15; refine lZ ?_; exact qB.out) Try.underlying28 rfl zk rfl (by refine lZ ?_; refine blk_put (cs := #[.int .i64 0, .int .i64 0]) ?_ 1 _ rfl; refine lZ ?_; refine blk_put (cs := #[.int .i64 0, .int .i64 0]) ?_ 0 _ rfl; refine lZ ?_; refine z18_ ?_ qA.out _; refine lZ ?_; refine z18_ ?_ qA.out _; refine lZ ?_; refine z18_ ?_ qA.out _; refine lZ ?_; refine z18_ ?_ qA.out _; refine lZ ?_; refine z18_ ?_ qA.out _; refine lZ ?_; refine z18_ ?_ qA.out _; refine lZ ?_; refine z18_ ?_ qA.out _; refine lZ ?_; refine z18_ ?_ qA.out _; refine lZ ?_; refine z18_ ?_ qA.out _; refine lZ ?_; refine z18_ ?_ qA.out _; refine lZ ?_; refine z18_ ?_ qA.out _; refine lZ ?_; refine z18_ ?_ qA.out _; refine lZ ?_; refine z18_ ?_ qA.out _; refine lZ ?_; refine z18_ ?_ qA.out _; refine lZ ?_; refine z18_ ?_ qA.out _; refine lZ ?_; exact qH.out) Try.underlying43 rfl zk) rfl ?_
               exact ⟨_, _, _, _, _, _, _, zE, by apply rX; exact Kd.z0_ (fA (fA (zS15 (Kd.z3_ (Kd.z3_ qG.out qB.out (by decide)) qH.out (by decide))))) (fun _ hk => trivial), by apply rX; exact Kd.z0_ (fA (fA (zS15 (Kd.z3_ (Kd.z3_ qM.out qB.out (by decide)) qH.out (by decide))))) (fun _ hk => ⟨hk.1.1.1, hk.1.1.2⟩), by apply rX; exact Kd.z0_ (fA (fA (zS15 (Kd.z3_ (Kd.z3_ qN.out qB.out (by decide)) qH.out (by decide))))) (fun _ hk => ⟨hk.1.1.1, hk.1.1.2⟩), by apply rX; exact Kd.z0_ (fA (fA (zS15 (Kd.z3_ (Kd.z3_ qO.out qB.out (by decide)) qH.out (by decide))))) (fun _ hk => ⟨hk.1.1.1, hk.1.1.2⟩), by apply rX; exact Kd.z0_ (fA (fA (zS15 (Kd.z3_ (Kd.z3_ qP.out qB.out (by decide)) qH.out (by decide))))) (fun _ hk => ⟨hk.1.1.1, hk.1.1.2⟩), by apply rX; exact Kd.z0_ (fA (fA (zS15 (Kd.z3_ (Kd.z3_ qQ.out qB.out (by decide)) qH.out (by decide))))) (fun _ hk => ⟨hk.1.1.1, hk.1.1.2⟩), by apply rX; exact Kd.z0_ (fA (fA (zS15 (Kd.z3_ (Kd.z3_ qR.out qB.out (by decide)) qH.out (by decide))))) (fun _ hk => ⟨hk.1.1.1, hk.1.1.2⟩), zB HB⟩
            ·rw [if_neg c86] at H
             exact absurd H (by simp)
           ·rw [if_neg c85] at H
            exact absurd H (by simp)
end Go.Proofs.Ytccbdcbeinkjgaa.XA
end
