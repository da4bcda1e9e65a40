/- Part 6 of the proof of the law CodeSames for every input: words, walks and plain laws. No condition. -/
import Derived.Lib.SlBytesConst
import Derived.Test.YtccbdcbeinkjgaaKCodeSames5
section
namespace Go.Proofs.Ytccbdcbeinkjgaa.XA
open Go.Proofs.Ytccbdcbeinkjgaa.Lift Go.RowKit Go.Proofs.YtccbdcbeinkjgaaW.PrintWords Go.Proofs.YtccbdcbeinkjgaaW.PrintLast Go.Proofs.YtccbdcbeinkjgaaW.PrintMore
attribute [local go_sem] max2_int min2_int max_two min_two max_three min_three max_four min_four
set_option linter.unusedVariables false
set_option linter.unusedSimpArgs false

--IMPORT Derived.Lib.SlBytesConst
/-! ### code_Decode: function 17 -/
mutual
def code_Decode.l0 : Nat → List Int → List Int → Int → Int → List Int → Int → Bool → Option (Int × Int × (List (S48)) × Int × Int × (List (S63)) × List Int × Int × Int × (List (S63)) × List Int × Int × Int × (List (S63)) × List Int × Int × Int)
 | 0, _, _, _, _, _, _, _ => none
 | k + 1, x0, x16, x17, x18, q2, jD, jF => if x18 < x17 then (if 0 ≤ x18 then (if x18 < (x16.length : Int) then ((code_reader_within.f q2 jD jF (wrap64 (rd x16 x18)) (wrap64 (rd x16 x18))).bind fun bt382 => (code_Decode.l0 k x0 x16 x17 (wrap64 (x18 + 1)) q2 bt382.2.1 bt382.2.2)) else (none)) else (none)) else ((code_reader_within.f q2 jD jF 1 8).bind fun bt385 => ((code_reader_within.f q2 bt385.2.1 bt385.2.2 1 8).bind fun bt388 => ((code_reader_within.f q2 bt388.2.1 bt388.2.2 0 255).bind fun bt392 => (code_Decode.l1 k x0 bt392.1 0 q2 bt392.2.1 bt392.2.2 bt385.1 bt388.1 ([] : List (S48)) 0 0 0 0 0 0))))
def code_Decode.l1 : Nat → List Int → Int → Int → List Int → Int → Bool → Int → Int → List (S48) → Int → Int → Int → Int → Int → Int → Option (Int × Int × (List (S48)) × Int × Int × (List (S63)) × List Int × Int × Int × (List (S63)) × List Int × Int × Int × (List (S63)) × List Int × Int × Int)
 | 0, _, _, _, _, _, _, _, _, _, _, _, _, _, _, _ => none
 | k + 1, x0, x35, x36, q2, jD, jF, jL, jM, jK, jR, jS, jT, jU, jV, jW => if x36 < x35 then ((code_reader_signed.f q2 jD jF).bind fun bt395 => ((code_reader_signed.f q2 bt395.2.1 bt395.2.2).bind fun bt398 => (if jK.length < 8796093022208 then (code_Decode.l1 k x0 x35 (wrap64 (x36 + 1)) q2 bt398.2.1 bt398.2.2 jL jM (jK ++ [(⟨bt395.1, bt398.1⟩ : S48)]) jR jS jT jU jV jW) else (none)))) else ((code_programs.f 391).bind fun yO => (code_Decode.l2 k x0 0 q2 jD jF jL jM jK jR jS ([] : List (S63)) ([] : List Int) jT jU ([] : List (S63)) ([] : List Int) jV jW ([] : List (S63)) ([] : List Int)))
def code_Decode.l2 : Nat → List Int → Int → List Int → Int → Bool → Int → Int → List (S48) → Int → Int → List (S63) → List Int → Int → Int → List (S63) → List Int → Int → Int → List (S63) → List Int → Option (Int × Int × (List (S48)) × Int × Int × (List (S63)) × List Int × Int × Int × (List (S63)) × List Int × Int × Int × (List (S63)) × List Int × Int × Int)
 | 0, _, _, _, _, _, _, _, _, _, _, _, _, _, _, _, _, _, _, _, _ => none
 | k + 1, x0, x51, q2, jD, jF, jL, jM, jK, jR, jS, jb, jc, jT, jU, jd, je, jV, jW, jf, jg => if x51 < 3 then (if x51 = 0 then ((code_reader_program.f k q2 jD jF).bind fun bt405 => (code_Decode.l2 k x0 (0 + 1) q2 bt405.2.2.2.2.1 bt405.2.2.2.2.2 jL jM jK bt405.1 bt405.2.1 bt405.2.2.1 bt405.2.2.2.1 jT jU jd je jV jW jf jg)) else (if x51 = 1 then ((code_reader_program.f k q2 jD jF).bind fun bt415 => (code_Decode.l2 k x0 (1 + 1) q2 bt415.2.2.2.2.1 bt415.2.2.2.2.2 jL jM jK jR jS jb jc bt415.1 bt415.2.1 bt415.2.2.1 bt415.2.2.2.1 jV jW jf jg)) else (if x51 = 2 then ((code_reader_program.f k q2 jD jF).bind fun bt425 => (code_Decode.l2 k x0 (2 + 1) q2 bt425.2.2.2.2.1 bt425.2.2.2.2.2 jL jM jK jR jS jb jc jT jU jd je bt425.1 bt425.2.1 bt425.2.2.1 bt425.2.2.2.1)) else (none)))) else (if jF = true then (some (0, 0, ([] : List (S48)), 0, 0, ([] : List (S63)), ([] : List Int), 0, 0, ([] : List (S63)), ([] : List Int), 0, 0, ([] : List (S63)), ([] : List Int), 170, jD)) else (if 0 ≤ jD then (if jD ≤ (x0.length : Int) then ((code_check.f k (x0.take (jD : Int).toNat)).bind fun qp => ((code_reader_within.f q2 jD jF (qp / 256) (qp / 256)).bind fun bt437 => ((code_reader_within.f q2 bt437.2.1 bt437.2.2 (Go.bits .and .i64 qp 255) (Go.bits .and .i64 qp 255)).bind fun bt440 => (if bt440.2.2 = true then (some (0, 0, ([] : List (S48)), 0, 0, ([] : List (S63)), ([] : List Int), 0, 0, ([] : List (S63)), ([] : List Int), 0, 0, ([] : List (S63)), ([] : List Int), 170, bt440.2.1)) else (if bt440.2.1 < (x0.length : Int) then (some (0, 0, ([] : List (S48)), 0, 0, ([] : List (S63)), ([] : List Int), 0, 0, ([] : List (S63)), ([] : List Int), 0, 0, ([] : List (S63)), ([] : List Int), 170, bt440.2.1)) else (some (jL, jM, jK, jR, jS, jb, jc, jT, jU, jd, je, jV, jW, jf, jg, 0, 0))))))) else (none)) else (none)))
end
def code_Decode.f (k : Nat) (l0 : List Int) : Option (Int × Int × (List (S48)) × Int × Int × (List (S63)) × List Int × Int × Int × (List (S63)) × List Int × Int × Int × (List (S63)) × List Int × Int × Int) := (code_newreader.f l0).bind fun bt374 => ((code_marked.f).bind fun q4 => (code_Decode.l0 k l0 q4 (q4.length : Int) 0 bt374.1 bt374.2.1 bt374.2.2))
theorem code_Decode.mono_l : ∀ k, (∀ y0 y1 y2 y3 y4 y5 y6, LeO (code_Decode.l0 k y0 y1 y2 y3 y4 y5 y6) (code_Decode.l0 (k + 1) y0 y1 y2 y3 y4 y5 y6)) ∧ (∀ y0 y1 y2 y3 y4 y5 y6 y7 y8 y9 y10 y11 y12 y13 y14, LeO (code_Decode.l1 k y0 y1 y2 y3 y4 y5 y6 y7 y8 y9 y10 y11 y12 y13 y14) (code_Decode.l1 (k + 1) y0 y1 y2 y3 y4 y5 y6 y7 y8 y9 y10 y11 y12 y13 y14)) ∧ (∀ y0 y1 y2 y3 y4 y5 y6 y7 y8 y9 y10 y11 y12 y13 y14 y15 y16 y17 y18 y19, LeO (code_Decode.l2 k y0 y1 y2 y3 y4 y5 y6 y7 y8 y9 y10 y11 y12 y13 y14 y15 y16 y17 y18 y19) (code_Decode.l2 (k + 1) y0 y1 y2 y3 y4 y5 y6 y7 y8 y9 y10 y11 y12 y13 y14 y15 y16 y17 y18 y19))
 | 0 => ⟨fun _ _ _ _ _ _ _ r h => by simp [code_Decode.l0] at h, fun _ _ _ _ _ _ _ _ _ _ _ _ _ _ _ r h => by simp [code_Decode.l1] at h, fun _ _ _ _ _ _ _ _ _ _ _ _ _ _ _ _ _ _ _ _ r h => by simp [code_Decode.l2] at h⟩
 | k + 1 => by
  obtain ⟨ih0, ih1, ih2⟩ := code_Decode.mono_l k
  refine ⟨?_, ?_, ?_⟩
  ·intro y0 y1 y2 y3 y4 y5 y6
   unfold code_Decode.l0
   repeat' first
   | (with_reducible exact ih0 ..)
   | (with_reducible exact ih1 ..)
   | (with_reducible exact ih2 ..)
   | (with_reducible exact code_check.mono _ _)
   | (with_reducible exact code_reader_program.mono _ _ _ _)
   | (with_reducible exact LeO.refl _)
   | (with_reducible exact LeO.none _)
   | (with_reducible refine LeO.ite ?_ ?_)
   | (with_reducible refine LeO.bind ?_ (fun _ => ?_))
   | exact ih0 _ _ _ _ _ _ _
   | exact ih1 _ _ _ _ _ _ _ _ _ _ _ _ _ _ _
   | exact ih2 _ _ _ _ _ _ _ _ _ _ _ _ _ _ _ _ _ _ _ _
   | exact code_check.mono _ _
   | exact code_reader_program.mono _ _ _ _
   | exact LeO.none _
   | refine LeO.ite ?_ ?_
   | refine LeO.bind ?_ (fun _ => ?_)
  ·intro y0 y1 y2 y3 y4 y5 y6 y7 y8 y9 y10 y11 y12 y13 y14
   unfold code_Decode.l1
   repeat' first
   | (with_reducible exact ih0 ..)
   | (with_reducible exact ih1 ..)
   | (with_reducible exact ih2 ..)
   | (with_reducible exact code_check.mono _ _)
   | (with_reducible exact code_reader_program.mono _ _ _ _)
   | (with_reducible exact LeO.refl _)
   | (with_reducible exact LeO.none _)
   | (with_reducible refine LeO.ite ?_ ?_)
   | (with_reducible refine LeO.bind ?_ (fun _ => ?_))
   | exact ih0 _ _ _ _ _ _ _
   | exact ih1 _ _ _ _ _ _ _ _ _ _ _ _ _ _ _
   | exact ih2 _ _ _ _ _ _ _ _ _ _ _ _ _ _ _ _ _ _ _ _
   | exact code_check.mono _ _
   | exact code_reader_program.mono _ _ _ _
   | exact LeO.none _
   | refine LeO.ite ?_ ?_
   | refine LeO.bind ?_ (fun _ => ?_)
  ·intro y0 y1 y2 y3 y4 y5 y6 y7 y8 y9 y10 y11 y12 y13 y14 y15 y16 y17 y18 y19
   unfold code_Decode.l2
   repeat' first
   | (with_reducible exact ih0 ..)
   | (with_reducible exact ih1 ..)
   | (with_reducible exact ih2 ..)
   | (with_reducible exact code_check.mono _ _)
   | (with_reducible exact code_reader_program.mono _ _ _ _)
   | (with_reducible exact LeO.refl _)
   | (with_reducible exact LeO.none _)
   | (with_reducible refine LeO.ite ?_ ?_)
   | (with_reducible refine LeO.bind ?_ (fun _ => ?_))
   | exact ih0 _ _ _ _ _ _ _
   | exact ih1 _ _ _ _ _ _ _ _ _ _ _ _ _ _ _
   | exact ih2 _ _ _ _ _ _ _ _ _ _ _ _ _ _ _ _ _ _ _ _
   | exact code_check.mono _ _
   | exact code_reader_program.mono _ _ _ _
   | exact LeO.none _
   | refine LeO.ite ?_ ?_
   | refine LeO.bind ?_ (fun _ => ?_)
theorem code_Decode.mono : ∀ a0 k, LeO (code_Decode.f k a0) (code_Decode.f (k + 1) a0) := by
 intro a0 k
 obtain ⟨ih0, ih1, ih2⟩ := code_Decode.mono_l k
 unfold code_Decode.f
 repeat' first
   | (with_reducible exact ih0 ..)
   | (with_reducible exact ih1 ..)
   | (with_reducible exact ih2 ..)
   | (with_reducible exact code_check.mono _ _)
   | (with_reducible exact code_reader_program.mono _ _ _ _)
   | (with_reducible exact LeO.refl _)
   | (with_reducible exact LeO.none _)
   | (with_reducible refine LeO.ite ?_ ?_)
   | (with_reducible refine LeO.bind ?_ (fun _ => ?_))
   | exact ih0 _ _ _ _ _ _ _
   | exact ih1 _ _ _ _ _ _ _ _ _ _ _ _ _ _ _
   | exact ih2 _ _ _ _ _ _ _ _ _ _ _ _ _ _ _ _ _ _ _ _
   | exact code_check.mono _ _
   | exact code_reader_program.mono _ _ _ _
   | exact LeO.none _
   | refine LeO.ite ?_ ?_
   | refine LeO.bind ?_ (fun _ => ?_)
def code_Decode.T11 : Bool × List (List Nat × List Nat) := (true, [([], []), ([0], [0]), ([], []), ([], []), ([3], [3]), ([2, 4], [2, 4]), ([5], [5]), ([1, 6, 4], [1, 6]), ([0, 1, 2, 3, 4, 5, 6, 7], []), ([8, 7, 7, 0, 1, 2, 3, 4, 5, 6, 7], [7, 8])])
def code_Decode.B11 : List Nat := [0, 1, 0, 0, 8, 28, 60, 127, 255, 511]
theorem code_Decode.tab11 : rtab .any (opsOf Try.f17 11) = code_Decode.T11 := by kernel_rfl
theorem code_Decode.bits11 : waitsOk code_Decode.T11.2 code_Decode.B11 = true := by kernel_rfl
def code_Decode.T23 : Bool × List (List Nat × List Nat) := (true, [([], []), ([], []), ([1], [1]), ([2], [2]), ([3], [3]), ([4], [4]), ([0, 0], [0]), ([5, 6, 0, 1, 2, 3, 4, 5, 6], [5])])
def code_Decode.B23 : List Nat := [0, 0, 2, 6, 14, 30, 1, 127]
theorem code_Decode.tab23 : rtab .any (opsOf Try.f17 23) = code_Decode.T23 := by kernel_rfl
theorem code_Decode.bits23 : waitsOk code_Decode.T23.2 code_Decode.B23 = true := by kernel_rfl
set_option maxHeartbeats 80000000 in
set_option maxRecDepth 100000 in
theorem code_Decode.calls (k : Nat) (A0 : Option Addr) (c0 : Nat) (l0 : List Int) (r1 : Int) (r2 : Int) (r3 : List (S48)) (r4 : Int) (r5 : Int) (r6 : List (S63)) (r7 : List Int) (r8 : Int) (r9 : Int) (r10 : List (S63)) (r11 : List Int) (r12 : Int) (r13 : Int) (r14 : List (S63)) (r15 : List Int) (r16 : Int) (r17 : Int) (w : World) (hr0 : Kd.C (Kd.int .u8) w A0 l0.length l0) (hc0 : l0.length ≤ c0) (h : code_Decode.f k l0 = some (r1, r2, r3, r4, r5, r6, r7, r8, r9, r10, r11, r12, r13, r14, r15, r16, r17)) :
  Calls Try.prog 17 #[.slice A0 l0.length c0] w fun e w' => ∃ v2_ v5_ v6_ v9_ v10_ v13_ v14_ : Value, e = .returned (.tuple #[.agg #[.int .i64 r1, .int .i64 r2, v2_, .int .i64 r4, .int .i64 r5, v5_, v6_, .int .i64 r8, .int .i64 r9, v9_, v10_, .int .i64 r12, .int .i64 r13, v13_, v14_], .agg #[.int .i64 r16, .int .i64 r17]]) ∧ Kd.R k48 48 w' w.heap.size (fun _ => True) v2_ r3 ∧ Kd.R k63 63 w' w.heap.size (fun k_ => some k_ ≠ (v9_ : Value).ownBlock ∧ some k_ ≠ (v13_ : Value).ownBlock) v5_ r6 ∧ Kd.R (Kd.int .i64) 3 w' w.heap.size (fun k_ => some k_ ≠ (v10_ : Value).ownBlock ∧ some k_ ≠ (v14_ : Value).ownBlock) v6_ r7 ∧ Kd.R k63 63 w' w.heap.size (fun k_ => some k_ ≠ (v5_ : Value).ownBlock ∧ some k_ ≠ (v13_ : Value).ownBlock) v9_ r10 ∧ Kd.R (Kd.int .i64) 3 w' w.heap.size (fun k_ => some k_ ≠ (v6_ : Value).ownBlock ∧ some k_ ≠ (v14_ : Value).ownBlock) v10_ r11 ∧ Kd.R k63 63 w' w.heap.size (fun k_ => some k_ ≠ (v5_ : Value).ownBlock ∧ some k_ ≠ (v9_ : Value).ownBlock) v13_ r14 ∧ Kd.R (Kd.int .i64) 3 w' w.heap.size (fun k_ => some k_ ≠ (v6_ : Value).ownBlock ∧ some k_ ≠ (v10_ : Value).ownBlock) v14_ r15 ∧ Below w.heap.size w w' := by
 have hu70 := Try.underlying70
 have hu28 := Try.underlying28
 have hu43 := Try.underlying43
 have hu48 := Try.underlying48
 have hu26 := Try.underlying26
 have HR0 := aM hr0
 have HC0 := aM hc0
 clear hr0 hc0
 have HB := aM (Below.refl w.heap.size w)
 have H : ((code_newreader.f l0).bind fun bt374 => ((code_marked.f).bind fun q4 => (code_Decode.l0 k l0 q4 (q4.length : Int) 0 bt374.1 bt374.2.1 bt374.2.2))) = some (r1, r2, r3, r4, r5, r6, r7, r8, r9, r10, r11, r12, r13, r14, r15, r16, r17) := h
 clear h
 replace H := Option.bind_eq_some_iff.mp H
 obtain ⟨⟨qO, jv, jw⟩, A20, H⟩ := H
 replace H : ((code_marked.f).bind fun q4 => (code_Decode.l0 k l0 q4 (q4.length : Int) 0 qO jv jw)) = some (r1, r2, r3, r4, r5, r6, r7, r8, r9, r10, r11, r12, r13, r14, r15, r16, r17) := H
 have A2 := aM A20
 clear A20
 replace H := Option.bind_eq_some_iff.mp H
 obtain ⟨q4, A30, H⟩ := H
 replace H : (code_Decode.l0 k l0 q4 (q4.length : Int) 0 qO jv jw) = some (r1, r2, r3, r4, r5, r6, r7, r8, r9, r10, r11, r12, r13, r14, r15, r16, r17) := H
 have A3 := aM A30
 clear A30
 have H' := aM H
 clear H
 have qCT : ∀ (g_ : Nat) (W : World), Sem.run Try.prog (Instr.index 58 (.agg #[.pointer (some ⟨g_, 3, none⟩), .pointer (some ⟨g_, 7, none⟩), .pointer (some ⟨g_, 11, none⟩)]) (.int .i64 0)) W = .ok (.pointer (some ⟨g_, 3, none⟩)) W := fun _ _ => by kernel_rfl
 have qCU : ∀ (g_ : Nat) (W : World), Sem.run Try.prog (Instr.index 58 (.agg #[.pointer (some ⟨g_, 3, none⟩), .pointer (some ⟨g_, 7, none⟩), .pointer (some ⟨g_, 11, none⟩)]) (.int .i64 1)) W = .ok (.pointer (some ⟨g_, 7, none⟩)) W := fun _ _ => by kernel_rfl
 have qCV : ∀ (g_ : Nat) (W : World), Sem.run Try.prog (Instr.index 58 (.agg #[.pointer (some ⟨g_, 3, none⟩), .pointer (some ⟨g_, 7, none⟩), .pointer (some ⟨g_, 11, none⟩)]) (.int .i64 2)) W = .ok (.pointer (some ⟨g_, 11, none⟩)) W := fun _ _ => by kernel_rfl
 have kcB := fun (w : World) (C : Array Value) (n c : Nat) => Lib.run_convert_bytes_const (P := Try.prog) w 31 5 C n c Try.underlying31 Try.underlying5
 go_enter Try.func17, Try.ntmps17
 go_wp2_with (first | ((with_reducible refine gate_dst (N := 2) rfl ?_); (try (refine gate_guard (by rfl) ?_; dsimp only)); refine box_event ?hg (N := 2) ?hd (cs := #[.int .i64 0, .int .i64 0, .slice none 0 0, .int .i64 0, .int .i64 0, .slice none 0 0, .slice none 0 0, .int .i64 0, .int .i64 0, .slice none 0 0, .slice none 0 0, .int .i64 0, .int .i64 0, .slice none 0 0, .slice none 0 0]) (t := 28) ?hr ?_; (case hd => rfl); (case hg => rfl); (case hr => first | (go_simp; done) | (go_simp; rfl)); intro qM hg w4 hbox hb; have qD := aM (hbox); have qEw := aM ((by rw [hg]; exact (below_size (lB HB)) : w.heap.size ≤ qM)); have qZ := aM ((by rw [hg]; exact (below_size (lB HB)) : w.heap.size ≤ qM)); replace HB := aM (below_step (lB HB) hb); clear hb hbox hg) | ((with_reducible refine gate_dst (N := 3) rfl ?_); (try (refine gate_guard (by rfl) ?_; dsimp only)); refine box_event ?hg (N := 3) ?hd (cs := #[.int .i64 0, .int .i64 0]) (t := 43) ?hr ?_; (case hd => rfl); (case hg => rfl); (case hr => first | (go_simp; done) | (go_simp; rfl)); intro qV hg w5 hbox hb; have qK := aM (hbox); have qEx := aM ((by rw [hg]; exact (below_size (by have := GEc.mk qZ.out; exact lS HB)) : w.heap.size ≤ qV)); have qd := aM ((by rw [hg]; exact (below_size (by have := GEc.mk qZ.out; exact lS HB)) : w.heap.size ≤ qV)); replace HB := aM (below_step (by have := GEc.mk qZ.out; exact lS HB) hb); have qL := aM ((by rw [hg]; exact Nat.ne_of_lt (blk_lt (g := qM) (lK qD)) : qM ≠ qV)); have qB := aM ((by rw [hg]; exact Nat.ne_of_gt (blk_lt (g := qM) (lK qD)) : qV ≠ qM)); replace qD := aM (blk_below (g := qM) (lK qD) hb); clear hb hbox hg) | ((with_reducible refine gate_dst (N := 14) rfl ?_); (try (refine gate_guard (by rfl) ?_; dsimp only)); refine box_event ?hg (N := 14) ?hd (cs := #[.slice A0 l0.length c0, .int .i64 0, .bool false]) (t := 70) ?hr ?_; (case hd => rfl); (case hg => rfl); (case hr => first | (go_simp; done) | (go_simp; rfl)); intro g377 hg w6 hbox hb2; have hi : IsS70 w w6 g377 qO jv jw := code_newreader.is A2.out ⟨A0, c0, hbox, (by rw [hg]; exact below_size (by have := GEc.mk qZ.out; have := GEc.mk qd.out; exact lS HB)), HR0.out⟩; have hb := below_step (by have := GEc.mk qZ.out; have := GEc.mk qd.out; exact lS HB) hb2; clear hbox hg; replace HB := aM (hb); have qA := aM (hi); have qE := aM (IsS70.ne_blk hi (blk_below (g := qM) (lK qD) hb2) (by decide)); have qu := aM (Ne.symm (IsS70.ne_blk hi (blk_below (g := qM) (lK qD) hb2) (by decide))); replace qD := aM (blk_below (g := qM) (lK qD) hb2); have qC := aM (IsS70.ne_blk hi (blk_below (g := qV) (lK qK) hb2) (by decide)); have qv := aM (Ne.symm (IsS70.ne_blk hi (blk_below (g := qV) (lK qK) hb2) (by decide))); replace qK := aM (blk_below (g := qV) (lK qK) hb2); (try clear hb); (try clear hb2); (try clear hk); (try clear hi)) | ((with_reducible refine gate_dst (N := 16) rfl ?_); refine code_marked.event (r := q4) rfl A3.out ?hr ?_; (case hr => first | (go_simp; done) | (go_simp; rfl)); rintro e w7 ⟨v379, rfl, ho0, hb⟩; refine ⟨_, rfl, ?_⟩; have yG := aM (Kd.V_lower (Kd.V_mono (ok' := fun k_ => k_ ≠ qM ∧ k_ ≠ qV ∧ k_ ≠ g377) ho0 (fun k_ hk_ => ⟨(Kd.freshB (g := qM) (o := .cells #[.int .i64 0, .int .i64 0, .slice none 0 0, .int .i64 0, .int .i64 0, .slice none 0 0, .slice none 0 0, .int .i64 0, .int .i64 0, .slice none 0 0, .slice none 0 0, .int .i64 0, .int .i64 0, .slice none 0 0, .slice none 0 0] 28 (0, 0)) (lK qD) k_ hk_), (Kd.freshB (g := qV) (o := .cells #[.int .i64 0, .int .i64 0] 43 (0, 0)) (lK qK) k_ hk_), (IsS70.fresh (by repeat (first | (with_reducible first | exact qA.out | apply IsS70.alloc | apply IsS70.drewN | apply IsS70.drew | apply IsS70.set_1 | apply IsS70.set_2 | refine IsS70.far ?_ qE.out _ | refine IsS70.far ?_ qC.out _) | exact qA.out)) k_ hk_)⟩)) (below_size (by have := GEc.mk (IsS70.ge qA.out); have := GEc.mk qZ.out; have := GEc.mk qd.out; exact lS HB))); replace qD := aM (blk_below (g := qM) (lK qD) hb); replace qK := aM (blk_below (g := qV) (lK qK) hb); replace HB := aM (below_step (by have := GEc.mk (IsS70.ge qA.out); have := GEc.mk qZ.out; have := GEc.mk qd.out; exact lS HB) hb); replace qA := aM (IsS70.below (by repeat (first | (with_reducible first | exact qA.out | apply IsS70.alloc | apply IsS70.drewN | apply IsS70.drew | apply IsS70.set_1 | apply IsS70.set_2 | refine IsS70.far ?_ qE.out _ | refine IsS70.far ?_ qC.out _) | exact qA.out)) hb); (try clear hb); (try clear hb2); (try clear hk); (try clear hi); (try clear ho0); obtain ⟨Ao8, co8, eo8⟩ := Kd.V_slice yG.out; subst eo8))
 go_loopg [18] k (fun kq v18 w' => ∃ (jE : Int) (jO : Int) (jP : Bool), v18 = .int .i64 jE ∧ Aside0 (code_Decode.l0 kq l0 q4 (q4.length : Int) jE qO jO jP = some (r1, r2, r3, r4, r5, r6, r7, r8, r9, r10, r11, r12, r13, r14, r15, r16, r17)) ∧ Aside0 (kq ≤ k) ∧ Aside0 (Kd.V (Kd.int .u8) 5 w' w.heap.size (fun k_ => k_ ≠ qM ∧ k_ ≠ qV ∧ k_ ≠ g377) (.slice Ao8 q4.length co8) q4) ∧ Aside0 (w'.heap[qM]? = some (.cells #[.int .i64 0, .int .i64 0, (.slice none 0 0), .int .i64 0, .int .i64 0, (.slice none 0 0), (.slice none 0 0), .int .i64 0, .int .i64 0, (.slice none 0 0), (.slice none 0 0), .int .i64 0, .int .i64 0, (.slice none 0 0), (.slice none 0 0)] 28 (0, 0))) ∧ Aside0 (w'.heap[qV]? = some (.cells #[.int .i64 0, .int .i64 0] 43 (0, 0))) ∧ Aside0 (IsS70 w w' g377 qO jO jP) ∧ Aside0 (Below w.heap.size w w'))
 case atStart => exact ⟨(0), (jv), (jw), (by first | rfl | (simp; done) | (simp [*]; done) | (simp [wrap64]; done)), H', ⟨Nat.le_refl _⟩, ⟨by (with_reducible repeat (first | apply Kd.V_alloc | apply Kd.V_drewN | apply Kd.V_drew)); exact yG.out⟩, ⟨by refine lZ ?_; exact qD.out⟩, ⟨by refine lZ ?_; exact qK.out⟩, ⟨by repeat (first | (with_reducible first | exact qA.out | apply IsS70.alloc | apply IsS70.drewN | apply IsS70.drew | apply IsS70.set_1 | apply IsS70.set_2 | refine IsS70.far ?_ qE.out _ | refine IsS70.far ?_ qC.out _) | exact qA.out)⟩, ⟨by repeat (first | (with_reducible first | exact HB.out | apply below_alloc | apply pw_below_drewN | apply below_drew1 | refine below_set ?_ (IsS70.ge qA.out) | refine below_set ?_ qZ.out | refine below_set ?_ qd.out) | exact HB.out)⟩⟩
 case round =>
  clear H'
  obtain ⟨jE, jO, jP, rfl, HA, HK1, jJ, qD, qK, qA, HB⟩ := hrel
  cases gk with
  | zero => exact absurd HA.out (by simp [code_Decode.l0])
  | succ k1 =>
   have H := HA.out
   clear HA
   simp only [code_Decode.l0] at H
   by_cases c9 : jE < (q4.length : Int)
   ·rw [if_pos c9] at H
    have c9b0 : decide (jE < (q4.length : Int)) = true := decide_eq_true c9
    clear c9
    by_cases c10 : 0 ≤ jE
    ·rw [if_pos c10] at H
     have c10b0 : decide (0 ≤ jE) = true := decide_eq_true c10
     clear c10
     by_cases c11 : jE < (q4.length : Int)
     ·rw [if_pos c11] at H
      have c11b0 : decide (jE < (q4.length : Int)) = true := decide_eq_true c11
      clear c11
      replace H := Option.bind_eq_some_iff.mp H
      obtain ⟨⟨yk, j2, j3⟩, A120, H⟩ := H
      replace H : (code_Decode.l0 k1 l0 q4 (q4.length : Int) (wrap64 (jE + 1)) qO j2 j3) = some (r1, r2, r3, r4, r5, r6, r7, r8, r9, r10, r11, r12, r13, r14, r15, r16, r17) := H
      have A12 := aM A120
      clear A120
      have H' := aM H
      clear H
      have p381 : 0 ≤ (jE : Int) := of_decide_eq_true (by first | (with_reducible assumption) | assumption)
      have q381 : jE < (q4.length : Int) := of_decide_eq_true (by first | (with_reducible assumption) | assumption)
      obtain ⟨ad381, e381, hx381_0⟩ := Kd.at_int (Kd.V_reads' jJ.out).2.2 jE p381 q381
      cases e381
      replace p381 := eq_true p381
      replace q381 := eq_true q381
      go_wp2_with (first | ((with_reducible refine gate_callee (f := 33) rfl ?_); refine goesL_ (some 27) rfl rfl Try.func33 (by kernel_rfl) rfl #[.pointer (some ⟨g377, 0, none⟩), .int .i64 (wrap64 (rd q4 jE)), .int .i64 (wrap64 (rd q4 jE))] rfl (by (try simp only [List.map_toArray, List.map_cons, List.map_nil]); first | done | rfl | (simp only [List.length_drop, List.length_take]; rfl)) ?_; (with_reducible refine (code_reader_within.calls g377 qO jO jP (wrap64 (rd q4 jE)) (wrap64 (rd q4 jE)) yk j2 j3 w _ ?side1 ?side2 A12.out).mono ?_); (case side1 => repeat (first | (with_reducible first | exact qA.out | apply IsS70.alloc | apply IsS70.drewN | apply IsS70.drew | apply IsS70.set_1 | apply IsS70.set_2 | refine IsS70.far ?_ qE.out _ | refine IsS70.far ?_ qC.out _) | exact qA.out)); (case side2 => exact (by have := GEc.mk (IsS70.ge qA.out); have := GEc.mk qZ.out; have := GEc.mk qd.out; exact lS HB)); rintro e w13 ⟨rfl, hi, hb, hk⟩; refine ⟨_, rfl, ?_⟩; replace jJ := aM (Kd.V_mono (Kd.V_keep (Kd.V_mono (ok := fun k_ => (k_ ≠ qM ∧ (k_ ≠ qV ∧ k_ ≠ g377))) (lV jJ) (fun k_ hk_ => (⟨hk_, hk_.2.2⟩ : _ ∧ k_ ≠ g377))) hk (fun _ h => h.2)) (fun _ h => h.1)); replace qD := aM (KeepBut.blk hk (g' := qM) (lK qD) qu.out (by simp)); replace qK := aM (KeepBut.blk hk (g' := qV) (lK qK) qv.out (by simp)); replace HB := aM (hb); replace qA := aM (hi); (try clear hb); (try clear hb2); (try clear hk); (try clear hi)))
      go_roundg k1
      case measure => have := HK1.out; omega
      case rel => exact ⟨(wrap64 (jE + 1)), (j2), (j3), (by first | rfl | (simp; done) | (simp [*]; done) | (simp [wrap64]; done)), H', ⟨by have := HK1.out; omega⟩, ⟨by (with_reducible repeat (first | apply Kd.V_alloc | apply Kd.V_drewN | apply Kd.V_drew)); exact jJ.out⟩, ⟨by refine lZ ?_; exact qD.out⟩, ⟨by refine lZ ?_; exact qK.out⟩, ⟨by repeat (first | (with_reducible first | exact qA.out | apply IsS70.alloc | apply IsS70.drewN | apply IsS70.drew | apply IsS70.set_1 | apply IsS70.set_2 | refine IsS70.far ?_ qE.out _ | refine IsS70.far ?_ qC.out _) | exact qA.out)⟩, ⟨by repeat (first | (with_reducible first | exact HB.out | apply below_alloc | apply pw_below_drewN | apply below_drew1 | refine below_set ?_ (IsS70.ge qA.out) | refine below_set ?_ qZ.out | refine below_set ?_ qd.out) | exact HB.out)⟩⟩
     ·rw [if_neg c11] at H
      exact absurd H (by simp)
    ·rw [if_neg c10] at H
     exact absurd H (by simp)
   ·rw [if_neg c9] at H
    have c9b0 : decide (jE < (q4.length : Int)) = false := decide_eq_false c9
    clear c9
    replace H := Option.bind_eq_some_iff.mp H
    obtain ⟨⟨qr, j4, j5⟩, A140, H⟩ := H
    replace H : ((code_reader_within.f qO j4 j5 1 8).bind fun bt388 => ((code_reader_within.f qO bt388.2.1 bt388.2.2 0 255).bind fun bt392 => (code_Decode.l1 k1 l0 bt392.1 0 qO bt392.2.1 bt392.2.2 qr bt388.1 ([] : List (S48)) 0 0 0 0 0 0))) = some (r1, r2, r3, r4, r5, r6, r7, r8, r9, r10, r11, r12, r13, r14, r15, r16, r17) := H
    have A14 := aM A140
    clear A140
    replace H := Option.bind_eq_some_iff.mp H
    obtain ⟨⟨qt, jl, jm⟩, A150, H⟩ := H
    replace H : ((code_reader_within.f qO jl jm 0 255).bind fun bt392 => (code_Decode.l1 k1 l0 bt392.1 0 qO bt392.2.1 bt392.2.2 qr qt ([] : List (S48)) 0 0 0 0 0 0)) = some (r1, r2, r3, r4, r5, r6, r7, r8, r9, r10, r11, r12, r13, r14, r15, r16, r17) := H
    have A15 := aM A150
    clear A150
    replace H := Option.bind_eq_some_iff.mp H
    obtain ⟨⟨jX, j6, j7⟩, A160, H⟩ := H
    replace H : (code_Decode.l1 k1 l0 jX 0 qO j6 j7 qr qt ([] : List (S48)) 0 0 0 0 0 0) = some (r1, r2, r3, r4, r5, r6, r7, r8, r9, r10, r11, r12, r13, r14, r15, r16, r17) := H
    have A16 := aM A160
    clear A160
    have H' := aM H
    clear H
    go_wp2_with (first | ((with_reducible refine gate_callee (f := 33) rfl ?_); refine goesL_ (some 30) rfl rfl Try.func33 (by kernel_rfl) rfl #[.pointer (some ⟨g377, 0, none⟩), .int .i64 1, .int .i64 8] rfl (by (try simp only [List.map_toArray, List.map_cons, List.map_nil]); first | done | rfl | (simp only [List.length_drop, List.length_take]; rfl)) ?_; (with_reducible refine (code_reader_within.calls g377 qO jO jP 1 8 qr j4 j5 w _ ?side1 ?side2 A14.out).mono ?_); (case side1 => repeat (first | (with_reducible first | exact qA.out | apply IsS70.alloc | apply IsS70.drewN | apply IsS70.drew | apply IsS70.set_1 | apply IsS70.set_2 | refine IsS70.far ?_ qE.out _ | refine IsS70.far ?_ qC.out _) | exact qA.out)); (case side2 => exact (by have := GEc.mk (IsS70.ge qA.out); have := GEc.mk qZ.out; have := GEc.mk qd.out; exact lS HB)); rintro e w17 ⟨rfl, hi, hb, hk⟩; refine ⟨_, rfl, ?_⟩; replace jJ := aM (Kd.V_mono (Kd.V_keep (Kd.V_mono (ok := fun k_ => (k_ ≠ qM ∧ (k_ ≠ qV ∧ k_ ≠ g377))) (lV jJ) (fun k_ hk_ => (⟨hk_, hk_.2.2⟩ : _ ∧ k_ ≠ g377))) hk (fun _ h => h.2)) (fun _ h => h.1)); replace qD := aM (KeepBut.blk hk (g' := qM) (lK qD) qu.out (by simp)); replace qK := aM (KeepBut.blk hk (g' := qV) (lK qK) qv.out (by simp)); replace HB := aM (hb); replace qA := aM (hi); (try clear hb); (try clear hb2); (try clear hk); (try clear hi)) | ((with_reducible refine gate_callee (f := 33) rfl ?_); refine goesL_ (some 32) rfl rfl Try.func33 (by kernel_rfl) rfl #[.pointer (some ⟨g377, 0, none⟩), .int .i64 1, .int .i64 8] rfl (by (try simp only [List.map_toArray, List.map_cons, List.map_nil]); first | done | rfl | (simp only [List.length_drop, List.length_take]; rfl)) ?_; (with_reducible refine (code_reader_within.calls g377 qO j4 j5 1 8 qt jl jm w _ ?side1 ?side2 A15.out).mono ?_); (case side1 => repeat (first | (with_reducible first | exact qA.out | apply IsS70.alloc | apply IsS70.drewN | apply IsS70.drew | apply IsS70.set_1 | apply IsS70.set_2 | refine IsS70.far ?_ qE.out _ | refine IsS70.far ?_ qC.out _) | exact qA.out)); (case side2 => exact (by have := GEc.mk (IsS70.ge qA.out); have := GEc.mk qZ.out; have := GEc.mk qd.out; exact lS HB)); rintro e w18 ⟨rfl, hi, hb, hk⟩; refine ⟨_, rfl, ?_⟩; replace jJ := aM (Kd.V_mono (Kd.V_keep (Kd.V_mono (ok := fun k_ => (k_ ≠ qM ∧ (k_ ≠ qV ∧ k_ ≠ g377))) (lV jJ) (fun k_ hk_ => (⟨hk_, hk_.2.2⟩ : _ ∧ k_ ≠ g377))) hk (fun _ h => h.2)) (fun _ h => h.1)); replace qD := aM (KeepBut.blk hk (g' := qM) (lK qD) qu.out (by simp)); replace qK := aM (KeepBut.blk hk (g' := qV) (lK qK) qv.out (by simp)); replace HB := aM (hb); replace qA := aM (hi); (try clear hb); (try clear hb2); (try clear hk); (try clear hi)) | ((with_reducible refine gate_dst (N := 7) rfl ?_); (try (refine gate_guard (by rfl) ?_; dsimp only)); refine box_event ?hg (N := 7) ?hd (cs := #[.int .i64 0, .int .i64 0, .slice none 0 0, .int .i64 0, .int .i64 0, .slice none 0 0, .slice none 0 0, .int .i64 0, .int .i64 0, .slice none 0 0, .slice none 0 0, .int .i64 0, .int .i64 0, .slice none 0 0, .slice none 0 0]) (t := 28) ?hr ?_; (case hd => rfl); (case hg => rfl); (case hr => first | (go_simp; done) | (go_simp; rfl)); intro qX hg w19 hbox hb; replace jJ := aM (Kd.V_below (Kd.V_elderB (lV jJ) qX (Nat.le_of_eq hg.symm)) hb); have qI := aM (hbox); have qEy := aM ((by rw [hg]; exact (below_size (by have := GEc.mk (IsS70.ge qA.out); have := GEc.mk qZ.out; have := GEc.mk qd.out; exact lS HB)) : w.heap.size ≤ qX)); have qq := aM ((by rw [hg]; exact (below_size (by have := GEc.mk (IsS70.ge qA.out); have := GEc.mk qZ.out; have := GEc.mk qd.out; exact lS HB)) : w.heap.size ≤ qX)); replace HB := aM (below_step (by have := GEc.mk (IsS70.ge qA.out); have := GEc.mk qZ.out; have := GEc.mk qd.out; exact lS HB) hb); have qH := aM ((by rw [hg]; exact Nat.ne_of_lt (blk_lt (g := qM) (lK qD)) : qM ≠ qX)); have qN := aM ((by rw [hg]; exact Nat.ne_of_gt (blk_lt (g := qM) (lK qD)) : qX ≠ qM)); replace qD := aM (blk_below (g := qM) (lK qD) hb); have qW := aM ((by rw [hg]; exact Nat.ne_of_lt (blk_lt (g := qV) (lK qK)) : qV ≠ qX)); have q3 := aM ((by rw [hg]; exact Nat.ne_of_gt (blk_lt (g := qV) (lK qK)) : qX ≠ qV)); replace qK := aM (blk_below (g := qV) (lK qK) hb); have qF := aM ((by rw [hg]; exact Nat.ne_of_lt (IsS70.lt (show IsS70 w _ g377 qO jl jm from by repeat (first | (with_reducible first | exact qA.out | apply IsS70.alloc | apply IsS70.drewN | apply IsS70.drew | apply IsS70.set_1 | apply IsS70.set_2 | refine IsS70.far ?_ qE.out _ | refine IsS70.far ?_ qC.out _) | exact qA.out))) : g377 ≠ qX)); have qs := aM ((by rw [hg]; exact Nat.ne_of_gt (IsS70.lt (show IsS70 w _ g377 qO jl jm from by repeat (first | (with_reducible first | exact qA.out | apply IsS70.alloc | apply IsS70.drewN | apply IsS70.drew | apply IsS70.set_1 | apply IsS70.set_2 | refine IsS70.far ?_ qE.out _ | refine IsS70.far ?_ qC.out _) | exact qA.out))) : qX ≠ g377)); replace qA := aM (IsS70.below (by repeat (first | (with_reducible first | exact qA.out | apply IsS70.alloc | apply IsS70.drewN | apply IsS70.drew | apply IsS70.set_1 | apply IsS70.set_2 | refine IsS70.far ?_ qE.out _ | refine IsS70.far ?_ qC.out _) | exact qA.out)) hb); clear hb hbox hg; have qEz := qN.out; have qE0 := qH.out; have qE1 := q3.out; have qE2 := qW.out; have qE3 := qs.out; have qE4 := qF.out; have qCW := zc15 qI.out; have qCX := fun i_ : Nat => blk_frozen qI.out i_) | ((with_reducible refine gate_callee (f := 33) rfl ?_); refine goesL_ (some 35) rfl rfl Try.func33 (by kernel_rfl) rfl #[.pointer (some ⟨g377, 0, none⟩), .int .i64 0, .int .i64 255] rfl (by (try simp only [List.map_toArray, List.map_cons, List.map_nil]); first | done | rfl | (simp only [List.length_drop, List.length_take]; rfl)) ?_; (with_reducible refine (code_reader_within.calls g377 qO jl jm 0 255 jX j6 j7 w _ ?side1 ?side2 A16.out).mono ?_); (case side1 => repeat (first | (with_reducible first | exact qA.out | apply IsS70.alloc | apply IsS70.drewN | apply IsS70.drew | apply IsS70.set_1 | apply IsS70.set_2 | refine IsS70.far ?_ qE.out _ | refine IsS70.far ?_ qC.out _ | refine IsS70.far ?_ qF.out _) | exact qA.out)); (case side2 => exact (by have := GEc.mk (IsS70.ge qA.out); have := GEc.mk qZ.out; have := GEc.mk qd.out; have := GEc.mk qq.out; exact lS HB)); rintro e w24 ⟨rfl, hi, hb, hk⟩; refine ⟨_, rfl, ?_⟩; replace jJ := aM (Kd.V_mono (Kd.V_keep (Kd.V_mono (ok := fun k_ => ((k_ ≠ qM ∧ (k_ ≠ qV ∧ k_ ≠ g377)) ∧ k_ ≠ qX)) (by (with_reducible repeat (first | apply Kd.V_alloc | apply Kd.V_drewN | apply Kd.V_drew)); exact (Kd.V_mono (Kd.V_far (p := ⟨qX, 14, none⟩) (Kd.V_far (p := ⟨qX, 13, none⟩) (Kd.V_far (p := ⟨qX, 12, none⟩) (Kd.V_far (p := ⟨qX, 11, none⟩) (Kd.V_far (p := ⟨qX, 10, none⟩) (Kd.V_far (p := ⟨qX, 9, none⟩) (Kd.V_far (p := ⟨qX, 8, none⟩) (Kd.V_far (p := ⟨qX, 7, none⟩) (Kd.V_far (p := ⟨qX, 6, none⟩) (Kd.V_far (p := ⟨qX, 5, none⟩) (Kd.V_far (p := ⟨qX, 4, none⟩) (Kd.V_far (p := ⟨qX, 3, none⟩) (Kd.V_far (p := ⟨qX, 2, none⟩) (Kd.V_far (p := ⟨qX, 1, none⟩) (Kd.V_far (p := ⟨qX, 0, none⟩) (Kd.V_mono jJ.out (fun k_ hk => (⟨hk, hk.2⟩ : _ ∧ k_ ≠ qX))) (fun _ hk => hk.2) (.int .i64 qr)) (fun _ hk => hk.2) (.int .i64 qt)) (fun _ hk => hk.2) (.slice none 0 0)) (fun _ hk => hk.2) (.int .i64 0)) (fun _ hk => hk.2) (.int .i64 0)) (fun _ hk => hk.2) (.slice none 0 0)) (fun _ hk => hk.2) (.slice none 0 0)) (fun _ hk => hk.2) (.int .i64 0)) (fun _ hk => hk.2) (.int .i64 0)) (fun _ hk => hk.2) (.slice none 0 0)) (fun _ hk => hk.2) (.slice none 0 0)) (fun _ hk => hk.2) (.int .i64 0)) (fun _ hk => hk.2) (.int .i64 0)) (fun _ hk => hk.2) (.slice none 0 0)) (fun _ hk => hk.2) (.slice none 0 0)) (fun _ h_ => h_.1))) (fun k_ hk_ => (⟨hk_, hk_.1.2.2⟩ : _ ∧ k_ ≠ g377))) hk (fun _ h => h.2)) (fun _ h => h.1)); replace qD := aM (KeepBut.blk hk (g' := qM) (o := .cells #[.int .i64 0, .int .i64 0, .slice none 0 0, .int .i64 0, .int .i64 0, .slice none 0 0, .slice none 0 0, .int .i64 0, .int .i64 0, .slice none 0 0, .slice none 0 0, .int .i64 0, .int .i64 0, .slice none 0 0, .slice none 0 0] 28 (0, 0)) (by refine lZ ?_; refine blk_far ?_ qH.out _; refine lZ ?_; refine blk_far ?_ qH.out _; refine lZ ?_; refine blk_far ?_ qH.out _; refine lZ ?_; refine blk_far ?_ qH.out _; refine lZ ?_; refine blk_far ?_ qH.out _; refine lZ ?_; refine blk_far ?_ qH.out _; refine lZ ?_; refine blk_far ?_ qH.out _; refine lZ ?_; refine blk_far ?_ qH.out _; refine lZ ?_; refine blk_far ?_ qH.out _; refine lZ ?_; refine blk_far ?_ qH.out _; refine lZ ?_; refine blk_far ?_ qH.out _; refine lZ ?_; refine blk_far ?_ qH.out _; refine lZ ?_; refine blk_far ?_ qH.out _; refine lZ ?_; refine blk_far ?_ qH.out _; refine lZ ?_; refine blk_far ?_ qH.out _; refine lZ ?_; exact qD.out) qu.out (by simp)); replace qK := aM (KeepBut.blk hk (g' := qV) (o := .cells #[.int .i64 0, .int .i64 0] 43 (0, 0)) (by refine lZ ?_; refine blk_far ?_ qW.out _; refine lZ ?_; refine blk_far ?_ qW.out _; refine lZ ?_; refine blk_far ?_ qW.out _; refine lZ ?_; refine blk_far ?_ qW.out _; refine lZ ?_; refine blk_far ?_ qW.out _; refine lZ ?_; refine blk_far ?_ qW.out _; refine lZ ?_; refine blk_far ?_ qW.out _; refine lZ ?_; refine blk_far ?_ qW.out _; refine lZ ?_; refine blk_far ?_ qW.out _; refine lZ ?_; refine blk_far ?_ qW.out _; refine lZ ?_; refine blk_far ?_ qW.out _; refine lZ ?_; refine blk_far ?_ qW.out _; refine lZ ?_; refine blk_far ?_ qW.out _; refine lZ ?_; refine blk_far ?_ qW.out _; refine lZ ?_; refine blk_far ?_ qW.out _; refine lZ ?_; exact qK.out) qv.out (by simp)); replace qI := aM (KeepBut.blk hk (g' := qX) (o := .cells #[.int .i64 qr, .int .i64 qt, .slice none 0 0, .int .i64 0, .int .i64 0, .slice none 0 0, .slice none 0 0, .int .i64 0, .int .i64 0, .slice none 0 0, .slice none 0 0, .int .i64 0, .int .i64 0, .slice none 0 0, .slice none 0 0] 28 (0, 0)) (by refine lZ ?_; apply zp15; refine lZ ?_; exact qI.out) qs.out (by simp)); replace HB := aM (hb); replace qA := aM (hi); (try clear hb); (try clear hb2); (try clear hk); (try clear hi)))
    go_loopg [36] k1 (fun kq v36 w' => ∃ (jN : Int) (jG : Int) (jH : Bool) (qe : List (S48)) (qo : Value), v36 = .int .i64 jN ∧ Aside0 (code_Decode.l1 kq l0 jX jN qO jG jH qr qt qe 0 0 0 0 0 0 = some (r1, r2, r3, r4, r5, r6, r7, r8, r9, r10, r11, r12, r13, r14, r15, r16, r17)) ∧ Aside0 (kq ≤ k1) ∧ Aside0 (Kd.R k48 48 w' w.heap.size (fun _ => True) qo qe) ∧ Aside0 (w'.heap[qM]? = some (.cells #[.int .i64 0, .int .i64 0, (.slice none 0 0), .int .i64 0, .int .i64 0, (.slice none 0 0), (.slice none 0 0), .int .i64 0, .int .i64 0, (.slice none 0 0), (.slice none 0 0), .int .i64 0, .int .i64 0, (.slice none 0 0), (.slice none 0 0)] 28 (0, 0))) ∧ Aside0 (w'.heap[qV]? = some (.cells #[.int .i64 0, .int .i64 0] 43 (0, 0))) ∧ Aside0 (w'.heap[qX]? = some (.cells #[.int .i64 qr, .int .i64 qt, qo, .int .i64 0, .int .i64 0, (.slice none 0 0), (.slice none 0 0), .int .i64 0, .int .i64 0, (.slice none 0 0), (.slice none 0 0), .int .i64 0, .int .i64 0, (.slice none 0 0), (.slice none 0 0)] 28 (0, 0))) ∧ Aside0 (IsS70 w w' g377 qO jG jH) ∧ Aside0 (Below w.heap.size w w'))
    case atStart => exact ⟨(0), (j6), (j7), (([] : List (S48))), (.slice none 0 0), (by first | rfl | (simp; done) | (simp [*]; done) | (simp [wrap64]; done)), H', ⟨Nat.le_refl _⟩, ⟨by first | exact Kd.R_nil _ _ _ _ _ | exact Kd.N_nil _ _ _ _ _ | exact Kd.V_nil _ _ _ _ _ | exact Kd.Q_nil _ _ _ _ _ | exact Kd.S_nil _ _ _ _ _⟩, ⟨by refine lZ ?_; exact qD.out⟩, ⟨by refine lZ ?_; exact qK.out⟩, ⟨by refine lZ ?_; exact qI.out⟩, ⟨by repeat (first | (with_reducible first | exact qA.out | apply IsS70.alloc | apply IsS70.drewN | apply IsS70.drew | apply IsS70.set_1 | apply IsS70.set_2 | refine IsS70.far ?_ qE.out _ | refine IsS70.far ?_ qC.out _ | refine IsS70.far ?_ qF.out _) | exact qA.out)⟩, ⟨by repeat (first | (with_reducible first | exact HB.out | apply below_alloc | apply pw_below_drewN | apply below_drew1 | refine below_set ?_ (IsS70.ge qA.out) | refine below_set ?_ qZ.out | refine below_set ?_ qd.out | refine below_set ?_ qq.out) | exact HB.out)⟩⟩
    case round =>
     clear H'
     try clear c9
     obtain ⟨jN, jG, jH, qe, qo, rfl, HA, HK2, qJ, qD, qK, qI, qA, HB⟩ := hrel
     cases gk with
     | zero => exact absurd HA.out (by simp [code_Decode.l1])
     | succ k2 =>
      have H := HA.out
      clear HA
      simp only [code_Decode.l1] at H
      by_cases c25 : jN < jX
      ·rw [if_pos c25] at H
       have c25b0 : decide (jN < jX) = true := decide_eq_true c25
       clear c25
       replace H := Option.bind_eq_some_iff.mp H
       obtain ⟨⟨jY, jx, jy⟩, A260, H⟩ := H
       replace H : ((code_reader_signed.f qO jx jy).bind fun bt398 => (if qe.length < 8796093022208 then (code_Decode.l1 k2 l0 jX (wrap64 (jN + 1)) qO bt398.2.1 bt398.2.2 qr qt (qe ++ [(⟨jY, bt398.1⟩ : S48)]) 0 0 0 0 0 0) else (none))) = some (r1, r2, r3, r4, r5, r6, r7, r8, r9, r10, r11, r12, r13, r14, r15, r16, r17) := H
       have A26 := aM A260
       clear A260
       replace H := Option.bind_eq_some_iff.mp H
       obtain ⟨⟨jh, jn, jo⟩, A270, H⟩ := H
       replace H : (if qe.length < 8796093022208 then (code_Decode.l1 k2 l0 jX (wrap64 (jN + 1)) qO jn jo qr qt (qe ++ [(⟨jY, jh⟩ : S48)]) 0 0 0 0 0 0) else (none)) = some (r1, r2, r3, r4, r5, r6, r7, r8, r9, r10, r11, r12, r13, r14, r15, r16, r17) := H
       have A27 := aM A270
       clear A270
       by_cases c28 : qe.length < 8796093022208
       ·rw [if_pos c28] at H
        have LMc28 := aM c28
        clear c28
        obtain ⟨y401, hy401⟩ : ∃ y_ : List (S48), y_ = (qe ++ [(⟨jY, jh⟩ : S48)]) := ⟨_, rfl⟩
        replace H : (code_Decode.l1 k2 l0 jX (wrap64 (jN + 1)) qO jn jo qr qt y401 0 0 0 0 0 0) = some (r1, r2, r3, r4, r5, r6, r7, r8, r9, r10, r11, r12, r13, r14, r15, r16, r17) := by first | (rw [hy401]; with_reducible exact H) | (have H2_ := (Option.bind_some _ _).symm.trans H; rw [hy401]; with_reducible exact H2_) | (have H2_ := (Option.bind_some _ _).symm.trans H; with_reducible exact H2_) | with_reducible exact H | (rw [hy401]; exact H) | exact H
        have Ny401 := aM hy401
        clear hy401
        have H' := aM H
        clear H
        try go_wp2_with (first | ((with_reducible refine gate_callee (f := 34) rfl ?_); refine goesL_ (some 39) rfl rfl Try.func34 (by kernel_rfl) rfl #[.pointer (some ⟨g377, 0, none⟩)] rfl (by (try simp only [List.map_toArray, List.map_cons, List.map_nil]); first | done | rfl | (simp only [List.length_drop, List.length_take]; rfl)) ?_; (with_reducible refine (code_reader_signed.calls g377 qO jG jH jY jx jy w _ ?side1 ?side2 A26.out).mono ?_); (case side1 => repeat (first | (with_reducible first | exact qA.out | apply IsS70.alloc | apply IsS70.drewN | apply IsS70.drew | apply IsS70.set_1 | apply IsS70.set_2 | refine IsS70.far ?_ qE.out _ | refine IsS70.far ?_ qC.out _ | refine IsS70.far ?_ qF.out _) | exact qA.out)); (case side2 => exact (by have := GEc.mk (IsS70.ge qA.out); have := GEc.mk qZ.out; have := GEc.mk qd.out; have := GEc.mk qq.out; exact lS HB)); rintro e w29 ⟨rfl, hi, hb, hk⟩; refine ⟨_, rfl, ?_⟩; replace qJ := aM (Kd.R_mono (Kd.R_keep (IsS70.apart (show IsS70 w _ g377 qO jG jH from by repeat (first | (with_reducible first | exact qA.out | apply IsS70.alloc | apply IsS70.drewN | apply IsS70.drew | apply IsS70.set_1 | apply IsS70.set_2 | refine IsS70.far ?_ qE.out _ | refine IsS70.far ?_ qC.out _ | refine IsS70.far ?_ qF.out _) | exact qA.out)) (lR qJ) (by decide)) hk (fun _ h => h.2)) (fun _ h => h.1)); replace qD := aM (KeepBut.blk hk (g' := qM) (lK qD) qu.out (by simp)); replace qK := aM (KeepBut.blk hk (g' := qV) (lK qK) qv.out (by simp)); replace qI := aM (KeepBut.blk hk (g' := qX) (lK qI) qs.out (by simp)); replace HB := aM (hb); replace qA := aM (hi); (try clear hb); (try clear hb2); (try clear hk); (try clear hi)))
        have n0_ := aM (Kd.R_drew qJ.out)
        have n1_ := aM (blk_drew qD.out)
        have n2_ := aM (blk_drew qK.out)
        have n3_ := aM (blk_drew qI.out)
        have n4_ := aM (IsS70.drew qA.out)
        have n5_ := aM (below_drew1 HB.out)
        clear qJ
        clear qD
        clear qK
        clear qI
        clear qA
        clear HB
        have qJ := n0_
        have qD := n1_
        have qK := n2_
        have qI := n3_
        have qA := n4_
        have HB := n5_
        clear n0_ n1_ n2_ n3_ n4_ n5_
        refine start_ (n := 10) (S := fun w' => w'.cell? ⟨qX, 0, none⟩ = some (.int .i64 qr) ∧ w'.cell? ⟨qX, 1, none⟩ = some (.int .i64 qt) ∧ w'.cell? ⟨qX, 2, none⟩ = some (qo) ∧ w'.cell? ⟨qX, 3, none⟩ = some (.int .i64 0) ∧ w'.cell? ⟨qX, 4, none⟩ = some (.int .i64 0) ∧ w'.cell? ⟨qX, 5, none⟩ = some (.slice none 0 0) ∧ w'.cell? ⟨qX, 6, none⟩ = some (.slice none 0 0) ∧ w'.cell? ⟨qX, 7, none⟩ = some (.int .i64 0) ∧ w'.cell? ⟨qX, 8, none⟩ = some (.int .i64 0) ∧ w'.cell? ⟨qX, 9, none⟩ = some (.slice none 0 0) ∧ w'.cell? ⟨qX, 10, none⟩ = some (.slice none 0 0) ∧ w'.cell? ⟨qX, 11, none⟩ = some (.int .i64 0) ∧ w'.cell? ⟨qX, 12, none⟩ = some (.int .i64 0) ∧ w'.cell? ⟨qX, 13, none⟩ = some (.slice none 0 0) ∧ w'.cell? ⟨qX, 14, none⟩ = some (.slice none 0 0)) (ds := [9]) #[false, false, false, false, false, false, false, false, false, false] (by kernel_rfl) rfl rfl ⟨(blk_cell qI.out 0).trans rfl, (blk_cell qI.out 1).trans rfl, (blk_cell qI.out 2).trans rfl, (blk_cell qI.out 3).trans rfl, (blk_cell qI.out 4).trans rfl, (blk_cell qI.out 5).trans rfl, (blk_cell qI.out 6).trans rfl, (blk_cell qI.out 7).trans rfl, (blk_cell qI.out 8).trans rfl, (blk_cell qI.out 9).trans rfl, (blk_cell qI.out 10).trans rfl, (blk_cell qI.out 11).trans rfl, (blk_cell qI.out 12).trans rfl, (blk_cell qI.out 13).trans rfl, (blk_cell qI.out 14).trans rfl⟩ (fun hHeld => ?_); refine with_tabW code_Decode.tab11 code_Decode.bits11 (fun HT_ HW_ => ?_)
        generalize w29.drew = w30 at qJ qD qK qI qA HB hHeld ⊢
        refine pure_ (i := 0) (N := some 40) (v := ?_) (a' := ?_) #[true, false, false, false, false, false, false, false, false, false] rfl rfl (any_of HT_.out (by kernel_rfl)) (fun _ _ _ h => h) (Or.inl ⟨by rfl, ?_⟩) ?_ ?_
        rotate_left
        ·intro w'
         go_simp
         with_reducible rfl
        rotate_left
        ·simp only [Act.put, List.setIfInBounds_toArray, List.set_cons_zero, List.set_cons_succ, i64_w, i32_w]
         rfl
        refine pure_ (i := 2) (N := some 42) (v := ?_) (a' := ?_) #[true, false, true, false, false, false, false, false, false, false] rfl rfl (any_of HT_.out (by kernel_rfl)) (fun _ _ _ h => h) (Or.inl ⟨by rfl, ?_⟩) ?_ ?_
        rotate_left
        ·intro w'
         go_simp
         with_reducible rfl
        rotate_left
        ·simp only [Act.put, List.setIfInBounds_toArray, List.set_cons_zero, List.set_cons_succ, i64_w, i32_w]
         rfl
        refine pure_ (i := 3) (N := some 43) (v := ?_) (a' := ?_) #[true, false, true, true, false, false, false, false, false, false] rfl rfl (any_of HT_.out (by kernel_rfl)) (fun _ _ _ h => h) (Or.inl ⟨by rfl, ?_⟩) ?_ ?_
        rotate_left
        ·intro w'
         go_simp
         with_reducible rfl
        rotate_left
        ·simp only [Act.put, List.setIfInBounds_toArray, List.set_cons_zero, List.set_cons_succ, i64_w, i32_w]
         rfl
        refine take_ (i := 1) (N := some 41) (v := ?_) (a' := ?_) #[true, true, true, true, false, false, false, false, false, false] rfl rfl (take_ofW HT_.out HW_.out (by kernel_rfl)) (fun _ _ _ h => h) (Or.inl ⟨by rfl, ?_⟩) hHeld ?_ ?_
        rotate_left
        ·rintro w' ⟨s0, s1, s2, s3, s4, s5, s6, s7, s8, s9, s10, s11, s12, s13, s14⟩
         go_simp
         with_reducible rfl
        rotate_left
        ·simp only [Act.put, List.setIfInBounds_toArray, List.set_cons_zero, List.set_cons_succ, i64_w, i32_w]
         rfl
        refine one_ (i := 4) (N := some 44) #[true, true, true, true, true, false, false, false, false, false] rfl rfl (one_of HT_.out (by kernel_rfl)) (by decide) (fun K hK => ?_)
        refine goes_ Try.func34 (by kernel_rfl) rfl #[.pointer (some ⟨g377, 0, none⟩)] (by rfl) rfl rfl (by (try simp only [List.map_toArray, List.map_cons, List.map_nil]); first | done | rfl | (simp only [List.length_drop, List.length_take]; rfl)) ?_
        with_reducible refine (code_reader_signed.calls g377 qO jx jy jh jn jo w _ ?side1 ?side2 A27.out).mono ?_
        (case side1 => repeat (first | (with_reducible first | exact qA.out | apply IsS70.alloc | apply IsS70.drewN | apply IsS70.drew | apply IsS70.set_1 | apply IsS70.set_2 | refine IsS70.far ?_ qE.out _ | refine IsS70.far ?_ qC.out _ | refine IsS70.far ?_ qF.out _) | exact qA.out))
        (case side2 => exact (by have := GEc.mk (IsS70.ge qA.out); have := GEc.mk qZ.out; have := GEc.mk qd.out; have := GEc.mk qq.out; exact lS HB))
        rintro e w31 ⟨rfl, hi, hb, hk⟩
        refine ⟨_, rfl, ?_⟩
        have n0_ := aM (Kd.R_mono (Kd.R_keep (IsS70.apart (show IsS70 w _ g377 qO jx jy from by repeat (first | (with_reducible first | exact qA.out | apply IsS70.alloc | apply IsS70.drewN | apply IsS70.drew | apply IsS70.set_1 | apply IsS70.set_2 | refine IsS70.far ?_ qE.out _ | refine IsS70.far ?_ qC.out _ | refine IsS70.far ?_ qF.out _) | exact qA.out)) (lR qJ) (by decide)) hk (fun _ h => h.2)) (fun _ h => h.1))
        have n1_ := aM (KeepBut.blk hk (g' := qM) (lK qD) qu.out (by simp))
        have n2_ := aM (KeepBut.blk hk (g' := qV) (lK qK) qv.out (by simp))
        have n3_ := aM (KeepBut.blk hk (g' := qX) (lK qI) qs.out (by simp))
        have n4_ := aM (hb)
        have n5_ := aM (hi)
        clear qJ
        clear qD
        clear qK
        clear qI
        clear HB
        clear qA
        have qJ := n0_
        have qD := n1_
        have qK := n2_
        have qI := n3_
        have HB := n4_
        have qA := n5_
        clear n0_ n1_ n2_ n3_ n4_ n5_
        (try clear hb)
        (try clear hb2)
        (try clear hk)
        (try clear hi)
        refine hK.out _ _ (zc15 qI.out) (fun hHeld => ?_)
        clear hK K
        refine norm_ (a' := ?_) ?_ ?_
        rotate_left
        ·show Act.put _ (some 44) _ = _
         simp only [Act.put, List.setIfInBounds_toArray, List.set_cons_zero, List.set_cons_succ, i64_w, i32_w]
         rfl
        refine pure_ (i := 5) (N := some 45) (v := ?_) (a' := ?_) #[true, true, true, true, true, true, false, false, false, false] rfl rfl (any_of HT_.out (by kernel_rfl)) (fun _ _ _ h => h) (Or.inl ⟨by rfl, ?_⟩) ?_ ?_
        rotate_left
        ·intro w'
         go_simp
         with_reducible rfl
        rotate_left
        ·simp only [Act.put, List.setIfInBounds_toArray, List.set_cons_zero, List.set_cons_succ, i64_w, i32_w]
         rfl
        refine one_ (i := 6) (N := some 46) #[true, true, true, true, true, true, true, false, false, false] rfl rfl (one_of HT_.out (by kernel_rfl)) (by decide) (fun K hK => ?_)
        refine value_ (w1 := ?_) (v := ?_) (by rfl) rfl ?_ ?_
        rotate_left 2
        ·go_simp
         constructor
         ·rfl
         ·rfl
        refine hK.out _ _ ⟨(blk_cell (blk_alloc qI.out _) 0).trans rfl, (blk_cell (blk_alloc qI.out _) 1).trans rfl, (blk_cell (blk_alloc qI.out _) 2).trans rfl, (blk_cell (blk_alloc qI.out _) 3).trans rfl, (blk_cell (blk_alloc qI.out _) 4).trans rfl, (blk_cell (blk_alloc qI.out _) 5).trans rfl, (blk_cell (blk_alloc qI.out _) 6).trans rfl, (blk_cell (blk_alloc qI.out _) 7).trans rfl, (blk_cell (blk_alloc qI.out _) 8).trans rfl, (blk_cell (blk_alloc qI.out _) 9).trans rfl, (blk_cell (blk_alloc qI.out _) 10).trans rfl, (blk_cell (blk_alloc qI.out _) 11).trans rfl, (blk_cell (blk_alloc qI.out _) 12).trans rfl, (blk_cell (blk_alloc qI.out _) 13).trans rfl, (blk_cell (blk_alloc qI.out _) 14).trans rfl⟩ (fun hHeld => ?_)
        clear hK K
        refine norm_ (a' := ?_) ?_ ?_
        rotate_left
        ·show Act.put _ (some 46) _ = _
         simp only [Act.put, List.setIfInBounds_toArray, List.set_cons_zero, List.set_cons_succ, i64_w, i32_w]
         rfl
        refine one_ (i := 7) (N := some 47) #[true, true, true, true, true, true, true, true, false, false] rfl rfl (one_of HT_.out (by kernel_rfl)) (by decide) (fun K hK => ?_)
        refine Kd.R_append_step k48 (w0 := w) w.heap.size (by rfl) (.tmp 41) (.tmp 46) 22 48 (.agg #[(.int .i64 0), (.int .i64 0)]) 16 rfl Try.underlying22 info48 rfl (by decide) (by omega) qo qe (⟨jY, jh⟩ : S48) [.int .i64 jY, .int .i64 jh] (fun _ => True) (fun _ => False) rfl rfl ?aP (fun _ hk => hk.elim) ?aF ?aO ?aB ?aS ?aL ?_
        (case aP => exact k48_mkM _ _ _ (⟨jY, jh⟩ : S48))
        (case aB => exact (by have := GEc.mk (IsS70.ge qA.out); have := GEc.mk qZ.out; have := GEc.mk qd.out; have := GEc.mk qq.out; exact lS HB))
        (case aF => exact (fun _ _ => trivial))
        (case aO => exact (lR qJ))
        (case aS => exact (below_size (by have := GEc.mk (IsS70.ge qA.out); have := GEc.mk qZ.out; have := GEc.mk qd.out; have := GEc.mk qq.out; exact lS HB)))
        (case aL => have := LMc28.out; omega)
        intro v402 w32 ho hb hg hat
        rw [← Ny401.out] at ho
        have n0_ := aM (blk_grown (g := qM) (lK qD) hg (Kd.R_ne qJ.out qD.out (by decide)))
        have n1_ := aM (blk_grown (g := qV) (lK qK) hg (Kd.R_ne qJ.out qK.out (by decide)))
        have n2_ := aM (blk_grown (g := qX) (lK qI) hg (Kd.R_ne qJ.out qI.out (by decide)))
        have n3_ := aM (IsS70.grown (show IsS70 w _ g377 qO jn jo from by repeat (first | (with_reducible first | exact qA.out | apply IsS70.alloc | apply IsS70.drewN | apply IsS70.drew | apply IsS70.set_1 | apply IsS70.set_2 | refine IsS70.far ?_ qE.out _ | refine IsS70.far ?_ qC.out _ | refine IsS70.far ?_ qF.out _) | exact qA.out)) hg (IsS70.own_ne qA.out qJ.out (by decide)))
        have n4_ := aM (hb)
        have n5_ := aM (ho)
        clear qD
        clear qK
        clear qI
        clear qA
        clear HB
        clear qJ
        have qD := n0_
        have qK := n1_
        have qI := n2_
        have qA := n3_
        have HB := n4_
        have yH := n5_
        clear n0_ n1_ n2_ n3_ n4_ n5_
        clear ho hb hg hat
        obtain ⟨yl, ym, eo33⟩ := Kd.R_slice yH.out
        (first | subst eo33 | (injection eo33 with f1_ f2_ f3_; have f4_ := f1_.symm; have f5_ := f3_.symm; clear f1_ f2_ f3_; subst f4_; subst f5_))
        refine hK.out _ _ (zc15 qI.out) (fun hHeld => ?_)
        clear hK K
        refine norm_ (a' := ?_) ?_ ?_
        rotate_left
        ·show Act.put _ (some 47) _ = _
         simp only [Act.put, List.setIfInBounds_toArray, List.set_cons_zero, List.set_cons_succ, i64_w, i32_w]
         rfl
        refine pure_ (i := 8) (N := some 48) (v := ?_) (a' := ?_) #[true, true, true, true, true, true, true, true, true, false] rfl rfl (any_of HT_.out (by kernel_rfl)) (fun _ _ _ h => h) (Or.inl ⟨by rfl, ?_⟩) ?_ ?_
        rotate_left
        ·intro w'
         go_simp
         with_reducible rfl
        rotate_left
        ·simp only [Act.put, List.setIfInBounds_toArray, List.set_cons_zero, List.set_cons_succ, i64_w, i32_w]
         rfl
        refine last_ (i := 9) (N := none) #[true, true, true, true, true, true, true, true, true, true] rfl rfl (one_of HT_.out (by kernel_rfl)) (by decide) (fun K hK => ?_)
        have qGD : w32.cell? ⟨qX, 2, none⟩ = some (qo) := (blk_cell qI.out 2).trans rfl
        have qE5 := blk_frozen qI.out 2
        have qCY := qH.out
        have qCZ := qW.out
        have qCa := qN.out
        have qCb := q3.out
        refine skip_ (w1 := ?_) (by rfl) rfl ?_ ?_
        rotate_left
        ·go_simp
         rfl
        refine hK.out _ _ ?_
        clear hK K
        refine done_ (done_of HT_.out (by kernel_rfl)) ?_
        try go_wp2
        go_roundg k2
        case measure => have := HK1.out; have := HK2.out; omega
        case rel => exact ⟨(wrap64 (jN + 1)), (jn), (jo), (y401), (.slice yl y401.length ym), (by first | rfl | (simp; done) | (simp [*]; done) | (simp [wrap64]; done)), H', ⟨by have := HK1.out; have := HK2.out; omega⟩, ⟨by (with_reducible repeat (first | apply Kd.R_alloc | apply Kd.R_drewN | apply Kd.R_drew)); exact Kd.R_mono (fA (Kd.R_types yH.out qI.out (by decide))) (fun _ hk => trivial)⟩, ⟨by refine lZ ?_; refine blk_far ?_ qH.out _; refine lZ ?_; exact qD.out⟩, ⟨by refine lZ ?_; refine blk_far ?_ qW.out _; refine lZ ?_; exact qK.out⟩, ⟨by refine lZ ?_; refine blk_put (cs := #[.int .i64 qr, .int .i64 qt, qo, .int .i64 0, .int .i64 0, .slice none 0 0, .slice none 0 0, .int .i64 0, .int .i64 0, .slice none 0 0, .slice none 0 0, .int .i64 0, .int .i64 0, .slice none 0 0, .slice none 0 0]) ?_ 2 _ rfl; refine lZ ?_; exact qI.out⟩, ⟨by repeat (first | (with_reducible first | exact qA.out | apply IsS70.alloc | apply IsS70.drewN | apply IsS70.drew | apply IsS70.set_1 | apply IsS70.set_2 | refine IsS70.far ?_ qE.out _ | refine IsS70.far ?_ qC.out _ | refine IsS70.far ?_ qF.out _) | exact qA.out)⟩, ⟨by repeat (first | (with_reducible first | exact HB.out | apply below_alloc | apply pw_below_drewN | apply below_drew1 | refine below_set ?_ (IsS70.ge qA.out) | refine below_set ?_ qZ.out | refine below_set ?_ qd.out | refine below_set ?_ qq.out) | exact HB.out)⟩⟩
       ·rw [if_neg c28] at H
        exact absurd H (by simp)
      ·rw [if_neg c25] at H
       have c25b0 : decide (jN < jX) = false := decide_eq_false c25
       clear c25
       replace H := Option.bind_eq_some_iff.mp H
       obtain ⟨yO, A350, H⟩ := H
       replace H : (code_Decode.l2 k2 l0 0 qO jG jH qr qt qe 0 0 ([] : List (S63)) ([] : List Int) 0 0 ([] : List (S63)) ([] : List Int) 0 0 ([] : List (S63)) ([] : List Int)) = some (r1, r2, r3, r4, r5, r6, r7, r8, r9, r10, r11, r12, r13, r14, r15, r16, r17) := H
       have A35 := aM A350
       clear A350
       have H' := aM H
       clear H
       go_wp2_with (first | ((with_reducible refine gate_callee (f := 27) rfl ?_); refine goesL_ (some 50) rfl rfl Try.func27 (by kernel_rfl) rfl #[.pointer (some ⟨qX, 0, none⟩)] rfl (by (try simp only [List.map_toArray, List.map_cons, List.map_nil]); first | done | rfl | (simp only [List.length_drop, List.length_take]; rfl)) ?_; (with_reducible refine (code_programs.calls 391 yO qX _ A35.out).mono ?_); rintro e w36 ⟨rfl, hb⟩; refine ⟨_, rfl, ?_⟩; replace qJ := aM (Kd.R_below (lR qJ) hb); replace qD := aM (blk_below (g := qM) (lK qD) hb); replace qK := aM (blk_below (g := qV) (lK qK) hb); replace qI := aM (blk_below (g := qX) (lK qI) hb); replace HB := aM (below_step (by have := GEc.mk (IsS70.ge qA.out); have := GEc.mk qZ.out; have := GEc.mk qd.out; have := GEc.mk qq.out; exact lS HB) hb); replace qA := aM (IsS70.below (by repeat (first | (with_reducible first | exact qA.out | apply IsS70.alloc | apply IsS70.drewN | apply IsS70.drew | apply IsS70.set_1 | apply IsS70.set_2 | refine IsS70.far ?_ qE.out _ | refine IsS70.far ?_ qC.out _ | refine IsS70.far ?_ qF.out _) | exact qA.out)) hb); (try clear hb); (try clear hb2); (try clear hk); (try clear hi)))
       go_loopg [51] k2 (fun kq v51 w' => ∃ (jQ : Int) (q7 : Int) (q8 : Int) (q9 : Int) (jA : Int) (jB : Int) (jC : Int) (qG : Int) (qY : Bool) (qf : Int) (qa : Int) (qw : List (S63)) (qx : List Int) (qg : Int) (qb : Int) (qy : List (S63)) (qz : List Int) (qh : Int) (qc : Int) (q0 : List (S63)) (q1 : List Int) (ql : Value) (qi : Value) (qm : Value) (qj : Value) (qn : Value) (qk : Value), v51 = .int .i64 jQ ∧ Aside0 (code_Decode.l2 kq l0 jQ qO qG qY qr qt qe qf qa qw qx qg qb qy qz qh qc q0 q1 = some (r1, r2, r3, r4, r5, r6, r7, r8, r9, r10, r11, r12, r13, r14, r15, r16, r17)) ∧ Aside0 (kq ≤ k2) ∧ Aside0 (Kd.R k48 48 w' w.heap.size (fun _ => True) qo qe) ∧ Aside0 (Kd.R k63 63 w' w.heap.size (fun k_ => some k_ ≠ (qm : Value).ownBlock ∧ some k_ ≠ (qn : Value).ownBlock) ql qw) ∧ Aside0 (Kd.R (Kd.int .i64) 3 w' w.heap.size (fun k_ => some k_ ≠ (qj : Value).ownBlock ∧ some k_ ≠ (qk : Value).ownBlock) qi qx) ∧ Aside0 (Kd.R k63 63 w' w.heap.size (fun k_ => some k_ ≠ (ql : Value).ownBlock ∧ some k_ ≠ (qn : Value).ownBlock) qm qy) ∧ Aside0 (Kd.R (Kd.int .i64) 3 w' w.heap.size (fun k_ => some k_ ≠ (qi : Value).ownBlock ∧ some k_ ≠ (qk : Value).ownBlock) qj qz) ∧ Aside0 (Kd.R k63 63 w' w.heap.size (fun k_ => some k_ ≠ (ql : Value).ownBlock ∧ some k_ ≠ (qm : Value).ownBlock) qn q0) ∧ Aside0 (Kd.R (Kd.int .i64) 3 w' w.heap.size (fun k_ => some k_ ≠ (qi : Value).ownBlock ∧ some k_ ≠ (qj : Value).ownBlock) qk q1) ∧ Aside0 (w'.heap[qM]? = some (.cells #[.int .i64 0, .int .i64 0, (.slice none 0 0), .int .i64 q7, .int .i64 q8, (.slice none 0 0), (.slice none 0 0), .int .i64 q9, .int .i64 jA, (.slice none 0 0), (.slice none 0 0), .int .i64 jB, .int .i64 jC, (.slice none 0 0), (.slice none 0 0)] 28 (0, 0))) ∧ Aside0 (w'.heap[qV]? = some (.cells #[.int .i64 0, .int .i64 0] 43 (0, 0))) ∧ Aside0 (w'.heap[qX]? = some (.cells #[.int .i64 qr, .int .i64 qt, qo, .int .i64 qf, .int .i64 qa, ql, qi, .int .i64 qg, .int .i64 qb, qm, qj, .int .i64 qh, .int .i64 qc, qn, qk] 28 (0, 0))) ∧ Aside0 (IsS70 w w' g377 qO qG qY) ∧ Aside0 (Below w.heap.size w w'))
       case atStart => exact ⟨(0), (0), (0), (0), (0), (0), (0), (jG), (jH), (0), (0), (([] : List (S63))), (([] : List Int)), (0), (0), (([] : List (S63))), (([] : List Int)), (0), (0), (([] : List (S63))), (([] : List Int)), (.slice none 0 0), (.slice none 0 0), (.slice none 0 0), (.slice none 0 0), (.slice none 0 0), (.slice none 0 0), (by first | rfl | (simp; done) | (simp [*]; done) | (simp [wrap64]; done)), H', ⟨Nat.le_refl _⟩, ⟨by (with_reducible repeat (first | apply Kd.R_alloc | apply Kd.R_drewN | apply Kd.R_drew)); exact qJ.out⟩, ⟨by first | exact Kd.R_nil _ _ _ _ _ | exact Kd.N_nil _ _ _ _ _ | exact Kd.V_nil _ _ _ _ _ | exact Kd.Q_nil _ _ _ _ _ | exact Kd.S_nil _ _ _ _ _⟩, ⟨by first | exact Kd.R_nil _ _ _ _ _ | exact Kd.N_nil _ _ _ _ _ | exact Kd.V_nil _ _ _ _ _ | exact Kd.Q_nil _ _ _ _ _ | exact Kd.S_nil _ _ _ _ _⟩, ⟨by first | exact Kd.R_nil _ _ _ _ _ | exact Kd.N_nil _ _ _ _ _ | exact Kd.V_nil _ _ _ _ _ | exact Kd.Q_nil _ _ _ _ _ | exact Kd.S_nil _ _ _ _ _⟩, ⟨by first | exact Kd.R_nil _ _ _ _ _ | exact Kd.N_nil _ _ _ _ _ | exact Kd.V_nil _ _ _ _ _ | exact Kd.Q_nil _ _ _ _ _ | exact Kd.S_nil _ _ _ _ _⟩, ⟨by first | exact Kd.R_nil _ _ _ _ _ | exact Kd.N_nil _ _ _ _ _ | exact Kd.V_nil _ _ _ _ _ | exact Kd.Q_nil _ _ _ _ _ | exact Kd.S_nil _ _ _ _ _⟩, ⟨by first | exact Kd.R_nil _ _ _ _ _ | exact Kd.N_nil _ _ _ _ _ | exact Kd.V_nil _ _ _ _ _ | exact Kd.Q_nil _ _ _ _ _ | exact Kd.S_nil _ _ _ _ _⟩, ⟨by refine lZ ?_; exact qD.out⟩, ⟨by refine lZ ?_; exact qK.out⟩, ⟨by refine lZ ?_; exact qI.out⟩, ⟨by repeat (first | (with_reducible first | exact qA.out | apply IsS70.alloc | apply IsS70.drewN | apply IsS70.drew | apply IsS70.set_1 | apply IsS70.set_2 | refine IsS70.far ?_ qE.out _ | refine IsS70.far ?_ qC.out _ | refine IsS70.far ?_ qF.out _) | exact qA.out)⟩, ⟨by repeat (first | (with_reducible first | exact HB.out | apply below_alloc | apply pw_below_drewN | apply below_drew1 | refine below_set ?_ (IsS70.ge qA.out) | refine below_set ?_ qZ.out | refine below_set ?_ qd.out | refine below_set ?_ qq.out) | exact HB.out)⟩⟩
       case round =>
        clear H'
        try clear c9
        try clear c25
        obtain ⟨jQ, q7, q8, q9, jA, jB, jC, qG, qY, qf, qa, qw, qx, qg, qb, qy, qz, qh, qc, q0, q1, ql, qi, qm, qj, qn, qk, rfl, HA, HK3, qJ, qP, qQ, qR, qS, qT, qU, qD, qK, qI, qA, HB⟩ := hrel
        cases gk with
        | zero => exact absurd HA.out (by simp [code_Decode.l2])
        | succ k3 =>
         have H := HA.out
         clear HA
         simp only [code_Decode.l2] at H
         by_cases c37 : jQ < 3
         ·rw [if_pos c37] at H
          have c37b0 : decide (jQ < 3) = true := decide_eq_true c37
          clear c37
          by_cases c38 : jQ = 0
          ·rw [if_pos c38] at H
           (first | rw [c38] | skip)
           replace H := Option.bind_eq_some_iff.mp H
           obtain ⟨⟨ji, jp, jq, jz, j8, j9⟩, A390, H⟩ := H
           replace H : (code_Decode.l2 k3 l0 (0 + 1) qO j8 j9 qr qt qe ji jp jq jz qg qb qy qz qh qc q0 q1) = some (r1, r2, r3, r4, r5, r6, r7, r8, r9, r10, r11, r12, r13, r14, r15, r16, r17) := H
           have A39 := aM A390
           clear A390
           have H' := aM H
           clear H
           go_wp2_with (first | ((with_reducible refine gate_callee (f := 35) rfl ?_); refine goesL_ (some 56) rfl rfl Try.func35 (by kernel_rfl) rfl #[.pointer (some ⟨g377, 0, none⟩)] rfl (by (try simp only [List.map_toArray, List.map_cons, List.map_nil]); first | done | rfl | (simp only [List.length_drop, List.length_take]; rfl)) ?_; (with_reducible refine (code_reader_program.calls k3 g377 qO qG qY ji jp jq jz j8 j9 w _ ?side1 ?side2 A39.out).mono ?_); (case side1 => repeat (first | (with_reducible first | exact qA.out | apply IsS70.alloc | apply IsS70.drewN | apply IsS70.drew | apply IsS70.set_1 | apply IsS70.set_2 | refine IsS70.far ?_ qE.out _ | refine IsS70.far ?_ qC.out _ | refine IsS70.far ?_ qF.out _) | exact qA.out)); (case side2 => exact (by have := GEc.mk (IsS70.ge qA.out); have := GEc.mk qZ.out; have := GEc.mk qd.out; have := GEc.mk qq.out; exact lS HB)); rintro e w40 ⟨v408, v411, rfl, ho0, ho1, hi, hb, hk⟩; refine ⟨_, rfl, ?_⟩; replace qJ := aM (Kd.R_mono (Kd.R_keep (IsS70.apart (show IsS70 w _ g377 qO qG qY from by repeat (first | (with_reducible first | exact qA.out | apply IsS70.alloc | apply IsS70.drewN | apply IsS70.drew | apply IsS70.set_1 | apply IsS70.set_2 | refine IsS70.far ?_ qE.out _ | refine IsS70.far ?_ qC.out _ | refine IsS70.far ?_ qF.out _) | exact qA.out)) (lR qJ) (by decide)) hk (fun _ h => h.2)) (fun _ h => h.1)); replace qD := aM (KeepBut.blk hk (g' := qM) (lK qD) qu.out (by simp)); replace qK := aM (KeepBut.blk hk (g' := qV) (lK qK) qv.out (by simp)); replace qI := aM (KeepBut.blk hk (g' := qX) (lK qI) qs.out (by simp)); have yI := aM (Kd.R_lower (Kd.R_new' (Kd.R_new' (Kd.R_new' ho0 (Kd.R_lt (lR qP))) (Kd.R_lt (lR qR))) (Kd.R_lt (lR qT))) (below_size (by have := GEc.mk (IsS70.ge qA.out); have := GEc.mk qZ.out; have := GEc.mk qd.out; have := GEc.mk qq.out; exact lS HB))); replace qP := aM (Kd.R_mono (Kd.R_told (Kd.R_oldK (IsS70.apart (show IsS70 w _ g377 qO qG qY from by repeat (first | (with_reducible first | exact qA.out | apply IsS70.alloc | apply IsS70.drewN | apply IsS70.drew | apply IsS70.set_1 | apply IsS70.set_2 | refine IsS70.far ?_ qE.out _ | refine IsS70.far ?_ qC.out _ | refine IsS70.far ?_ qF.out _) | exact qA.out)) (lR qP) (by decide)) hk) (Kd.R_base ho0)) (fun _ h_ => h_.1)); replace qR := aM (Kd.R_mono (Kd.R_told (Kd.R_oldK (IsS70.apart (show IsS70 w _ g377 qO qG qY from by repeat (first | (with_reducible first | exact qA.out | apply IsS70.alloc | apply IsS70.drewN | apply IsS70.drew | apply IsS70.set_1 | apply IsS70.set_2 | refine IsS70.far ?_ qE.out _ | refine IsS70.far ?_ qC.out _ | refine IsS70.far ?_ qF.out _) | exact qA.out)) (lR qR) (by decide)) hk) (Kd.R_base ho0)) (fun _ h_ => h_.1)); replace qT := aM (Kd.R_mono (Kd.R_told (Kd.R_oldK (IsS70.apart (show IsS70 w _ g377 qO qG qY from by repeat (first | (with_reducible first | exact qA.out | apply IsS70.alloc | apply IsS70.drewN | apply IsS70.drew | apply IsS70.set_1 | apply IsS70.set_2 | refine IsS70.far ?_ qE.out _ | refine IsS70.far ?_ qC.out _ | refine IsS70.far ?_ qF.out _) | exact qA.out)) (lR qT) (by decide)) hk) (Kd.R_base ho0)) (fun _ h_ => h_.1)); have yJ := aM (Kd.R_lower (Kd.R_new' (Kd.R_new' (Kd.R_new' ho1 (Kd.R_lt (lR qQ))) (Kd.R_lt (lR qS))) (Kd.R_lt (lR qU))) (below_size (by have := GEc.mk (IsS70.ge qA.out); have := GEc.mk qZ.out; have := GEc.mk qd.out; have := GEc.mk qq.out; exact lS HB))); replace qQ := aM (Kd.R_mono (Kd.R_told (Kd.R_oldK (IsS70.apart (show IsS70 w _ g377 qO qG qY from by repeat (first | (with_reducible first | exact qA.out | apply IsS70.alloc | apply IsS70.drewN | apply IsS70.drew | apply IsS70.set_1 | apply IsS70.set_2 | refine IsS70.far ?_ qE.out _ | refine IsS70.far ?_ qC.out _ | refine IsS70.far ?_ qF.out _) | exact qA.out)) (lR qQ) (by decide)) hk) (Kd.R_base ho1)) (fun _ h_ => h_.1)); replace qS := aM (Kd.R_mono (Kd.R_told (Kd.R_oldK (IsS70.apart (show IsS70 w _ g377 qO qG qY from by repeat (first | (with_reducible first | exact qA.out | apply IsS70.alloc | apply IsS70.drewN | apply IsS70.drew | apply IsS70.set_1 | apply IsS70.set_2 | refine IsS70.far ?_ qE.out _ | refine IsS70.far ?_ qC.out _ | refine IsS70.far ?_ qF.out _) | exact qA.out)) (lR qS) (by decide)) hk) (Kd.R_base ho1)) (fun _ h_ => h_.1)); replace qU := aM (Kd.R_mono (Kd.R_told (Kd.R_oldK (IsS70.apart (show IsS70 w _ g377 qO qG qY from by repeat (first | (with_reducible first | exact qA.out | apply IsS70.alloc | apply IsS70.drewN | apply IsS70.drew | apply IsS70.set_1 | apply IsS70.set_2 | refine IsS70.far ?_ qE.out _ | refine IsS70.far ?_ qC.out _ | refine IsS70.far ?_ qF.out _) | exact qA.out)) (lR qU) (by decide)) hk) (Kd.R_base ho1)) (fun _ h_ => h_.1)); replace HB := aM (hb); replace qA := aM (hi); (try clear hb); (try clear hb2); (try clear hk); (try clear hi); (try clear ho0); (try clear ho1); have qE6 := qN.out; have qE7 := qH.out; have qE8 := q3.out; have qE9 := qW.out; have qFA := qs.out; have qFB := qF.out; have qCc := zc15 qI.out; have qCd := fun i_ : Nat => blk_frozen qI.out i_; obtain ⟨yP, yQ, eo45⟩ := Kd.R_slice yI.out; subst eo45; obtain ⟨yn, yo, eo46⟩ := Kd.R_slice yJ.out; subst eo46))
           go_roundg k3
           case measure => have := HK1.out; have := HK2.out; have := HK3.out; omega
           case rel => exact ⟨(0 + 1), (q7), (q8), (q9), (jA), (jB), (jC), (j8), (j9), (ji), (jp), (jq), (jz), (qg), (qb), (qy), (qz), (qh), (qc), (q0), (q1), (.slice yP jq.length yQ), (.slice yn jz.length yo), (qm), (qj), (qn), (qk), (by first | rfl | (simp; done) | (simp [*]; done) | (simp [wrap64]; done)), H', ⟨by have := HK1.out; have := HK2.out; have := HK3.out; omega⟩, ⟨by (with_reducible repeat (first | apply Kd.R_alloc | apply Kd.R_drewN | apply Kd.R_drew)); exact Kd.R_mono (fA (fA (fA (fA (Kd.R_types qJ.out qI.out (by decide)))))) (fun _ hk => trivial)⟩, ⟨by (with_reducible repeat (first | apply Kd.R_alloc | apply Kd.R_drewN | apply Kd.R_drew)); exact Kd.R_mono (fA (fA (fA (fA (Kd.R_types yI.out qI.out (by decide)))))) (fun _ hk => ⟨hk.1.1.2, hk.1.2⟩)⟩, ⟨by (with_reducible repeat (first | apply Kd.R_alloc | apply Kd.R_drewN | apply Kd.R_drew)); exact Kd.R_mono (fA (fA (fA (fA (Kd.R_types yJ.out qI.out (by decide)))))) (fun _ hk => ⟨hk.1.1.2, hk.1.2⟩)⟩, ⟨by (with_reducible repeat (first | apply Kd.R_alloc | apply Kd.R_drewN | apply Kd.R_drew)); exact Kd.R_mono (fA (fA (fA (fA (Kd.R_types qR.out qI.out (by decide)))))) (fun _ hk => ⟨hk.1.2, hk.1.1.2⟩)⟩, ⟨by (with_reducible repeat (first | apply Kd.R_alloc | apply Kd.R_drewN | apply Kd.R_drew)); exact Kd.R_mono (fA (fA (fA (fA (Kd.R_types qS.out qI.out (by decide)))))) (fun _ hk => ⟨hk.1.2, hk.1.1.2⟩)⟩, ⟨by (with_reducible repeat (first | apply Kd.R_alloc | apply Kd.R_drewN | apply Kd.R_drew)); exact Kd.R_mono (fA (fA (fA (fA (Kd.R_types qT.out qI.out (by decide)))))) (fun _ hk => ⟨hk.1.2, hk.1.1.2⟩)⟩, ⟨by (with_reducible repeat (first | apply Kd.R_alloc | apply Kd.R_drewN | apply Kd.R_drew)); exact Kd.R_mono (fA (fA (fA (fA (Kd.R_types qU.out qI.out (by decide)))))) (fun _ hk => ⟨hk.1.2, hk.1.1.2⟩)⟩, ⟨by refine lZ ?_; refine blk_far ?_ qH.out _; refine lZ ?_; refine blk_far ?_ qH.out _; refine lZ ?_; refine blk_far ?_ qH.out _; refine lZ ?_; refine blk_far ?_ qH.out _; refine lZ ?_; exact qD.out⟩, ⟨by refine lZ ?_; refine blk_far ?_ qW.out _; refine lZ ?_; refine blk_far ?_ qW.out _; refine lZ ?_; refine blk_far ?_ qW.out _; refine lZ ?_; refine blk_far ?_ qW.out _; refine lZ ?_; exact qK.out⟩, ⟨by refine lZ ?_; refine blk_put (cs := #[.int .i64 qr, .int .i64 qt, qo, .int .i64 ji, .int .i64 jp, .slice yP jq.length yQ, qi, .int .i64 qg, .int .i64 qb, qm, qj, .int .i64 qh, .int .i64 qc, qn, qk]) ?_ 6 _ rfl; refine lZ ?_; refine blk_put (cs := #[.int .i64 qr, .int .i64 qt, qo, .int .i64 ji, .int .i64 jp, ql, qi, .int .i64 qg, .int .i64 qb, qm, qj, .int .i64 qh, .int .i64 qc, qn, qk]) ?_ 5 _ rfl; refine lZ ?_; refine blk_put (cs := #[.int .i64 qr, .int .i64 qt, qo, .int .i64 ji, .int .i64 qa, ql, qi, .int .i64 qg, .int .i64 qb, qm, qj, .int .i64 qh, .int .i64 qc, qn, qk]) ?_ 4 _ rfl; refine lZ ?_; refine blk_put (cs := #[.int .i64 qr, .int .i64 qt, qo, .int .i64 qf, .int .i64 qa, ql, qi, .int .i64 qg, .int .i64 qb, qm, qj, .int .i64 qh, .int .i64 qc, qn, qk]) ?_ 3 _ rfl; refine lZ ?_; exact qI.out⟩, ⟨by repeat (first | (with_reducible first | exact qA.out | apply IsS70.alloc | apply IsS70.drewN | apply IsS70.drew | apply IsS70.set_1 | apply IsS70.set_2 | refine IsS70.far ?_ qE.out _ | refine IsS70.far ?_ qC.out _ | refine IsS70.far ?_ qF.out _) | exact qA.out)⟩, ⟨by repeat (first | (with_reducible first | exact HB.out | apply below_alloc | apply pw_below_drewN | apply below_drew1 | refine below_set ?_ (IsS70.ge qA.out) | refine below_set ?_ qZ.out | refine below_set ?_ qd.out | refine below_set ?_ qq.out) | exact HB.out)⟩⟩
          ·rw [if_neg c38] at H
           by_cases c47 : jQ = 1
           ·rw [if_pos c47] at H
            (first | rw [c47] | skip)
            replace H := Option.bind_eq_some_iff.mp H
            obtain ⟨⟨jj, jr, js, j0, yA, yB⟩, A480, H⟩ := H
            replace H : (code_Decode.l2 k3 l0 (1 + 1) qO yA yB qr qt qe qf qa qw qx jj jr js j0 qh qc q0 q1) = some (r1, r2, r3, r4, r5, r6, r7, r8, r9, r10, r11, r12, r13, r14, r15, r16, r17) := H
            have A48 := aM A480
            clear A480
            have H' := aM H
            clear H
            go_wp2_with (first | ((with_reducible refine gate_callee (f := 35) rfl ?_); refine goesL_ (some 56) rfl rfl Try.func35 (by kernel_rfl) rfl #[.pointer (some ⟨g377, 0, none⟩)] rfl (by (try simp only [List.map_toArray, List.map_cons, List.map_nil]); first | done | rfl | (simp only [List.length_drop, List.length_take]; rfl)) ?_; (with_reducible refine (code_reader_program.calls k3 g377 qO qG qY jj jr js j0 yA yB w _ ?side1 ?side2 A48.out).mono ?_); (case side1 => repeat (first | (with_reducible first | exact qA.out | apply IsS70.alloc | apply IsS70.drewN | apply IsS70.drew | apply IsS70.set_1 | apply IsS70.set_2 | refine IsS70.far ?_ qE.out _ | refine IsS70.far ?_ qC.out _ | refine IsS70.far ?_ qF.out _) | exact qA.out)); (case side2 => exact (by have := GEc.mk (IsS70.ge qA.out); have := GEc.mk qZ.out; have := GEc.mk qd.out; have := GEc.mk qq.out; exact lS HB)); rintro e w49 ⟨v418, v421, rfl, ho0, ho1, hi, hb, hk⟩; refine ⟨_, rfl, ?_⟩; replace qJ := aM (Kd.R_mono (Kd.R_keep (IsS70.apart (show IsS70 w _ g377 qO qG qY from by repeat (first | (with_reducible first | exact qA.out | apply IsS70.alloc | apply IsS70.drewN | apply IsS70.drew | apply IsS70.set_1 | apply IsS70.set_2 | refine IsS70.far ?_ qE.out _ | refine IsS70.far ?_ qC.out _ | refine IsS70.far ?_ qF.out _) | exact qA.out)) (lR qJ) (by decide)) hk (fun _ h => h.2)) (fun _ h => h.1)); replace qD := aM (KeepBut.blk hk (g' := qM) (lK qD) qu.out (by simp)); replace qK := aM (KeepBut.blk hk (g' := qV) (lK qK) qv.out (by simp)); replace qI := aM (KeepBut.blk hk (g' := qX) (lK qI) qs.out (by simp)); have yK := aM (Kd.R_lower (Kd.R_new' (Kd.R_new' (Kd.R_new' ho0 (Kd.R_lt (lR qP))) (Kd.R_lt (lR qR))) (Kd.R_lt (lR qT))) (below_size (by have := GEc.mk (IsS70.ge qA.out); have := GEc.mk qZ.out; have := GEc.mk qd.out; have := GEc.mk qq.out; exact lS HB))); replace qP := aM (Kd.R_mono (Kd.R_told (Kd.R_oldK (IsS70.apart (show IsS70 w _ g377 qO qG qY from by repeat (first | (with_reducible first | exact qA.out | apply IsS70.alloc | apply IsS70.drewN | apply IsS70.drew | apply IsS70.set_1 | apply IsS70.set_2 | refine IsS70.far ?_ qE.out _ | refine IsS70.far ?_ qC.out _ | refine IsS70.far ?_ qF.out _) | exact qA.out)) (lR qP) (by decide)) hk) (Kd.R_base ho0)) (fun _ h_ => h_.1)); replace qR := aM (Kd.R_mono (Kd.R_told (Kd.R_oldK (IsS70.apart (show IsS70 w _ g377 qO qG qY from by repeat (first | (with_reducible first | exact qA.out | apply IsS70.alloc | apply IsS70.drewN | apply IsS70.drew | apply IsS70.set_1 | apply IsS70.set_2 | refine IsS70.far ?_ qE.out _ | refine IsS70.far ?_ qC.out _ | refine IsS70.far ?_ qF.out _) | exact qA.out)) (lR qR) (by decide)) hk) (Kd.R_base ho0)) (fun _ h_ => h_.1)); replace qT := aM (Kd.R_mono (Kd.R_told (Kd.R_oldK (IsS70.apart (show IsS70 w _ g377 qO qG qY from by repeat (first | (with_reducible first | exact qA.out | apply IsS70.alloc | apply IsS70.drewN | apply IsS70.drew | apply IsS70.set_1 | apply IsS70.set_2 | refine IsS70.far ?_ qE.out _ | refine IsS70.far ?_ qC.out _ | refine IsS70.far ?_ qF.out _) | exact qA.out)) (lR qT) (by decide)) hk) (Kd.R_base ho0)) (fun _ h_ => h_.1)); have yL := aM (Kd.R_lower (Kd.R_new' (Kd.R_new' (Kd.R_new' ho1 (Kd.R_lt (lR qQ))) (Kd.R_lt (lR qS))) (Kd.R_lt (lR qU))) (below_size (by have := GEc.mk (IsS70.ge qA.out); have := GEc.mk qZ.out; have := GEc.mk qd.out; have := GEc.mk qq.out; exact lS HB))); replace qQ := aM (Kd.R_mono (Kd.R_told (Kd.R_oldK (IsS70.apart (show IsS70 w _ g377 qO qG qY from by repeat (first | (with_reducible first | exact qA.out | apply IsS70.alloc | apply IsS70.drewN | apply IsS70.drew | apply IsS70.set_1 | apply IsS70.set_2 | refine IsS70.far ?_ qE.out _ | refine IsS70.far ?_ qC.out _ | refine IsS70.far ?_ qF.out _) | exact qA.out)) (lR qQ) (by decide)) hk) (Kd.R_base ho1)) (fun _ h_ => h_.1)); replace qS := aM (Kd.R_mono (Kd.R_told (Kd.R_oldK (IsS70.apart (show IsS70 w _ g377 qO qG qY from by repeat (first | (with_reducible first | exact qA.out | apply IsS70.alloc | apply IsS70.drewN | apply IsS70.drew | apply IsS70.set_1 | apply IsS70.set_2 | refine IsS70.far ?_ qE.out _ | refine IsS70.far ?_ qC.out _ | refine IsS70.far ?_ qF.out _) | exact qA.out)) (lR qS) (by decide)) hk) (Kd.R_base ho1)) (fun _ h_ => h_.1)); replace qU := aM (Kd.R_mono (Kd.R_told (Kd.R_oldK (IsS70.apart (show IsS70 w _ g377 qO qG qY from by repeat (first | (with_reducible first | exact qA.out | apply IsS70.alloc | apply IsS70.drewN | apply IsS70.drew | apply IsS70.set_1 | apply IsS70.set_2 | refine IsS70.far ?_ qE.out _ | refine IsS70.far ?_ qC.out _ | refine IsS70.far ?_ qF.out _) | exact qA.out)) (lR qU) (by decide)) hk) (Kd.R_base ho1)) (fun _ h_ => h_.1)); replace HB := aM (hb); replace qA := aM (hi); (try clear hb); (try clear hb2); (try clear hk); (try clear hi); (try clear ho0); (try clear ho1); have qFC := qN.out; have qFD := qH.out; have qFE := q3.out; have qFF := qW.out; have qFG := qs.out; have qFH := qF.out; have qCe := zc15 qI.out; have qCf := fun i_ : Nat => blk_frozen qI.out i_; obtain ⟨yR, yS, eo54⟩ := Kd.R_slice yK.out; subst eo54; obtain ⟨yp, yq, eo55⟩ := Kd.R_slice yL.out; subst eo55))
            go_roundg k3
            case measure => have := HK1.out; have := HK2.out; have := HK3.out; omega
            case rel => exact ⟨(1 + 1), (q7), (q8), (q9), (jA), (jB), (jC), (yA), (yB), (qf), (qa), (qw), (qx), (jj), (jr), (js), (j0), (qh), (qc), (q0), (q1), (ql), (qi), (.slice yR js.length yS), (.slice yp j0.length yq), (qn), (qk), (by first | rfl | (simp; done) | (simp [*]; done) | (simp [wrap64]; done)), H', ⟨by have := HK1.out; have := HK2.out; have := HK3.out; omega⟩, ⟨by (with_reducible repeat (first | apply Kd.R_alloc | apply Kd.R_drewN | apply Kd.R_drew)); exact Kd.R_mono (fA (fA (fA (fA (Kd.R_types qJ.out qI.out (by decide)))))) (fun _ hk => trivial)⟩, ⟨by (with_reducible repeat (first | apply Kd.R_alloc | apply Kd.R_drewN | apply Kd.R_drew)); exact Kd.R_mono (fA (fA (fA (fA (Kd.R_types qP.out qI.out (by decide)))))) (fun _ hk => ⟨hk.1.2, hk.1.1.2⟩)⟩, ⟨by (with_reducible repeat (first | apply Kd.R_alloc | apply Kd.R_drewN | apply Kd.R_drew)); exact Kd.R_mono (fA (fA (fA (fA (Kd.R_types qQ.out qI.out (by decide)))))) (fun _ hk => ⟨hk.1.2, hk.1.1.2⟩)⟩, ⟨by (with_reducible repeat (first | apply Kd.R_alloc | apply Kd.R_drewN | apply Kd.R_drew)); exact Kd.R_mono (fA (fA (fA (fA (Kd.R_types yK.out qI.out (by decide)))))) (fun _ hk => ⟨hk.1.1.1.2, hk.1.2⟩)⟩, ⟨by (with_reducible repeat (first | apply Kd.R_alloc | apply Kd.R_drewN | apply Kd.R_drew)); exact Kd.R_mono (fA (fA (fA (fA (Kd.R_types yL.out qI.out (by decide)))))) (fun _ hk => ⟨hk.1.1.1.2, hk.1.2⟩)⟩, ⟨by (with_reducible repeat (first | apply Kd.R_alloc | apply Kd.R_drewN | apply Kd.R_drew)); exact Kd.R_mono (fA (fA (fA (fA (Kd.R_types qT.out qI.out (by decide)))))) (fun _ hk => ⟨hk.1.1.1, hk.1.2⟩)⟩, ⟨by (with_reducible repeat (first | apply Kd.R_alloc | apply Kd.R_drewN | apply Kd.R_drew)); exact Kd.R_mono (fA (fA (fA (fA (Kd.R_types qU.out qI.out (by decide)))))) (fun _ hk => ⟨hk.1.1.1, hk.1.2⟩)⟩, ⟨by refine lZ ?_; refine blk_far ?_ qH.out _; refine lZ ?_; refine blk_far ?_ qH.out _; refine lZ ?_; refine blk_far ?_ qH.out _; refine lZ ?_; refine blk_far ?_ qH.out _; refine lZ ?_; exact qD.out⟩, ⟨by refine lZ ?_; refine blk_far ?_ qW.out _; refine lZ ?_; refine blk_far ?_ qW.out _; refine lZ ?_; refine blk_far ?_ qW.out _; refine lZ ?_; refine blk_far ?_ qW.out _; refine lZ ?_; exact qK.out⟩, ⟨by refine lZ ?_; refine blk_put (cs := #[.int .i64 qr, .int .i64 qt, qo, .int .i64 qf, .int .i64 qa, ql, qi, .int .i64 jj, .int .i64 jr, .slice yR js.length yS, qj, .int .i64 qh, .int .i64 qc, qn, qk]) ?_ 10 _ rfl; refine lZ ?_; refine blk_put (cs := #[.int .i64 qr, .int .i64 qt, qo, .int .i64 qf, .int .i64 qa, ql, qi, .int .i64 jj, .int .i64 jr, qm, qj, .int .i64 qh, .int .i64 qc, qn, qk]) ?_ 9 _ rfl; refine lZ ?_; refine blk_put (cs := #[.int .i64 qr, .int .i64 qt, qo, .int .i64 qf, .int .i64 qa, ql, qi, .int .i64 jj, .int .i64 qb, qm, qj, .int .i64 qh, .int .i64 qc, qn, qk]) ?_ 8 _ rfl; refine lZ ?_; refine blk_put (cs := #[.int .i64 qr, .int .i64 qt, qo, .int .i64 qf, .int .i64 qa, ql, qi, .int .i64 qg, .int .i64 qb, qm, qj, .int .i64 qh, .int .i64 qc, qn, qk]) ?_ 7 _ rfl; refine lZ ?_; exact qI.out⟩, ⟨by repeat (first | (with_reducible first | exact qA.out | apply IsS70.alloc | apply IsS70.drewN | apply IsS70.drew | apply IsS70.set_1 | apply IsS70.set_2 | refine IsS70.far ?_ qE.out _ | refine IsS70.far ?_ qC.out _ | refine IsS70.far ?_ qF.out _) | exact qA.out)⟩, ⟨by repeat (first | (with_reducible first | exact HB.out | apply below_alloc | apply pw_below_drewN | apply below_drew1 | refine below_set ?_ (IsS70.ge qA.out) | refine below_set ?_ qZ.out | refine below_set ?_ qd.out | refine below_set ?_ qq.out) | exact HB.out)⟩⟩
           ·rw [if_neg c47] at H
            by_cases c56 : jQ = 2
            ·rw [if_pos c56] at H
             (first | rw [c56] | skip)
             replace H := Option.bind_eq_some_iff.mp H
             obtain ⟨⟨jk, jt, ju, j1, yC, yD⟩, A570, H⟩ := H
             replace H : (code_Decode.l2 k3 l0 (2 + 1) qO yC yD qr qt qe qf qa qw qx qg qb qy qz jk jt ju j1) = some (r1, r2, r3, r4, r5, r6, r7, r8, r9, r10, r11, r12, r13, r14, r15, r16, r17) := H
             have A57 := aM A570
             clear A570
             have H' := aM H
             clear H
             go_wp2_with (first | ((with_reducible refine gate_callee (f := 35) rfl ?_); refine goesL_ (some 56) rfl rfl Try.func35 (by kernel_rfl) rfl #[.pointer (some ⟨g377, 0, none⟩)] rfl (by (try simp only [List.map_toArray, List.map_cons, List.map_nil]); first | done | rfl | (simp only [List.length_drop, List.length_take]; rfl)) ?_; (with_reducible refine (code_reader_program.calls k3 g377 qO qG qY jk jt ju j1 yC yD w _ ?side1 ?side2 A57.out).mono ?_); (case side1 => repeat (first | (with_reducible first | exact qA.out | apply IsS70.alloc | apply IsS70.drewN | apply IsS70.drew | apply IsS70.set_1 | apply IsS70.set_2 | refine IsS70.far ?_ qE.out _ | refine IsS70.far ?_ qC.out _ | refine IsS70.far ?_ qF.out _) | exact qA.out)); (case side2 => exact (by have := GEc.mk (IsS70.ge qA.out); have := GEc.mk qZ.out; have := GEc.mk qd.out; have := GEc.mk qq.out; exact lS HB)); rintro e w58 ⟨v428, v431, rfl, ho0, ho1, hi, hb, hk⟩; refine ⟨_, rfl, ?_⟩; replace qJ := aM (Kd.R_mono (Kd.R_keep (IsS70.apart (show IsS70 w _ g377 qO qG qY from by repeat (first | (with_reducible first | exact qA.out | apply IsS70.alloc | apply IsS70.drewN | apply IsS70.drew | apply IsS70.set_1 | apply IsS70.set_2 | refine IsS70.far ?_ qE.out _ | refine IsS70.far ?_ qC.out _ | refine IsS70.far ?_ qF.out _) | exact qA.out)) (lR qJ) (by decide)) hk (fun _ h => h.2)) (fun _ h => h.1)); replace qD := aM (KeepBut.blk hk (g' := qM) (lK qD) qu.out (by simp)); replace qK := aM (KeepBut.blk hk (g' := qV) (lK qK) qv.out (by simp)); replace qI := aM (KeepBut.blk hk (g' := qX) (lK qI) qs.out (by simp)); have yM := aM (Kd.R_lower (Kd.R_new' (Kd.R_new' (Kd.R_new' ho0 (Kd.R_lt (lR qP))) (Kd.R_lt (lR qR))) (Kd.R_lt (lR qT))) (below_size (by have := GEc.mk (IsS70.ge qA.out); have := GEc.mk qZ.out; have := GEc.mk qd.out; have := GEc.mk qq.out; exact lS HB))); replace qP := aM (Kd.R_mono (Kd.R_told (Kd.R_oldK (IsS70.apart (show IsS70 w _ g377 qO qG qY from by repeat (first | (with_reducible first | exact qA.out | apply IsS70.alloc | apply IsS70.drewN | apply IsS70.drew | apply IsS70.set_1 | apply IsS70.set_2 | refine IsS70.far ?_ qE.out _ | refine IsS70.far ?_ qC.out _ | refine IsS70.far ?_ qF.out _) | exact qA.out)) (lR qP) (by decide)) hk) (Kd.R_base ho0)) (fun _ h_ => h_.1)); replace qR := aM (Kd.R_mono (Kd.R_told (Kd.R_oldK (IsS70.apart (show IsS70 w _ g377 qO qG qY from by repeat (first | (with_reducible first | exact qA.out | apply IsS70.alloc | apply IsS70.drewN | apply IsS70.drew | apply IsS70.set_1 | apply IsS70.set_2 | refine IsS70.far ?_ qE.out _ | refine IsS70.far ?_ qC.out _ | refine IsS70.far ?_ qF.out _) | exact qA.out)) (lR qR) (by decide)) hk) (Kd.R_base ho0)) (fun _ h_ => h_.1)); replace qT := aM (Kd.R_mono (Kd.R_told (Kd.R_oldK (IsS70.apart (show IsS70 w _ g377 qO qG qY from by repeat (first | (with_reducible first | exact qA.out | apply IsS70.alloc | apply IsS70.drewN | apply IsS70.drew | apply IsS70.set_1 | apply IsS70.set_2 | refine IsS70.far ?_ qE.out _ | refine IsS70.far ?_ qC.out _ | refine IsS70.far ?_ qF.out _) | exact qA.out)) (lR qT) (by decide)) hk) (Kd.R_base ho0)) (fun _ h_ => h_.1)); have yN := aM (Kd.R_lower (Kd.R_new' (Kd.R_new' (Kd.R_new' ho1 (Kd.R_lt (lR qQ))) (Kd.R_lt (lR qS))) (Kd.R_lt (lR qU))) (below_size (by have := GEc.mk (IsS70.ge qA.out); have := GEc.mk qZ.out; have := GEc.mk qd.out; have := GEc.mk qq.out; exact lS HB))); replace qQ := aM (Kd.R_mono (Kd.R_told (Kd.R_oldK (IsS70.apart (show IsS70 w _ g377 qO qG qY from by repeat (first | (with_reducible first | exact qA.out | apply IsS70.alloc | apply IsS70.drewN | apply IsS70.drew | apply IsS70.set_1 | apply IsS70.set_2 | refine IsS70.far ?_ qE.out _ | refine IsS70.far ?_ qC.out _ | refine IsS70.far ?_ qF.out _) | exact qA.out)) (lR qQ) (by decide)) hk) (Kd.R_base ho1)) (fun _ h_ => h_.1)); replace qS := aM (Kd.R_mono (Kd.R_told (Kd.R_oldK (IsS70.apart (show IsS70 w _ g377 qO qG qY from by repeat (first | (with_reducible first | exact qA.out | apply IsS70.alloc | apply IsS70.drewN | apply IsS70.drew | apply IsS70.set_1 | apply IsS70.set_2 | refine IsS70.far ?_ qE.out _ | refine IsS70.far ?_ qC.out _ | refine IsS70.far ?_ qF.out _) | exact qA.out)) (lR qS) (by decide)) hk) (Kd.R_base ho1)) (fun _ h_ => h_.1)); replace qU := aM (Kd.R_mono (Kd.R_told (Kd.R_oldK (IsS70.apart (show IsS70 w _ g377 qO qG qY from by repeat (first | (with_reducible first | exact qA.out | apply IsS70.alloc | apply IsS70.drewN | apply IsS70.drew | apply IsS70.set_1 | apply IsS70.set_2 | refine IsS70.far ?_ qE.out _ | refine IsS70.far ?_ qC.out _ | refine IsS70.far ?_ qF.out _) | exact qA.out)) (lR qU) (by decide)) hk) (Kd.R_base ho1)) (fun _ h_ => h_.1)); replace HB := aM (hb); replace qA := aM (hi); (try clear hb); (try clear hb2); (try clear hk); (try clear hi); (try clear ho0); (try clear ho1); have qFI := qN.out; have qFJ := qH.out; have qFK := q3.out; have qFL := qW.out; have qFM := qs.out; have qFN := qF.out; have qCg := zc15 qI.out; have qCh := fun i_ : Nat => blk_frozen qI.out i_; obtain ⟨yT, yU, eo63⟩ := Kd.R_slice yM.out; subst eo63; obtain ⟨yr, ys, eo64⟩ := Kd.R_slice yN.out; subst eo64))
             go_roundg k3
             case measure => have := HK1.out; have := HK2.out; have := HK3.out; omega
             case rel => exact ⟨(2 + 1), (q7), (q8), (q9), (jA), (jB), (jC), (yC), (yD), (qf), (qa), (qw), (qx), (qg), (qb), (qy), (qz), (jk), (jt), (ju), (j1), (ql), (qi), (qm), (qj), (.slice yT ju.length yU), (.slice yr j1.length ys), (by first | rfl | (simp; done) | (simp [*]; done) | (simp [wrap64]; done)), H', ⟨by have := HK1.out; have := HK2.out; have := HK3.out; omega⟩, ⟨by (with_reducible repeat (first | apply Kd.R_alloc | apply Kd.R_drewN | apply Kd.R_drew)); exact Kd.R_mono (fA (fA (fA (fA (Kd.R_types qJ.out qI.out (by decide)))))) (fun _ hk => trivial)⟩, ⟨by (with_reducible repeat (first | apply Kd.R_alloc | apply Kd.R_drewN | apply Kd.R_drew)); exact Kd.R_mono (fA (fA (fA (fA (Kd.R_types qP.out qI.out (by decide)))))) (fun _ hk => ⟨hk.1.1.1, hk.1.2⟩)⟩, ⟨by (with_reducible repeat (first | apply Kd.R_alloc | apply Kd.R_drewN | apply Kd.R_drew)); exact Kd.R_mono (fA (fA (fA (fA (Kd.R_types qQ.out qI.out (by decide)))))) (fun _ hk => ⟨hk.1.1.1, hk.1.2⟩)⟩, ⟨by (with_reducible repeat (first | apply Kd.R_alloc | apply Kd.R_drewN | apply Kd.R_drew)); exact Kd.R_mono (fA (fA (fA (fA (Kd.R_types qR.out qI.out (by decide)))))) (fun _ hk => ⟨hk.1.1.1, hk.1.2⟩)⟩, ⟨by (with_reducible repeat (first | apply Kd.R_alloc | apply Kd.R_drewN | apply Kd.R_drew)); exact Kd.R_mono (fA (fA (fA (fA (Kd.R_types qS.out qI.out (by decide)))))) (fun _ hk => ⟨hk.1.1.1, hk.1.2⟩)⟩, ⟨by (with_reducible repeat (first | apply Kd.R_alloc | apply Kd.R_drewN | apply Kd.R_drew)); exact Kd.R_mono (fA (fA (fA (fA (Kd.R_types yM.out qI.out (by decide)))))) (fun _ hk => ⟨hk.1.1.1.2, hk.1.1.2⟩)⟩, ⟨by (with_reducible repeat (first | apply Kd.R_alloc | apply Kd.R_drewN | apply Kd.R_drew)); exact Kd.R_mono (fA (fA (fA (fA (Kd.R_types yN.out qI.out (by decide)))))) (fun _ hk => ⟨hk.1.1.1.2, hk.1.1.2⟩)⟩, ⟨by refine lZ ?_; refine blk_far ?_ qH.out _; refine lZ ?_; refine blk_far ?_ qH.out _; refine lZ ?_; refine blk_far ?_ qH.out _; refine lZ ?_; refine blk_far ?_ qH.out _; refine lZ ?_; exact qD.out⟩, ⟨by refine lZ ?_; refine blk_far ?_ qW.out _; refine lZ ?_; refine blk_far ?_ qW.out _; refine lZ ?_; refine blk_far ?_ qW.out _; refine lZ ?_; refine blk_far ?_ qW.out _; refine lZ ?_; exact qK.out⟩, ⟨by refine lZ ?_; refine blk_put (cs := #[.int .i64 qr, .int .i64 qt, qo, .int .i64 qf, .int .i64 qa, ql, qi, .int .i64 qg, .int .i64 qb, qm, qj, .int .i64 jk, .int .i64 jt, .slice yT ju.length yU, qk]) ?_ 14 _ rfl; refine lZ ?_; refine blk_put (cs := #[.int .i64 qr, .int .i64 qt, qo, .int .i64 qf, .int .i64 qa, ql, qi, .int .i64 qg, .int .i64 qb, qm, qj, .int .i64 jk, .int .i64 jt, qn, qk]) ?_ 13 _ rfl; refine lZ ?_; refine blk_put (cs := #[.int .i64 qr, .int .i64 qt, qo, .int .i64 qf, .int .i64 qa, ql, qi, .int .i64 qg, .int .i64 qb, qm, qj, .int .i64 jk, .int .i64 qc, qn, qk]) ?_ 12 _ rfl; refine lZ ?_; refine blk_put (cs := #[.int .i64 qr, .int .i64 qt, qo, .int .i64 qf, .int .i64 qa, ql, qi, .int .i64 qg, .int .i64 qb, qm, qj, .int .i64 qh, .int .i64 qc, qn, qk]) ?_ 11 _ rfl; refine lZ ?_; exact qI.out⟩, ⟨by repeat (first | (with_reducible first | exact qA.out | apply IsS70.alloc | apply IsS70.drewN | apply IsS70.drew | apply IsS70.set_1 | apply IsS70.set_2 | refine IsS70.far ?_ qE.out _ | refine IsS70.far ?_ qC.out _ | refine IsS70.far ?_ qF.out _) | exact qA.out)⟩, ⟨by repeat (first | (with_reducible first | exact HB.out | apply below_alloc | apply pw_below_drewN | apply below_drew1 | refine below_set ?_ (IsS70.ge qA.out) | refine below_set ?_ qZ.out | refine below_set ?_ qd.out | refine below_set ?_ qq.out) | exact HB.out)⟩⟩
            ·rw [if_neg c56] at H
             exact absurd H (by simp)
         ·rw [if_neg c37] at H
          have c37b0 : decide (jQ < 3) = false := decide_eq_false c37
          clear c37
          by_cases c65 : qY = true
          ·subst c65
           have H1 : (some (0, 0, ([] : List (S48)), 0, 0, ([] : List (S63)), ([] : List Int), 0, 0, ([] : List (S63)), ([] : List Int), 0, 0, ([] : List (S63)), ([] : List Int), 170, qG)) = some (r1, r2, r3, r4, r5, r6, r7, r8, r9, r10, r11, r12, r13, r14, r15, r16, r17) := by rw [if_pos rfl] at H; exact H
           clear H
           have H := H1
           clear H1
           simp only [Option.some.injEq, Prod.mk.injEq] at H
           obtain ⟨rfl, rfl, rfl, rfl, rfl, rfl, rfl, rfl, rfl, rfl, rfl, rfl, rfl, rfl, rfl, rfl, rfl⟩ := H
           obtain ⟨ASz66_0, cSz66_0, HGz66, hgz66, HSz66_0⟩ := qA.out
           have qCi := cellS70_0 HGz66
           have qCj := cellS70_1 HGz66
           have qCk := cellS70_2 HGz66
           have qCl := blk_frozen HGz66 1
           have qCm := blk_frozen HGz66 2
           clear HGz66 hgz66
           try go_wp2
           have n0_ := aM (Kd.R_drew qJ.out)
           have n1_ := aM (Kd.R_drew qP.out)
           have n2_ := aM (Kd.R_drew qQ.out)
           have n3_ := aM (Kd.R_drew qR.out)
           have n4_ := aM (Kd.R_drew qS.out)
           have n5_ := aM (Kd.R_drew qT.out)
           have n6_ := aM (Kd.R_drew qU.out)
           have n7_ := aM (blk_drew qD.out)
           have n8_ := aM (blk_drew qK.out)
           have n9_ := aM (blk_drew qI.out)
           have n10_ := aM (IsS70.drew qA.out)
           have n11_ := aM (below_drew1 HB.out)
           clear qJ
           clear qP
           clear qQ
           clear qR
           clear qS
           clear qT
           clear qU
           clear qD
           clear qK
           clear qI
           clear qA
           clear HB
           have qJ := n0_
           have qP := n1_
           have qQ := n2_
           have qR := n3_
           have qS := n4_
           have qT := n5_
           have qU := n6_
           have qD := n7_
           have qK := n8_
           have qI := n9_
           have qA := n10_
           have HB := n11_
           clear n0_ n1_ n2_ n3_ n4_ n5_ n6_ n7_ n8_ n9_ n10_ n11_
           refine start_ (n := 8) (S := fun w' => w'.cell? ⟨g377, 1, none⟩ = some (.int .i64 qG) ∧ w'.cell? ⟨g377, 2, none⟩ = some (.bool true)) (ds := []) #[false, false, false, false, false, false, false, false] (by kernel_rfl) rfl rfl ⟨(by obtain ⟨_, _, hz_, _⟩ := qA.out; exact (blk_cell hz_ 1).trans rfl), (by obtain ⟨_, _, hz_, _⟩ := qA.out; exact (blk_cell hz_ 2).trans rfl)⟩ (fun hHeld => ?_); refine with_tabW code_Decode.tab23 code_Decode.bits23 (fun HT_ HW_ => ?_)
           generalize wr.drew = w67 at qJ qP qQ qR qS qT qU qD qK qI qA HB hHeld ⊢
           refine pure_ (i := 0) (N := some 96) (v := ?_) (a' := ?_) #[true, false, false, false, false, false, false, false] rfl rfl (any_of HT_.out (by kernel_rfl)) (fun _ _ _ h => h) (Or.inl ⟨by rfl, ?_⟩) ?_ ?_
           rotate_left
           ·intro w'
            go_simp
            with_reducible rfl
           rotate_left
           ·simp only [Act.put, List.setIfInBounds_toArray, List.set_cons_zero, List.set_cons_succ, i64_w, i32_w]
            rfl
           refine pure_ (i := 1) (N := some 97) (v := ?_) (a' := ?_) #[true, true, false, false, false, false, false, false] rfl rfl (any_of HT_.out (by kernel_rfl)) (fun _ _ _ h => h) (Or.inl ⟨by rfl, ?_⟩) ?_ ?_
           rotate_left
           ·intro w'
            go_simp
            with_reducible rfl
           rotate_left
           ·simp only [Act.put, List.setIfInBounds_toArray, List.set_cons_zero, List.set_cons_succ, i64_w, i32_w]
            rfl
           refine pure_ (i := 2) (N := some 98) (v := ?_) (a' := ?_) #[true, true, true, false, false, false, false, false] rfl rfl (any_of HT_.out (by kernel_rfl)) (fun _ _ _ h => h) (Or.inl ⟨by rfl, ?_⟩) ?_ ?_
           rotate_left
           ·intro w'
            go_simp
            with_reducible rfl
           rotate_left
           ·simp only [Act.put, List.setIfInBounds_toArray, List.set_cons_zero, List.set_cons_succ, i64_w, i32_w]
            rfl
           refine pure_ (i := 3) (N := some 99) (v := ?_) (a' := ?_) #[true, true, true, true, false, false, false, false] rfl rfl (any_of HT_.out (by kernel_rfl)) (fun _ _ _ h => h) (Or.inl ⟨by rfl, ?_⟩) ?_ ?_
           rotate_left
           ·intro w'
            go_simp
            with_reducible rfl
           rotate_left
           ·simp only [Act.put, List.setIfInBounds_toArray, List.set_cons_zero, List.set_cons_succ, i64_w, i32_w]
            rfl
           refine take_ (i := 4) (N := some 100) (v := ?_) (a' := ?_) #[true, true, true, true, true, false, false, false] rfl rfl (take_ofW HT_.out HW_.out (by kernel_rfl)) (fun _ _ _ h => h) (Or.inl ⟨by rfl, ?_⟩) hHeld ?_ ?_
           rotate_left
           ·rintro w' ⟨s0, s1⟩
            go_simp
            with_reducible rfl
           rotate_left
           ·simp only [Act.put, List.setIfInBounds_toArray, List.set_cons_zero, List.set_cons_succ, i64_w, i32_w]
            rfl
           refine pure_ (i := 5) (N := some 101) (v := ?_) (a' := ?_) #[true, true, true, true, true, true, false, false] rfl rfl (any_of HT_.out (by kernel_rfl)) (fun _ _ _ h => h) (Or.inl ⟨by rfl, ?_⟩) ?_ ?_
           rotate_left
           ·intro w'
            go_simp
            with_reducible rfl
           rotate_left
           ·simp only [Act.put, List.setIfInBounds_toArray, List.set_cons_zero, List.set_cons_succ, i64_w, i32_w]
            rfl
           refine one_ (i := 6) (N := none) #[true, true, true, true, true, true, true, false] rfl rfl (one_of HT_.out (by kernel_rfl)) (by decide) (fun K hK => ?_)
           have qGE : w67.cell? ⟨qM, 0, none⟩ = some (.int .i64 0) := (blk_cell qD.out 0).trans rfl
           have qFO := blk_frozen qD.out 0
           have qCn := qB.out
           have qCo := qN.out
           have qCp := qL.out
           have qCq := qH.out
           have qGF : w67.cell? ⟨qM, 1, none⟩ = some (.int .i64 0) := (blk_cell qD.out 1).trans rfl
           have qFP := blk_frozen qD.out 1
           have qCr := qB.out
           have qCs := qN.out
           have qCt := qL.out
           have qCu := qH.out
           have qGG : w67.cell? ⟨qM, 2, none⟩ = some (.slice none 0 0) := (blk_cell qD.out 2).trans rfl
           have qFQ := blk_frozen qD.out 2
           have qCv := qB.out
           have qCw := qN.out
           have qCx := qL.out
           have qCy := qH.out
           have qGH : w67.cell? ⟨qM, 3, none⟩ = some (.int .i64 q7) := (blk_cell qD.out 3).trans rfl
           have qFR := blk_frozen qD.out 3
           have qCz := qB.out
           have qC0 := qN.out
           have qC1 := qL.out
           have qC2 := qH.out
           have qGI : w67.cell? ⟨qM, 4, none⟩ = some (.int .i64 q8) := (blk_cell qD.out 4).trans rfl
           have qFS := blk_frozen qD.out 4
           have qC3 := qB.out
           have qC4 := qN.out
           have qC5 := qL.out
           have qC6 := qH.out
           have qGJ : w67.cell? ⟨qM, 5, none⟩ = some (.slice none 0 0) := (blk_cell qD.out 5).trans rfl
           have qFT := blk_frozen qD.out 5
           have qC7 := qB.out
           have qC8 := qN.out
           have qC9 := qL.out
           have qDA := qH.out
           have qGK : w67.cell? ⟨qM, 6, none⟩ = some (.slice none 0 0) := (blk_cell qD.out 6).trans rfl
           have qFU := blk_frozen qD.out 6
           have qDB := qB.out
           have qDC := qN.out
           have qDD := qL.out
           have qDE := qH.out
           have qGL : w67.cell? ⟨qM, 7, none⟩ = some (.int .i64 q9) := (blk_cell qD.out 7).trans rfl
           have qFV := blk_frozen qD.out 7
           have qDF := qB.out
           have qDG := qN.out
           have qDH := qL.out
           have qDI := qH.out
           have qGM : w67.cell? ⟨qM, 8, none⟩ = some (.int .i64 jA) := (blk_cell qD.out 8).trans rfl
           have qFW := blk_frozen qD.out 8
           have qDJ := qB.out
           have qDK := qN.out
           have qDL := qL.out
           have qDM := qH.out
           have qGN : w67.cell? ⟨qM, 9, none⟩ = some (.slice none 0 0) := (blk_cell qD.out 9).trans rfl
           have qFX := blk_frozen qD.out 9
           have qDN := qB.out
           have qDO := qN.out
           have qDP := qL.out
           have qDQ := qH.out
           have qGO : w67.cell? ⟨qM, 10, none⟩ = some (.slice none 0 0) := (blk_cell qD.out 10).trans rfl
           have qFY := blk_frozen qD.out 10
           have qDR := qB.out
           have qDS := qN.out
           have qDT := qL.out
           have qDU := qH.out
           have qGP : w67.cell? ⟨qM, 11, none⟩ = some (.int .i64 jB) := (blk_cell qD.out 11).trans rfl
           have qFZ := blk_frozen qD.out 11
           have qDV := qB.out
           have qDW := qN.out
           have qDX := qL.out
           have qDY := qH.out
           have qGQ : w67.cell? ⟨qM, 12, none⟩ = some (.int .i64 jC) := (blk_cell qD.out 12).trans rfl
           have qFa := blk_frozen qD.out 12
           have qDZ := qB.out
           have qDa := qN.out
           have qDb := qL.out
           have qDc := qH.out
           have qGR : w67.cell? ⟨qM, 13, none⟩ = some (.slice none 0 0) := (blk_cell qD.out 13).trans rfl
           have qFb := blk_frozen qD.out 13
           have qDd := qB.out
           have qDe := qN.out
           have qDf := qL.out
           have qDg := qH.out
           have qGS : w67.cell? ⟨qM, 14, none⟩ = some (.slice none 0 0) := (blk_cell qD.out 14).trans rfl
           have qFc := blk_frozen qD.out 14
           have qDh := qB.out
           have qDi := qN.out
           have qDj := qL.out
           have qDk := qH.out
           refine skip_ (w1 := ?_) (by rfl) rfl ?_ ?_
           rotate_left
           ·go_simp
            rfl
           refine hK.out _ _ ⟨((zf15 qE.out).trans (hHeld.1)), ((zf15 qE.out).trans (hHeld.2))⟩ (fun hHeld => ?_)
           clear hK K
           refine one_ (i := 7) (N := none) #[true, true, true, true, true, true, true, true] rfl rfl (one_of HT_.out (by kernel_rfl)) (by decide) (fun K hK => ?_)
           have qGT : w67.cell? ⟨qV, 0, none⟩ = some (.int .i64 0) := (blk_cell qK.out 0).trans rfl
           have qFd := blk_frozen qK.out 0
           have qDl := qL.out
           have qDm := q3.out
           have qDn := qB.out
           have qDo := qW.out
           have qGU : w67.cell? ⟨qV, 1, none⟩ = some (.int .i64 0) := (blk_cell qK.out 1).trans rfl
           have qFe := blk_frozen qK.out 1
           have qDp := qL.out
           have qDq := q3.out
           have qDr := qB.out
           have qDs := qW.out
           generalize hW_ : World.setCell _ _ _ = W_
           have hc0_ : W_.cell? ⟨qV, 0, none⟩ = some (.int .i64 0) := by
            subst hW_
            go_simp
           have hf0_ : W_.frozen? ⟨qV, 0, none⟩ = false := by
            subst hW_
            go_simp
           have hc1_ : W_.cell? ⟨qV, 1, none⟩ = some (.int .i64 0) := by
            subst hW_
            go_simp
           have hf1_ : W_.frozen? ⟨qV, 1, none⟩ = false := by
            subst hW_
            go_simp
           refine skip_ (w1 := ?_) (by rfl) rfl ?_ ?_
           rotate_left
           ·go_simp
            rfl
           subst hW_
           refine hK.out _ _ ⟨((cell_far (p := ⟨qV, _, none⟩) qC.out _).trans (((cell_far (p := ⟨qV, _, none⟩) qC.out _).trans (hHeld.1)))), ((cell_far (p := ⟨qV, _, none⟩) qC.out _).trans (((cell_far (p := ⟨qV, _, none⟩) qC.out _).trans (hHeld.2))))⟩ (fun hHeld => ?_)
           clear hK K
           refine done_ (done_of HT_.out (by kernel_rfl)) ?_
           try go_wp2
           refine bodyPost_ret (results_cc rfl _ _ qM qV 28 43 #[.int .i64 0, .int .i64 0, .slice none 0 0, .int .i64 0, .int .i64 0, .slice none 0 0, .slice none 0 0, .int .i64 0, .int .i64 0, .slice none 0 0, .slice none 0 0, .int .i64 0, .int .i64 0, .slice none 0 0, .slice none 0 0] #[.int .i64 170, .int .i64 qG] (0, 0) (0, 0) _ _ rfl (by refine lZ ?_; refine blk_far ?_ qL.out _; refine lZ ?_; refine blk_far ?_ qL.out _; refine lZ ?_; apply zp15; refine lZ ?_; exact qD.out) Try.underlying28 rfl (by kernel_rfl) rfl (by refine lZ ?_; refine blk_put (cs := #[.int .i64 170, .int .i64 0]) ?_ 1 _ rfl; refine lZ ?_; refine blk_put (cs := #[.int .i64 0, .int .i64 0]) ?_ 0 _ rfl; refine lZ ?_; refine blk_far ?_ qB.out _; refine lZ ?_; refine blk_far ?_ qB.out _; refine lZ ?_; refine blk_far ?_ qB.out _; refine lZ ?_; refine blk_far ?_ qB.out _; refine lZ ?_; refine blk_far ?_ qB.out _; refine lZ ?_; refine blk_far ?_ qB.out _; refine lZ ?_; refine blk_far ?_ qB.out _; refine lZ ?_; refine blk_far ?_ qB.out _; refine lZ ?_; refine blk_far ?_ qB.out _; refine lZ ?_; refine blk_far ?_ qB.out _; refine lZ ?_; refine blk_far ?_ qB.out _; refine lZ ?_; refine blk_far ?_ qB.out _; refine lZ ?_; refine blk_far ?_ qB.out _; refine lZ ?_; refine blk_far ?_ qB.out _; refine lZ ?_; refine blk_far ?_ qB.out _; refine lZ ?_; exact qK.out) Try.underlying43 rfl (by kernel_rfl)) rfl ?_
           exact ⟨_, _, _, _, _, _, _, by first | rfl | (simp [errW_none, errW_some] <;> rfl) | (simp [*, errW_none, errW_some] <;> rfl), by first | exact Kd.R_nil _ _ _ _ _ | exact Kd.N_nil _ _ _ _ _ | exact Kd.V_nil _ _ _ _ _ | exact Kd.Q_nil _ _ _ _ _ | exact Kd.S_nil _ _ _ _ _, by first | exact Kd.R_nil _ _ _ _ _ | exact Kd.N_nil _ _ _ _ _ | exact Kd.V_nil _ _ _ _ _ | exact Kd.Q_nil _ _ _ _ _ | exact Kd.S_nil _ _ _ _ _, by first | exact Kd.R_nil _ _ _ _ _ | exact Kd.N_nil _ _ _ _ _ | exact Kd.V_nil _ _ _ _ _ | exact Kd.Q_nil _ _ _ _ _ | exact Kd.S_nil _ _ _ _ _, by first | exact Kd.R_nil _ _ _ _ _ | exact Kd.N_nil _ _ _ _ _ | exact Kd.V_nil _ _ _ _ _ | exact Kd.Q_nil _ _ _ _ _ | exact Kd.S_nil _ _ _ _ _, by first | exact Kd.R_nil _ _ _ _ _ | exact Kd.N_nil _ _ _ _ _ | exact Kd.V_nil _ _ _ _ _ | exact Kd.Q_nil _ _ _ _ _ | exact Kd.S_nil _ _ _ _ _, by first | exact Kd.R_nil _ _ _ _ _ | exact Kd.N_nil _ _ _ _ _ | exact Kd.V_nil _ _ _ _ _ | exact Kd.Q_nil _ _ _ _ _ | exact Kd.S_nil _ _ _ _ _, by first | exact Kd.R_nil _ _ _ _ _ | exact Kd.N_nil _ _ _ _ _ | exact Kd.V_nil _ _ _ _ _ | exact Kd.Q_nil _ _ _ _ _ | exact Kd.S_nil _ _ _ _ _, by repeat (first | (with_reducible first | exact HB.out | apply below_alloc | apply pw_below_drewN | apply below_drew1 | refine below_set ?_ (IsS70.ge qA.out) | refine below_set ?_ qZ.out | refine below_set ?_ qd.out | refine below_set ?_ qq.out) | exact HB.out)⟩
          ·replace c65 := Bool.eq_false_iff.mpr c65
           subst c65
           have H1 : (if 0 ≤ qG then (if qG ≤ (l0.length : Int) then ((code_check.f k3 (l0.take (qG : Int).toNat)).bind fun qp => ((code_reader_within.f qO qG false (qp / 256) (qp / 256)).bind fun bt437 => ((code_reader_within.f qO bt437.2.1 bt437.2.2 (Go.bits .and .i64 qp 255) (Go.bits .and .i64 qp 255)).bind fun bt440 => (if bt440.2.2 = true then (some (0, 0, ([] : List (S48)), 0, 0, ([] : List (S63)), ([] : List Int), 0, 0, ([] : List (S63)), ([] : List Int), 0, 0, ([] : List (S63)), ([] : List Int), 170, bt440.2.1)) else (if bt440.2.1 < (l0.length : Int) then (some (0, 0, ([] : List (S48)), 0, 0, ([] : List (S63)), ([] : List Int), 0, 0, ([] : List (S63)), ([] : List Int), 0, 0, ([] : List (S63)), ([] : List Int), 170, bt440.2.1)) else (some (qr, qt, qe, qf, qa, qw, qx, qg, qb, qy, qz, qh, qc, q0, q1, 0, 0))))))) else (none)) else (none)) = some (r1, r2, r3, r4, r5, r6, r7, r8, r9, r10, r11, r12, r13, r14, r15, r16, r17) := by rw [if_neg (show ¬ (false = true) by decide)] at H; exact H
           clear H
           have H := H1
           clear H1
           by_cases c85 : 0 ≤ qG
           ·rw [if_pos c85] at H
            have c85b0 := eq_true c85
            have c85b1 : decide (0 ≤ qG) = true := decide_eq_true c85
            clear c85
            by_cases c86 : qG ≤ (l0.length : Int)
            ·rw [if_pos c86] at H
             have c86b0 := eq_true c86
             have c86b1 : decide (qG ≤ (l0.length : Int)) = true := decide_eq_true c86
             clear c86
             replace H := Option.bind_eq_some_iff.mp H
             obtain ⟨qp, A870, H⟩ := H
             replace H : ((code_reader_within.f qO qG false (qp / 256) (qp / 256)).bind fun bt437 => ((code_reader_within.f qO bt437.2.1 bt437.2.2 (Go.bits .and .i64 qp 255) (Go.bits .and .i64 qp 255)).bind fun bt440 => (if bt440.2.2 = true then (some (0, 0, ([] : List (S48)), 0, 0, ([] : List (S63)), ([] : List Int), 0, 0, ([] : List (S63)), ([] : List Int), 0, 0, ([] : List (S63)), ([] : List Int), 170, bt440.2.1)) else (if bt440.2.1 < (l0.length : Int) then (some (0, 0, ([] : List (S48)), 0, 0, ([] : List (S63)), ([] : List Int), 0, 0, ([] : List (S63)), ([] : List Int), 0, 0, ([] : List (S63)), ([] : List Int), 170, bt440.2.1)) else (some (qr, qt, qe, qf, qa, qw, qx, qg, qb, qy, qz, qh, qc, q0, q1, 0, 0)))))) = some (r1, r2, r3, r4, r5, r6, r7, r8, r9, r10, r11, r12, r13, r14, r15, r16, r17) := H
             have A87 := aM A870
             clear A870
             replace H := Option.bind_eq_some_iff.mp H
             obtain ⟨⟨yE, q5, q6⟩, A880, H⟩ := H
             replace H : ((code_reader_within.f qO q5 q6 (Go.bits .and .i64 qp 255) (Go.bits .and .i64 qp 255)).bind fun bt440 => (if bt440.2.2 = true then (some (0, 0, ([] : List (S48)), 0, 0, ([] : List (S63)), ([] : List Int), 0, 0, ([] : List (S63)), ([] : List Int), 0, 0, ([] : List (S63)), ([] : List Int), 170, bt440.2.1)) else (if bt440.2.1 < (l0.length : Int) then (some (0, 0, ([] : List (S48)), 0, 0, ([] : List (S63)), ([] : List Int), 0, 0, ([] : List (S63)), ([] : List Int), 0, 0, ([] : List (S63)), ([] : List Int), 170, bt440.2.1)) else (some (qr, qt, qe, qf, qa, qw, qx, qg, qb, qy, qz, qh, qc, q0, q1, 0, 0))))) = some (r1, r2, r3, r4, r5, r6, r7, r8, r9, r10, r11, r12, r13, r14, r15, r16, r17) := H
             have A88 := aM A880
             clear A880
             replace H := Option.bind_eq_some_iff.mp H
             obtain ⟨⟨yF, jI, yV⟩, A890, H⟩ := H
             replace H : (if yV = true then (some (0, 0, ([] : List (S48)), 0, 0, ([] : List (S63)), ([] : List Int), 0, 0, ([] : List (S63)), ([] : List Int), 0, 0, ([] : List (S63)), ([] : List Int), 170, jI)) else (if jI < (l0.length : Int) then (some (0, 0, ([] : List (S48)), 0, 0, ([] : List (S63)), ([] : List Int), 0, 0, ([] : List (S63)), ([] : List Int), 0, 0, ([] : List (S63)), ([] : List Int), 170, jI)) else (some (qr, qt, qe, qf, qa, qw, qx, qg, qb, qy, qz, qh, qc, q0, q1, 0, 0)))) = some (r1, r2, r3, r4, r5, r6, r7, r8, r9, r10, r11, r12, r13, r14, r15, r16, r17) := H
             have A89 := aM A890
             clear A890
             by_cases c90 : yV = true
             ·subst c90
              have H1 : (some (0, 0, ([] : List (S48)), 0, 0, ([] : List (S63)), ([] : List Int), 0, 0, ([] : List (S63)), ([] : List Int), 0, 0, ([] : List (S63)), ([] : List Int), 170, jI)) = some (r1, r2, r3, r4, r5, r6, r7, r8, r9, r10, r11, r12, r13, r14, r15, r16, r17) := by rw [if_pos rfl] at H; exact H
              clear H
              have H := H1
              clear H1
              simp only [Option.some.injEq, Prod.mk.injEq] at H
              obtain ⟨rfl, rfl, rfl, rfl, rfl, rfl, rfl, rfl, rfl, rfl, rfl, rfl, rfl, rfl, rfl, rfl, rfl⟩ := H
              obtain ⟨ASz91_0, cSz91_0, HGz91, hgz91, HSz91_0⟩ := qA.out
              have qDt := cellS70_0 HGz91
              have qDu := cellS70_1 HGz91
              have qDv := cellS70_2 HGz91
              have qDw := blk_frozen HGz91 1
              have qDx := blk_frozen HGz91 2
              clear HGz91 hgz91
              obtain ⟨i092, hi092, _, hsz92, _⟩ := info_parts info5
              obtain ⟨hcut92, hA92, hC92⟩ := print_take_of (P := Try.prog) (Value.int .u8) 0 31 5 .i64 Try.underlying31 hi092 hsz92 A0 c0 l0 qG (of_decide_eq_true (by first | (with_reducible assumption) | assumption)) (of_decide_eq_true (by first | (with_reducible assumption) | assumption)) HC0.out
              have jZ := aM (Kd.C_of_reads (h1 := fun _ => rfl) (hA92 _ (Kd.reads_of_C HR0.out)))
              have ja := aM hC92
              clear hA92 hC92 hi092 hsz92
              try go_wp2_with (first | ((with_reducible refine gate_callee (f := 29) rfl ?_); refine goesL_ (some 70) rfl rfl Try.func29 (by kernel_rfl) rfl #[.slice A0 (l0.take (qG : Int).toNat).length c0] rfl (by (try simp only [List.map_toArray, List.map_cons, List.map_nil]); first | done | (rw [show (l0.take (qG : Int).toNat).length = qG.toNat from (by rw [List.length_take]; have h_ : (qG : Int) ≤ (l0.length : Int) := of_decide_eq_true (by first | (with_reducible assumption) | assumption); omega)] <;> rfl) | rfl | (simp only [List.length_drop, List.length_take]; rfl)) ?_; (with_reducible refine (code_check.calls k3 _ _ (l0.take (qG : Int).toNat) qp _ ?side1 ?side2 A87.out).mono ?_); (case side1 => refine lY ?_; exact (Kd.C_below jZ.out HB.out)); (case side2 => exact ja.out); rintro e w' ⟨rfl, ⟨nd, rfl⟩⟩; refine ⟨_, rfl, ?_⟩; (try (rw [drewN_self wr]; generalize hq_ : World.drewN wr _ = wr; have n0_ : Aside0 (Kd.R k48 48 wr w.heap.size (fun _ => True) qo qe) := ⟨by rw [← hq_]; exact (lR qJ)⟩; have n1_ : Aside0 (Kd.R k63 63 wr w.heap.size (fun k_ => some k_ ≠ (qm : Value).ownBlock ∧ some k_ ≠ (qn : Value).ownBlock) ql qw) := ⟨by rw [← hq_]; exact (lR qP)⟩; have n2_ : Aside0 (Kd.R (Kd.int .i64) 3 wr w.heap.size (fun k_ => some k_ ≠ (qj : Value).ownBlock ∧ some k_ ≠ (qk : Value).ownBlock) qi qx) := ⟨by rw [← hq_]; exact (lR qQ)⟩; have n3_ : Aside0 (Kd.R k63 63 wr w.heap.size (fun k_ => some k_ ≠ (ql : Value).ownBlock ∧ some k_ ≠ (qn : Value).ownBlock) qm qy) := ⟨by rw [← hq_]; exact (lR qR)⟩; have n4_ : Aside0 (Kd.R (Kd.int .i64) 3 wr w.heap.size (fun k_ => some k_ ≠ (qi : Value).ownBlock ∧ some k_ ≠ (qk : Value).ownBlock) qj qz) := ⟨by rw [← hq_]; exact (lR qS)⟩; have n5_ : Aside0 (Kd.R k63 63 wr w.heap.size (fun k_ => some k_ ≠ (ql : Value).ownBlock ∧ some k_ ≠ (qm : Value).ownBlock) qn q0) := ⟨by rw [← hq_]; exact (lR qT)⟩; have n6_ : Aside0 (Kd.R (Kd.int .i64) 3 wr w.heap.size (fun k_ => some k_ ≠ (qi : Value).ownBlock ∧ some k_ ≠ (qj : Value).ownBlock) qk q1) := ⟨by rw [← hq_]; exact (lR qU)⟩; have n7_ : Aside0 (wr.heap[qM]? = some (.cells #[.int .i64 0, .int .i64 0, .slice none 0 0, .int .i64 q7, .int .i64 q8, .slice none 0 0, .slice none 0 0, .int .i64 q9, .int .i64 jA, .slice none 0 0, .slice none 0 0, .int .i64 jB, .int .i64 jC, .slice none 0 0, .slice none 0 0] 28 (0, 0))) := ⟨by rw [← hq_]; exact (lK qD)⟩; have n8_ : Aside0 (wr.heap[qV]? = some (.cells #[.int .i64 0, .int .i64 0] 43 (0, 0))) := ⟨by rw [← hq_]; exact (lK qK)⟩; have n9_ : Aside0 (wr.heap[qX]? = some (.cells #[.int .i64 qr, .int .i64 qt, qo, .int .i64 qf, .int .i64 qa, ql, qi, .int .i64 qg, .int .i64 qb, qm, qj, .int .i64 qh, .int .i64 qc, qn, qk] 28 (0, 0))) := ⟨by rw [← hq_]; exact (lK qI)⟩; have n10_ : Aside0 (IsS70 w wr g377 qO qG false) := ⟨by rw [← hq_]; exact (by repeat (first | (with_reducible first | exact qA.out | apply IsS70.alloc | apply IsS70.drewN | apply IsS70.drew | apply IsS70.set_1 | apply IsS70.set_2 | refine IsS70.far ?_ qE.out _ | refine IsS70.far ?_ qC.out _ | refine IsS70.far ?_ qF.out _) | exact qA.out))⟩; have n11_ : Aside0 (Below w.heap.size w wr) := ⟨by rw [← hq_]; exact (by have := GEc.mk (IsS70.ge qA.out); have := GEc.mk qZ.out; have := GEc.mk qd.out; have := GEc.mk qq.out; exact lS HB)⟩; clear qJ qP qQ qR qS qT qU qD qK qI qA HB hq_; have qJ := n0_; have qP := n1_; have qQ := n2_; have qR := n3_; have qS := n4_; have qT := n5_; have qU := n6_; have qD := n7_; have qK := n8_; have qI := n9_; have qA := n10_; have HB := n11_; clear n0_ n1_ n2_ n3_ n4_ n5_ n6_ n7_ n8_ n9_ n10_ n11_))) | ((with_reducible refine gate_callee (f := 33) rfl ?_); refine goesL_ (some 76) rfl rfl Try.func33 (by kernel_rfl) rfl #[.pointer (some ⟨g377, 0, none⟩), .int .i64 (qp / 256), .int .i64 (qp / 256)] rfl (by (try simp only [List.map_toArray, List.map_cons, List.map_nil]); first | done | rfl | (simp only [List.length_drop, List.length_take]; rfl)) ?_; (with_reducible refine (code_reader_within.calls g377 qO qG false (qp / 256) (qp / 256) yE q5 q6 w _ ?side1 ?side2 A88.out).mono ?_); (case side1 => repeat (first | (with_reducible first | exact qA.out | apply IsS70.alloc | apply IsS70.drewN | apply IsS70.drew | apply IsS70.set_1 | apply IsS70.set_2 | refine IsS70.far ?_ qE.out _ | refine IsS70.far ?_ qC.out _ | refine IsS70.far ?_ qF.out _) | exact qA.out)); (case side2 => exact (by have := GEc.mk (IsS70.ge qA.out); have := GEc.mk qZ.out; have := GEc.mk qd.out; have := GEc.mk qq.out; exact lS HB)); rintro e w93 ⟨rfl, hi, hb, hk⟩; refine ⟨_, rfl, ?_⟩; replace qJ := aM (Kd.R_mono (Kd.R_keep (IsS70.apart (show IsS70 w _ g377 qO qG false from by repeat (first | (with_reducible first | exact qA.out | apply IsS70.alloc | apply IsS70.drewN | apply IsS70.drew | apply IsS70.set_1 | apply IsS70.set_2 | refine IsS70.far ?_ qE.out _ | refine IsS70.far ?_ qC.out _ | refine IsS70.far ?_ qF.out _) | exact qA.out)) (lR qJ) (by decide)) hk (fun _ h => h.2)) (fun _ h => h.1)); replace qP := aM (Kd.R_mono (Kd.R_keep (IsS70.apart (show IsS70 w _ g377 qO qG false from by repeat (first | (with_reducible first | exact qA.out | apply IsS70.alloc | apply IsS70.drewN | apply IsS70.drew | apply IsS70.set_1 | apply IsS70.set_2 | refine IsS70.far ?_ qE.out _ | refine IsS70.far ?_ qC.out _ | refine IsS70.far ?_ qF.out _) | exact qA.out)) (lR qP) (by decide)) hk (fun _ h => h.2)) (fun _ h => h.1)); replace qQ := aM (Kd.R_mono (Kd.R_keep (IsS70.apart (show IsS70 w _ g377 qO qG false from by repeat (first | (with_reducible first | exact qA.out | apply IsS70.alloc | apply IsS70.drewN | apply IsS70.drew | apply IsS70.set_1 | apply IsS70.set_2 | refine IsS70.far ?_ qE.out _ | refine IsS70.far ?_ qC.out _ | refine IsS70.far ?_ qF.out _) | exact qA.out)) (lR qQ) (by decide)) hk (fun _ h => h.2)) (fun _ h => h.1)); replace qR := aM (Kd.R_mono (Kd.R_keep (IsS70.apart (show IsS70 w _ g377 qO qG false from by repeat (first | (with_reducible first | exact qA.out | apply IsS70.alloc | apply IsS70.drewN | apply IsS70.drew | apply IsS70.set_1 | apply IsS70.set_2 | refine IsS70.far ?_ qE.out _ | refine IsS70.far ?_ qC.out _ | refine IsS70.far ?_ qF.out _) | exact qA.out)) (lR qR) (by decide)) hk (fun _ h => h.2)) (fun _ h => h.1)); replace qS := aM (Kd.R_mono (Kd.R_keep (IsS70.apart (show IsS70 w _ g377 qO qG false from by repeat (first | (with_reducible first | exact qA.out | apply IsS70.alloc | apply IsS70.drewN | apply IsS70.drew | apply IsS70.set_1 | apply IsS70.set_2 | refine IsS70.far ?_ qE.out _ | refine IsS70.far ?_ qC.out _ | refine IsS70.far ?_ qF.out _) | exact qA.out)) (lR qS) (by decide)) hk (fun _ h => h.2)) (fun _ h => h.1)); replace qT := aM (Kd.R_mono (Kd.R_keep (IsS70.apart (show IsS70 w _ g377 qO qG false from by repeat (first | (with_reducible first | exact qA.out | apply IsS70.alloc | apply IsS70.drewN | apply IsS70.drew | apply IsS70.set_1 | apply IsS70.set_2 | refine IsS70.far ?_ qE.out _ | refine IsS70.far ?_ qC.out _ | refine IsS70.far ?_ qF.out _) | exact qA.out)) (lR qT) (by decide)) hk (fun _ h => h.2)) (fun _ h => h.1)); replace qU := aM (Kd.R_mono (Kd.R_keep (IsS70.apart (show IsS70 w _ g377 qO qG false from by repeat (first | (with_reducible first | exact qA.out | apply IsS70.alloc | apply IsS70.drewN | apply IsS70.drew | apply IsS70.set_1 | apply IsS70.set_2 | refine IsS70.far ?_ qE.out _ | refine IsS70.far ?_ qC.out _ | refine IsS70.far ?_ qF.out _) | exact qA.out)) (lR qU) (by decide)) hk (fun _ h => h.2)) (fun _ h => h.1)); replace qD := aM (KeepBut.blk hk (g' := qM) (lK qD) qu.out (by simp)); replace qK := aM (KeepBut.blk hk (g' := qV) (lK qK) qv.out (by simp)); replace qI := aM (KeepBut.blk hk (g' := qX) (lK qI) qs.out (by simp)); replace HB := aM (hb); replace qA := aM (hi); (try clear hb); (try clear hb2); (try clear hk); (try clear hi)) | ((with_reducible refine gate_callee (f := 33) rfl ?_); refine goesL_ (some 82) rfl rfl Try.func33 (by kernel_rfl) rfl #[.pointer (some ⟨g377, 0, none⟩), .int .i64 (Go.bits .and .i64 qp 255), .int .i64 (Go.bits .and .i64 qp 255)] rfl (by (try simp only [List.map_toArray, List.map_cons, List.map_nil]); first | done | rfl | (simp only [List.length_drop, List.length_take]; rfl)) ?_; (with_reducible refine (code_reader_within.calls g377 qO q5 q6 (Go.bits .and .i64 qp 255) (Go.bits .and .i64 qp 255) yF jI true w _ ?side1 ?side2 A89.out).mono ?_); (case side1 => repeat (first | (with_reducible first | exact qA.out | apply IsS70.alloc | apply IsS70.drewN | apply IsS70.drew | apply IsS70.set_1 | apply IsS70.set_2 | refine IsS70.far ?_ qE.out _ | refine IsS70.far ?_ qC.out _ | refine IsS70.far ?_ qF.out _) | exact qA.out)); (case side2 => exact (by have := GEc.mk (IsS70.ge qA.out); have := GEc.mk qZ.out; have := GEc.mk qd.out; have := GEc.mk qq.out; exact lS HB)); rintro e w94 ⟨rfl, hi, hb, hk⟩; refine ⟨_, rfl, ?_⟩; replace qJ := aM (Kd.R_mono (Kd.R_keep (IsS70.apart (show IsS70 w _ g377 qO q5 q6 from by repeat (first | (with_reducible first | exact qA.out | apply IsS70.alloc | apply IsS70.drewN | apply IsS70.drew | apply IsS70.set_1 | apply IsS70.set_2 | refine IsS70.far ?_ qE.out _ | refine IsS70.far ?_ qC.out _ | refine IsS70.far ?_ qF.out _) | exact qA.out)) (lR qJ) (by decide)) hk (fun _ h => h.2)) (fun _ h => h.1)); replace qP := aM (Kd.R_mono (Kd.R_keep (IsS70.apart (show IsS70 w _ g377 qO q5 q6 from by repeat (first | (with_reducible first | exact qA.out | apply IsS70.alloc | apply IsS70.drewN | apply IsS70.drew | apply IsS70.set_1 | apply IsS70.set_2 | refine IsS70.far ?_ qE.out _ | refine IsS70.far ?_ qC.out _ | refine IsS70.far ?_ qF.out _) | exact qA.out)) (lR qP) (by decide)) hk (fun _ h => h.2)) (fun _ h => h.1)); replace qQ := aM (Kd.R_mono (Kd.R_keep (IsS70.apart (show IsS70 w _ g377 qO q5 q6 from by repeat (first | (with_reducible first | exact qA.out | apply IsS70.alloc | apply IsS70.drewN | apply IsS70.drew | apply IsS70.set_1 | apply IsS70.set_2 | refine IsS70.far ?_ qE.out _ | refine IsS70.far ?_ qC.out _ | refine IsS70.far ?_ qF.out _) | exact qA.out)) (lR qQ) (by decide)) hk (fun _ h => h.2)) (fun _ h => h.1)); replace qR := aM (Kd.R_mono (Kd.R_keep (IsS70.apart (show IsS70 w _ g377 qO q5 q6 from by repeat (first | (with_reducible first | exact qA.out | apply IsS70.alloc | apply IsS70.drewN | apply IsS70.drew | apply IsS70.set_1 | apply IsS70.set_2 | refine IsS70.far ?_ qE.out _ | refine IsS70.far ?_ qC.out _ | refine IsS70.far ?_ qF.out _) | exact qA.out)) (lR qR) (by decide)) hk (fun _ h => h.2)) (fun _ h => h.1)); replace qS := aM (Kd.R_mono (Kd.R_keep (IsS70.apart (show IsS70 w _ g377 qO q5 q6 from by repeat (first | (with_reducible first | exact qA.out | apply IsS70.alloc | apply IsS70.drewN | apply IsS70.drew | apply IsS70.set_1 | apply IsS70.set_2 | refine IsS70.far ?_ qE.out _ | refine IsS70.far ?_ qC.out _ | refine IsS70.far ?_ qF.out _) | exact qA.out)) (lR qS) (by decide)) hk (fun _ h => h.2)) (fun _ h => h.1)); replace qT := aM (Kd.R_mono (Kd.R_keep (IsS70.apart (show IsS70 w _ g377 qO q5 q6 from by repeat (first | (with_reducible first | exact qA.out | apply IsS70.alloc | apply IsS70.drewN | apply IsS70.drew | apply IsS70.set_1 | apply IsS70.set_2 | refine IsS70.far ?_ qE.out _ | refine IsS70.far ?_ qC.out _ | refine IsS70.far ?_ qF.out _) | exact qA.out)) (lR qT) (by decide)) hk (fun _ h => h.2)) (fun _ h => h.1)); replace qU := aM (Kd.R_mono (Kd.R_keep (IsS70.apart (show IsS70 w _ g377 qO q5 q6 from by repeat (first | (with_reducible first | exact qA.out | apply IsS70.alloc | apply IsS70.drewN | apply IsS70.drew | apply IsS70.set_1 | apply IsS70.set_2 | refine IsS70.far ?_ qE.out _ | refine IsS70.far ?_ qC.out _ | refine IsS70.far ?_ qF.out _) | exact qA.out)) (lR qU) (by decide)) hk (fun _ h => h.2)) (fun _ h => h.1)); replace qD := aM (KeepBut.blk hk (g' := qM) (lK qD) qu.out (by simp)); replace qK := aM (KeepBut.blk hk (g' := qV) (lK qK) qv.out (by simp)); replace qI := aM (KeepBut.blk hk (g' := qX) (lK qI) qs.out (by simp)); replace HB := aM (hb); replace qA := aM (hi); (try clear hb); (try clear hb2); (try clear hk); (try clear hi); obtain ⟨ASz95_0, cSz95_0, HGz95, hgz95, HSz95_0⟩ := qA.out; have qDy := cellS70_0 HGz95; have qDz := cellS70_1 HGz95; have qD0 := cellS70_2 HGz95; have qD1 := blk_frozen HGz95 1; have qD2 := blk_frozen HGz95 2; clear HGz95 hgz95))
              have n0_ := aM (Kd.R_drew qJ.out)
              have n1_ := aM (Kd.R_drew qP.out)
              have n2_ := aM (Kd.R_drew qQ.out)
              have n3_ := aM (Kd.R_drew qR.out)
              have n4_ := aM (Kd.R_drew qS.out)
              have n5_ := aM (Kd.R_drew qT.out)
              have n6_ := aM (Kd.R_drew qU.out)
              have n7_ := aM (blk_drew qD.out)
              have n8_ := aM (blk_drew qK.out)
              have n9_ := aM (blk_drew qI.out)
              have n10_ := aM (IsS70.drew qA.out)
              have n11_ := aM (below_drew1 HB.out)
              clear qJ
              clear qP
              clear qQ
              clear qR
              clear qS
              clear qT
              clear qU
              clear qD
              clear qK
              clear qI
              clear qA
              clear HB
              have qJ := n0_
              have qP := n1_
              have qQ := n2_
              have qR := n3_
              have qS := n4_
              have qT := n5_
              have qU := n6_
              have qD := n7_
              have qK := n8_
              have qI := n9_
              have qA := n10_
              have HB := n11_
              clear n0_ n1_ n2_ n3_ n4_ n5_ n6_ n7_ n8_ n9_ n10_ n11_
              refine start_ (n := 8) (S := fun w' => w'.cell? ⟨g377, 1, none⟩ = some (.int .i64 jI) ∧ w'.cell? ⟨g377, 2, none⟩ = some (.bool true)) (ds := []) #[false, false, false, false, false, false, false, false] (by kernel_rfl) rfl rfl ⟨(by obtain ⟨_, _, hz_, _⟩ := qA.out; exact (blk_cell hz_ 1).trans rfl), (by obtain ⟨_, _, hz_, _⟩ := qA.out; exact (blk_cell hz_ 2).trans rfl)⟩ (fun hHeld => ?_); refine with_tabW code_Decode.tab23 code_Decode.bits23 (fun HT_ HW_ => ?_)
              generalize w94.drew = w96 at qJ qP qQ qR qS qT qU qD qK qI qA HB hHeld ⊢
              refine pure_ (i := 0) (N := some 96) (v := ?_) (a' := ?_) #[true, false, false, false, false, false, false, false] rfl rfl (any_of HT_.out (by kernel_rfl)) (fun _ _ _ h => h) (Or.inl ⟨by rfl, ?_⟩) ?_ ?_
              rotate_left
              ·intro w'
               go_simp
               with_reducible rfl
              rotate_left
              ·simp only [Act.put, List.setIfInBounds_toArray, List.set_cons_zero, List.set_cons_succ, i64_w, i32_w]
               rfl
              refine pure_ (i := 1) (N := some 97) (v := ?_) (a' := ?_) #[true, true, false, false, false, false, false, false] rfl rfl (any_of HT_.out (by kernel_rfl)) (fun _ _ _ h => h) (Or.inl ⟨by rfl, ?_⟩) ?_ ?_
              rotate_left
              ·intro w'
               go_simp
               with_reducible rfl
              rotate_left
              ·simp only [Act.put, List.setIfInBounds_toArray, List.set_cons_zero, List.set_cons_succ, i64_w, i32_w]
               rfl
              refine pure_ (i := 2) (N := some 98) (v := ?_) (a' := ?_) #[true, true, true, false, false, false, false, false] rfl rfl (any_of HT_.out (by kernel_rfl)) (fun _ _ _ h => h) (Or.inl ⟨by rfl, ?_⟩) ?_ ?_
              rotate_left
              ·intro w'
               go_simp
               with_reducible rfl
              rotate_left
              ·simp only [Act.put, List.setIfInBounds_toArray, List.set_cons_zero, List.set_cons_succ, i64_w, i32_w]
               rfl
              refine pure_ (i := 3) (N := some 99) (v := ?_) (a' := ?_) #[true, true, true, true, false, false, false, false] rfl rfl (any_of HT_.out (by kernel_rfl)) (fun _ _ _ h => h) (Or.inl ⟨by rfl, ?_⟩) ?_ ?_
              rotate_left
              ·intro w'
               go_simp
               with_reducible rfl
              rotate_left
              ·simp only [Act.put, List.setIfInBounds_toArray, List.set_cons_zero, List.set_cons_succ, i64_w, i32_w]
               rfl
              refine take_ (i := 4) (N := some 100) (v := ?_) (a' := ?_) #[true, true, true, true, true, false, false, false] rfl rfl (take_ofW HT_.out HW_.out (by kernel_rfl)) (fun _ _ _ h => h) (Or.inl ⟨by rfl, ?_⟩) hHeld ?_ ?_
              rotate_left
              ·rintro w' ⟨s0, s1⟩
               go_simp
               with_reducible rfl
              rotate_left
              ·simp only [Act.put, List.setIfInBounds_toArray, List.set_cons_zero, List.set_cons_succ, i64_w, i32_w]
               rfl
              refine pure_ (i := 5) (N := some 101) (v := ?_) (a' := ?_) #[true, true, true, true, true, true, false, false] rfl rfl (any_of HT_.out (by kernel_rfl)) (fun _ _ _ h => h) (Or.inl ⟨by rfl, ?_⟩) ?_ ?_
              rotate_left
              ·intro w'
               go_simp
               with_reducible rfl
              rotate_left
              ·simp only [Act.put, List.setIfInBounds_toArray, List.set_cons_zero, List.set_cons_succ, i64_w, i32_w]
               rfl
              refine one_ (i := 6) (N := none) #[true, true, true, true, true, true, true, false] rfl rfl (one_of HT_.out (by kernel_rfl)) (by decide) (fun K hK => ?_)
              have qGV : w96.cell? ⟨qM, 0, none⟩ = some (.int .i64 0) := (blk_cell qD.out 0).trans rfl
              have qFf := blk_frozen qD.out 0
              have qD3 := qB.out
              have qD4 := qN.out
              have qD5 := qL.out
              have qD6 := qH.out
              have qGW : w96.cell? ⟨qM, 1, none⟩ = some (.int .i64 0) := (blk_cell qD.out 1).trans rfl
              have qFg := blk_frozen qD.out 1
              have qD7 := qB.out
              have qD8 := qN.out
              have qD9 := qL.out
              have qEA := qH.out
              have qGX : w96.cell? ⟨qM, 2, none⟩ = some (.slice none 0 0) := (blk_cell qD.out 2).trans rfl
              have qFh := blk_frozen qD.out 2
              have qEB := qB.out
              have qEC := qN.out
              have qED := qL.out
              have qEE := qH.out
              have qFi : w96.cell? ⟨qM, 3, none⟩ = some (.int .i64 q7) := (blk_cell qD.out 3).trans rfl
              have qEF := blk_frozen qD.out 3
              have yt := qB.out
              have yu := qN.out
              have yv := qL.out
              have yw := qH.out
              have qFj : w96.cell? ⟨qM, 4, none⟩ = some (.int .i64 q8) := (blk_cell qD.out 4).trans rfl
              have qEG := blk_frozen qD.out 4
              have yx := qB.out
              have yy := qN.out
              have yz := qL.out
              have qAA := qH.out
              have qFk : w96.cell? ⟨qM, 5, none⟩ = some (.slice none 0 0) := (blk_cell qD.out 5).trans rfl
              have qEH := blk_frozen qD.out 5
              have qAB := qB.out
              have qAC := qN.out
              have qAD := qL.out
              have qAE := qH.out
              have qFl : w96.cell? ⟨qM, 6, none⟩ = some (.slice none 0 0) := (blk_cell qD.out 6).trans rfl
              have qEI := blk_frozen qD.out 6
              have qAF := qB.out
              have qAG := qN.out
              have qAH := qL.out
              have qAI := qH.out
              have qFm : w96.cell? ⟨qM, 7, none⟩ = some (.int .i64 q9) := (blk_cell qD.out 7).trans rfl
              have qEJ := blk_frozen qD.out 7
              have qAJ := qB.out
              have qAK := qN.out
              have qAL := qL.out
              have qAM := qH.out
              have qFn : w96.cell? ⟨qM, 8, none⟩ = some (.int .i64 jA) := (blk_cell qD.out 8).trans rfl
              have qEK := blk_frozen qD.out 8
              have qAN := qB.out
              have qAO := qN.out
              have qAP := qL.out
              have qAQ := qH.out
              have qFo : w96.cell? ⟨qM, 9, none⟩ = some (.slice none 0 0) := (blk_cell qD.out 9).trans rfl
              have qEL := blk_frozen qD.out 9
              have qAR := qB.out
              have qAS := qN.out
              have qAT := qL.out
              have qAU := qH.out
              have qFp : w96.cell? ⟨qM, 10, none⟩ = some (.slice none 0 0) := (blk_cell qD.out 10).trans rfl
              have qEM := blk_frozen qD.out 10
              have qAV := qB.out
              have qAW := qN.out
              have qAX := qL.out
              have qAY := qH.out
              have qFq : w96.cell? ⟨qM, 11, none⟩ = some (.int .i64 jB) := (blk_cell qD.out 11).trans rfl
              have qEN := blk_frozen qD.out 11
              have qAZ := qB.out
              have qAa := qN.out
              have qAb := qL.out
              have qAc := qH.out
              have qFr : w96.cell? ⟨qM, 12, none⟩ = some (.int .i64 jC) := (blk_cell qD.out 12).trans rfl
              have qEO := blk_frozen qD.out 12
              have qAd := qB.out
              have qAe := qN.out
              have qAf := qL.out
              have qAg := qH.out
              have qFs : w96.cell? ⟨qM, 13, none⟩ = some (.slice none 0 0) := (blk_cell qD.out 13).trans rfl
              have qEP := blk_frozen qD.out 13
              have qAh := qB.out
              have qAi := qN.out
              have qAj := qL.out
              have qAk := qH.out
              have qFt : w96.cell? ⟨qM, 14, none⟩ = some (.slice none 0 0) := (blk_cell qD.out 14).trans rfl
              have qEQ := blk_frozen qD.out 14
              have qAl := qB.out
              have qAm := qN.out
              have qAn := qL.out
              have qAo := qH.out
              refine skip_ (w1 := ?_) (by rfl) rfl ?_ ?_
              rotate_left
              ·go_simp
               rfl
              refine hK.out _ _ ⟨((zf15 qE.out).trans (hHeld.1)), ((zf15 qE.out).trans (hHeld.2))⟩ (fun hHeld => ?_)
              clear hK K
              refine one_ (i := 7) (N := none) #[true, true, true, true, true, true, true, true] rfl rfl (one_of HT_.out (by kernel_rfl)) (by decide) (fun K hK => ?_)
              have qFu : w96.cell? ⟨qV, 0, none⟩ = some (.int .i64 0) := (blk_cell qK.out 0).trans rfl
              have qER := blk_frozen qK.out 0
              have qAp := qL.out
              have qAq := q3.out
              have qAr := qB.out
              have qAs := qW.out
              have qFv : w96.cell? ⟨qV, 1, none⟩ = some (.int .i64 0) := (blk_cell qK.out 1).trans rfl
              have qES := blk_frozen qK.out 1
              have qAt := qL.out
              have qAu := q3.out
              have qAv := qB.out
              have qAw := qW.out
              generalize hW_ : World.setCell _ _ _ = W_
              have hc0_ : W_.cell? ⟨qV, 0, none⟩ = some (.int .i64 0) := by
               subst hW_
               go_simp
              have hf0_ : W_.frozen? ⟨qV, 0, none⟩ = false := by
               subst hW_
               go_simp
              have hc1_ : W_.cell? ⟨qV, 1, none⟩ = some (.int .i64 0) := by
               subst hW_
               go_simp
              have hf1_ : W_.frozen? ⟨qV, 1, none⟩ = false := by
               subst hW_
               go_simp
              refine skip_ (w1 := ?_) (by rfl) rfl ?_ ?_
              rotate_left
              ·go_simp
               rfl
              subst hW_
              refine hK.out _ _ ⟨((cell_far (p := ⟨qV, _, none⟩) qC.out _).trans (((cell_far (p := ⟨qV, _, none⟩) qC.out _).trans (hHeld.1)))), ((cell_far (p := ⟨qV, _, none⟩) qC.out _).trans (((cell_far (p := ⟨qV, _, none⟩) qC.out _).trans (hHeld.2))))⟩ (fun hHeld => ?_)
              clear hK K
              refine done_ (done_of HT_.out (by kernel_rfl)) ?_
              try go_wp2
              refine bodyPost_ret (results_cc rfl _ _ qM qV 28 43 #[.int .i64 0, .int .i64 0, .slice none 0 0, .int .i64 0, .int .i64 0, .slice none 0 0, .slice none 0 0, .int .i64 0, .int .i64 0, .slice none 0 0, .slice none 0 0, .int .i64 0, .int .i64 0, .slice none 0 0, .slice none 0 0] #[.int .i64 170, .int .i64 jI] (0, 0) (0, 0) _ _ rfl (by refine lZ ?_; refine blk_far ?_ qL.out _; refine lZ ?_; refine blk_far ?_ qL.out _; refine lZ ?_; apply zp15; refine lZ ?_; exact qD.out) Try.underlying28 rfl (by kernel_rfl) rfl (by refine lZ ?_; refine blk_put (cs := #[.int .i64 170, .int .i64 0]) ?_ 1 _ rfl; refine lZ ?_; refine blk_put (cs := #[.int .i64 0, .int .i64 0]) ?_ 0 _ rfl; refine lZ ?_; refine blk_far ?_ qB.out _; refine lZ ?_; refine blk_far ?_ qB.out _; refine lZ ?_; refine blk_far ?_ qB.out _; refine lZ ?_; refine blk_far ?_ qB.out _; refine lZ ?_; refine blk_far ?_ qB.out _; refine lZ ?_; refine blk_far ?_ qB.out _; refine lZ ?_; refine blk_far ?_ qB.out _; refine lZ ?_; refine blk_far ?_ qB.out _; refine lZ ?_; refine blk_far ?_ qB.out _; refine lZ ?_; refine blk_far ?_ qB.out _; refine lZ ?_; refine blk_far ?_ qB.out _; refine lZ ?_; refine blk_far ?_ qB.out _; refine lZ ?_; refine blk_far ?_ qB.out _; refine lZ ?_; refine blk_far ?_ qB.out _; refine lZ ?_; refine blk_far ?_ qB.out _; refine lZ ?_; exact qK.out) Try.underlying43 rfl (by kernel_rfl)) rfl ?_
              exact ⟨_, _, _, _, _, _, _, by first | rfl | (simp [errW_none, errW_some] <;> rfl) | (simp [*, errW_none, errW_some] <;> rfl), by first | exact Kd.R_nil _ _ _ _ _ | exact Kd.N_nil _ _ _ _ _ | exact Kd.V_nil _ _ _ _ _ | exact Kd.Q_nil _ _ _ _ _ | exact Kd.S_nil _ _ _ _ _, by first | exact Kd.R_nil _ _ _ _ _ | exact Kd.N_nil _ _ _ _ _ | exact Kd.V_nil _ _ _ _ _ | exact Kd.Q_nil _ _ _ _ _ | exact Kd.S_nil _ _ _ _ _, by first | exact Kd.R_nil _ _ _ _ _ | exact Kd.N_nil _ _ _ _ _ | exact Kd.V_nil _ _ _ _ _ | exact Kd.Q_nil _ _ _ _ _ | exact Kd.S_nil _ _ _ _ _, by first | exact Kd.R_nil _ _ _ _ _ | exact Kd.N_nil _ _ _ _ _ | exact Kd.V_nil _ _ _ _ _ | exact Kd.Q_nil _ _ _ _ _ | exact Kd.S_nil _ _ _ _ _, by first | exact Kd.R_nil _ _ _ _ _ | exact Kd.N_nil _ _ _ _ _ | exact Kd.V_nil _ _ _ _ _ | exact Kd.Q_nil _ _ _ _ _ | exact Kd.S_nil _ _ _ _ _, by first | exact Kd.R_nil _ _ _ _ _ | exact Kd.N_nil _ _ _ _ _ | exact Kd.V_nil _ _ _ _ _ | exact Kd.Q_nil _ _ _ _ _ | exact Kd.S_nil _ _ _ _ _, by first | exact Kd.R_nil _ _ _ _ _ | exact Kd.N_nil _ _ _ _ _ | exact Kd.V_nil _ _ _ _ _ | exact Kd.Q_nil _ _ _ _ _ | exact Kd.S_nil _ _ _ _ _, by repeat (first | (with_reducible first | exact HB.out | apply below_alloc | apply pw_below_drewN | apply below_drew1 | refine below_set ?_ (IsS70.ge qA.out) | refine below_set ?_ qZ.out | refine below_set ?_ qd.out | refine below_set ?_ qq.out) | exact HB.out)⟩
             ·replace c90 := Bool.eq_false_iff.mpr c90
              subst c90
              have H1 : (if jI < (l0.length : Int) then (some (0, 0, ([] : List (S48)), 0, 0, ([] : List (S63)), ([] : List Int), 0, 0, ([] : List (S63)), ([] : List Int), 0, 0, ([] : List (S63)), ([] : List Int), 170, jI)) else (some (qr, qt, qe, qf, qa, qw, qx, qg, qb, qy, qz, qh, qc, q0, q1, 0, 0))) = some (r1, r2, r3, r4, r5, r6, r7, r8, r9, r10, r11, r12, r13, r14, r15, r16, r17) := by rw [if_neg (show ¬ (false = true) by decide)] at H; exact H
              clear H
              have H := H1
              clear H1
              by_cases c114 : jI < (l0.length : Int)
              ·rw [if_pos c114] at H
               have c114b0 : decide (jI < (l0.length : Int)) = true := decide_eq_true c114
               clear c114
               simp only [Option.some.injEq, Prod.mk.injEq] at H
               obtain ⟨rfl, rfl, rfl, rfl, rfl, rfl, rfl, rfl, rfl, rfl, rfl, rfl, rfl, rfl, rfl, rfl, rfl⟩ := H
               obtain ⟨ASz115_0, cSz115_0, HGz115, hgz115, HSz115_0⟩ := qA.out
               have qAx := cellS70_0 HGz115
               have qAy := cellS70_1 HGz115
               have qAz := cellS70_2 HGz115
               have qA0 := blk_frozen HGz115 1
               have qA1 := blk_frozen HGz115 2
               clear HGz115 hgz115
               obtain ⟨i0116, hi0116, _, hsz116, _⟩ := info_parts info5
               obtain ⟨hcut116, hA116, hC116⟩ := print_take_of (P := Try.prog) (Value.int .u8) 0 31 5 .i64 Try.underlying31 hi0116 hsz116 A0 c0 l0 qG (of_decide_eq_true (by first | (with_reducible assumption) | assumption)) (of_decide_eq_true (by first | (with_reducible assumption) | assumption)) HC0.out
               have jZ := aM (Kd.C_of_reads (h1 := fun _ => rfl) (hA116 _ (Kd.reads_of_C HR0.out)))
               have ja := aM hC116
               clear hA116 hC116 hi0116 hsz116
               try go_wp2_with (first | ((with_reducible refine gate_callee (f := 29) rfl ?_); refine goesL_ (some 70) rfl rfl Try.func29 (by kernel_rfl) rfl #[.slice A0 (l0.take (qG : Int).toNat).length c0] rfl (by (try simp only [List.map_toArray, List.map_cons, List.map_nil]); first | done | (rw [show (l0.take (qG : Int).toNat).length = qG.toNat from (by rw [List.length_take]; have h_ : (qG : Int) ≤ (l0.length : Int) := of_decide_eq_true (by first | (with_reducible assumption) | assumption); omega)] <;> rfl) | rfl | (simp only [List.length_drop, List.length_take]; rfl)) ?_; (with_reducible refine (code_check.calls k3 _ _ (l0.take (qG : Int).toNat) qp _ ?side1 ?side2 A87.out).mono ?_); (case side1 => refine lY ?_; exact (Kd.C_below jZ.out HB.out)); (case side2 => exact ja.out); rintro e w' ⟨rfl, ⟨nd, rfl⟩⟩; refine ⟨_, rfl, ?_⟩; (try (rw [drewN_self wr]; generalize hq_ : World.drewN wr _ = wr; have n0_ : Aside0 (Kd.R k48 48 wr w.heap.size (fun _ => True) qo qe) := ⟨by rw [← hq_]; exact (lR qJ)⟩; have n1_ : Aside0 (Kd.R k63 63 wr w.heap.size (fun k_ => some k_ ≠ (qm : Value).ownBlock ∧ some k_ ≠ (qn : Value).ownBlock) ql qw) := ⟨by rw [← hq_]; exact (lR qP)⟩; have n2_ : Aside0 (Kd.R (Kd.int .i64) 3 wr w.heap.size (fun k_ => some k_ ≠ (qj : Value).ownBlock ∧ some k_ ≠ (qk : Value).ownBlock) qi qx) := ⟨by rw [← hq_]; exact (lR qQ)⟩; have n3_ : Aside0 (Kd.R k63 63 wr w.heap.size (fun k_ => some k_ ≠ (ql : Value).ownBlock ∧ some k_ ≠ (qn : Value).ownBlock) qm qy) := ⟨by rw [← hq_]; exact (lR qR)⟩; have n4_ : Aside0 (Kd.R (Kd.int .i64) 3 wr w.heap.size (fun k_ => some k_ ≠ (qi : Value).ownBlock ∧ some k_ ≠ (qk : Value).ownBlock) qj qz) := ⟨by rw [← hq_]; exact (lR qS)⟩; have n5_ : Aside0 (Kd.R k63 63 wr w.heap.size (fun k_ => some k_ ≠ (ql : Value).ownBlock ∧ some k_ ≠ (qm : Value).ownBlock) qn q0) := ⟨by rw [← hq_]; exact (lR qT)⟩; have n6_ : Aside0 (Kd.R (Kd.int .i64) 3 wr w.heap.size (fun k_ => some k_ ≠ (qi : Value).ownBlock ∧ some k_ ≠ (qj : Value).ownBlock) qk q1) := ⟨by rw [← hq_]; exact (lR qU)⟩; have n7_ : Aside0 (wr.heap[qM]? = some (.cells #[.int .i64 0, .int .i64 0, .slice none 0 0, .int .i64 q7, .int .i64 q8, .slice none 0 0, .slice none 0 0, .int .i64 q9, .int .i64 jA, .slice none 0 0, .slice none 0 0, .int .i64 jB, .int .i64 jC, .slice none 0 0, .slice none 0 0] 28 (0, 0))) := ⟨by rw [← hq_]; exact (lK qD)⟩; have n8_ : Aside0 (wr.heap[qV]? = some (.cells #[.int .i64 0, .int .i64 0] 43 (0, 0))) := ⟨by rw [← hq_]; exact (lK qK)⟩; have n9_ : Aside0 (wr.heap[qX]? = some (.cells #[.int .i64 qr, .int .i64 qt, qo, .int .i64 qf, .int .i64 qa, ql, qi, .int .i64 qg, .int .i64 qb, qm, qj, .int .i64 qh, .int .i64 qc, qn, qk] 28 (0, 0))) := ⟨by rw [← hq_]; exact (lK qI)⟩; have n10_ : Aside0 (IsS70 w wr g377 qO qG false) := ⟨by rw [← hq_]; exact (by repeat (first | (with_reducible first | exact qA.out | apply IsS70.alloc | apply IsS70.drewN | apply IsS70.drew | apply IsS70.set_1 | apply IsS70.set_2 | refine IsS70.far ?_ qE.out _ | refine IsS70.far ?_ qC.out _ | refine IsS70.far ?_ qF.out _) | exact qA.out))⟩; have n11_ : Aside0 (Below w.heap.size w wr) := ⟨by rw [← hq_]; exact (by have := GEc.mk (IsS70.ge qA.out); have := GEc.mk qZ.out; have := GEc.mk qd.out; have := GEc.mk qq.out; exact lS HB)⟩; clear qJ qP qQ qR qS qT qU qD qK qI qA HB hq_; have qJ := n0_; have qP := n1_; have qQ := n2_; have qR := n3_; have qS := n4_; have qT := n5_; have qU := n6_; have qD := n7_; have qK := n8_; have qI := n9_; have qA := n10_; have HB := n11_; clear n0_ n1_ n2_ n3_ n4_ n5_ n6_ n7_ n8_ n9_ n10_ n11_))) | ((with_reducible refine gate_callee (f := 33) rfl ?_); refine goesL_ (some 76) rfl rfl Try.func33 (by kernel_rfl) rfl #[.pointer (some ⟨g377, 0, none⟩), .int .i64 (qp / 256), .int .i64 (qp / 256)] rfl (by (try simp only [List.map_toArray, List.map_cons, List.map_nil]); first | done | rfl | (simp only [List.length_drop, List.length_take]; rfl)) ?_; (with_reducible refine (code_reader_within.calls g377 qO qG false (qp / 256) (qp / 256) yE q5 q6 w _ ?side1 ?side2 A88.out).mono ?_); (case side1 => repeat (first | (with_reducible first | exact qA.out | apply IsS70.alloc | apply IsS70.drewN | apply IsS70.drew | apply IsS70.set_1 | apply IsS70.set_2 | refine IsS70.far ?_ qE.out _ | refine IsS70.far ?_ qC.out _ | refine IsS70.far ?_ qF.out _) | exact qA.out)); (case side2 => exact (by have := GEc.mk (IsS70.ge qA.out); have := GEc.mk qZ.out; have := GEc.mk qd.out; have := GEc.mk qq.out; exact lS HB)); rintro e w117 ⟨rfl, hi, hb, hk⟩; refine ⟨_, rfl, ?_⟩; replace qJ := aM (Kd.R_mono (Kd.R_keep (IsS70.apart (show IsS70 w _ g377 qO qG false from by repeat (first | (with_reducible first | exact qA.out | apply IsS70.alloc | apply IsS70.drewN | apply IsS70.drew | apply IsS70.set_1 | apply IsS70.set_2 | refine IsS70.far ?_ qE.out _ | refine IsS70.far ?_ qC.out _ | refine IsS70.far ?_ qF.out _) | exact qA.out)) (lR qJ) (by decide)) hk (fun _ h => h.2)) (fun _ h => h.1)); replace qP := aM (Kd.R_mono (Kd.R_keep (IsS70.apart (show IsS70 w _ g377 qO qG false from by repeat (first | (with_reducible first | exact qA.out | apply IsS70.alloc | apply IsS70.drewN | apply IsS70.drew | apply IsS70.set_1 | apply IsS70.set_2 | refine IsS70.far ?_ qE.out _ | refine IsS70.far ?_ qC.out _ | refine IsS70.far ?_ qF.out _) | exact qA.out)) (lR qP) (by decide)) hk (fun _ h => h.2)) (fun _ h => h.1)); replace qQ := aM (Kd.R_mono (Kd.R_keep (IsS70.apart (show IsS70 w _ g377 qO qG false from by repeat (first | (with_reducible first | exact qA.out | apply IsS70.alloc | apply IsS70.drewN | apply IsS70.drew | apply IsS70.set_1 | apply IsS70.set_2 | refine IsS70.far ?_ qE.out _ | refine IsS70.far ?_ qC.out _ | refine IsS70.far ?_ qF.out _) | exact qA.out)) (lR qQ) (by decide)) hk (fun _ h => h.2)) (fun _ h => h.1)); replace qR := aM (Kd.R_mono (Kd.R_keep (IsS70.apart (show IsS70 w _ g377 qO qG false from by repeat (first | (with_reducible first | exact qA.out | apply IsS70.alloc | apply IsS70.drewN | apply IsS70.drew | apply IsS70.set_1 | apply IsS70.set_2 | refine IsS70.far ?_ qE.out _ | refine IsS70.far ?_ qC.out _ | refine IsS70.far ?_ qF.out _) | exact qA.out)) (lR qR) (by decide)) hk (fun _ h => h.2)) (fun _ h => h.1)); replace qS := aM (Kd.R_mono (Kd.R_keep (IsS70.apart (show IsS70 w _ g377 qO qG false from by repeat (first | (with_reducible first | exact qA.out | apply IsS70.alloc | apply IsS70.drewN | apply IsS70.drew | apply IsS70.set_1 | apply IsS70.set_2 | refine IsS70.far ?_ qE.out _ | refine IsS70.far ?_ qC.out _ | refine IsS70.far ?_ qF.out _) | exact qA.out)) (lR qS) (by decide)) hk (fun _ h => h.2)) (fun _ h => h.1)); replace qT := aM (Kd.R_mono (Kd.R_keep (IsS70.apart (show IsS70 w _ g377 qO qG false from by repeat (first | (with_reducible first | exact qA.out | apply IsS70.alloc | apply IsS70.drewN | apply IsS70.drew | apply IsS70.set_1 | apply IsS70.set_2 | refine IsS70.far ?_ qE.out _ | refine IsS70.far ?_ qC.out _ | refine IsS70.far ?_ qF.out _) | exact qA.out)) (lR qT) (by decide)) hk (fun _ h => h.2)) (fun _ h => h.1)); replace qU := aM (Kd.R_mono (Kd.R_keep (IsS70.apart (show IsS70 w _ g377 qO qG false from by repeat (first | (with_reducible first | exact qA.out | apply IsS70.alloc | apply IsS70.drewN | apply IsS70.drew | apply IsS70.set_1 | apply IsS70.set_2 | refine IsS70.far ?_ qE.out _ | refine IsS70.far ?_ qC.out _ | refine IsS70.far ?_ qF.out _) | exact qA.out)) (lR qU) (by decide)) hk (fun _ h => h.2)) (fun _ h => h.1)); replace qD := aM (KeepBut.blk hk (g' := qM) (lK qD) qu.out (by simp)); replace qK := aM (KeepBut.blk hk (g' := qV) (lK qK) qv.out (by simp)); replace qI := aM (KeepBut.blk hk (g' := qX) (lK qI) qs.out (by simp)); replace HB := aM (hb); replace qA := aM (hi); (try clear hb); (try clear hb2); (try clear hk); (try clear hi)) | ((with_reducible refine gate_callee (f := 33) rfl ?_); refine goesL_ (some 82) rfl rfl Try.func33 (by kernel_rfl) rfl #[.pointer (some ⟨g377, 0, none⟩), .int .i64 (Go.bits .and .i64 qp 255), .int .i64 (Go.bits .and .i64 qp 255)] rfl (by (try simp only [List.map_toArray, List.map_cons, List.map_nil]); first | done | rfl | (simp only [List.length_drop, List.length_take]; rfl)) ?_; (with_reducible refine (code_reader_within.calls g377 qO q5 q6 (Go.bits .and .i64 qp 255) (Go.bits .and .i64 qp 255) yF jI false w _ ?side1 ?side2 A89.out).mono ?_); (case side1 => repeat (first | (with_reducible first | exact qA.out | apply IsS70.alloc | apply IsS70.drewN | apply IsS70.drew | apply IsS70.set_1 | apply IsS70.set_2 | refine IsS70.far ?_ qE.out _ | refine IsS70.far ?_ qC.out _ | refine IsS70.far ?_ qF.out _) | exact qA.out)); (case side2 => exact (by have := GEc.mk (IsS70.ge qA.out); have := GEc.mk qZ.out; have := GEc.mk qd.out; have := GEc.mk qq.out; exact lS HB)); rintro e w118 ⟨rfl, hi, hb, hk⟩; refine ⟨_, rfl, ?_⟩; replace qJ := aM (Kd.R_mono (Kd.R_keep (IsS70.apart (show IsS70 w _ g377 qO q5 q6 from by repeat (first | (with_reducible first | exact qA.out | apply IsS70.alloc | apply IsS70.drewN | apply IsS70.drew | apply IsS70.set_1 | apply IsS70.set_2 | refine IsS70.far ?_ qE.out _ | refine IsS70.far ?_ qC.out _ | refine IsS70.far ?_ qF.out _) | exact qA.out)) (lR qJ) (by decide)) hk (fun _ h => h.2)) (fun _ h => h.1)); replace qP := aM (Kd.R_mono (Kd.R_keep (IsS70.apart (show IsS70 w _ g377 qO q5 q6 from by repeat (first | (with_reducible first | exact qA.out | apply IsS70.alloc | apply IsS70.drewN | apply IsS70.drew | apply IsS70.set_1 | apply IsS70.set_2 | refine IsS70.far ?_ qE.out _ | refine IsS70.far ?_ qC.out _ | refine IsS70.far ?_ qF.out _) | exact qA.out)) (lR qP) (by decide)) hk (fun _ h => h.2)) (fun _ h => h.1)); replace qQ := aM (Kd.R_mono (Kd.R_keep (IsS70.apart (show IsS70 w _ g377 qO q5 q6 from by repeat (first | (with_reducible first | exact qA.out | apply IsS70.alloc | apply IsS70.drewN | apply IsS70.drew | apply IsS70.set_1 | apply IsS70.set_2 | refine IsS70.far ?_ qE.out _ | refine IsS70.far ?_ qC.out _ | refine IsS70.far ?_ qF.out _) | exact qA.out)) (lR qQ) (by decide)) hk (fun _ h => h.2)) (fun _ h => h.1)); replace qR := aM (Kd.R_mono (Kd.R_keep (IsS70.apart (show IsS70 w _ g377 qO q5 q6 from by repeat (first | (with_reducible first | exact qA.out | apply IsS70.alloc | apply IsS70.drewN | apply IsS70.drew | apply IsS70.set_1 | apply IsS70.set_2 | refine IsS70.far ?_ qE.out _ | refine IsS70.far ?_ qC.out _ | refine IsS70.far ?_ qF.out _) | exact qA.out)) (lR qR) (by decide)) hk (fun _ h => h.2)) (fun _ h => h.1)); replace qS := aM (Kd.R_mono (Kd.R_keep (IsS70.apart (show IsS70 w _ g377 qO q5 q6 from by repeat (first | (with_reducible first | exact qA.out | apply IsS70.alloc | apply IsS70.drewN | apply IsS70.drew | apply IsS70.set_1 | apply IsS70.set_2 | refine IsS70.far ?_ qE.out _ | refine IsS70.far ?_ qC.out _ | refine IsS70.far ?_ qF.out _) | exact qA.out)) (lR qS) (by decide)) hk (fun _ h => h.2)) (fun _ h => h.1)); replace qT := aM (Kd.R_mono (Kd.R_keep (IsS70.apart (show IsS70 w _ g377 qO q5 q6 from by repeat (first | (with_reducible first | exact qA.out | apply IsS70.alloc | apply IsS70.drewN | apply IsS70.drew | apply IsS70.set_1 | apply IsS70.set_2 | refine IsS70.far ?_ qE.out _ | refine IsS70.far ?_ qC.out _ | refine IsS70.far ?_ qF.out _) | exact qA.out)) (lR qT) (by decide)) hk (fun _ h => h.2)) (fun _ h => h.1)); replace qU := aM (Kd.R_mono (Kd.R_keep (IsS70.apart (show IsS70 w _ g377 qO q5 q6 from by repeat (first | (with_reducible first | exact qA.out | apply IsS70.alloc | apply IsS70.drewN | apply IsS70.drew | apply IsS70.set_1 | apply IsS70.set_2 | refine IsS70.far ?_ qE.out _ | refine IsS70.far ?_ qC.out _ | refine IsS70.far ?_ qF.out _) | exact qA.out)) (lR qU) (by decide)) hk (fun _ h => h.2)) (fun _ h => h.1)); replace qD := aM (KeepBut.blk hk (g' := qM) (lK qD) qu.out (by simp)); replace qK := aM (KeepBut.blk hk (g' := qV) (lK qK) qv.out (by simp)); replace qI := aM (KeepBut.blk hk (g' := qX) (lK qI) qs.out (by simp)); replace HB := aM (hb); replace qA := aM (hi); (try clear hb); (try clear hb2); (try clear hk); (try clear hi); obtain ⟨ASz119_0, cSz119_0, HGz119, hgz119, HSz119_0⟩ := qA.out; have qA2 := cellS70_0 HGz119; have qA3 := cellS70_1 HGz119; have qA4 := cellS70_2 HGz119; have qA5 := blk_frozen HGz119 1; have qA6 := blk_frozen HGz119 2; clear HGz119 hgz119))
               have n0_ := aM (Kd.R_drew qJ.out)
               have n1_ := aM (Kd.R_drew qP.out)
               have n2_ := aM (Kd.R_drew qQ.out)
               have n3_ := aM (Kd.R_drew qR.out)
               have n4_ := aM (Kd.R_drew qS.out)
               have n5_ := aM (Kd.R_drew qT.out)
               have n6_ := aM (Kd.R_drew qU.out)
               have n7_ := aM (blk_drew qD.out)
               have n8_ := aM (blk_drew qK.out)
               have n9_ := aM (blk_drew qI.out)
               have n10_ := aM (IsS70.drew qA.out)
               have n11_ := aM (below_drew1 HB.out)
               clear qJ
               clear qP
               clear qQ
               clear qR
               clear qS
               clear qT
               clear qU
               clear qD
               clear qK
               clear qI
               clear qA
               clear HB
               have qJ := n0_
               have qP := n1_
               have qQ := n2_
               have qR := n3_
               have qS := n4_
               have qT := n5_
               have qU := n6_
               have qD := n7_
               have qK := n8_
               have qI := n9_
               have qA := n10_
               have HB := n11_
               clear n0_ n1_ n2_ n3_ n4_ n5_ n6_ n7_ n8_ n9_ n10_ n11_
               refine start_ (n := 8) (S := fun w' => w'.cell? ⟨g377, 1, none⟩ = some (.int .i64 jI) ∧ w'.cell? ⟨g377, 2, none⟩ = some (.bool false)) (ds := []) #[false, false, false, false, false, false, false, false] (by kernel_rfl) rfl rfl ⟨(by obtain ⟨_, _, hz_, _⟩ := qA.out; exact (blk_cell hz_ 1).trans rfl), (by obtain ⟨_, _, hz_, _⟩ := qA.out; exact (blk_cell hz_ 2).trans rfl)⟩ (fun hHeld => ?_); refine with_tabW code_Decode.tab23 code_Decode.bits23 (fun HT_ HW_ => ?_)
               generalize w118.drew = w120 at qJ qP qQ qR qS qT qU qD qK qI qA HB hHeld ⊢
               refine pure_ (i := 0) (N := some 96) (v := ?_) (a' := ?_) #[true, false, false, false, false, false, false, false] rfl rfl (any_of HT_.out (by kernel_rfl)) (fun _ _ _ h => h) (Or.inl ⟨by rfl, ?_⟩) ?_ ?_
               rotate_left
               ·intro w'
                go_simp
                with_reducible rfl
               rotate_left
               ·simp only [Act.put, List.setIfInBounds_toArray, List.set_cons_zero, List.set_cons_succ, i64_w, i32_w]
                rfl
               refine pure_ (i := 1) (N := some 97) (v := ?_) (a' := ?_) #[true, true, false, false, false, false, false, false] rfl rfl (any_of HT_.out (by kernel_rfl)) (fun _ _ _ h => h) (Or.inl ⟨by rfl, ?_⟩) ?_ ?_
               rotate_left
               ·intro w'
                go_simp
                with_reducible rfl
               rotate_left
               ·simp only [Act.put, List.setIfInBounds_toArray, List.set_cons_zero, List.set_cons_succ, i64_w, i32_w]
                rfl
               refine pure_ (i := 2) (N := some 98) (v := ?_) (a' := ?_) #[true, true, true, false, false, false, false, false] rfl rfl (any_of HT_.out (by kernel_rfl)) (fun _ _ _ h => h) (Or.inl ⟨by rfl, ?_⟩) ?_ ?_
               rotate_left
               ·intro w'
                go_simp
                with_reducible rfl
               rotate_left
               ·simp only [Act.put, List.setIfInBounds_toArray, List.set_cons_zero, List.set_cons_succ, i64_w, i32_w]
                rfl
               refine pure_ (i := 3) (N := some 99) (v := ?_) (a' := ?_) #[true, true, true, true, false, false, false, false] rfl rfl (any_of HT_.out (by kernel_rfl)) (fun _ _ _ h => h) (Or.inl ⟨by rfl, ?_⟩) ?_ ?_
               rotate_left
               ·intro w'
                go_simp
                with_reducible rfl
               rotate_left
               ·simp only [Act.put, List.setIfInBounds_toArray, List.set_cons_zero, List.set_cons_succ, i64_w, i32_w]
                rfl
               refine take_ (i := 4) (N := some 100) (v := ?_) (a' := ?_) #[true, true, true, true, true, false, false, false] rfl rfl (take_ofW HT_.out HW_.out (by kernel_rfl)) (fun _ _ _ h => h) (Or.inl ⟨by rfl, ?_⟩) hHeld ?_ ?_
               rotate_left
               ·rintro w' ⟨s0, s1⟩
                go_simp
                with_reducible rfl
               rotate_left
               ·simp only [Act.put, List.setIfInBounds_toArray, List.set_cons_zero, List.set_cons_succ, i64_w, i32_w]
                rfl
               refine pure_ (i := 5) (N := some 101) (v := ?_) (a' := ?_) #[true, true, true, true, true, true, false, false] rfl rfl (any_of HT_.out (by kernel_rfl)) (fun _ _ _ h => h) (Or.inl ⟨by rfl, ?_⟩) ?_ ?_
               rotate_left
               ·intro w'
                go_simp
                with_reducible rfl
               rotate_left
               ·simp only [Act.put, List.setIfInBounds_toArray, List.set_cons_zero, List.set_cons_succ, i64_w, i32_w]
                rfl
               refine one_ (i := 6) (N := none) #[true, true, true, true, true, true, true, false] rfl rfl (one_of HT_.out (by kernel_rfl)) (by decide) (fun K hK => ?_)
               have qFw : w120.cell? ⟨qM, 0, none⟩ = some (.int .i64 0) := (blk_cell qD.out 0).trans rfl
               have qET := blk_frozen qD.out 0
               have qA7 := qB.out
               have qA8 := qN.out
               have qA9 := qL.out
               have qBA := qH.out
               have qFx : w120.cell? ⟨qM, 1, none⟩ = some (.int .i64 0) := (blk_cell qD.out 1).trans rfl
               have qEU := blk_frozen qD.out 1
               have qBB := qB.out
               have qBC := qN.out
               have qBD := qL.out
               have qBE := qH.out
               have qFy : w120.cell? ⟨qM, 2, none⟩ = some (.slice none 0 0) := (blk_cell qD.out 2).trans rfl
               have qEV := blk_frozen qD.out 2
               have qBF := qB.out
               have qBG := qN.out
               have qBH := qL.out
               have qBI := qH.out
               have qFz : w120.cell? ⟨qM, 3, none⟩ = some (.int .i64 q7) := (blk_cell qD.out 3).trans rfl
               have qEW := blk_frozen qD.out 3
               have qBJ := qB.out
               have qBK := qN.out
               have qBL := qL.out
               have qBM := qH.out
               have qF0 : w120.cell? ⟨qM, 4, none⟩ = some (.int .i64 q8) := (blk_cell qD.out 4).trans rfl
               have qEX := blk_frozen qD.out 4
               have qBN := qB.out
               have qBO := qN.out
               have qBP := qL.out
               have qBQ := qH.out
               have qF1 : w120.cell? ⟨qM, 5, none⟩ = some (.slice none 0 0) := (blk_cell qD.out 5).trans rfl
               have qEY := blk_frozen qD.out 5
               have qBR := qB.out
               have qBS := qN.out
               have qBT := qL.out
               have qBU := qH.out
               have qF2 : w120.cell? ⟨qM, 6, none⟩ = some (.slice none 0 0) := (blk_cell qD.out 6).trans rfl
               have qEZ := blk_frozen qD.out 6
               have qBV := qB.out
               have qBW := qN.out
               have qBX := qL.out
               have qBY := qH.out
               have qF3 : w120.cell? ⟨qM, 7, none⟩ = some (.int .i64 q9) := (blk_cell qD.out 7).trans rfl
               have qEa := blk_frozen qD.out 7
               have qBZ := qB.out
               have qBa := qN.out
               have qBb := qL.out
               have qBc := qH.out
               have qF4 : w120.cell? ⟨qM, 8, none⟩ = some (.int .i64 jA) := (blk_cell qD.out 8).trans rfl
               have qEb := blk_frozen qD.out 8
               have qBd := qB.out
               have qBe := qN.out
               have qBf := qL.out
               have qBg := qH.out
               have qF5 : w120.cell? ⟨qM, 9, none⟩ = some (.slice none 0 0) := (blk_cell qD.out 9).trans rfl
               have qEc := blk_frozen qD.out 9
               have qBh := qB.out
               have qBi := qN.out
               have qBj := qL.out
               have qBk := qH.out
               have qF6 : w120.cell? ⟨qM, 10, none⟩ = some (.slice none 0 0) := (blk_cell qD.out 10).trans rfl
               have qEd := blk_frozen qD.out 10
               have qBl := qB.out
               have qBm := qN.out
               have qBn := qL.out
               have qBo := qH.out
               have qF7 : w120.cell? ⟨qM, 11, none⟩ = some (.int .i64 jB) := (blk_cell qD.out 11).trans rfl
               have qEe := blk_frozen qD.out 11
               have qBp := qB.out
               have qBq := qN.out
               have qBr := qL.out
               have qBs := qH.out
               have qF8 : w120.cell? ⟨qM, 12, none⟩ = some (.int .i64 jC) := (blk_cell qD.out 12).trans rfl
               have qEf := blk_frozen qD.out 12
               have qBt := qB.out
               have qBu := qN.out
               have qBv := qL.out
               have qBw := qH.out
               have qF9 : w120.cell? ⟨qM, 13, none⟩ = some (.slice none 0 0) := (blk_cell qD.out 13).trans rfl
               have qEg := blk_frozen qD.out 13
               have qBx := qB.out
               have qBy := qN.out
               have qBz := qL.out
               have qB0 := qH.out
               have qGA : w120.cell? ⟨qM, 14, none⟩ = some (.slice none 0 0) := (blk_cell qD.out 14).trans rfl
               have qEh := blk_frozen qD.out 14
               have qB1 := qB.out
               have qB2 := qN.out
               have qB3 := qL.out
               have qB4 := qH.out
               refine skip_ (w1 := ?_) (by rfl) rfl ?_ ?_
               rotate_left
               ·go_simp
                rfl
               refine hK.out _ _ ⟨((zf15 qE.out).trans (hHeld.1)), ((zf15 qE.out).trans (hHeld.2))⟩ (fun hHeld => ?_)
               clear hK K
               refine one_ (i := 7) (N := none) #[true, true, true, true, true, true, true, true] rfl rfl (one_of HT_.out (by kernel_rfl)) (by decide) (fun K hK => ?_)
               have qGB : w120.cell? ⟨qV, 0, none⟩ = some (.int .i64 0) := (blk_cell qK.out 0).trans rfl
               have qEi := blk_frozen qK.out 0
               have qB5 := qL.out
               have qB6 := q3.out
               have qB7 := qB.out
               have qB8 := qW.out
               have qGC : w120.cell? ⟨qV, 1, none⟩ = some (.int .i64 0) := (blk_cell qK.out 1).trans rfl
               have qEj := blk_frozen qK.out 1
               have qB9 := qL.out
               have qCA := q3.out
               have qCB := qB.out
               have qCC := qW.out
               generalize hW_ : World.setCell _ _ _ = W_
               have hc0_ : W_.cell? ⟨qV, 0, none⟩ = some (.int .i64 0) := by
                subst hW_
                go_simp
               have hf0_ : W_.frozen? ⟨qV, 0, none⟩ = false := by
                subst hW_
                go_simp
               have hc1_ : W_.cell? ⟨qV, 1, none⟩ = some (.int .i64 0) := by
                subst hW_
                go_simp
               have hf1_ : W_.frozen? ⟨qV, 1, none⟩ = false := by
                subst hW_
                go_simp
               refine skip_ (w1 := ?_) (by rfl) rfl ?_ ?_
               rotate_left
               ·go_simp
                rfl
               subst hW_
               refine hK.out _ _ ⟨((cell_far (p := ⟨qV, _, none⟩) qC.out _).trans (((cell_far (p := ⟨qV, _, none⟩) qC.out _).trans (hHeld.1)))), ((cell_far (p := ⟨qV, _, none⟩) qC.out _).trans (((cell_far (p := ⟨qV, _, none⟩) qC.out _).trans (hHeld.2))))⟩ (fun hHeld => ?_)
               clear hK K
               refine done_ (done_of HT_.out (by kernel_rfl)) ?_
               try go_wp2
               refine bodyPost_ret (results_cc rfl _ _ qM qV 28 43 #[.int .i64 0, .int .i64 0, .slice none 0 0, .int .i64 0, .int .i64 0, .slice none 0 0, .slice none 0 0, .int .i64 0, .int .i64 0, .slice none 0 0, .slice none 0 0, .int .i64 0, .int .i64 0, .slice none 0 0, .slice none 0 0] #[.int .i64 170, .int .i64 jI] (0, 0) (0, 0) _ _ rfl (by refine lZ ?_; refine blk_far ?_ qL.out _; refine lZ ?_; refine blk_far ?_ qL.out _; refine lZ ?_; apply zp15; refine lZ ?_; exact qD.out) Try.underlying28 rfl (by kernel_rfl) rfl (by refine lZ ?_; refine blk_put (cs := #[.int .i64 170, .int .i64 0]) ?_ 1 _ rfl; refine lZ ?_; refine blk_put (cs := #[.int .i64 0, .int .i64 0]) ?_ 0 _ rfl; refine lZ ?_; refine blk_far ?_ qB.out _; refine lZ ?_; refine blk_far ?_ qB.out _; refine lZ ?_; refine blk_far ?_ qB.out _; refine lZ ?_; refine blk_far ?_ qB.out _; refine lZ ?_; refine blk_far ?_ qB.out _; refine lZ ?_; refine blk_far ?_ qB.out _; refine lZ ?_; refine blk_far ?_ qB.out _; refine lZ ?_; refine blk_far ?_ qB.out _; refine lZ ?_; refine blk_far ?_ qB.out _; refine lZ ?_; refine blk_far ?_ qB.out _; refine lZ ?_; refine blk_far ?_ qB.out _; refine lZ ?_; refine blk_far ?_ qB.out _; refine lZ ?_; refine blk_far ?_ qB.out _; refine lZ ?_; refine blk_far ?_ qB.out _; refine lZ ?_; refine blk_far ?_ qB.out _; refine lZ ?_; exact qK.out) Try.underlying43 rfl (by kernel_rfl)) rfl ?_
               exact ⟨_, _, _, _, _, _, _, by first | rfl | (simp [errW_none, errW_some] <;> rfl) | (simp [*, errW_none, errW_some] <;> rfl), by first | exact Kd.R_nil _ _ _ _ _ | exact Kd.N_nil _ _ _ _ _ | exact Kd.V_nil _ _ _ _ _ | exact Kd.Q_nil _ _ _ _ _ | exact Kd.S_nil _ _ _ _ _, by first | exact Kd.R_nil _ _ _ _ _ | exact Kd.N_nil _ _ _ _ _ | exact Kd.V_nil _ _ _ _ _ | exact Kd.Q_nil _ _ _ _ _ | exact Kd.S_nil _ _ _ _ _, by first | exact Kd.R_nil _ _ _ _ _ | exact Kd.N_nil _ _ _ _ _ | exact Kd.V_nil _ _ _ _ _ | exact Kd.Q_nil _ _ _ _ _ | exact Kd.S_nil _ _ _ _ _, by first | exact Kd.R_nil _ _ _ _ _ | exact Kd.N_nil _ _ _ _ _ | exact Kd.V_nil _ _ _ _ _ | exact Kd.Q_nil _ _ _ _ _ | exact Kd.S_nil _ _ _ _ _, by first | exact Kd.R_nil _ _ _ _ _ | exact Kd.N_nil _ _ _ _ _ | exact Kd.V_nil _ _ _ _ _ | exact Kd.Q_nil _ _ _ _ _ | exact Kd.S_nil _ _ _ _ _, by first | exact Kd.R_nil _ _ _ _ _ | exact Kd.N_nil _ _ _ _ _ | exact Kd.V_nil _ _ _ _ _ | exact Kd.Q_nil _ _ _ _ _ | exact Kd.S_nil _ _ _ _ _, by first | exact Kd.R_nil _ _ _ _ _ | exact Kd.N_nil _ _ _ _ _ | exact Kd.V_nil _ _ _ _ _ | exact Kd.Q_nil _ _ _ _ _ | exact Kd.S_nil _ _ _ _ _, by repeat (first | (with_reducible first | exact HB.out | apply below_alloc | apply pw_below_drewN | apply below_drew1 | refine below_set ?_ (IsS70.ge qA.out) | refine below_set ?_ qZ.out | refine below_set ?_ qd.out | refine below_set ?_ qq.out) | exact HB.out)⟩
              ·rw [if_neg c114] at H
               have c114b0 : decide (jI < (l0.length : Int)) = false := decide_eq_false c114
               clear c114
               simp only [Option.some.injEq, Prod.mk.injEq] at H
               obtain ⟨rfl, rfl, rfl, rfl, rfl, rfl, rfl, rfl, rfl, rfl, rfl, rfl, rfl, rfl, rfl, rfl, rfl⟩ := H
               obtain ⟨ASz138_0, cSz138_0, HGz138, hgz138, HSz138_0⟩ := qA.out
               have qCD := cellS70_0 HGz138
               have qCE := cellS70_1 HGz138
               have qCF := cellS70_2 HGz138
               have qCG := blk_frozen HGz138 1
               have qCH := blk_frozen HGz138 2
               clear HGz138 hgz138
               obtain ⟨i0139, hi0139, _, hsz139, _⟩ := info_parts info5
               obtain ⟨hcut139, hA139, hC139⟩ := print_take_of (P := Try.prog) (Value.int .u8) 0 31 5 .i64 Try.underlying31 hi0139 hsz139 A0 c0 l0 qG (of_decide_eq_true (by first | (with_reducible assumption) | assumption)) (of_decide_eq_true (by first | (with_reducible assumption) | assumption)) HC0.out
               have jZ := aM (Kd.C_of_reads (h1 := fun _ => rfl) (hA139 _ (Kd.reads_of_C HR0.out)))
               have ja := aM hC139
               clear hA139 hC139 hi0139 hsz139
               go_wp2_with (first | ((with_reducible refine gate_callee (f := 29) rfl ?_); refine goesL_ (some 70) rfl rfl Try.func29 (by kernel_rfl) rfl #[.slice A0 (l0.take (qG : Int).toNat).length c0] rfl (by (try simp only [List.map_toArray, List.map_cons, List.map_nil]); first | done | (rw [show (l0.take (qG : Int).toNat).length = qG.toNat from (by rw [List.length_take]; have h_ : (qG : Int) ≤ (l0.length : Int) := of_decide_eq_true (by first | (with_reducible assumption) | assumption); omega)] <;> rfl) | rfl | (simp only [List.length_drop, List.length_take]; rfl)) ?_; (with_reducible refine (code_check.calls k3 _ _ (l0.take (qG : Int).toNat) qp _ ?side1 ?side2 A87.out).mono ?_); (case side1 => refine lY ?_; exact (Kd.C_below jZ.out HB.out)); (case side2 => exact ja.out); rintro e w' ⟨rfl, ⟨nd, rfl⟩⟩; refine ⟨_, rfl, ?_⟩; (try (rw [drewN_self wr]; generalize hq_ : World.drewN wr _ = wr; have n0_ : Aside0 (Kd.R k48 48 wr w.heap.size (fun _ => True) qo qe) := ⟨by rw [← hq_]; exact (lR qJ)⟩; have n1_ : Aside0 (Kd.R k63 63 wr w.heap.size (fun k_ => some k_ ≠ (qm : Value).ownBlock ∧ some k_ ≠ (qn : Value).ownBlock) ql qw) := ⟨by rw [← hq_]; exact (lR qP)⟩; have n2_ : Aside0 (Kd.R (Kd.int .i64) 3 wr w.heap.size (fun k_ => some k_ ≠ (qj : Value).ownBlock ∧ some k_ ≠ (qk : Value).ownBlock) qi qx) := ⟨by rw [← hq_]; exact (lR qQ)⟩; have n3_ : Aside0 (Kd.R k63 63 wr w.heap.size (fun k_ => some k_ ≠ (ql : Value).ownBlock ∧ some k_ ≠ (qn : Value).ownBlock) qm qy) := ⟨by rw [← hq_]; exact (lR qR)⟩; have n4_ : Aside0 (Kd.R (Kd.int .i64) 3 wr w.heap.size (fun k_ => some k_ ≠ (qi : Value).ownBlock ∧ some k_ ≠ (qk : Value).ownBlock) qj qz) := ⟨by rw [← hq_]; exact (lR qS)⟩; have n5_ : Aside0 (Kd.R k63 63 wr w.heap.size (fun k_ => some k_ ≠ (ql : Value).ownBlock ∧ some k_ ≠ (qm : Value).ownBlock) qn q0) := ⟨by rw [← hq_]; exact (lR qT)⟩; have n6_ : Aside0 (Kd.R (Kd.int .i64) 3 wr w.heap.size (fun k_ => some k_ ≠ (qi : Value).ownBlock ∧ some k_ ≠ (qj : Value).ownBlock) qk q1) := ⟨by rw [← hq_]; exact (lR qU)⟩; have n7_ : Aside0 (wr.heap[qM]? = some (.cells #[.int .i64 0, .int .i64 0, .slice none 0 0, .int .i64 q7, .int .i64 q8, .slice none 0 0, .slice none 0 0, .int .i64 q9, .int .i64 jA, .slice none 0 0, .slice none 0 0, .int .i64 jB, .int .i64 jC, .slice none 0 0, .slice none 0 0] 28 (0, 0))) := ⟨by rw [← hq_]; exact (lK qD)⟩; have n8_ : Aside0 (wr.heap[qV]? = some (.cells #[.int .i64 0, .int .i64 0] 43 (0, 0))) := ⟨by rw [← hq_]; exact (lK qK)⟩; have n9_ : Aside0 (wr.heap[qX]? = some (.cells #[.int .i64 qr, .int .i64 qt, qo, .int .i64 qf, .int .i64 qa, ql, qi, .int .i64 qg, .int .i64 qb, qm, qj, .int .i64 qh, .int .i64 qc, qn, qk] 28 (0, 0))) := ⟨by rw [← hq_]; exact (lK qI)⟩; have n10_ : Aside0 (IsS70 w wr g377 qO qG false) := ⟨by rw [← hq_]; exact (by repeat (first | (with_reducible first | exact qA.out | apply IsS70.alloc | apply IsS70.drewN | apply IsS70.drew | apply IsS70.set_1 | apply IsS70.set_2 | refine IsS70.far ?_ qE.out _ | refine IsS70.far ?_ qC.out _ | refine IsS70.far ?_ qF.out _) | exact qA.out))⟩; have n11_ : Aside0 (Below w.heap.size w wr) := ⟨by rw [← hq_]; exact (by have := GEc.mk (IsS70.ge qA.out); have := GEc.mk qZ.out; have := GEc.mk qd.out; have := GEc.mk qq.out; exact lS HB)⟩; clear qJ qP qQ qR qS qT qU qD qK qI qA HB hq_; have qJ := n0_; have qP := n1_; have qQ := n2_; have qR := n3_; have qS := n4_; have qT := n5_; have qU := n6_; have qD := n7_; have qK := n8_; have qI := n9_; have qA := n10_; have HB := n11_; clear n0_ n1_ n2_ n3_ n4_ n5_ n6_ n7_ n8_ n9_ n10_ n11_))) | ((with_reducible refine gate_callee (f := 33) rfl ?_); refine goesL_ (some 76) rfl rfl Try.func33 (by kernel_rfl) rfl #[.pointer (some ⟨g377, 0, none⟩), .int .i64 (qp / 256), .int .i64 (qp / 256)] rfl (by (try simp only [List.map_toArray, List.map_cons, List.map_nil]); first | done | rfl | (simp only [List.length_drop, List.length_take]; rfl)) ?_; (with_reducible refine (code_reader_within.calls g377 qO qG false (qp / 256) (qp / 256) yE q5 q6 w _ ?side1 ?side2 A88.out).mono ?_); (case side1 => repeat (first | (with_reducible first | exact qA.out | apply IsS70.alloc | apply IsS70.drewN | apply IsS70.drew | apply IsS70.set_1 | apply IsS70.set_2 | refine IsS70.far ?_ qE.out _ | refine IsS70.far ?_ qC.out _ | refine IsS70.far ?_ qF.out _) | exact qA.out)); (case side2 => exact (by have := GEc.mk (IsS70.ge qA.out); have := GEc.mk qZ.out; have := GEc.mk qd.out; have := GEc.mk qq.out; exact lS HB)); rintro e w140 ⟨rfl, hi, hb, hk⟩; refine ⟨_, rfl, ?_⟩; replace qJ := aM (Kd.R_mono (Kd.R_keep (IsS70.apart (show IsS70 w _ g377 qO qG false from by repeat (first | (with_reducible first | exact qA.out | apply IsS70.alloc | apply IsS70.drewN | apply IsS70.drew | apply IsS70.set_1 | apply IsS70.set_2 | refine IsS70.far ?_ qE.out _ | refine IsS70.far ?_ qC.out _ | refine IsS70.far ?_ qF.out _) | exact qA.out)) (lR qJ) (by decide)) hk (fun _ h => h.2)) (fun _ h => h.1)); replace qP := aM (Kd.R_mono (Kd.R_keep (IsS70.apart (show IsS70 w _ g377 qO qG false from by repeat (first | (with_reducible first | exact qA.out | apply IsS70.alloc | apply IsS70.drewN | apply IsS70.drew | apply IsS70.set_1 | apply IsS70.set_2 | refine IsS70.far ?_ qE.out _ | refine IsS70.far ?_ qC.out _ | refine IsS70.far ?_ qF.out _) | exact qA.out)) (lR qP) (by decide)) hk (fun _ h => h.2)) (fun _ h => h.1)); replace qQ := aM (Kd.R_mono (Kd.R_keep (IsS70.apart (show IsS70 w _ g377 qO qG false from by repeat (first | (with_reducible first | exact qA.out | apply IsS70.alloc | apply IsS70.drewN | apply IsS70.drew | apply IsS70.set_1 | apply IsS70.set_2 | refine IsS70.far ?_ qE.out _ | refine IsS70.far ?_ qC.out _ | refine IsS70.far ?_ qF.out _) | exact qA.out)) (lR qQ) (by decide)) hk (fun _ h => h.2)) (fun _ h => h.1)); replace qR := aM (Kd.R_mono (Kd.R_keep (IsS70.apart (show IsS70 w _ g377 qO qG false from by repeat (first | (with_reducible first | exact qA.out | apply IsS70.alloc | apply IsS70.drewN | apply IsS70.drew | apply IsS70.set_1 | apply IsS70.set_2 | refine IsS70.far ?_ qE.out _ | refine IsS70.far ?_ qC.out _ | refine IsS70.far ?_ qF.out _) | exact qA.out)) (lR qR) (by decide)) hk (fun _ h => h.2)) (fun _ h => h.1)); replace qS := aM (Kd.R_mono (Kd.R_keep (IsS70.apart (show IsS70 w _ g377 qO qG false from by repeat (first | (with_reducible first | exact qA.out | apply IsS70.alloc | apply IsS70.drewN | apply IsS70.drew | apply IsS70.set_1 | apply IsS70.set_2 | refine IsS70.far ?_ qE.out _ | refine IsS70.far ?_ qC.out _ | refine IsS70.far ?_ qF.out _) | exact qA.out)) (lR qS) (by decide)) hk (fun _ h => h.2)) (fun _ h => h.1)); replace qT := aM (Kd.R_mono (Kd.R_keep (IsS70.apart (show IsS70 w _ g377 qO qG false from by repeat (first | (with_reducible first | exact qA.out | apply IsS70.alloc | apply IsS70.drewN | apply IsS70.drew | apply IsS70.set_1 | apply IsS70.set_2 | refine IsS70.far ?_ qE.out _ | refine IsS70.far ?_ qC.out _ | refine IsS70.far ?_ qF.out _) | exact qA.out)) (lR qT) (by decide)) hk (fun _ h => h.2)) (fun _ h => h.1)); replace qU := aM (Kd.R_mono (Kd.R_keep (IsS70.apart (show IsS70 w _ g377 qO qG false from by repeat (first | (with_reducible first | exact qA.out | apply IsS70.alloc | apply IsS70.drewN | apply IsS70.drew | apply IsS70.set_1 | apply IsS70.set_2 | refine IsS70.far ?_ qE.out _ | refine IsS70.far ?_ qC.out _ | refine IsS70.far ?_ qF.out _) | exact qA.out)) (lR qU) (by decide)) hk (fun _ h => h.2)) (fun _ h => h.1)); replace qD := aM (KeepBut.blk hk (g' := qM) (lK qD) qu.out (by simp)); replace qK := aM (KeepBut.blk hk (g' := qV) (lK qK) qv.out (by simp)); replace qI := aM (KeepBut.blk hk (g' := qX) (lK qI) qs.out (by simp)); replace HB := aM (hb); replace qA := aM (hi); (try clear hb); (try clear hb2); (try clear hk); (try clear hi)) | ((with_reducible refine gate_callee (f := 33) rfl ?_); refine goesL_ (some 82) rfl rfl Try.func33 (by kernel_rfl) rfl #[.pointer (some ⟨g377, 0, none⟩), .int .i64 (Go.bits .and .i64 qp 255), .int .i64 (Go.bits .and .i64 qp 255)] rfl (by (try simp only [List.map_toArray, List.map_cons, List.map_nil]); first | done | rfl | (simp only [List.length_drop, List.length_take]; rfl)) ?_; (with_reducible refine (code_reader_within.calls g377 qO q5 q6 (Go.bits .and .i64 qp 255) (Go.bits .and .i64 qp 255) yF jI false w _ ?side1 ?side2 A89.out).mono ?_); (case side1 => repeat (first | (with_reducible first | exact qA.out | apply IsS70.alloc | apply IsS70.drewN | apply IsS70.drew | apply IsS70.set_1 | apply IsS70.set_2 | refine IsS70.far ?_ qE.out _ | refine IsS70.far ?_ qC.out _ | refine IsS70.far ?_ qF.out _) | exact qA.out)); (case side2 => exact (by have := GEc.mk (IsS70.ge qA.out); have := GEc.mk qZ.out; have := GEc.mk qd.out; have := GEc.mk qq.out; exact lS HB)); rintro e w141 ⟨rfl, hi, hb, hk⟩; refine ⟨_, rfl, ?_⟩; replace qJ := aM (Kd.R_mono (Kd.R_keep (IsS70.apart (show IsS70 w _ g377 qO q5 q6 from by repeat (first | (with_reducible first | exact qA.out | apply IsS70.alloc | apply IsS70.drewN | apply IsS70.drew | apply IsS70.set_1 | apply IsS70.set_2 | refine IsS70.far ?_ qE.out _ | refine IsS70.far ?_ qC.out _ | refine IsS70.far ?_ qF.out _) | exact qA.out)) (lR qJ) (by decide)) hk (fun _ h => h.2)) (fun _ h => h.1)); replace qP := aM (Kd.R_mono (Kd.R_keep (IsS70.apart (show IsS70 w _ g377 qO q5 q6 from by repeat (first | (with_reducible first | exact qA.out | apply IsS70.alloc | apply IsS70.drewN | apply IsS70.drew | apply IsS70.set_1 | apply IsS70.set_2 | refine IsS70.far ?_ qE.out _ | refine IsS70.far ?_ qC.out _ | refine IsS70.far ?_ qF.out _) | exact qA.out)) (lR qP) (by decide)) hk (fun _ h => h.2)) (fun _ h => h.1)); replace qQ := aM (Kd.R_mono (Kd.R_keep (IsS70.apart (show IsS70 w _ g377 qO q5 q6 from by repeat (first | (with_reducible first | exact qA.out | apply IsS70.alloc | apply IsS70.drewN | apply IsS70.drew | apply IsS70.set_1 | apply IsS70.set_2 | refine IsS70.far ?_ qE.out _ | refine IsS70.far ?_ qC.out _ | refine IsS70.far ?_ qF.out _) | exact qA.out)) (lR qQ) (by decide)) hk (fun _ h => h.2)) (fun _ h => h.1)); replace qR := aM (Kd.R_mono (Kd.R_keep (IsS70.apart (show IsS70 w _ g377 qO q5 q6 from by repeat (first | (with_reducible first | exact qA.out | apply IsS70.alloc | apply IsS70.drewN | apply IsS70.drew | apply IsS70.set_1 | apply IsS70.set_2 | refine IsS70.far ?_ qE.out _ | refine IsS70.far ?_ qC.out _ | refine IsS70.far ?_ qF.out _) | exact qA.out)) (lR qR) (by decide)) hk (fun _ h => h.2)) (fun _ h => h.1)); replace qS := aM (Kd.R_mono (Kd.R_keep (IsS70.apart (show IsS70 w _ g377 qO q5 q6 from by repeat (first | (with_reducible first | exact qA.out | apply IsS70.alloc | apply IsS70.drewN | apply IsS70.drew | apply IsS70.set_1 | apply IsS70.set_2 | refine IsS70.far ?_ qE.out _ | refine IsS70.far ?_ qC.out _ | refine IsS70.far ?_ qF.out _) | exact qA.out)) (lR qS) (by decide)) hk (fun _ h => h.2)) (fun _ h => h.1)); replace qT := aM (Kd.R_mono (Kd.R_keep (IsS70.apart (show IsS70 w _ g377 qO q5 q6 from by repeat (first | (with_reducible first | exact qA.out | apply IsS70.alloc | apply IsS70.drewN | apply IsS70.drew | apply IsS70.set_1 | apply IsS70.set_2 | refine IsS70.far ?_ qE.out _ | refine IsS70.far ?_ qC.out _ | refine IsS70.far ?_ qF.out _) | exact qA.out)) (lR qT) (by decide)) hk (fun _ h => h.2)) (fun _ h => h.1)); replace qU := aM (Kd.R_mono (Kd.R_keep (IsS70.apart (show IsS70 w _ g377 qO q5 q6 from by repeat (first | (with_reducible first | exact qA.out | apply IsS70.alloc | apply IsS70.drewN | apply IsS70.drew | apply IsS70.set_1 | apply IsS70.set_2 | refine IsS70.far ?_ qE.out _ | refine IsS70.far ?_ qC.out _ | refine IsS70.far ?_ qF.out _) | exact qA.out)) (lR qU) (by decide)) hk (fun _ h => h.2)) (fun _ h => h.1)); replace qD := aM (KeepBut.blk hk (g' := qM) (lK qD) qu.out (by simp)); replace qK := aM (KeepBut.blk hk (g' := qV) (lK qK) qv.out (by simp)); replace qI := aM (KeepBut.blk hk (g' := qX) (lK qI) qs.out (by simp)); replace HB := aM (hb); replace qA := aM (hi); (try clear hb); (try clear hb2); (try clear hk); (try clear hi); obtain ⟨ASz142_0, cSz142_0, HGz142, hgz142, HSz142_0⟩ := qA.out; have qCI := cellS70_0 HGz142; have qCJ := cellS70_1 HGz142; have qCK := cellS70_2 HGz142; have qCL := blk_frozen HGz142 1; have qCM := blk_frozen HGz142 2; clear HGz142 hgz142; have qEk := qN.out; have qEl := qH.out; have qEm := q3.out; have qEn := qW.out; have qEo := qs.out; have qEp := qF.out; have qCN := zc15 qI.out; have qCO := fun i_ : Nat => blk_frozen qI.out i_; have qEq := qL.out; have qEr := qB.out; have qEs := qu.out; have qEt := qE.out; have qCP := zc15 qD.out; have qCQ := fun i_ : Nat => blk_frozen qD.out i_; obtain ⟨yW, yX, eo150⟩ := Kd.R_slice qJ.out; subst eo150; obtain ⟨yY, yZ, eo151⟩ := Kd.R_slice qP.out; subst eo151; obtain ⟨ya, yb, eo152⟩ := Kd.R_slice qQ.out; subst eo152; obtain ⟨yc, yd, eo153⟩ := Kd.R_slice qR.out; subst eo153; obtain ⟨ye, yf, eo154⟩ := Kd.R_slice qS.out; subst eo154; obtain ⟨yg, yh, eo155⟩ := Kd.R_slice qT.out; subst eo155; obtain ⟨yi, yj, eo156⟩ := Kd.R_slice qU.out; subst eo156; have qEu := qv.out; have qEv := qC.out; have qCR := zc2 qK.out; have qCS := fun i_ : Nat => blk_frozen qK.out i_))
               refine bodyPost_ret (results_cc rfl _ _ qM qV 28 43 #[.int .i64 qr, .int .i64 qt, .slice yW qe.length yX, .int .i64 qf, .int .i64 qa, .slice yY qw.length yZ, .slice ya qx.length yb, .int .i64 qg, .int .i64 qb, .slice yc qy.length yd, .slice ye qz.length yf, .int .i64 qh, .int .i64 qc, .slice yg q0.length yh, .slice yi q1.length yj] #[.int .i64 0, .int .i64 0] (0, 0) (0, 0) _ _ rfl (by refine lZ ?_; refine blk_far ?_ qL.out _; refine lZ ?_; refine blk_far ?_ qL.out _; refine lZ ?_; apply zp15; refine lZ ?_; exact qD.out) Try.underlying28 rfl (by kernel_rfl) rfl (by refine lZ ?_; refine blk_put (cs := #[.int .i64 0, .int .i64 0]) ?_ 1 _ rfl; refine lZ ?_; refine blk_put (cs := #[.int .i64 0, .int .i64 0]) ?_ 0 _ rfl; refine lZ ?_; refine blk_far ?_ qB.out _; refine lZ ?_; refine blk_far ?_ qB.out _; refine lZ ?_; refine blk_far ?_ qB.out _; refine lZ ?_; refine blk_far ?_ qB.out _; refine lZ ?_; refine blk_far ?_ qB.out _; refine lZ ?_; refine blk_far ?_ qB.out _; refine lZ ?_; refine blk_far ?_ qB.out _; refine lZ ?_; refine blk_far ?_ qB.out _; refine lZ ?_; refine blk_far ?_ qB.out _; refine lZ ?_; refine blk_far ?_ qB.out _; refine lZ ?_; refine blk_far ?_ qB.out _; refine lZ ?_; refine blk_far ?_ qB.out _; refine lZ ?_; refine blk_far ?_ qB.out _; refine lZ ?_; refine blk_far ?_ qB.out _; refine lZ ?_; refine blk_far ?_ qB.out _; refine lZ ?_; exact qK.out) Try.underlying43 rfl (by kernel_rfl)) rfl ?_
               exact ⟨_, _, _, _, _, _, _, by first | rfl | (simp [errW_none, errW_some] <;> rfl) | (simp [*, errW_none, errW_some] <;> rfl), by (with_reducible repeat (first | apply Kd.R_alloc | apply Kd.R_drewN | apply Kd.R_drew)); exact Kd.R_mono (fA (fA (zS15 (Kd.R_types (Kd.R_types qJ.out qD.out (by decide)) qK.out (by decide))))) (fun _ hk => trivial), by (with_reducible repeat (first | apply Kd.R_alloc | apply Kd.R_drewN | apply Kd.R_drew)); exact Kd.R_mono (fA (fA (zS15 (Kd.R_types (Kd.R_types qP.out qD.out (by decide)) qK.out (by decide))))) (fun _ hk => ⟨hk.1.1.1, hk.1.1.2⟩), by (with_reducible repeat (first | apply Kd.R_alloc | apply Kd.R_drewN | apply Kd.R_drew)); exact Kd.R_mono (fA (fA (zS15 (Kd.R_types (Kd.R_types qQ.out qD.out (by decide)) qK.out (by decide))))) (fun _ hk => ⟨hk.1.1.1, hk.1.1.2⟩), by (with_reducible repeat (first | apply Kd.R_alloc | apply Kd.R_drewN | apply Kd.R_drew)); exact Kd.R_mono (fA (fA (zS15 (Kd.R_types (Kd.R_types qR.out qD.out (by decide)) qK.out (by decide))))) (fun _ hk => ⟨hk.1.1.1, hk.1.1.2⟩), by (with_reducible repeat (first | apply Kd.R_alloc | apply Kd.R_drewN | apply Kd.R_drew)); exact Kd.R_mono (fA (fA (zS15 (Kd.R_types (Kd.R_types qS.out qD.out (by decide)) qK.out (by decide))))) (fun _ hk => ⟨hk.1.1.1, hk.1.1.2⟩), by (with_reducible repeat (first | apply Kd.R_alloc | apply Kd.R_drewN | apply Kd.R_drew)); exact Kd.R_mono (fA (fA (zS15 (Kd.R_types (Kd.R_types qT.out qD.out (by decide)) qK.out (by decide))))) (fun _ hk => ⟨hk.1.1.1, hk.1.1.2⟩), by (with_reducible repeat (first | apply Kd.R_alloc | apply Kd.R_drewN | apply Kd.R_drew)); exact Kd.R_mono (fA (fA (zS15 (Kd.R_types (Kd.R_types qU.out qD.out (by decide)) qK.out (by decide))))) (fun _ hk => ⟨hk.1.1.1, hk.1.1.2⟩), by repeat (first | (with_reducible first | exact HB.out | apply below_alloc | apply pw_below_drewN | apply below_drew1 | refine below_set ?_ (IsS70.ge qA.out) | refine below_set ?_ qZ.out | refine below_set ?_ qd.out | refine below_set ?_ qq.out) | exact HB.out)⟩
            ·rw [if_neg c86] at H
             exact absurd H (by simp)
           ·rw [if_neg c85] at H
            exact absurd H (by simp)

end Go.Proofs.Ytccbdcbeinkjgaa.XA
end

section
namespace Go.Proofs.Ytccbdcbeinkjgaa.XA
open Go.Proofs.Ytccbdcbeinkjgaa.Lift Go.RowKit Go.Proofs.YtccbdcbeinkjgaaW.PrintWords Go.Proofs.YtccbdcbeinkjgaaW.PrintLast Go.Proofs.YtccbdcbeinkjgaaW.PrintMore
attribute [local go_sem] max2_int min2_int max_two min_two max_three min_three max_four min_four
set_option linter.unusedVariables false
set_option linter.unusedSimpArgs false

/-! ### swagelaw17_same: function 18 -/
def swagelaw17_same.f (k : Nat) (qV : Int) (qW : Int) (qH : List (S48)) (qX : Int) (qY : Int) (qI : List (S63)) (qJ : List Int) (qZ : Int) (qa : Int) (qK : List (S63)) (qB : List Int) (qP : Int) (qQ : Int) (qC : List (S63)) (qD : List Int) (qb : Int) (qc : Int) (qL : List (S48)) (qd : Int) (qe : Int) (qM : List (S63)) (qN : List Int) (qf : Int) (qg : Int) (qO : List (S63)) (qE : List Int) (qR : Int) (qS : Int) (qF : List (S63)) (qG : List Int) : Option (Bool) := (swageref17_Same.f k qV qW qH qX qY qI qJ qZ qa qK qB qP qQ qC qD qb qc qL qd qe qM qN qf qg qO qE qR qS qF qG).bind fun qj => (some qj)
theorem swagelaw17_same.mono : ∀ a0 a1 a2 a3 a4 a5 a6 a7 a8 a9 a10 a11 a12 a13 a14 a15 a16 a17 a18 a19 a20 a21 a22 a23 a24 a25 a26 a27 a28 a29 k, LeO (swagelaw17_same.f k a0 a1 a2 a3 a4 a5 a6 a7 a8 a9 a10 a11 a12 a13 a14 a15 a16 a17 a18 a19 a20 a21 a22 a23 a24 a25 a26 a27 a28 a29) (swagelaw17_same.f (k + 1) a0 a1 a2 a3 a4 a5 a6 a7 a8 a9 a10 a11 a12 a13 a14 a15 a16 a17 a18 a19 a20 a21 a22 a23 a24 a25 a26 a27 a28 a29) := by
 intro a0 a1 a2 a3 a4 a5 a6 a7 a8 a9 a10 a11 a12 a13 a14 a15 a16 a17 a18 a19 a20 a21 a22 a23 a24 a25 a26 a27 a28 a29 k
 unfold swagelaw17_same.f
 repeat' first
   | (with_reducible exact swageref17_Same.mono _ _ _ _ _ _ _ _ _ _ _ _ _ _ _ _ _ _ _ _ _ _ _ _ _ _ _ _ _ _ _)
   | (with_reducible exact LeO.refl _)
   | (with_reducible exact LeO.none _)
   | (with_reducible refine LeO.ite ?_ ?_)
   | (with_reducible refine LeO.bind ?_ (fun _ => ?_))
   | exact swageref17_Same.mono _ _ _ _ _ _ _ _ _ _ _ _ _ _ _ _ _ _ _ _ _ _ _ _ _ _ _ _ _ _ _
   | exact LeO.none _
   | refine LeO.ite ?_ ?_
   | refine LeO.bind ?_ (fun _ => ?_)
set_option maxHeartbeats 8000000 in
set_option maxRecDepth 100000 in
theorem swagelaw17_same.calls (k : Nat) (qV : Int) (qW : Int) (qx : Option Addr) (qy : Nat) (qH : List (S48)) (qX : Int) (qY : Int) (qz : Option Addr) (q0 : Nat) (qI : List (S63)) (q1 : Option Addr) (q2 : Nat) (qJ : List Int) (qZ : Int) (qa : Int) (q3 : Option Addr) (q4 : Nat) (qK : List (S63)) (qk : Option Addr) (ql : Nat) (qB : List Int) (qP : Int) (qQ : Int) (qm : Option Addr) (qn : Nat) (qC : List (S63)) (qo : Option Addr) (qp : Nat) (qD : List Int) (qb : Int) (qc : Int) (q5 : Option Addr) (q6 : Nat) (qL : List (S48)) (qd : Int) (qe : Int) (q7 : Option Addr) (q8 : Nat) (qM : List (S63)) (q9 : Option Addr) (jA : Nat) (qN : List Int) (qf : Int) (qg : Int) (jB : Option Addr) (jC : Nat) (qO : List (S63)) (qq : Option Addr) (qr : Nat) (qE : List Int) (qR : Int) (qS : Int) (qs : Option Addr) (qt : Nat) (qF : List (S63)) (qu : Option Addr) (qv : Nat) (qG : List Int) (r : Bool) (w : World) (jR : Kd.C k48 w qx qH.length qH) (jS : qH.length ≤ qy) (jT : Kd.C k63 w qz qI.length qI) (jU : qI.length ≤ q0) (jV : Kd.C (Kd.int .i64) w q1 qJ.length qJ) (jW : qJ.length ≤ q2) (jX : Kd.C k63 w q3 qK.length qK) (jY : qK.length ≤ q4) (jD : Kd.C (Kd.int .i64) w qk qB.length qB) (jE : qB.length ≤ ql) (jF : Kd.C k63 w qm qC.length qC) (jG : qC.length ≤ qn) (jH : Kd.C (Kd.int .i64) w qo qD.length qD) (jI : qD.length ≤ qp) (jZ : Kd.C k48 w q5 qL.length qL) (ja : qL.length ≤ q6) (jb : Kd.C k63 w q7 qM.length qM) (jc : qM.length ≤ q8) (jd : Kd.C (Kd.int .i64) w q9 qN.length qN) (je : qN.length ≤ jA) (jf : Kd.C k63 w jB qO.length qO) (jg : qO.length ≤ jC) (jJ : Kd.C (Kd.int .i64) w qq qE.length qE) (jK : qE.length ≤ qr) (jL : Kd.C k63 w qs qF.length qF) (jM : qF.length ≤ qt) (jN : Kd.C (Kd.int .i64) w qu qG.length qG) (jO : qG.length ≤ qv) (h : swagelaw17_same.f k qV qW qH qX qY qI qJ qZ qa qK qB qP qQ qC qD qb qc qL qd qe qM qN qf qg qO qE qR qS qF qG = some r) :
  Calls Try.prog 18 #[.agg #[.int .i64 qV, .int .i64 qW, .slice qx qH.length qy, .int .i64 qX, .int .i64 qY, .slice qz qI.length q0, .slice q1 qJ.length q2, .int .i64 qZ, .int .i64 qa, .slice q3 qK.length q4, .slice qk qB.length ql, .int .i64 qP, .int .i64 qQ, .slice qm qC.length qn, .slice qo qD.length qp], .agg #[.int .i64 qb, .int .i64 qc, .slice q5 qL.length q6, .int .i64 qd, .int .i64 qe, .slice q7 qM.length q8, .slice q9 qN.length jA, .int .i64 qf, .int .i64 qg, .slice jB qO.length jC, .slice qq qE.length qr, .int .i64 qR, .int .i64 qS, .slice qs qF.length qt, .slice qu qG.length qv]] w fun e w' => e = .returned (.bool r) ∧ Below w.heap.size w w' := by
 have hu28 := Try.underlying28
 have ju := aM jR
 have jv := aM jS
 clear jR jS
 have jw := aM jT
 have jx := aM jU
 clear jT jU
 have jy := aM jV
 have jz := aM jW
 clear jV jW
 have j0 := aM jX
 have j1 := aM jY
 clear jX jY
 have ji := aM jD
 have jj := aM jE
 clear jD jE
 have jk := aM jF
 have jl := aM jG
 clear jF jG
 have jm := aM jH
 have jn := aM jI
 clear jH jI
 have j2 := aM jZ
 have j3 := aM ja
 clear jZ ja
 have j4 := aM jb
 have j5 := aM jc
 clear jb jc
 have j6 := aM jd
 have j7 := aM je
 clear jd je
 have j8 := aM jf
 have j9 := aM jg
 clear jf jg
 have jo := aM jJ
 have jp := aM jK
 clear jJ jK
 have jq := aM jL
 have jr := aM jM
 clear jL jM
 have js := aM jN
 have jt := aM jO
 clear jN jO
 have HB := aM (Below.refl w.heap.size w)
 have H : ((swageref17_Same.f k qV qW qH qX qY qI qJ qZ qa qK qB qP qQ qC qD qb qc qL qd qe qM qN qf qg qO qE qR qS qF qG).bind fun qj => (some qj)) = some r := h
 clear h
 replace H := Option.bind_eq_some_iff.mp H
 obtain ⟨qj, A30, H⟩ := H
 replace H : (some qj) = some r := H
 have A3 := aM A30
 clear A30
 obtain rfl := Option.some.inj H
 go_enter Try.func18, Try.ntmps18
 go_wp2_with (first | ((with_reducible refine gate_dst (N := 2) rfl ?_); refine box_event ?hg (N := 2) ?hd (cs := #[.int .i64 qV, .int .i64 qW, .slice qx qH.length qy, .int .i64 qX, .int .i64 qY, .slice qz qI.length q0, .slice q1 qJ.length q2, .int .i64 qZ, .int .i64 qa, .slice q3 qK.length q4, .slice qk qB.length ql, .int .i64 qP, .int .i64 qQ, .slice qm qC.length qn, .slice qo qD.length qp]) (t := 28) ?hr ?_; (case hd => rfl); (case hg => rfl); (case hr => first | (go_simp; done) | (go_simp; rfl)); intro qT hg w4 hbox hb; have qU := aM (hbox); have yE := aM ((by rw [hg]; exact (below_size (lB HB)) : w.heap.size ≤ qT)); have qh := aM ((by rw [hg]; exact (below_size (lB HB)) : w.heap.size ≤ qT)); replace HB := aM (below_step (lB HB) hb); clear hb hbox hg) | ((with_reducible refine gate_dst (N := 3) rfl ?_); refine box_event ?hg (N := 3) ?hd (cs := #[.int .i64 qb, .int .i64 qc, .slice q5 qL.length q6, .int .i64 qd, .int .i64 qe, .slice q7 qM.length q8, .slice q9 qN.length jA, .int .i64 qf, .int .i64 qg, .slice jB qO.length jC, .slice qq qE.length qr, .int .i64 qR, .int .i64 qS, .slice qs qF.length qt, .slice qu qG.length qv]) (t := 28) ?hr ?_; (case hd => rfl); (case hg => rfl); (case hr => first | (go_simp; done) | (go_simp; rfl)); intro qi hg w5 hbox hb; have qw := aM (hbox); have yF := aM ((by rw [hg]; exact (below_size (by have := GEc.mk qh.out; exact lS HB)) : w.heap.size ≤ qi)); have jh := aM ((by rw [hg]; exact (below_size (by have := GEc.mk qh.out; exact lS HB)) : w.heap.size ≤ qi)); replace HB := aM (below_step (by have := GEc.mk qh.out; exact lS HB) hb); have jP := aM ((by rw [hg]; exact Nat.ne_of_lt (blk_lt (g := qT) (lK qU)) : qT ≠ qi)); have jQ := aM ((by rw [hg]; exact Nat.ne_of_gt (blk_lt (g := qT) (lK qU)) : qi ≠ qT)); replace qU := aM (blk_below (g := qT) (lK qU) hb); clear hb hbox hg; have yG := jP.out; have yH := jQ.out; have yA := zc15 qU.out; have yB := fun i_ : Nat => blk_frozen qU.out i_; have yC := zc15 qw.out; have yD := fun i_ : Nat => blk_frozen qw.out i_) | ((with_reducible refine gate_callee (f := 25) rfl ?_); refine goesL_ (some 7) rfl rfl Try.func25 (by kernel_rfl) rfl #[.agg #[.int .i64 qV, .int .i64 qW, .slice qx qH.length qy, .int .i64 qX, .int .i64 qY, .slice qz qI.length q0, .slice q1 qJ.length q2, .int .i64 qZ, .int .i64 qa, .slice q3 qK.length q4, .slice qk qB.length ql, .int .i64 qP, .int .i64 qQ, .slice qm qC.length qn, .slice qo qD.length qp], .agg #[.int .i64 qb, .int .i64 qc, .slice q5 qL.length q6, .int .i64 qd, .int .i64 qe, .slice q7 qM.length q8, .slice q9 qN.length jA, .int .i64 qf, .int .i64 qg, .slice jB qO.length jC, .slice qq qE.length qr, .int .i64 qR, .int .i64 qS, .slice qs qF.length qt, .slice qu qG.length qv]] rfl (by (try simp only [List.map_toArray, List.map_cons, List.map_nil]); first | done | rfl | (simp only [List.length_drop, List.length_take]; rfl)) ?_; (with_reducible refine (swageref17_Same.calls k qV qW _ _ qH qX qY _ _ qI _ _ qJ qZ qa _ _ qK _ _ qB qP qQ _ _ qC _ _ qD qb qc _ _ qL qd qe _ _ qM _ _ qN qf qg _ _ qO _ _ qE qR qS _ _ qF _ _ qG qj _ ?side1 ?side2 ?side3 ?side4 ?side5 ?side6 ?side7 ?side8 ?side9 ?side10 ?side11 ?side12 ?side13 ?side14 ?side15 ?side16 ?side17 ?side18 ?side19 ?side20 ?side21 ?side22 ?side23 ?side24 ?side25 ?side26 ?side27 ?side28 A3.out).mono ?_); (case side1 => refine lY ?_; exact (Kd.C_below ju.out HB.out)); (case side2 => exact jv.out); (case side3 => refine lY ?_; exact (Kd.C_below jw.out HB.out)); (case side4 => exact jx.out); (case side5 => refine lY ?_; exact (Kd.C_below jy.out HB.out)); (case side6 => exact jz.out); (case side7 => refine lY ?_; exact (Kd.C_below j0.out HB.out)); (case side8 => exact j1.out); (case side9 => refine lY ?_; exact (Kd.C_below ji.out HB.out)); (case side10 => exact jj.out); (case side11 => refine lY ?_; exact (Kd.C_below jk.out HB.out)); (case side12 => exact jl.out); (case side13 => refine lY ?_; exact (Kd.C_below jm.out HB.out)); (case side14 => exact jn.out); (case side15 => refine lY ?_; exact (Kd.C_below j2.out HB.out)); (case side16 => exact j3.out); (case side17 => refine lY ?_; exact (Kd.C_below j4.out HB.out)); (case side18 => exact j5.out); (case side19 => refine lY ?_; exact (Kd.C_below j6.out HB.out)); (case side20 => exact j7.out); (case side21 => refine lY ?_; exact (Kd.C_below j8.out HB.out)); (case side22 => exact j9.out); (case side23 => refine lY ?_; exact (Kd.C_below jo.out HB.out)); (case side24 => exact jp.out); (case side25 => refine lY ?_; exact (Kd.C_below jq.out HB.out)); (case side26 => exact jr.out); (case side27 => refine lY ?_; exact (Kd.C_below js.out HB.out)); (case side28 => exact jt.out); rintro e w9 ⟨rfl, hb⟩; refine ⟨_, rfl, ?_⟩; replace qU := aM (blk_below (g := qT) (lK qU) hb); replace qw := aM (blk_below (g := qi) (lK qw) hb); replace HB := aM (below_step (by have := GEc.mk qh.out; have := GEc.mk jh.out; exact lS HB) hb); (try clear hb); (try clear hb2); (try clear hk); (try clear hi)))
 go_ret
 exact ⟨by first | rfl | (simp [errW_none, errW_some] <;> rfl) | (simp [*, errW_none, errW_some] <;> rfl), by repeat (first | (with_reducible first | exact HB.out | apply below_alloc | apply pw_below_drewN | apply below_drew1 | refine below_set ?_ qh.out | refine below_set ?_ jh.out) | exact HB.out)⟩

/-! ### slices_Equal_byte_byte: function 22 -/
def slices_Equal_byte_byte.l0 : Nat → List Int → List Int → Int → Int → Option (Bool)
 | 0, _, _, _, _ => none
 | k + 1, x0, x1, x12, x13 => if x13 < x12 then (if 0 ≤ x13 then (if x13 < (x0.length : Int) then (if x13 < (x1.length : Int) then (if (rd x0 x13) = (rd x1 x13) then (slices_Equal_byte_byte.l0 k x0 x1 x12 (wrap64 (x13 + 1))) else (some false)) else (none)) else (none)) else (none)) else (some true)
def slices_Equal_byte_byte.f (k : Nat) (l0 : List Int) (l1 : List Int) : Option (Bool) := if (l0.length : Int) = (l1.length : Int) then (slices_Equal_byte_byte.l0 k l0 l1 (l0.length : Int) 0) else (some false)
theorem slices_Equal_byte_byte.mono_l : ∀ k, (∀ y0 y1 y2 y3, LeO (slices_Equal_byte_byte.l0 k y0 y1 y2 y3) (slices_Equal_byte_byte.l0 (k + 1) y0 y1 y2 y3))
 | 0 => fun _ _ _ _ r h => by simp [slices_Equal_byte_byte.l0] at h
 | k + 1 => by
  have ih0 := slices_Equal_byte_byte.mono_l k
  ·intro y0 y1 y2 y3
   unfold slices_Equal_byte_byte.l0
   repeat' first
   | (with_reducible exact ih0 ..)
   | (with_reducible exact LeO.refl _)
   | (with_reducible exact LeO.none _)
   | (with_reducible refine LeO.ite ?_ ?_)
   | (with_reducible refine LeO.bind ?_ (fun _ => ?_))
   | exact ih0 _ _ _ _
   | exact LeO.none _
   | refine LeO.ite ?_ ?_
   | refine LeO.bind ?_ (fun _ => ?_)
theorem slices_Equal_byte_byte.mono : ∀ a0 a1 k, LeO (slices_Equal_byte_byte.f k a0 a1) (slices_Equal_byte_byte.f (k + 1) a0 a1) := by
 intro a0 a1 k
 have ih0 := slices_Equal_byte_byte.mono_l k
 unfold slices_Equal_byte_byte.f
 repeat' first
   | (with_reducible exact ih0 ..)
   | (with_reducible exact LeO.refl _)
   | (with_reducible exact LeO.none _)
   | (with_reducible refine LeO.ite ?_ ?_)
   | (with_reducible refine LeO.bind ?_ (fun _ => ?_))
   | exact ih0 _ _ _ _
   | exact LeO.none _
   | refine LeO.ite ?_ ?_
   | refine LeO.bind ?_ (fun _ => ?_)
set_option maxHeartbeats 8000000 in
set_option maxRecDepth 100000 in
theorem slices_Equal_byte_byte.calls (k : Nat) (A0 : Option Addr) (c0 : Nat) (l0 : List Int) (A1 : Option Addr) (c1 : Nat) (l1 : List Int) (r : Bool) (w : World) (hr0 : Kd.C (Kd.int .u8) w A0 l0.length l0) (hc0 : l0.length ≤ c0) (hr1 : Kd.C (Kd.int .u8) w A1 l1.length l1) (hc1 : l1.length ≤ c1) (h : slices_Equal_byte_byte.f k l0 l1 = some r) :
  Calls Try.prog 22 #[.slice A0 l0.length c0, .slice A1 l1.length c1] w fun e w' => e = .returned (.bool r) ∧ Drawn0 w w' := by
 have HR0 := aM hr0
 have HC0 := aM hc0
 clear hr0 hc0
 have HR1 := aM hr1
 have HC1 := aM hc1
 clear hr1 hc1
 have H : (if (l0.length : Int) = (l1.length : Int) then (slices_Equal_byte_byte.l0 k l0 l1 (l0.length : Int) 0) else (some false)) = some r := h
 clear h
 by_cases c3 : (l0.length : Int) = (l1.length : Int)
 ·rw [if_pos c3] at H
  have c3b0 : ((l0.length : Int) == (l1.length : Int)) = true := beq_iff_eq.mpr c3
  have c3b1 : ((l0.length : Int) != (l1.length : Int)) = false := bne_eq_false_iff_eq.mpr c3
  have c3b2 : (l0.length == l1.length) = true := by first | simpa using c3 | (simp at c3 ⊢; omega)
  clear c3
  have H' := aM H
  clear H
  go_enter Try.func22, Try.ntmps22
  go_wp2
  repeat (go_quiet (fail); try go_wp2)
  go_loopg [13] k (fun kq v13 w' => ∃ (qA : Int), v13 = .int .i64 qA ∧ Aside0 (slices_Equal_byte_byte.l0 kq l0 l1 (l0.length : Int) qA = some r) ∧ Aside0 (kq ≤ k) ∧ Drawn0 w w')
  case atStart => exact ⟨(0), (by first | rfl | (simp; done) | (simp [*]; done)), H', ⟨Nat.le_refl _⟩, by repeat (first | exact Drawn0.refl _ | apply Drawn0.step)⟩
  case round =>
   clear H'
   try clear c1
   try clear c3
   obtain ⟨qA, rfl, HA, HK1, ⟨m1, rfl⟩⟩ := hrel
   cases gk with
   | zero => exact absurd HA.out (by simp [slices_Equal_byte_byte.l0])
   | succ k1 =>
    have H := HA.out
    clear HA
    simp only [slices_Equal_byte_byte.l0] at H
    by_cases c4 : qA < (l0.length : Int)
    ·rw [if_pos c4] at H
     have c4b0 : decide (qA < (l0.length : Int)) = true := decide_eq_true c4
     clear c4
     by_cases c5 : 0 ≤ qA
     ·rw [if_pos c5] at H
      have c5b0 : decide (0 ≤ qA) = true := decide_eq_true c5
      clear c5
      by_cases c6 : qA < (l0.length : Int)
      ·rw [if_pos c6] at H
       have c6b0 : decide (qA < (l0.length : Int)) = true := decide_eq_true c6
       clear c6
       by_cases c7 : qA < (l1.length : Int)
       ·rw [if_pos c7] at H
        have c7b0 : decide (qA < (l1.length : Int)) = true := decide_eq_true c7
        clear c7
        by_cases c8 : (rd l0 qA) = (rd l1 qA)
        ·rw [if_pos c8] at H
         have c8b0 : ((rd l0 qA) == (rd l1 qA)) = true := beq_iff_eq.mpr c8
         have c8b1 : ((rd l0 qA) != (rd l1 qA)) = false := bne_eq_false_iff_eq.mpr c8
         clear c8
         have H' := aM H
         clear H
         have p459 : 0 ≤ (qA : Int) := of_decide_eq_true (by first | (with_reducible assumption) | assumption)
         have q459 : qA < (l0.length : Int) := of_decide_eq_true (by first | (with_reducible assumption) | assumption)
         obtain ⟨ad459, e459, hx459_0⟩ := Kd.at_int HR0.out qA p459 q459
         cases e459
         replace p459 := eq_true p459
         replace q459 := eq_true q459
         have p460 : 0 ≤ (qA : Int) := of_decide_eq_true (by first | (with_reducible assumption) | assumption)
         have q460 : qA < (l1.length : Int) := of_decide_eq_true (by first | (with_reducible assumption) | assumption)
         obtain ⟨ad460, e460, hx460_0⟩ := Kd.at_int HR1.out qA p460 q460
         cases e460
         replace p460 := eq_true p460
         replace q460 := eq_true q460
         go_wp2
         repeat (go_quiet (fail); try go_wp2)
         go_roundg k1
         case measure => have := HK1.out; omega
         case rel => exact ⟨(wrap64 (qA + 1)), (by first | rfl | (simp; done) | (simp [*]; done)), H', ⟨by have := HK1.out; omega⟩, by repeat (first | exact Drawn0.refl _ | apply Drawn0.step)⟩
        ·rw [if_neg c8] at H
         have c8b0 : ((rd l0 qA) == (rd l1 qA)) = false := beq_eq_false_iff_ne.mpr c8
         have c8b1 : ((rd l0 qA) != (rd l1 qA)) = true := bne_iff_ne.mpr c8
         obtain rfl := Option.some.inj H
         have p459 : 0 ≤ (qA : Int) := of_decide_eq_true (by first | (with_reducible assumption) | assumption)
         have q459 : qA < (l0.length : Int) := of_decide_eq_true (by first | (with_reducible assumption) | assumption)
         obtain ⟨ad459, e459, hx459_0⟩ := Kd.at_int HR0.out qA p459 q459
         cases e459
         replace p459 := eq_true p459
         replace q459 := eq_true q459
         have p460 : 0 ≤ (qA : Int) := of_decide_eq_true (by first | (with_reducible assumption) | assumption)
         have q460 : qA < (l1.length : Int) := of_decide_eq_true (by first | (with_reducible assumption) | assumption)
         obtain ⟨ad460, e460, hx460_0⟩ := Kd.at_int HR1.out qA p460 q460
         cases e460
         replace p460 := eq_true p460
         replace q460 := eq_true q460
         go_wp2
         repeat (go_quiet (fail); try go_wp2)
         go_ret
         exact ⟨by first | rfl | (simp; done) | (simp [*]; done), by repeat (first | exact Drawn0.refl _ | apply Drawn0.step)⟩
       ·rw [if_neg c7] at H
        exact absurd H (by simp)
      ·rw [if_neg c6] at H
       exact absurd H (by simp)
     ·rw [if_neg c5] at H
      exact absurd H (by simp)
    ·rw [if_neg c4] at H
     have c4b0 : decide (qA < (l0.length : Int)) = false := decide_eq_false c4
     clear c4
     obtain rfl := Option.some.inj H
     go_wp2
     repeat (go_quiet (fail); try go_wp2)
     go_ret
     exact ⟨by first | rfl | (simp; done) | (simp [*]; done), by repeat (first | exact Drawn0.refl _ | apply Drawn0.step)⟩
 ·rw [if_neg c3] at H
  have c3b0 : ((l0.length : Int) == (l1.length : Int)) = false := beq_eq_false_iff_ne.mpr c3
  have c3b1 : ((l0.length : Int) != (l1.length : Int)) = true := bne_iff_ne.mpr c3
  have c3b2 : (l0.length == l1.length) = false := by first | simpa using c3 | (simp at c3 ⊢; omega)
  obtain rfl := Option.some.inj H
  go_enter Try.func22, Try.ntmps22
  go_wp2
  repeat (go_quiet (fail); try go_wp2)
  go_ret
  exact ⟨by first | rfl | (simp; done) | (simp [*]; done), by repeat (first | exact Drawn0.refl _ | apply Drawn0.step)⟩

end Go.Proofs.Ytccbdcbeinkjgaa.XA
end

section
namespace Go.Proofs.Ytccbdcbeinkjgaa.XA
open Go.Proofs.Ytccbdcbeinkjgaa.Lift Go.RowKit Go.Proofs.YtccbdcbeinkjgaaW.PrintWords Go.Proofs.YtccbdcbeinkjgaaW.PrintLast Go.Proofs.YtccbdcbeinkjgaaW.PrintMore
attribute [local go_sem] max2_int min2_int max_two min_two max_three min_three max_four min_four
set_option linter.unusedVariables false
set_option linter.unusedSimpArgs false

attribute [local go_sem high] eqA43
/-! ### swagelaw17_works: function 10 -/
def swagelaw17_works.f (k : Nat)  : Option (Bool) := (swagelaw17_example.f k).bind fun bt461 => ((code_Encode.f k bt461.1 bt461.2.1 bt461.2.2.1 bt461.2.2.2.1 bt461.2.2.2.2.1 bt461.2.2.2.2.2.1 bt461.2.2.2.2.2.2.1 bt461.2.2.2.2.2.2.2.1 bt461.2.2.2.2.2.2.2.2.1 bt461.2.2.2.2.2.2.2.2.2.1 bt461.2.2.2.2.2.2.2.2.2.2.1 bt461.2.2.2.2.2.2.2.2.2.2.2.1 bt461.2.2.2.2.2.2.2.2.2.2.2.2.1 bt461.2.2.2.2.2.2.2.2.2.2.2.2.2.1 bt461.2.2.2.2.2.2.2.2.2.2.2.2.2.2.1).bind fun bt494 => ((code_Decode.f k bt461.2.2.2.2.2.2.2.2.2.2.2.2.2.2.2).bind fun bt498 => (if bt494.2 = 0 then ((slices_Equal_byte_byte.f k bt494.1 bt461.2.2.2.2.2.2.2.2.2.2.2.2.2.2.2).bind fun q1 => (if q1 = true then (if (bt498.2.2.2.2.2.2.2.2.2.2.2.2.2.2.2.1 == 0 && (bt498.2.2.2.2.2.2.2.2.2.2.2.2.2.2.2.2 == 0)) = true then ((swagelaw17_same.f k bt461.1 bt461.2.1 bt461.2.2.1 bt461.2.2.2.1 bt461.2.2.2.2.1 bt461.2.2.2.2.2.1 bt461.2.2.2.2.2.2.1 bt461.2.2.2.2.2.2.2.1 bt461.2.2.2.2.2.2.2.2.1 bt461.2.2.2.2.2.2.2.2.2.1 bt461.2.2.2.2.2.2.2.2.2.2.1 bt461.2.2.2.2.2.2.2.2.2.2.2.1 bt461.2.2.2.2.2.2.2.2.2.2.2.2.1 bt461.2.2.2.2.2.2.2.2.2.2.2.2.2.1 bt461.2.2.2.2.2.2.2.2.2.2.2.2.2.2.1 bt498.1 bt498.2.1 bt498.2.2.1 bt498.2.2.2.1 bt498.2.2.2.2.1 bt498.2.2.2.2.2.1 bt498.2.2.2.2.2.2.1 bt498.2.2.2.2.2.2.2.1 bt498.2.2.2.2.2.2.2.2.1 bt498.2.2.2.2.2.2.2.2.2.1 bt498.2.2.2.2.2.2.2.2.2.2.1 bt498.2.2.2.2.2.2.2.2.2.2.2.1 bt498.2.2.2.2.2.2.2.2.2.2.2.2.1 bt498.2.2.2.2.2.2.2.2.2.2.2.2.2.1 bt498.2.2.2.2.2.2.2.2.2.2.2.2.2.2.1).bind fun qu => (if qu = true then ((code_Same.f k bt461.1 bt461.2.1 bt461.2.2.1 bt461.2.2.2.1 bt461.2.2.2.2.1 bt461.2.2.2.2.2.1 bt461.2.2.2.2.2.2.1 bt461.2.2.2.2.2.2.2.1 bt461.2.2.2.2.2.2.2.2.1 bt461.2.2.2.2.2.2.2.2.2.1 bt461.2.2.2.2.2.2.2.2.2.2.1 bt461.2.2.2.2.2.2.2.2.2.2.2.1 bt461.2.2.2.2.2.2.2.2.2.2.2.2.1 bt461.2.2.2.2.2.2.2.2.2.2.2.2.2.1 bt461.2.2.2.2.2.2.2.2.2.2.2.2.2.2.1 bt498.1 bt498.2.1 bt498.2.2.1 bt498.2.2.2.1 bt498.2.2.2.2.1 bt498.2.2.2.2.2.1 bt498.2.2.2.2.2.2.1 bt498.2.2.2.2.2.2.2.1 bt498.2.2.2.2.2.2.2.2.1 bt498.2.2.2.2.2.2.2.2.2.1 bt498.2.2.2.2.2.2.2.2.2.2.1 bt498.2.2.2.2.2.2.2.2.2.2.2.1 bt498.2.2.2.2.2.2.2.2.2.2.2.2.1 bt498.2.2.2.2.2.2.2.2.2.2.2.2.2.1 bt498.2.2.2.2.2.2.2.2.2.2.2.2.2.2.1).bind fun qW => (some qW)) else (some false))) else (some false)) else (some false))) else (some false))))
theorem swagelaw17_works.mono : ∀ k, LeO (swagelaw17_works.f k ) (swagelaw17_works.f (k + 1) ) := by
 intro  k
 unfold swagelaw17_works.f
 repeat' first
   | (with_reducible exact code_Decode.mono _ _)
   | (with_reducible exact code_Encode.mono _ _ _ _ _ _ _ _ _ _ _ _ _ _ _ _)
   | (with_reducible exact code_Same.mono _ _ _ _ _ _ _ _ _ _ _ _ _ _ _ _ _ _ _ _ _ _ _ _ _ _ _ _ _ _ _)
   | (with_reducible exact slices_Equal_byte_byte.mono _ _ _)
   | (with_reducible exact swagelaw17_example.mono _)
   | (with_reducible exact swagelaw17_same.mono _ _ _ _ _ _ _ _ _ _ _ _ _ _ _ _ _ _ _ _ _ _ _ _ _ _ _ _ _ _ _)
   | (with_reducible exact LeO.refl _)
   | (with_reducible exact LeO.none _)
   | (with_reducible refine LeO.ite ?_ ?_)
   | (with_reducible refine LeO.bind ?_ (fun _ => ?_))
   | exact code_Decode.mono _ _
   | exact code_Encode.mono _ _ _ _ _ _ _ _ _ _ _ _ _ _ _ _
   | exact code_Same.mono _ _ _ _ _ _ _ _ _ _ _ _ _ _ _ _ _ _ _ _ _ _ _ _ _ _ _ _ _ _ _
   | exact slices_Equal_byte_byte.mono _ _ _
   | exact swagelaw17_example.mono _
   | exact swagelaw17_same.mono _ _ _ _ _ _ _ _ _ _ _ _ _ _ _ _ _ _ _ _ _ _ _ _ _ _ _ _ _ _ _
   | exact LeO.none _
   | refine LeO.ite ?_ ?_
   | refine LeO.bind ?_ (fun _ => ?_)
theorem swagelaw17_works.tells (k : Nat) (r : Bool) (h : swagelaw17_works.f k = some r) : r = true := by
 have h8 : swagelaw17_works.f 90 = some true := by decide +kernel
 rcases Nat.le_total k 90 with hk | hk
 ·have h9 := at_rounds (fun k => swagelaw17_works.mono k) hk h
  rw [h8] at h9
  exact (Option.some.inj h9).symm
 ·have h9 := at_rounds (fun k => swagelaw17_works.mono k) hk h8
  rw [h] at h9
  exact Option.some.inj h9
set_option maxHeartbeats 8000000 in
set_option maxRecDepth 100000 in
theorem swagelaw17_works.calls (k : Nat)  (r : Bool) (w : World) (h : swagelaw17_works.f k  = some r) :
  Calls Try.prog 10 #[] w fun e w' => e = .returned (.bool r) ∧ Below w.heap.size w w' := by
 have hT : Aside0 (r = true) := ⟨swagelaw17_works.tells k r h⟩
 have hu28 := Try.underlying28
 have hu43 := Try.underlying43
 have HB := aM (Below.refl w.heap.size w)
 have H : ((swagelaw17_example.f k).bind fun bt461 => ((code_Encode.f k bt461.1 bt461.2.1 bt461.2.2.1 bt461.2.2.2.1 bt461.2.2.2.2.1 bt461.2.2.2.2.2.1 bt461.2.2.2.2.2.2.1 bt461.2.2.2.2.2.2.2.1 bt461.2.2.2.2.2.2.2.2.1 bt461.2.2.2.2.2.2.2.2.2.1 bt461.2.2.2.2.2.2.2.2.2.2.1 bt461.2.2.2.2.2.2.2.2.2.2.2.1 bt461.2.2.2.2.2.2.2.2.2.2.2.2.1 bt461.2.2.2.2.2.2.2.2.2.2.2.2.2.1 bt461.2.2.2.2.2.2.2.2.2.2.2.2.2.2.1).bind fun bt494 => ((code_Decode.f k bt461.2.2.2.2.2.2.2.2.2.2.2.2.2.2.2).bind fun bt498 => (if bt494.2 = 0 then ((slices_Equal_byte_byte.f k bt494.1 bt461.2.2.2.2.2.2.2.2.2.2.2.2.2.2.2).bind fun q1 => (if q1 = true then (if (bt498.2.2.2.2.2.2.2.2.2.2.2.2.2.2.2.1 == 0 && (bt498.2.2.2.2.2.2.2.2.2.2.2.2.2.2.2.2 == 0)) = true then ((swagelaw17_same.f k bt461.1 bt461.2.1 bt461.2.2.1 bt461.2.2.2.1 bt461.2.2.2.2.1 bt461.2.2.2.2.2.1 bt461.2.2.2.2.2.2.1 bt461.2.2.2.2.2.2.2.1 bt461.2.2.2.2.2.2.2.2.1 bt461.2.2.2.2.2.2.2.2.2.1 bt461.2.2.2.2.2.2.2.2.2.2.1 bt461.2.2.2.2.2.2.2.2.2.2.2.1 bt461.2.2.2.2.2.2.2.2.2.2.2.2.1 bt461.2.2.2.2.2.2.2.2.2.2.2.2.2.1 bt461.2.2.2.2.2.2.2.2.2.2.2.2.2.2.1 bt498.1 bt498.2.1 bt498.2.2.1 bt498.2.2.2.1 bt498.2.2.2.2.1 bt498.2.2.2.2.2.1 bt498.2.2.2.2.2.2.1 bt498.2.2.2.2.2.2.2.1 bt498.2.2.2.2.2.2.2.2.1 bt498.2.2.2.2.2.2.2.2.2.1 bt498.2.2.2.2.2.2.2.2.2.2.1 bt498.2.2.2.2.2.2.2.2.2.2.2.1 bt498.2.2.2.2.2.2.2.2.2.2.2.2.1 bt498.2.2.2.2.2.2.2.2.2.2.2.2.2.1 bt498.2.2.2.2.2.2.2.2.2.2.2.2.2.2.1).bind fun qu => (if qu = true then ((code_Same.f k bt461.1 bt461.2.1 bt461.2.2.1 bt461.2.2.2.1 bt461.2.2.2.2.1 bt461.2.2.2.2.2.1 bt461.2.2.2.2.2.2.1 bt461.2.2.2.2.2.2.2.1 bt461.2.2.2.2.2.2.2.2.1 bt461.2.2.2.2.2.2.2.2.2.1 bt461.2.2.2.2.2.2.2.2.2.2.1 bt461.2.2.2.2.2.2.2.2.2.2.2.1 bt461.2.2.2.2.2.2.2.2.2.2.2.2.1 bt461.2.2.2.2.2.2.2.2.2.2.2.2.2.1 bt461.2.2.2.2.2.2.2.2.2.2.2.2.2.2.1 bt498.1 bt498.2.1 bt498.2.2.1 bt498.2.2.2.1 bt498.2.2.2.2.1 bt498.2.2.2.2.2.1 bt498.2.2.2.2.2.2.1 bt498.2.2.2.2.2.2.2.1 bt498.2.2.2.2.2.2.2.2.1 bt498.2.2.2.2.2.2.2.2.2.1 bt498.2.2.2.2.2.2.2.2.2.2.1 bt498.2.2.2.2.2.2.2.2.2.2.2.1 bt498.2.2.2.2.2.2.2.2.2.2.2.2.1 bt498.2.2.2.2.2.2.2.2.2.2.2.2.2.1 bt498.2.2.2.2.2.2.2.2.2.2.2.2.2.2.1).bind fun qW => (some qW)) else (some false))) else (some false)) else (some false))) else (some false))))) = some r := h
 clear h
 replace H := Option.bind_eq_some_iff.mp H
 obtain ⟨⟨qX, qY, qU, qZ, qa, qL, qM, qb, qc, qN, qO, qd, qe, qP, qQ, jG⟩, A10, H⟩ := H
 replace H : ((code_Encode.f k qX qY qU qZ qa qL qM qb qc qN qO qd qe qP qQ).bind fun bt494 => ((code_Decode.f k jG).bind fun bt498 => (if bt494.2 = 0 then ((slices_Equal_byte_byte.f k bt494.1 jG).bind fun q1 => (if q1 = true then (if (bt498.2.2.2.2.2.2.2.2.2.2.2.2.2.2.2.1 == 0 && (bt498.2.2.2.2.2.2.2.2.2.2.2.2.2.2.2.2 == 0)) = true then ((swagelaw17_same.f k qX qY qU qZ qa qL qM qb qc qN qO qd qe qP qQ bt498.1 bt498.2.1 bt498.2.2.1 bt498.2.2.2.1 bt498.2.2.2.2.1 bt498.2.2.2.2.2.1 bt498.2.2.2.2.2.2.1 bt498.2.2.2.2.2.2.2.1 bt498.2.2.2.2.2.2.2.2.1 bt498.2.2.2.2.2.2.2.2.2.1 bt498.2.2.2.2.2.2.2.2.2.2.1 bt498.2.2.2.2.2.2.2.2.2.2.2.1 bt498.2.2.2.2.2.2.2.2.2.2.2.2.1 bt498.2.2.2.2.2.2.2.2.2.2.2.2.2.1 bt498.2.2.2.2.2.2.2.2.2.2.2.2.2.2.1).bind fun qu => (if qu = true then ((code_Same.f k qX qY qU qZ qa qL qM qb qc qN qO qd qe qP qQ bt498.1 bt498.2.1 bt498.2.2.1 bt498.2.2.2.1 bt498.2.2.2.2.1 bt498.2.2.2.2.2.1 bt498.2.2.2.2.2.2.1 bt498.2.2.2.2.2.2.2.1 bt498.2.2.2.2.2.2.2.2.1 bt498.2.2.2.2.2.2.2.2.2.1 bt498.2.2.2.2.2.2.2.2.2.2.1 bt498.2.2.2.2.2.2.2.2.2.2.2.1 bt498.2.2.2.2.2.2.2.2.2.2.2.2.1 bt498.2.2.2.2.2.2.2.2.2.2.2.2.2.1 bt498.2.2.2.2.2.2.2.2.2.2.2.2.2.2.1).bind fun qW => (some qW)) else (some false))) else (some false)) else (some false))) else (some false)))) = some r := H
 have A1 := aM A10
 clear A10
 replace H := Option.bind_eq_some_iff.mp H
 obtain ⟨⟨jg, jR⟩, A20, H⟩ := H
 replace H : ((code_Decode.f k jG).bind fun bt498 => (if jR = 0 then ((slices_Equal_byte_byte.f k jg jG).bind fun q1 => (if q1 = true then (if (bt498.2.2.2.2.2.2.2.2.2.2.2.2.2.2.2.1 == 0 && (bt498.2.2.2.2.2.2.2.2.2.2.2.2.2.2.2.2 == 0)) = true then ((swagelaw17_same.f k qX qY qU qZ qa qL qM qb qc qN qO qd qe qP qQ bt498.1 bt498.2.1 bt498.2.2.1 bt498.2.2.2.1 bt498.2.2.2.2.1 bt498.2.2.2.2.2.1 bt498.2.2.2.2.2.2.1 bt498.2.2.2.2.2.2.2.1 bt498.2.2.2.2.2.2.2.2.1 bt498.2.2.2.2.2.2.2.2.2.1 bt498.2.2.2.2.2.2.2.2.2.2.1 bt498.2.2.2.2.2.2.2.2.2.2.2.1 bt498.2.2.2.2.2.2.2.2.2.2.2.2.1 bt498.2.2.2.2.2.2.2.2.2.2.2.2.2.1 bt498.2.2.2.2.2.2.2.2.2.2.2.2.2.2.1).bind fun qu => (if qu = true then ((code_Same.f k qX qY qU qZ qa qL qM qb qc qN qO qd qe qP qQ bt498.1 bt498.2.1 bt498.2.2.1 bt498.2.2.2.1 bt498.2.2.2.2.1 bt498.2.2.2.2.2.1 bt498.2.2.2.2.2.2.1 bt498.2.2.2.2.2.2.2.1 bt498.2.2.2.2.2.2.2.2.1 bt498.2.2.2.2.2.2.2.2.2.1 bt498.2.2.2.2.2.2.2.2.2.2.1 bt498.2.2.2.2.2.2.2.2.2.2.2.1 bt498.2.2.2.2.2.2.2.2.2.2.2.2.1 bt498.2.2.2.2.2.2.2.2.2.2.2.2.2.1 bt498.2.2.2.2.2.2.2.2.2.2.2.2.2.2.1).bind fun qW => (some qW)) else (some false))) else (some false)) else (some false))) else (some false))) = some r := H
 have A2 := aM A20
 clear A20
 replace H := Option.bind_eq_some_iff.mp H
 obtain ⟨⟨q2, q3, qv, q4, q5, qf, qg, q6, q7, qh, qi, q8, q9, qj, qk, qw, qy⟩, A30, H⟩ := H
 replace H : (if jR = 0 then ((slices_Equal_byte_byte.f k jg jG).bind fun q1 => (if q1 = true then (if (qw == 0 && (qy == 0)) = true then ((swagelaw17_same.f k qX qY qU qZ qa qL qM qb qc qN qO qd qe qP qQ q2 q3 qv q4 q5 qf qg q6 q7 qh qi q8 q9 qj qk).bind fun qu => (if qu = true then ((code_Same.f k qX qY qU qZ qa qL qM qb qc qN qO qd qe qP qQ q2 q3 qv q4 q5 qf qg q6 q7 qh qi q8 q9 qj qk).bind fun qW => (some qW)) else (some false))) else (some false)) else (some false))) else (some false)) = some r := H
 have A3 := aM A30
 clear A30
 by_cases c4 : jR = 0
 ·rw [if_pos c4] at H
  have c4b0 : (jR == 0) = true := beq_iff_eq.mpr c4
  have c4b1 : (jR != 0) = false := bne_eq_false_iff_eq.mpr c4
  clear c4
  replace H := Option.bind_eq_some_iff.mp H
  obtain ⟨q1, A50, H⟩ := H
  replace H : (if q1 = true then (if (qw == 0 && (qy == 0)) = true then ((swagelaw17_same.f k qX qY qU qZ qa qL qM qb qc qN qO qd qe qP qQ q2 q3 qv q4 q5 qf qg q6 q7 qh qi q8 q9 qj qk).bind fun qu => (if qu = true then ((code_Same.f k qX qY qU qZ qa qL qM qb qc qN qO qd qe qP qQ q2 q3 qv q4 q5 qf qg q6 q7 qh qi q8 q9 qj qk).bind fun qW => (some qW)) else (some false))) else (some false)) else (some false)) = some r := H
  have A5 := aM A50
  clear A50
  by_cases c6 : q1 = true
  ·subst c6
   have H1 : (if (qw == 0 && (qy == 0)) = true then ((swagelaw17_same.f k qX qY qU qZ qa qL qM qb qc qN qO qd qe qP qQ q2 q3 qv q4 q5 qf qg q6 q7 qh qi q8 q9 qj qk).bind fun qu => (if qu = true then ((code_Same.f k qX qY qU qZ qa qL qM qb qc qN qO qd qe qP qQ q2 q3 qv q4 q5 qf qg q6 q7 qh qi q8 q9 qj qk).bind fun qW => (some qW)) else (some false))) else (some false)) = some r := by rw [if_pos rfl] at H; exact H
   clear H
   have H := H1
   clear H1
   by_cases c7 : (qw == 0 && (qy == 0)) = true
   ·rw [if_pos c7] at H
    have c7b0 : (qw == 0 && (qy == 0)) = true := c7
    (try (have c7b1 : decide (qw = 0 && (qy == 0)) = true := by simpa using c7))
    (try (have c7b2 : (qw == 0 && (qy == 0)) = true := by simpa using c7))
    clear c7
    replace H := Option.bind_eq_some_iff.mp H
    obtain ⟨qu, A80, H⟩ := H
    replace H : (if qu = true then ((code_Same.f k qX qY qU qZ qa qL qM qb qc qN qO qd qe qP qQ q2 q3 qv q4 q5 qf qg q6 q7 qh qi q8 q9 qj qk).bind fun qW => (some qW)) else (some false)) = some r := H
    have A8 := aM A80
    clear A80
    by_cases c9 : qu = true
    ·subst c9
     have H1 : ((code_Same.f k qX qY qU qZ qa qL qM qb qc qN qO qd qe qP qQ q2 q3 qv q4 q5 qf qg q6 q7 qh qi q8 q9 qj qk).bind fun qW => (some qW)) = some r := by rw [if_pos rfl] at H; exact H
     clear H
     have H := H1
     clear H1
     replace H := Option.bind_eq_some_iff.mp H
     obtain ⟨qW, A100, H⟩ := H
     replace H : (some qW) = some r := H
     have A10 := aM A100
     clear A100
     obtain rfl := Option.some.inj H
     go_enter Try.func10, Try.ntmps10
     go_wp2_with (first | ((with_reducible refine gate_callee (f := 15) rfl ?_); refine goesL_ (some 8) rfl rfl Try.func15 (by kernel_rfl) rfl #[] rfl (by (try simp only [List.map_toArray, List.map_cons, List.map_nil]); first | done | rfl | (simp only [List.length_drop, List.length_take]; rfl)) ?_; (with_reducible refine (swagelaw17_example.calls k  qX qY qU qZ qa qL qM qb qc qN qO qd qe qP qQ jG _ A1.out).mono ?_); rintro e w11 ⟨v464, v469, v472, v477, v480, v485, v488, v491, rfl, ho0, ho1, ho2, ho3, ho4, ho5, ho6, ho7, hb⟩; refine ⟨_, rfl, ?_⟩; have qR := aM (Kd.R_lower ho0 (below_size (lB HB))); have qF := aM (Kd.R_lower ho1 (below_size (lB HB))); have qG := aM (Kd.R_lower ho2 (below_size (lB HB))); have qH := aM (Kd.R_lower ho3 (below_size (lB HB))); have qI := aM (Kd.R_lower ho4 (below_size (lB HB))); have qJ := aM (Kd.R_lower ho5 (below_size (lB HB))); have qK := aM (Kd.R_lower ho6 (below_size (lB HB))); have qS := aM (Kd.R_lower ho7 (below_size (lB HB))); replace HB := aM (below_step (lB HB) hb); (try clear hb); (try clear hb2); (try clear hk); (try clear hi); (try clear ho0); (try clear ho1); (try clear ho2); (try clear ho3); (try clear ho4); (try clear ho5); (try clear ho6); (try clear ho7)) | ((with_reducible refine gate_dst (N := 1) rfl ?_); refine box_event ?hg (N := 1) ?hd (cs := #[.int .i64 0, .int .i64 0, .slice none 0 0, .int .i64 0, .int .i64 0, .slice none 0 0, .slice none 0 0, .int .i64 0, .int .i64 0, .slice none 0 0, .slice none 0 0, .int .i64 0, .int .i64 0, .slice none 0 0, .slice none 0 0]) (t := 28) ?hr ?_; (case hd => rfl); (case hg => rfl); (case hr => first | (go_simp; done) | (go_simp; rfl)); intro qV hg w12 hbox hb; replace qR := aM (Kd.R_below (lR qR) hb); replace qF := aM (Kd.R_below (lR qF) hb); replace qG := aM (Kd.R_below (lR qG) hb); replace qH := aM (Kd.R_below (lR qH) hb); replace qI := aM (Kd.R_below (lR qI) hb); replace qJ := aM (Kd.R_below (lR qJ) hb); replace qK := aM (Kd.R_below (lR qK) hb); replace qS := aM (Kd.R_below (lR qS) hb); have qB := aM (hbox); have yu := aM ((by rw [hg]; exact (below_size (lB HB)) : w.heap.size ≤ qV)); have qT := aM ((by rw [hg]; exact (below_size (lB HB)) : w.heap.size ≤ qV)); replace HB := aM (below_step (lB HB) hb); clear hb hbox hg; have yY := zc15 qB.out; have yZ := fun i_ : Nat => blk_frozen qB.out i_; obtain ⟨j0, jh, eo14⟩ := Kd.R_slice qR.out; subst eo14; obtain ⟨jK, jA, eo15⟩ := Kd.R_slice qF.out; subst eo15; obtain ⟨jL, jB, eo16⟩ := Kd.R_slice qG.out; subst eo16; obtain ⟨jM, jC, eo17⟩ := Kd.R_slice qH.out; subst eo17; obtain ⟨jN, jD, eo18⟩ := Kd.R_slice qI.out; subst eo18; obtain ⟨jO, jE, eo19⟩ := Kd.R_slice qJ.out; subst eo19; obtain ⟨jP, jF, eo20⟩ := Kd.R_slice qK.out; subst eo20) | ((with_reducible refine gate_callee (f := 12) rfl ?_); refine goesL_ (some 13) rfl rfl Try.func12 (by kernel_rfl) rfl #[.agg #[.int .i64 qX, .int .i64 qY, .slice j0 qU.length jh, .int .i64 qZ, .int .i64 qa, .slice jK qL.length jA, .slice jL qM.length jB, .int .i64 qb, .int .i64 qc, .slice jM qN.length jC, .slice jN qO.length jD, .int .i64 qd, .int .i64 qe, .slice jO qP.length jE, .slice jP qQ.length jF]] rfl (by (try simp only [List.map_toArray, List.map_cons, List.map_nil]); first | done | rfl | (simp only [List.length_drop, List.length_take]; rfl)) ?_; (with_reducible refine (code_Encode.calls k qX qY _ _ qU qZ qa _ _ qL _ _ qM qb qc _ _ qN _ _ qO qd qe _ _ qP _ _ qQ jg jR _ ?side1 ?side2 ?side3 ?side4 ?side5 ?side6 ?side7 ?side8 ?side9 ?side10 ?side11 ?side12 ?side13 ?side14 A2.out).mono ?_); (case side1 => refine (Kd.R_reads' (e := 48) (base := w.heap.size) (ok := fun k_ => True) (n := qU.length) (c := jh) ?_).2.2; exact (by (with_reducible repeat (first | apply Kd.R_alloc | apply Kd.R_drewN | apply Kd.R_drew)); exact (Kd.R_mono (zR15 (Kd.R_types qR.out qB.out (by decide))) (fun _ h_ => h_.1)))); (case side2 => exact (Kd.R_reads' qR.out).2.1); (case side3 => refine (Kd.R_reads' (e := 63) (base := w.heap.size) (ok := fun k_ => (some k_ ≠ (.slice jM qN.length jC : Value).ownBlock ∧ some k_ ≠ (.slice jO qP.length jE : Value).ownBlock)) (n := qL.length) (c := jA) ?_).2.2; exact (by (with_reducible repeat (first | apply Kd.R_alloc | apply Kd.R_drewN | apply Kd.R_drew)); exact (Kd.R_mono (zR15 (Kd.R_types qF.out qB.out (by decide))) (fun _ h_ => h_.1)))); (case side4 => exact (Kd.R_reads' qF.out).2.1); (case side5 => refine (Kd.R_reads' (e := 3) (base := w.heap.size) (ok := fun k_ => (some k_ ≠ (.slice jN qO.length jD : Value).ownBlock ∧ some k_ ≠ (.slice jP qQ.length jF : Value).ownBlock)) (n := qM.length) (c := jB) ?_).2.2; exact (by (with_reducible repeat (first | apply Kd.R_alloc | apply Kd.R_drewN | apply Kd.R_drew)); exact (Kd.R_mono (zR15 (Kd.R_types qG.out qB.out (by decide))) (fun _ h_ => h_.1)))); (case side6 => exact (Kd.R_reads' qG.out).2.1); (case side7 => refine (Kd.R_reads' (e := 63) (base := w.heap.size) (ok := fun k_ => (some k_ ≠ (.slice jK qL.length jA : Value).ownBlock ∧ some k_ ≠ (.slice jO qP.length jE : Value).ownBlock)) (n := qN.length) (c := jC) ?_).2.2; exact (by (with_reducible repeat (first | apply Kd.R_alloc | apply Kd.R_drewN | apply Kd.R_drew)); exact (Kd.R_mono (zR15 (Kd.R_types qH.out qB.out (by decide))) (fun _ h_ => h_.1)))); (case side8 => exact (Kd.R_reads' qH.out).2.1); (case side9 => refine (Kd.R_reads' (e := 3) (base := w.heap.size) (ok := fun k_ => (some k_ ≠ (.slice jL qM.length jB : Value).ownBlock ∧ some k_ ≠ (.slice jP qQ.length jF : Value).ownBlock)) (n := qO.length) (c := jD) ?_).2.2; exact (by (with_reducible repeat (first | apply Kd.R_alloc | apply Kd.R_drewN | apply Kd.R_drew)); exact (Kd.R_mono (zR15 (Kd.R_types qI.out qB.out (by decide))) (fun _ h_ => h_.1)))); (case side10 => exact (Kd.R_reads' qI.out).2.1); (case side11 => refine (Kd.R_reads' (e := 63) (base := w.heap.size) (ok := fun k_ => (some k_ ≠ (.slice jK qL.length jA : Value).ownBlock ∧ some k_ ≠ (.slice jM qN.length jC : Value).ownBlock)) (n := qP.length) (c := jE) ?_).2.2; exact (by (with_reducible repeat (first | apply Kd.R_alloc | apply Kd.R_drewN | apply Kd.R_drew)); exact (Kd.R_mono (zR15 (Kd.R_types qJ.out qB.out (by decide))) (fun _ h_ => h_.1)))); (case side12 => exact (Kd.R_reads' qJ.out).2.1); (case side13 => refine (Kd.R_reads' (e := 3) (base := w.heap.size) (ok := fun k_ => (some k_ ≠ (.slice jL qM.length jB : Value).ownBlock ∧ some k_ ≠ (.slice jN qO.length jD : Value).ownBlock)) (n := qQ.length) (c := jF) ?_).2.2; exact (by (with_reducible repeat (first | apply Kd.R_alloc | apply Kd.R_drewN | apply Kd.R_drew)); exact (Kd.R_mono (zR15 (Kd.R_types qK.out qB.out (by decide))) (fun _ h_ => h_.1)))); (case side14 => exact (Kd.R_reads' qK.out).2.1); rintro e w21 ⟨v495, rfl, ho0, hb⟩; refine ⟨_, rfl, ?_⟩; replace qR := aM (Kd.R_below (by (with_reducible repeat (first | apply Kd.R_alloc | apply Kd.R_drewN | apply Kd.R_drew)); exact (Kd.R_mono (zR15 (Kd.R_types qR.out qB.out (by decide))) (fun _ h_ => h_.1))) hb); replace qF := aM (Kd.R_below (by (with_reducible repeat (first | apply Kd.R_alloc | apply Kd.R_drewN | apply Kd.R_drew)); exact (Kd.R_mono (zR15 (Kd.R_types qF.out qB.out (by decide))) (fun _ h_ => h_.1))) hb); replace qG := aM (Kd.R_below (by (with_reducible repeat (first | apply Kd.R_alloc | apply Kd.R_drewN | apply Kd.R_drew)); exact (Kd.R_mono (zR15 (Kd.R_types qG.out qB.out (by decide))) (fun _ h_ => h_.1))) hb); replace qH := aM (Kd.R_below (by (with_reducible repeat (first | apply Kd.R_alloc | apply Kd.R_drewN | apply Kd.R_drew)); exact (Kd.R_mono (zR15 (Kd.R_types qH.out qB.out (by decide))) (fun _ h_ => h_.1))) hb); replace qI := aM (Kd.R_below (by (with_reducible repeat (first | apply Kd.R_alloc | apply Kd.R_drewN | apply Kd.R_drew)); exact (Kd.R_mono (zR15 (Kd.R_types qI.out qB.out (by decide))) (fun _ h_ => h_.1))) hb); replace qJ := aM (Kd.R_below (by (with_reducible repeat (first | apply Kd.R_alloc | apply Kd.R_drewN | apply Kd.R_drew)); exact (Kd.R_mono (zR15 (Kd.R_types qJ.out qB.out (by decide))) (fun _ h_ => h_.1))) hb); replace qK := aM (Kd.R_below (by (with_reducible repeat (first | apply Kd.R_alloc | apply Kd.R_drewN | apply Kd.R_drew)); exact (Kd.R_mono (zR15 (Kd.R_types qK.out qB.out (by decide))) (fun _ h_ => h_.1))) hb); have ql := aM (Kd.R_lower (Kd.R_new' ho0 (Kd.R_lt (by (with_reducible repeat (first | apply Kd.R_alloc | apply Kd.R_drewN | apply Kd.R_drew)); exact (Kd.R_mono (zR15 (Kd.R_types qS.out qB.out (by decide))) (fun _ h_ => h_.1))))) (below_size (by have := GEc.mk qT.out; exact lS HB))); replace qS := aM (Kd.R_elder' (by (with_reducible repeat (first | apply Kd.R_alloc | apply Kd.R_drewN | apply Kd.R_drew)); exact (Kd.R_mono (zR15 (Kd.R_types qS.out qB.out (by decide))) (fun _ h_ => h_.1))) (Kd.R_base ho0) hb); replace qB := aM (blk_below (g := qV) (o := .cells #[.int .i64 qX, .int .i64 qY, .slice j0 qU.length jh, .int .i64 qZ, .int .i64 qa, .slice jK qL.length jA, .slice jL qM.length jB, .int .i64 qb, .int .i64 qc, .slice jM qN.length jC, .slice jN qO.length jD, .int .i64 qd, .int .i64 qe, .slice jO qP.length jE, .slice jP qQ.length jF] 28 (0, 0)) (by refine lZ ?_; apply zp15; refine lZ ?_; exact qB.out) hb); replace HB := aM (below_step (by have := GEc.mk qT.out; exact lS HB) hb); (try clear hb); (try clear hb2); (try clear hk); (try clear hi); (try clear ho0); obtain ⟨yT, yJ, eo22⟩ := Kd.R_slice qS.out; subst eo22) | ((with_reducible refine gate_callee (f := 17) rfl ?_); refine goesL_ (some 18) rfl rfl Try.func17 (by kernel_rfl) rfl #[.slice yT jG.length yJ] rfl (by (try simp only [List.map_toArray, List.map_cons, List.map_nil]); first | done | rfl | (simp only [List.length_drop, List.length_take]; rfl)) ?_; (with_reducible refine (code_Decode.calls k _ _ jG q2 q3 qv q4 q5 qf qg q6 q7 qh qi q8 q9 qj qk qw qy _ ?side1 ?side2 A3.out).mono ?_); (case side1 => refine lY ?_; exact (Kd.R_reads' qS.out).2.2); (case side2 => exact (Kd.R_reads' qS.out).2.1); rintro e w23 ⟨v501, v506, v509, v514, v517, v522, v525, rfl, ho0, ho1, ho2, ho3, ho4, ho5, ho6, hb⟩; refine ⟨_, rfl, ?_⟩; replace qS := aM (Kd.R_below (lR qS) hb); replace ql := aM (Kd.R_below (lR ql) hb); have qm := aM (Kd.R_lower (Kd.R_new' ho0 (Kd.R_lt (lR qR))) (below_size (by have := GEc.mk qT.out; exact lS HB))); replace qR := aM (Kd.R_elder' (lR qR) (Kd.R_base ho0) hb); have qn := aM (Kd.R_lower (Kd.R_new' (Kd.R_new' (Kd.R_new' ho1 (Kd.R_lt (lR qF))) (Kd.R_lt (lR qH))) (Kd.R_lt (lR qJ))) (below_size (by have := GEc.mk qT.out; exact lS HB))); have qo := aM (Kd.R_lower (Kd.R_new' (Kd.R_new' (Kd.R_new' ho2 (Kd.R_lt (lR qG))) (Kd.R_lt (lR qI))) (Kd.R_lt (lR qK))) (below_size (by have := GEc.mk qT.out; exact lS HB))); have qp := aM (Kd.R_lower (Kd.R_new' (Kd.R_new' (Kd.R_new' ho3 (Kd.R_lt (lR qF))) (Kd.R_lt (lR qH))) (Kd.R_lt (lR qJ))) (below_size (by have := GEc.mk qT.out; exact lS HB))); have qq := aM (Kd.R_lower (Kd.R_new' (Kd.R_new' (Kd.R_new' ho4 (Kd.R_lt (lR qG))) (Kd.R_lt (lR qI))) (Kd.R_lt (lR qK))) (below_size (by have := GEc.mk qT.out; exact lS HB))); have qr := aM (Kd.R_lower (Kd.R_new' (Kd.R_new' (Kd.R_new' ho5 (Kd.R_lt (lR qF))) (Kd.R_lt (lR qH))) (Kd.R_lt (lR qJ))) (below_size (by have := GEc.mk qT.out; exact lS HB))); replace qF := aM (Kd.R_mono (Kd.R_told (Kd.R_told (Kd.R_told (Kd.R_old (lR qF) hb) (Kd.R_base ho1)) (Kd.R_base ho3)) (Kd.R_base ho5)) (fun _ h_ => h_.1)); replace qH := aM (Kd.R_mono (Kd.R_told (Kd.R_told (Kd.R_told (Kd.R_old (lR qH) hb) (Kd.R_base ho1)) (Kd.R_base ho3)) (Kd.R_base ho5)) (fun _ h_ => h_.1)); replace qJ := aM (Kd.R_mono (Kd.R_told (Kd.R_told (Kd.R_told (Kd.R_old (lR qJ) hb) (Kd.R_base ho1)) (Kd.R_base ho3)) (Kd.R_base ho5)) (fun _ h_ => h_.1)); have qs := aM (Kd.R_lower (Kd.R_new' (Kd.R_new' (Kd.R_new' ho6 (Kd.R_lt (lR qG))) (Kd.R_lt (lR qI))) (Kd.R_lt (lR qK))) (below_size (by have := GEc.mk qT.out; exact lS HB))); replace qG := aM (Kd.R_mono (Kd.R_told (Kd.R_told (Kd.R_told (Kd.R_old (lR qG) hb) (Kd.R_base ho2)) (Kd.R_base ho4)) (Kd.R_base ho6)) (fun _ h_ => h_.1)); replace qI := aM (Kd.R_mono (Kd.R_told (Kd.R_told (Kd.R_told (Kd.R_old (lR qI) hb) (Kd.R_base ho2)) (Kd.R_base ho4)) (Kd.R_base ho6)) (fun _ h_ => h_.1)); replace qK := aM (Kd.R_mono (Kd.R_told (Kd.R_told (Kd.R_told (Kd.R_old (lR qK) hb) (Kd.R_base ho2)) (Kd.R_base ho4)) (Kd.R_base ho6)) (fun _ h_ => h_.1)); replace qB := aM (blk_below (g := qV) (lK qB) hb); replace HB := aM (below_step (by have := GEc.mk qT.out; exact lS HB) hb); (try clear hb); (try clear hb2); (try clear hk); (try clear hi); (try clear ho0); (try clear ho1); (try clear ho2); (try clear ho3); (try clear ho4); (try clear ho5); (try clear ho6)) | ((with_reducible refine gate_dst (N := 5) rfl ?_); refine box_event ?hg (N := 5) ?hd (cs := #[.int .i64 0, .int .i64 0, .slice none 0 0, .int .i64 0, .int .i64 0, .slice none 0 0, .slice none 0 0, .int .i64 0, .int .i64 0, .slice none 0 0, .slice none 0 0, .int .i64 0, .int .i64 0, .slice none 0 0, .slice none 0 0]) (t := 28) ?hr ?_; (case hd => rfl); (case hg => rfl); (case hr => first | (go_simp; done) | (go_simp; rfl)); intro qx hg w24 hbox hb; replace qR := aM (Kd.R_below (lR qR) hb); replace qF := aM (Kd.R_below (lR qF) hb); replace qG := aM (Kd.R_below (lR qG) hb); replace qH := aM (Kd.R_below (lR qH) hb); replace qI := aM (Kd.R_below (lR qI) hb); replace qJ := aM (Kd.R_below (lR qJ) hb); replace qK := aM (Kd.R_below (lR qK) hb); replace qS := aM (Kd.R_below (lR qS) hb); replace ql := aM (Kd.R_below (lR ql) hb); replace qm := aM (Kd.R_below (lR qm) hb); replace qn := aM (Kd.R_below (lR qn) hb); replace qo := aM (Kd.R_below (lR qo) hb); replace qp := aM (Kd.R_below (lR qp) hb); replace qq := aM (Kd.R_below (lR qq) hb); replace qr := aM (Kd.R_below (lR qr) hb); replace qs := aM (Kd.R_below (lR qs) hb); have qA := aM (hbox); have yv := aM ((by rw [hg]; exact (below_size (by have := GEc.mk qT.out; exact lS HB)) : w.heap.size ≤ qx)); have jV := aM ((by rw [hg]; exact (below_size (by have := GEc.mk qT.out; exact lS HB)) : w.heap.size ≤ qx)); replace HB := aM (below_step (by have := GEc.mk qT.out; exact lS HB) hb); have qD := aM ((by rw [hg]; exact Nat.ne_of_lt (blk_lt (g := qV) (lK qB)) : qV ≠ qx)); have yB := aM ((by rw [hg]; exact Nat.ne_of_gt (blk_lt (g := qV) (lK qB)) : qx ≠ qV)); replace qB := aM (blk_below (g := qV) (lK qB) hb); clear hb hbox hg) | ((with_reducible refine gate_dst (N := 6) rfl ?_); refine box_event ?hg (N := 6) ?hd (cs := #[.int .i64 0, .int .i64 0]) (t := 43) ?hr ?_; (case hd => rfl); (case hg => rfl); (case hr => first | (go_simp; done) | (go_simp; rfl)); intro jH hg w25 hbox hb; replace qR := aM (Kd.R_below (lR qR) hb); replace qF := aM (Kd.R_below (lR qF) hb); replace qG := aM (Kd.R_below (lR qG) hb); replace qH := aM (Kd.R_below (lR qH) hb); replace qI := aM (Kd.R_below (lR qI) hb); replace qJ := aM (Kd.R_below (lR qJ) hb); replace qK := aM (Kd.R_below (lR qK) hb); replace qS := aM (Kd.R_below (lR qS) hb); replace ql := aM (Kd.R_below (lR ql) hb); replace qm := aM (Kd.R_below (lR qm) hb); replace qn := aM (Kd.R_below (lR qn) hb); replace qo := aM (Kd.R_below (lR qo) hb); replace qp := aM (Kd.R_below (lR qp) hb); replace qq := aM (Kd.R_below (lR qq) hb); replace qr := aM (Kd.R_below (lR qr) hb); replace qs := aM (Kd.R_below (lR qs) hb); have qC := aM (hbox); have yw := aM ((by rw [hg]; exact (below_size (by have := GEc.mk qT.out; have := GEc.mk jV.out; exact lS HB)) : w.heap.size ≤ jH)); have j1 := aM ((by rw [hg]; exact (below_size (by have := GEc.mk qT.out; have := GEc.mk jV.out; exact lS HB)) : w.heap.size ≤ jH)); replace HB := aM (below_step (by have := GEc.mk qT.out; have := GEc.mk jV.out; exact lS HB) hb); have jS := aM ((by rw [hg]; exact Nat.ne_of_lt (blk_lt (g := qV) (lK qB)) : qV ≠ jH)); have yC := aM ((by rw [hg]; exact Nat.ne_of_gt (blk_lt (g := qV) (lK qB)) : jH ≠ qV)); replace qB := aM (blk_below (g := qV) (lK qB) hb); have jT := aM ((by rw [hg]; exact Nat.ne_of_lt (blk_lt (g := qx) (lK qA)) : qx ≠ jH)); have qE := aM ((by rw [hg]; exact Nat.ne_of_gt (blk_lt (g := qx) (lK qA)) : jH ≠ qx)); replace qA := aM (blk_below (g := qx) (lK qA) hb); clear hb hbox hg; have yx := yB.out; have yy := qD.out; have yz := jT.out; have y0 := qE.out; have ya := zc15 qA.out; have yb := fun i_ : Nat => blk_frozen qA.out i_; obtain ⟨yU, yK, eo29⟩ := Kd.R_slice qm.out; subst eo29; obtain ⟨ji, jW, eo30⟩ := Kd.R_slice qn.out; subst eo30; obtain ⟨jj, jX, eo31⟩ := Kd.R_slice qo.out; subst eo31; obtain ⟨jk, jY, eo32⟩ := Kd.R_slice qp.out; subst eo32; obtain ⟨jl, jZ, eo33⟩ := Kd.R_slice qq.out; subst eo33; obtain ⟨jm, ja, eo34⟩ := Kd.R_slice qr.out; subst eo34; obtain ⟨jn, jb, eo35⟩ := Kd.R_slice qs.out; subst eo35; have y1 := yC.out; have y2 := jS.out; have yc := zc2 qC.out; have yd := fun i_ : Nat => blk_frozen qC.out i_; obtain ⟨yX, yV, eo38⟩ := Kd.R_slice ql.out; subst eo38) | (go_at_call 22; (with_reducible refine (slices_Equal_byte_byte.calls k _ _ jg _ _ jG true _ ?side1 ?side2 ?side3 ?side4 A5.out).mono ?_); (case side1 => refine (Kd.R_reads' (e := 5) (base := w.heap.size) (ok := fun k_ => (True ∧ some k_ ≠ (.slice yT jG.length yJ : Value).ownBlock)) (n := jg.length) (c := yV) ?_).2.2; exact (by (with_reducible repeat (first | apply Kd.R_alloc | apply Kd.R_drewN | apply Kd.R_drew)); exact (Kd.R_mono (Kd.R_mono (fA (fA (zS15 (Kd.R_types (Kd.R_types ql.out qA.out (by decide)) qC.out (by decide))))) (fun _ h_ => h_.1)) (fun _ h_ => h_.1)))); (case side2 => exact (Kd.R_reads' ql.out).2.1); (case side3 => refine (Kd.R_reads' (e := 5) (base := w.heap.size) (ok := fun k_ => (True ∧ some k_ ≠ (.slice yX jg.length yV : Value).ownBlock)) (n := jG.length) (c := yJ) ?_).2.2; exact (by (with_reducible repeat (first | apply Kd.R_alloc | apply Kd.R_drewN | apply Kd.R_drew)); exact (Kd.R_mono (Kd.R_mono (fA (fA (zS15 (Kd.R_types (Kd.R_types qS.out qA.out (by decide)) qC.out (by decide))))) (fun _ h_ => h_.1)) (fun _ h_ => h_.1)))); (case side4 => exact (Kd.R_reads' qS.out).2.1); rintro e w' ⟨rfl, ⟨nd, rfl⟩⟩; have ye := zc15 qB.out; have yf := fun i_ : Nat => blk_frozen qB.out i_) | (go_at_call 18; (with_reducible refine (swagelaw17_same.calls k qX qY _ _ qU qZ qa _ _ qL _ _ qM qb qc _ _ qN _ _ qO qd qe _ _ qP _ _ qQ q2 q3 _ _ qv q4 q5 _ _ qf _ _ qg q6 q7 _ _ qh _ _ qi q8 q9 _ _ qj _ _ qk true _ ?side1 ?side2 ?side3 ?side4 ?side5 ?side6 ?side7 ?side8 ?side9 ?side10 ?side11 ?side12 ?side13 ?side14 ?side15 ?side16 ?side17 ?side18 ?side19 ?side20 ?side21 ?side22 ?side23 ?side24 ?side25 ?side26 ?side27 ?side28 A8.out).mono ?_); (case side1 => refine (Kd.R_reads' (e := 48) (base := w.heap.size) (ok := fun k_ => (True ∧ some k_ ≠ (.slice yU qv.length yK : Value).ownBlock)) (n := qU.length) (c := jh) ?_).2.2; exact (by (with_reducible repeat (first | apply Kd.R_alloc | apply Kd.R_drewN | apply Kd.R_drew)); exact (Kd.R_mono (Kd.R_mono (fA (fA (zS15 (Kd.R_types (Kd.R_types qR.out qA.out (by decide)) qC.out (by decide))))) (fun _ h_ => h_.1)) (fun _ h_ => h_.1)))); (case side2 => exact (Kd.R_reads' qR.out).2.1); (case side3 => refine (Kd.R_reads' (e := 63) (base := w.heap.size) (ok := fun k_ => ((((some k_ ≠ (.slice jM qN.length jC : Value).ownBlock ∧ some k_ ≠ (.slice jO qP.length jE : Value).ownBlock) ∧ some k_ ≠ (.slice ji qf.length jW : Value).ownBlock) ∧ some k_ ≠ (.slice jk qh.length jY : Value).ownBlock) ∧ some k_ ≠ (.slice jm qj.length ja : Value).ownBlock)) (n := qL.length) (c := jA) ?_).2.2; exact (by (with_reducible repeat (first | apply Kd.R_alloc | apply Kd.R_drewN | apply Kd.R_drew)); exact (Kd.R_mono (Kd.R_mono (fA (fA (zS15 (Kd.R_types (Kd.R_types qF.out qA.out (by decide)) qC.out (by decide))))) (fun _ h_ => h_.1)) (fun _ h_ => h_.1)))); (case side4 => exact (Kd.R_reads' qF.out).2.1); (case side5 => refine (Kd.R_reads' (e := 3) (base := w.heap.size) (ok := fun k_ => ((((some k_ ≠ (.slice jN qO.length jD : Value).ownBlock ∧ some k_ ≠ (.slice jP qQ.length jF : Value).ownBlock) ∧ some k_ ≠ (.slice jj qg.length jX : Value).ownBlock) ∧ some k_ ≠ (.slice jl qi.length jZ : Value).ownBlock) ∧ some k_ ≠ (.slice jn qk.length jb : Value).ownBlock)) (n := qM.length) (c := jB) ?_).2.2; exact (by (with_reducible repeat (first | apply Kd.R_alloc | apply Kd.R_drewN | apply Kd.R_drew)); exact (Kd.R_mono (Kd.R_mono (fA (fA (zS15 (Kd.R_types (Kd.R_types qG.out qA.out (by decide)) qC.out (by decide))))) (fun _ h_ => h_.1)) (fun _ h_ => h_.1)))); (case side6 => exact (Kd.R_reads' qG.out).2.1); (case side7 => refine (Kd.R_reads' (e := 63) (base := w.heap.size) (ok := fun k_ => ((((some k_ ≠ (.slice jK qL.length jA : Value).ownBlock ∧ some k_ ≠ (.slice jO qP.length jE : Value).ownBlock) ∧ some k_ ≠ (.slice ji qf.length jW : Value).ownBlock) ∧ some k_ ≠ (.slice jk qh.length jY : Value).ownBlock) ∧ some k_ ≠ (.slice jm qj.length ja : Value).ownBlock)) (n := qN.length) (c := jC) ?_).2.2; exact (by (with_reducible repeat (first | apply Kd.R_alloc | apply Kd.R_drewN | apply Kd.R_drew)); exact (Kd.R_mono (Kd.R_mono (fA (fA (zS15 (Kd.R_types (Kd.R_types qH.out qA.out (by decide)) qC.out (by decide))))) (fun _ h_ => h_.1)) (fun _ h_ => h_.1)))); (case side8 => exact (Kd.R_reads' qH.out).2.1); (case side9 => refine (Kd.R_reads' (e := 3) (base := w.heap.size) (ok := fun k_ => ((((some k_ ≠ (.slice jL qM.length jB : Value).ownBlock ∧ some k_ ≠ (.slice jP qQ.length jF : Value).ownBlock) ∧ some k_ ≠ (.slice jj qg.length jX : Value).ownBlock) ∧ some k_ ≠ (.slice jl qi.length jZ : Value).ownBlock) ∧ some k_ ≠ (.slice jn qk.length jb : Value).ownBlock)) (n := qO.length) (c := jD) ?_).2.2; exact (by (with_reducible repeat (first | apply Kd.R_alloc | apply Kd.R_drewN | apply Kd.R_drew)); exact (Kd.R_mono (Kd.R_mono (fA (fA (zS15 (Kd.R_types (Kd.R_types qI.out qA.out (by decide)) qC.out (by decide))))) (fun _ h_ => h_.1)) (fun _ h_ => h_.1)))); (case side10 => exact (Kd.R_reads' qI.out).2.1); (case side11 => refine (Kd.R_reads' (e := 63) (base := w.heap.size) (ok := fun k_ => ((((some k_ ≠ (.slice jK qL.length jA : Value).ownBlock ∧ some k_ ≠ (.slice jM qN.length jC : Value).ownBlock) ∧ some k_ ≠ (.slice ji qf.length jW : Value).ownBlock) ∧ some k_ ≠ (.slice jk qh.length jY : Value).ownBlock) ∧ some k_ ≠ (.slice jm qj.length ja : Value).ownBlock)) (n := qP.length) (c := jE) ?_).2.2; exact (by (with_reducible repeat (first | apply Kd.R_alloc | apply Kd.R_drewN | apply Kd.R_drew)); exact (Kd.R_mono (Kd.R_mono (fA (fA (zS15 (Kd.R_types (Kd.R_types qJ.out qA.out (by decide)) qC.out (by decide))))) (fun _ h_ => h_.1)) (fun _ h_ => h_.1)))); (case side12 => exact (Kd.R_reads' qJ.out).2.1); (case side13 => refine (Kd.R_reads' (e := 3) (base := w.heap.size) (ok := fun k_ => ((((some k_ ≠ (.slice jL qM.length jB : Value).ownBlock ∧ some k_ ≠ (.slice jN qO.length jD : Value).ownBlock) ∧ some k_ ≠ (.slice jj qg.length jX : Value).ownBlock) ∧ some k_ ≠ (.slice jl qi.length jZ : Value).ownBlock) ∧ some k_ ≠ (.slice jn qk.length jb : Value).ownBlock)) (n := qQ.length) (c := jF) ?_).2.2; exact (by (with_reducible repeat (first | apply Kd.R_alloc | apply Kd.R_drewN | apply Kd.R_drew)); exact (Kd.R_mono (Kd.R_mono (fA (fA (zS15 (Kd.R_types (Kd.R_types qK.out qA.out (by decide)) qC.out (by decide))))) (fun _ h_ => h_.1)) (fun _ h_ => h_.1)))); (case side14 => exact (Kd.R_reads' qK.out).2.1); (case side15 => refine (Kd.R_reads' (e := 48) (base := w.heap.size) (ok := fun k_ => (True ∧ some k_ ≠ (.slice j0 qU.length jh : Value).ownBlock)) (n := qv.length) (c := yK) ?_).2.2; exact (by (with_reducible repeat (first | apply Kd.R_alloc | apply Kd.R_drewN | apply Kd.R_drew)); exact (Kd.R_mono (Kd.R_mono (fA (fA (zS15 (Kd.R_types (Kd.R_types qm.out qA.out (by decide)) qC.out (by decide))))) (fun _ h_ => h_.1)) (fun _ h_ => h_.1)))); (case side16 => exact (Kd.R_reads' qm.out).2.1); (case side17 => refine (Kd.R_reads' (e := 63) (base := w.heap.size) (ok := fun k_ => ((((some k_ ≠ (.slice jk qh.length jY : Value).ownBlock ∧ some k_ ≠ (.slice jm qj.length ja : Value).ownBlock) ∧ some k_ ≠ (.slice jK qL.length jA : Value).ownBlock) ∧ some k_ ≠ (.slice jM qN.length jC : Value).ownBlock) ∧ some k_ ≠ (.slice jO qP.length jE : Value).ownBlock)) (n := qf.length) (c := jW) ?_).2.2; exact (by (with_reducible repeat (first | apply Kd.R_alloc | apply Kd.R_drewN | apply Kd.R_drew)); exact (Kd.R_mono (Kd.R_mono (fA (fA (zS15 (Kd.R_types (Kd.R_types qn.out qA.out (by decide)) qC.out (by decide))))) (fun _ h_ => h_.1)) (fun _ h_ => h_.1)))); (case side18 => exact (Kd.R_reads' qn.out).2.1); (case side19 => refine (Kd.R_reads' (e := 3) (base := w.heap.size) (ok := fun k_ => ((((some k_ ≠ (.slice jl qi.length jZ : Value).ownBlock ∧ some k_ ≠ (.slice jn qk.length jb : Value).ownBlock) ∧ some k_ ≠ (.slice jL qM.length jB : Value).ownBlock) ∧ some k_ ≠ (.slice jN qO.length jD : Value).ownBlock) ∧ some k_ ≠ (.slice jP qQ.length jF : Value).ownBlock)) (n := qg.length) (c := jX) ?_).2.2; exact (by (with_reducible repeat (first | apply Kd.R_alloc | apply Kd.R_drewN | apply Kd.R_drew)); exact (Kd.R_mono (Kd.R_mono (fA (fA (zS15 (Kd.R_types (Kd.R_types qo.out qA.out (by decide)) qC.out (by decide))))) (fun _ h_ => h_.1)) (fun _ h_ => h_.1)))); (case side20 => exact (Kd.R_reads' qo.out).2.1); (case side21 => refine (Kd.R_reads' (e := 63) (base := w.heap.size) (ok := fun k_ => ((((some k_ ≠ (.slice ji qf.length jW : Value).ownBlock ∧ some k_ ≠ (.slice jm qj.length ja : Value).ownBlock) ∧ some k_ ≠ (.slice jK qL.length jA : Value).ownBlock) ∧ some k_ ≠ (.slice jM qN.length jC : Value).ownBlock) ∧ some k_ ≠ (.slice jO qP.length jE : Value).ownBlock)) (n := qh.length) (c := jY) ?_).2.2; exact (by (with_reducible repeat (first | apply Kd.R_alloc | apply Kd.R_drewN | apply Kd.R_drew)); exact (Kd.R_mono (Kd.R_mono (fA (fA (zS15 (Kd.R_types (Kd.R_types qp.out qA.out (by decide)) qC.out (by decide))))) (fun _ h_ => h_.1)) (fun _ h_ => h_.1)))); (case side22 => exact (Kd.R_reads' qp.out).2.1); (case side23 => refine (Kd.R_reads' (e := 3) (base := w.heap.size) (ok := fun k_ => ((((some k_ ≠ (.slice jj qg.length jX : Value).ownBlock ∧ some k_ ≠ (.slice jn qk.length jb : Value).ownBlock) ∧ some k_ ≠ (.slice jL qM.length jB : Value).ownBlock) ∧ some k_ ≠ (.slice jN qO.length jD : Value).ownBlock) ∧ some k_ ≠ (.slice jP qQ.length jF : Value).ownBlock)) (n := qi.length) (c := jZ) ?_).2.2; exact (by (with_reducible repeat (first | apply Kd.R_alloc | apply Kd.R_drewN | apply Kd.R_drew)); exact (Kd.R_mono (Kd.R_mono (fA (fA (zS15 (Kd.R_types (Kd.R_types qq.out qA.out (by decide)) qC.out (by decide))))) (fun _ h_ => h_.1)) (fun _ h_ => h_.1)))); (case side24 => exact (Kd.R_reads' qq.out).2.1); (case side25 => refine (Kd.R_reads' (e := 63) (base := w.heap.size) (ok := fun k_ => ((((some k_ ≠ (.slice ji qf.length jW : Value).ownBlock ∧ some k_ ≠ (.slice jk qh.length jY : Value).ownBlock) ∧ some k_ ≠ (.slice jK qL.length jA : Value).ownBlock) ∧ some k_ ≠ (.slice jM qN.length jC : Value).ownBlock) ∧ some k_ ≠ (.slice jO qP.length jE : Value).ownBlock)) (n := qj.length) (c := ja) ?_).2.2; exact (by (with_reducible repeat (first | apply Kd.R_alloc | apply Kd.R_drewN | apply Kd.R_drew)); exact (Kd.R_mono (Kd.R_mono (fA (fA (zS15 (Kd.R_types (Kd.R_types qr.out qA.out (by decide)) qC.out (by decide))))) (fun _ h_ => h_.1)) (fun _ h_ => h_.1)))); (case side26 => exact (Kd.R_reads' qr.out).2.1); (case side27 => refine (Kd.R_reads' (e := 3) (base := w.heap.size) (ok := fun k_ => ((((some k_ ≠ (.slice jj qg.length jX : Value).ownBlock ∧ some k_ ≠ (.slice jl qi.length jZ : Value).ownBlock) ∧ some k_ ≠ (.slice jL qM.length jB : Value).ownBlock) ∧ some k_ ≠ (.slice jN qO.length jD : Value).ownBlock) ∧ some k_ ≠ (.slice jP qQ.length jF : Value).ownBlock)) (n := qk.length) (c := jb) ?_).2.2; exact (by (with_reducible repeat (first | apply Kd.R_alloc | apply Kd.R_drewN | apply Kd.R_drew)); exact (Kd.R_mono (Kd.R_mono (fA (fA (zS15 (Kd.R_types (Kd.R_types qs.out qA.out (by decide)) qC.out (by decide))))) (fun _ h_ => h_.1)) (fun _ h_ => h_.1)))); (case side28 => exact (Kd.R_reads' qs.out).2.1); rintro e w40 ⟨rfl, hb⟩; replace qR := aM (Kd.R_below (by (with_reducible repeat (first | apply Kd.R_alloc | apply Kd.R_drewN | apply Kd.R_drew)); exact (Kd.R_mono (Kd.R_mono (fA (fA (zS15 (Kd.R_types (Kd.R_types qR.out qA.out (by decide)) qC.out (by decide))))) (fun _ h_ => h_.1)) (fun _ h_ => h_.1))) hb); replace qF := aM (Kd.R_below (by (with_reducible repeat (first | apply Kd.R_alloc | apply Kd.R_drewN | apply Kd.R_drew)); exact (Kd.R_mono (Kd.R_mono (fA (fA (zS15 (Kd.R_types (Kd.R_types qF.out qA.out (by decide)) qC.out (by decide))))) (fun _ h_ => h_.1)) (fun _ h_ => h_.1))) hb); replace qG := aM (Kd.R_below (by (with_reducible repeat (first | apply Kd.R_alloc | apply Kd.R_drewN | apply Kd.R_drew)); exact (Kd.R_mono (Kd.R_mono (fA (fA (zS15 (Kd.R_types (Kd.R_types qG.out qA.out (by decide)) qC.out (by decide))))) (fun _ h_ => h_.1)) (fun _ h_ => h_.1))) hb); replace qH := aM (Kd.R_below (by (with_reducible repeat (first | apply Kd.R_alloc | apply Kd.R_drewN | apply Kd.R_drew)); exact (Kd.R_mono (Kd.R_mono (fA (fA (zS15 (Kd.R_types (Kd.R_types qH.out qA.out (by decide)) qC.out (by decide))))) (fun _ h_ => h_.1)) (fun _ h_ => h_.1))) hb); replace qI := aM (Kd.R_below (by (with_reducible repeat (first | apply Kd.R_alloc | apply Kd.R_drewN | apply Kd.R_drew)); exact (Kd.R_mono (Kd.R_mono (fA (fA (zS15 (Kd.R_types (Kd.R_types qI.out qA.out (by decide)) qC.out (by decide))))) (fun _ h_ => h_.1)) (fun _ h_ => h_.1))) hb); replace qJ := aM (Kd.R_below (by (with_reducible repeat (first | apply Kd.R_alloc | apply Kd.R_drewN | apply Kd.R_drew)); exact (Kd.R_mono (Kd.R_mono (fA (fA (zS15 (Kd.R_types (Kd.R_types qJ.out qA.out (by decide)) qC.out (by decide))))) (fun _ h_ => h_.1)) (fun _ h_ => h_.1))) hb); replace qK := aM (Kd.R_below (by (with_reducible repeat (first | apply Kd.R_alloc | apply Kd.R_drewN | apply Kd.R_drew)); exact (Kd.R_mono (Kd.R_mono (fA (fA (zS15 (Kd.R_types (Kd.R_types qK.out qA.out (by decide)) qC.out (by decide))))) (fun _ h_ => h_.1)) (fun _ h_ => h_.1))) hb); replace qS := aM (Kd.R_below (by (with_reducible repeat (first | apply Kd.R_alloc | apply Kd.R_drewN | apply Kd.R_drew)); exact (Kd.R_mono (Kd.R_mono (fA (fA (zS15 (Kd.R_types (Kd.R_types qS.out qA.out (by decide)) qC.out (by decide))))) (fun _ h_ => h_.1)) (fun _ h_ => h_.1))) hb); replace ql := aM (Kd.R_below (by (with_reducible repeat (first | apply Kd.R_alloc | apply Kd.R_drewN | apply Kd.R_drew)); exact (Kd.R_mono (Kd.R_mono (fA (fA (zS15 (Kd.R_types (Kd.R_types ql.out qA.out (by decide)) qC.out (by decide))))) (fun _ h_ => h_.1)) (fun _ h_ => h_.1))) hb); replace qm := aM (Kd.R_below (by (with_reducible repeat (first | apply Kd.R_alloc | apply Kd.R_drewN | apply Kd.R_drew)); exact (Kd.R_mono (Kd.R_mono (fA (fA (zS15 (Kd.R_types (Kd.R_types qm.out qA.out (by decide)) qC.out (by decide))))) (fun _ h_ => h_.1)) (fun _ h_ => h_.1))) hb); replace qn := aM (Kd.R_below (by (with_reducible repeat (first | apply Kd.R_alloc | apply Kd.R_drewN | apply Kd.R_drew)); exact (Kd.R_mono (Kd.R_mono (fA (fA (zS15 (Kd.R_types (Kd.R_types qn.out qA.out (by decide)) qC.out (by decide))))) (fun _ h_ => h_.1)) (fun _ h_ => h_.1))) hb); replace qo := aM (Kd.R_below (by (with_reducible repeat (first | apply Kd.R_alloc | apply Kd.R_drewN | apply Kd.R_drew)); exact (Kd.R_mono (Kd.R_mono (fA (fA (zS15 (Kd.R_types (Kd.R_types qo.out qA.out (by decide)) qC.out (by decide))))) (fun _ h_ => h_.1)) (fun _ h_ => h_.1))) hb); replace qp := aM (Kd.R_below (by (with_reducible repeat (first | apply Kd.R_alloc | apply Kd.R_drewN | apply Kd.R_drew)); exact (Kd.R_mono (Kd.R_mono (fA (fA (zS15 (Kd.R_types (Kd.R_types qp.out qA.out (by decide)) qC.out (by decide))))) (fun _ h_ => h_.1)) (fun _ h_ => h_.1))) hb); replace qq := aM (Kd.R_below (by (with_reducible repeat (first | apply Kd.R_alloc | apply Kd.R_drewN | apply Kd.R_drew)); exact (Kd.R_mono (Kd.R_mono (fA (fA (zS15 (Kd.R_types (Kd.R_types qq.out qA.out (by decide)) qC.out (by decide))))) (fun _ h_ => h_.1)) (fun _ h_ => h_.1))) hb); replace qr := aM (Kd.R_below (by (with_reducible repeat (first | apply Kd.R_alloc | apply Kd.R_drewN | apply Kd.R_drew)); exact (Kd.R_mono (Kd.R_mono (fA (fA (zS15 (Kd.R_types (Kd.R_types qr.out qA.out (by decide)) qC.out (by decide))))) (fun _ h_ => h_.1)) (fun _ h_ => h_.1))) hb); replace qs := aM (Kd.R_below (by (with_reducible repeat (first | apply Kd.R_alloc | apply Kd.R_drewN | apply Kd.R_drew)); exact (Kd.R_mono (Kd.R_mono (fA (fA (zS15 (Kd.R_types (Kd.R_types qs.out qA.out (by decide)) qC.out (by decide))))) (fun _ h_ => h_.1)) (fun _ h_ => h_.1))) hb); replace qB := aM (blk_below (g := qV) (o := .cells #[.int .i64 qX, .int .i64 qY, .slice j0 qU.length jh, .int .i64 qZ, .int .i64 qa, .slice jK qL.length jA, .slice jL qM.length jB, .int .i64 qb, .int .i64 qc, .slice jM qN.length jC, .slice jN qO.length jD, .int .i64 qd, .int .i64 qe, .slice jO qP.length jE, .slice jP qQ.length jF] 28 (0, 0)) (by refine lZ ?_; refine blk_far ?_ jS.out _; refine lZ ?_; refine blk_far ?_ jS.out _; refine lZ ?_; refine blk_far ?_ qD.out _; refine lZ ?_; refine blk_far ?_ qD.out _; refine lZ ?_; refine blk_far ?_ qD.out _; refine lZ ?_; refine blk_far ?_ qD.out _; refine lZ ?_; refine blk_far ?_ qD.out _; refine lZ ?_; refine blk_far ?_ qD.out _; refine lZ ?_; refine blk_far ?_ qD.out _; refine lZ ?_; refine blk_far ?_ qD.out _; refine lZ ?_; refine blk_far ?_ qD.out _; refine lZ ?_; refine blk_far ?_ qD.out _; refine lZ ?_; refine blk_far ?_ qD.out _; refine lZ ?_; refine blk_far ?_ qD.out _; refine lZ ?_; refine blk_far ?_ qD.out _; refine lZ ?_; refine blk_far ?_ qD.out _; refine lZ ?_; refine blk_far ?_ qD.out _; refine lZ ?_; exact qB.out) hb); replace qA := aM (blk_below (g := qx) (o := .cells #[.int .i64 q2, .int .i64 q3, .slice yU qv.length yK, .int .i64 q4, .int .i64 q5, .slice ji qf.length jW, .slice jj qg.length jX, .int .i64 q6, .int .i64 q7, .slice jk qh.length jY, .slice jl qi.length jZ, .int .i64 q8, .int .i64 q9, .slice jm qj.length ja, .slice jn qk.length jb] 28 (0, 0)) (by refine lZ ?_; refine blk_far ?_ jT.out _; refine lZ ?_; refine blk_far ?_ jT.out _; refine lZ ?_; apply zp15; refine lZ ?_; exact qA.out) hb); replace qC := aM (blk_below (g := jH) (o := .cells #[.int .i64 qw, .int .i64 qy] 43 (0, 0)) (by refine lZ ?_; refine blk_put (cs := #[.int .i64 qw, .int .i64 0]) ?_ 1 _ rfl; refine lZ ?_; refine blk_put (cs := #[.int .i64 0, .int .i64 0]) ?_ 0 _ rfl; refine lZ ?_; refine blk_far ?_ qE.out _; refine lZ ?_; refine blk_far ?_ qE.out _; refine lZ ?_; refine blk_far ?_ qE.out _; refine lZ ?_; refine blk_far ?_ qE.out _; refine lZ ?_; refine blk_far ?_ qE.out _; refine lZ ?_; refine blk_far ?_ qE.out _; refine lZ ?_; refine blk_far ?_ qE.out _; refine lZ ?_; refine blk_far ?_ qE.out _; refine lZ ?_; refine blk_far ?_ qE.out _; refine lZ ?_; refine blk_far ?_ qE.out _; refine lZ ?_; refine blk_far ?_ qE.out _; refine lZ ?_; refine blk_far ?_ qE.out _; refine lZ ?_; refine blk_far ?_ qE.out _; refine lZ ?_; refine blk_far ?_ qE.out _; refine lZ ?_; refine blk_far ?_ qE.out _; refine lZ ?_; exact qC.out) hb); replace HB := aM (below_step (by have := GEc.mk qT.out; have := GEc.mk jV.out; have := GEc.mk j1.out; exact lS HB) hb); (try clear hb); (try clear hb2); (try clear hk); (try clear hi); have yg := zc15 qB.out; have yh := fun i_ : Nat => blk_frozen qB.out i_; have yi := zc15 qA.out; have yj := fun i_ : Nat => blk_frozen qA.out i_) | (go_at_call 14; (with_reducible refine (code_Same.calls k qX qY _ _ qU qZ qa _ _ qL _ _ qM qb qc _ _ qN _ _ qO qd qe _ _ qP _ _ qQ q2 q3 _ _ qv q4 q5 _ _ qf _ _ qg q6 q7 _ _ qh _ _ qi q8 q9 _ _ qj _ _ qk qW _ ?side1 ?side2 ?side3 ?side4 ?side5 ?side6 ?side7 ?side8 ?side9 ?side10 ?side11 ?side12 ?side13 ?side14 ?side15 ?side16 ?side17 ?side18 ?side19 ?side20 ?side21 ?side22 ?side23 ?side24 ?side25 ?side26 ?side27 ?side28 A10.out).mono ?_); (case side1 => refine lY ?_; exact (Kd.R_reads' qR.out).2.2); (case side2 => exact (Kd.R_reads' qR.out).2.1); (case side3 => refine lY ?_; exact (Kd.R_reads' qF.out).2.2); (case side4 => exact (Kd.R_reads' qF.out).2.1); (case side5 => refine lY ?_; exact (Kd.R_reads' qG.out).2.2); (case side6 => exact (Kd.R_reads' qG.out).2.1); (case side7 => refine lY ?_; exact (Kd.R_reads' qH.out).2.2); (case side8 => exact (Kd.R_reads' qH.out).2.1); (case side9 => refine lY ?_; exact (Kd.R_reads' qI.out).2.2); (case side10 => exact (Kd.R_reads' qI.out).2.1); (case side11 => refine lY ?_; exact (Kd.R_reads' qJ.out).2.2); (case side12 => exact (Kd.R_reads' qJ.out).2.1); (case side13 => refine lY ?_; exact (Kd.R_reads' qK.out).2.2); (case side14 => exact (Kd.R_reads' qK.out).2.1); (case side15 => refine lY ?_; exact (Kd.R_reads' qm.out).2.2); (case side16 => exact (Kd.R_reads' qm.out).2.1); (case side17 => refine lY ?_; exact (Kd.R_reads' qn.out).2.2); (case side18 => exact (Kd.R_reads' qn.out).2.1); (case side19 => refine lY ?_; exact (Kd.R_reads' qo.out).2.2); (case side20 => exact (Kd.R_reads' qo.out).2.1); (case side21 => refine lY ?_; exact (Kd.R_reads' qp.out).2.2); (case side22 => exact (Kd.R_reads' qp.out).2.1); (case side23 => refine lY ?_; exact (Kd.R_reads' qq.out).2.2); (case side24 => exact (Kd.R_reads' qq.out).2.1); (case side25 => refine lY ?_; exact (Kd.R_reads' qr.out).2.2); (case side26 => exact (Kd.R_reads' qr.out).2.1); (case side27 => refine lY ?_; exact (Kd.R_reads' qs.out).2.2); (case side28 => exact (Kd.R_reads' qs.out).2.1); rintro e w43 ⟨rfl, hb⟩; replace qR := aM (Kd.R_below (lR qR) hb); replace qF := aM (Kd.R_below (lR qF) hb); replace qG := aM (Kd.R_below (lR qG) hb); replace qH := aM (Kd.R_below (lR qH) hb); replace qI := aM (Kd.R_below (lR qI) hb); replace qJ := aM (Kd.R_below (lR qJ) hb); replace qK := aM (Kd.R_below (lR qK) hb); replace qS := aM (Kd.R_below (lR qS) hb); replace ql := aM (Kd.R_below (lR ql) hb); replace qm := aM (Kd.R_below (lR qm) hb); replace qn := aM (Kd.R_below (lR qn) hb); replace qo := aM (Kd.R_below (lR qo) hb); replace qp := aM (Kd.R_below (lR qp) hb); replace qq := aM (Kd.R_below (lR qq) hb); replace qr := aM (Kd.R_below (lR qr) hb); replace qs := aM (Kd.R_below (lR qs) hb); replace qB := aM (blk_below (g := qV) (lK qB) hb); replace qA := aM (blk_below (g := qx) (lK qA) hb); replace qC := aM (blk_below (g := jH) (lK qC) hb); replace HB := aM (below_step (by have := GEc.mk qT.out; have := GEc.mk jV.out; have := GEc.mk j1.out; exact lS HB) hb); (try clear hb); (try clear hb2); (try clear hk); (try clear hi)))
     go_ret
     exact ⟨by first | rfl | (simp [errW_none, errW_some] <;> rfl) | (simp [*, errW_none, errW_some] <;> rfl), by repeat (first | (with_reducible first | exact HB.out | apply below_alloc | apply pw_below_drewN | apply below_drew1 | refine below_set ?_ qT.out | refine below_set ?_ jV.out | refine below_set ?_ j1.out) | exact HB.out)⟩
    ·replace c9 := Bool.eq_false_iff.mpr c9
     subst c9
     have H1 : (some false) = some r := by rw [if_neg (show ¬ (false = true) by decide)] at H; exact H
     clear H
     have H := H1
     clear H1
     obtain rfl := Option.some.inj H
     exact absurd hT.out (by simp)
   ·rw [if_neg c7] at H
    have c7b0 : (qw == 0 && (qy == 0)) = false := by simpa using c7
    (try (have c7b1 : decide (qw = 0 && (qy == 0)) = false := by simpa using c7))
    (try (have c7b2 : (qw == 0 && (qy == 0)) = false := by simpa using c7))
    (try (have c7b3 : ¬ (qw = 0 && (qy == 0)) := by simpa using c7))
    clear c7
    obtain rfl := Option.some.inj H
    exact absurd hT.out (by simp)
  ·replace c6 := Bool.eq_false_iff.mpr c6
   subst c6
   have H1 : (some false) = some r := by rw [if_neg (show ¬ (false = true) by decide)] at H; exact H
   clear H
   have H := H1
   clear H1
   obtain rfl := Option.some.inj H
   exact absurd hT.out (by simp)
 ·rw [if_neg c4] at H
  have c4b0 : (jR == 0) = false := beq_eq_false_iff_ne.mpr c4
  have c4b1 : (jR != 0) = true := bne_iff_ne.mpr c4
  obtain rfl := Option.some.inj H
  exact absurd hT.out (by simp)

/-! ### swagelaw17_long: function 11 -/
def swagelaw17_long.f (ju : Int) (jv : Int) (jQ : List (S48)) (jw : Int) (jx : Int) (qz : List (S63)) (jU : List Int) (jy : Int) (jz : Int) (q0 : List (S63)) (jI : List Int) (jc : Int) (jd : Int) (qt : List (S63)) (jJ : List Int) : Option (Bool) := if (wrap64 ((wrap64 ((qz.length : Int) + (q0.length : Int))) + (qt.length : Int))) > 3000 then (some true) else (some (decide (400 < jQ.length)))
set_option maxHeartbeats 8000000 in
set_option maxRecDepth 100000 in
theorem swagelaw17_long.calls (ju : Int) (jv : Int) (j2 : Option Addr) (j3 : Nat) (jQ : List (S48)) (jw : Int) (jx : Int) (j4 : Option Addr) (j5 : Nat) (qz : List (S63)) (j6 : Option Addr) (j7 : Nat) (jU : List Int) (jy : Int) (jz : Int) (j8 : Option Addr) (j9 : Nat) (q0 : List (S63)) (jo : Option Addr) (jp : Nat) (jI : List Int) (jc : Int) (jd : Int) (jq : Option Addr) (jr : Nat) (qt : List (S63)) (js : Option Addr) (jt : Nat) (jJ : List Int) (r : Bool) (w : World) (yL : Kd.C k48 w j2 jQ.length jQ) (yM : jQ.length ≤ j3) (yN : Kd.C k63 w j4 qz.length qz) (yO : qz.length ≤ j5) (yP : Kd.C (Kd.int .i64) w j6 jU.length jU) (yQ : jU.length ≤ j7) (yR : Kd.C k63 w j8 q0.length q0) (yS : q0.length ≤ j9) (yD : Kd.C (Kd.int .i64) w jo jI.length jI) (yE : jI.length ≤ jp) (yF : Kd.C k63 w jq qt.length qt) (yG : qt.length ≤ jr) (yH : Kd.C (Kd.int .i64) w js jJ.length jJ) (yI : jJ.length ≤ jt) (h : swagelaw17_long.f ju jv jQ jw jx qz jU jy jz q0 jI jc jd qt jJ = some r) :
  Calls Try.prog 11 #[.agg #[.int .i64 ju, .int .i64 jv, .slice j2 jQ.length j3, .int .i64 jw, .int .i64 jx, .slice j4 qz.length j5, .slice j6 jU.length j7, .int .i64 jy, .int .i64 jz, .slice j8 q0.length j9, .slice jo jI.length jp, .int .i64 jc, .int .i64 jd, .slice jq qt.length jr, .slice js jJ.length jt]] w fun e w' => e = .returned (.bool r) ∧ Below w.heap.size w w' := by
 have hu28 := Try.underlying28
 have y3 := aM yL
 have y4 := aM yM
 clear yL yM
 have y5 := aM yN
 have y6 := aM yO
 clear yN yO
 have y7 := aM yP
 have y8 := aM yQ
 clear yP yQ
 have y9 := aM yR
 have qAA := aM yS
 clear yR yS
 have yk := aM yD
 have yl := aM yE
 clear yD yE
 have ym := aM yF
 have yn := aM yG
 clear yF yG
 have yo := aM yH
 have yp := aM yI
 clear yH yI
 have HB := aM (Below.refl w.heap.size w)
 have H : (if (wrap64 ((wrap64 ((qz.length : Int) + (q0.length : Int))) + (qt.length : Int))) > 3000 then (some true) else (some (decide (400 < jQ.length)))) = some r := h
 clear h
 by_cases c2 : (wrap64 ((wrap64 ((qz.length : Int) + (q0.length : Int))) + (qt.length : Int))) > 3000
 ·rw [if_pos c2] at H
  have c2b0 : decide (3000 < (wrap64 ((wrap64 ((qz.length : Int) + (q0.length : Int))) + (qt.length : Int)))) = true := decide_eq_true c2
  clear c2
  obtain rfl := Option.some.inj H
  go_enter Try.func11, Try.ntmps11
  go_wp2_with (first | ((with_reducible refine gate_dst (N := 1) rfl ?_); (try (refine gate_guard (by rfl) ?_; dsimp only)); refine box_event ?hg (N := 1) ?hd (cs := #[.int .i64 ju, .int .i64 jv, .slice j2 jQ.length j3, .int .i64 jw, .int .i64 jx, .slice j4 qz.length j5, .slice j6 jU.length j7, .int .i64 jy, .int .i64 jz, .slice j8 q0.length j9, .slice jo jI.length jp, .int .i64 jc, .int .i64 jd, .slice jq qt.length jr, .slice js jJ.length jt]) (t := 28) ?hr ?_; (case hd => rfl); (case hg => rfl); (case hr => first | (go_simp; done) | (go_simp; rfl)); intro je hg w3 hbox hb; have jf := aM (hbox); have yW := aM ((by rw [hg]; exact (below_size (lB HB)) : w.heap.size ≤ je)); have yA := aM ((by rw [hg]; exact (below_size (lB HB)) : w.heap.size ≤ je)); replace HB := aM (below_step (lB HB) hb); clear hb hbox hg; have yq := zc15 jf.out; have yr := fun i_ : Nat => blk_frozen jf.out i_))
  go_ret
  exact ⟨by first | rfl | (simp [errW_none, errW_some] <;> rfl) | (simp [*, errW_none, errW_some] <;> rfl) | (simp [errW_none, errW_some]; omega), by repeat (first | (with_reducible first | exact HB.out | apply below_alloc | apply pw_below_drewN | apply below_drew1 | refine below_set ?_ yA.out) | exact HB.out)⟩
 ·rw [if_neg c2] at H
  have c2b0 : decide (3000 < (wrap64 ((wrap64 ((qz.length : Int) + (q0.length : Int))) + (qt.length : Int)))) = false := decide_eq_false c2
  clear c2
  obtain rfl := Option.some.inj H
  go_enter Try.func11, Try.ntmps11
  go_wp2_with (first | ((with_reducible refine gate_dst (N := 1) rfl ?_); (try (refine gate_guard (by rfl) ?_; dsimp only)); refine box_event ?hg (N := 1) ?hd (cs := #[.int .i64 ju, .int .i64 jv, .slice j2 jQ.length j3, .int .i64 jw, .int .i64 jx, .slice j4 qz.length j5, .slice j6 jU.length j7, .int .i64 jy, .int .i64 jz, .slice j8 q0.length j9, .slice jo jI.length jp, .int .i64 jc, .int .i64 jd, .slice jq qt.length jr, .slice js jJ.length jt]) (t := 28) ?hr ?_; (case hd => rfl); (case hg => rfl); (case hr => first | (go_simp; done) | (go_simp; rfl)); intro je hg w5 hbox hb; have jf := aM (hbox); have yW := aM ((by rw [hg]; exact (below_size (lB HB)) : w.heap.size ≤ je)); have yA := aM ((by rw [hg]; exact (below_size (lB HB)) : w.heap.size ≤ je)); replace HB := aM (below_step (lB HB) hb); clear hb hbox hg; have ys := zc15 jf.out; have yt := fun i_ : Nat => blk_frozen jf.out i_))
  go_ret
  exact ⟨by first | rfl | (simp [errW_none, errW_some] <;> rfl) | (simp [*, errW_none, errW_some] <;> rfl) | (simp [errW_none, errW_some]; omega), by repeat (first | (with_reducible first | exact HB.out | apply below_alloc | apply pw_below_drewN | apply below_drew1 | refine below_set ?_ yA.out) | exact HB.out)⟩

/-! ### bytes_Equal: function 26 -/
def bytes_Equal.f (l0 : List Int) (l1 : List Int) : Option (Bool) := some ((strOfNums l0).toList == (strOfNums l1).toList)
end Go.Proofs.Ytccbdcbeinkjgaa.XA
end
