/- Part 13 of the proof of the law CodeCut for every input: words, walks and plain laws. No condition. -/
import Derived.Test.YtccbdcbeinkjgaaKCodeCut12
section
namespace Go.Proofs.Ytccbdcbeinkjgaa.XA
open Go.Proofs.Ytccbdcbeinkjgaa.Lift Go.RowKit Go.Proofs.YtccbdcbeinkjgaaW.PrintWords Go.Proofs.YtccbdcbeinkjgaaW.PrintLast Go.Proofs.YtccbdcbeinkjgaaW.PrintMore
attribute [local go_sem] max2_int min2_int max_two min_two max_three min_three max_four min_four
set_option linter.unusedVariables false
set_option linter.unusedSimpArgs false

/-! ### swagelaw17_example: function 15 -/
def swagelaw17_example.l0 : Nat → List Int → Int → Int → Int → List (S48) → Int → Int → List (S63) → List Int → Int → Int → List (S63) → List Int → Int → Int → List (S63) → List Int → Option (Int × Int × (List (S48)) × Int × Int × (List (S63)) × List Int × Int × Int × (List (S63)) × List Int × Int × Int × (List (S63)) × List Int × List Int)
 | 0, _, _, _, _, _, _, _, _, _, _, _, _, _, _, _, _, _ => none
 | k + 1, x3, x11, qz, q0, q1, q2, q3, q4, q5, q6, q7, q8, q9, jA, jB, jC, jD => if x11 < 3 then ((some (([1, 1, 0, 0, 1, 0] : List Int) : List Int)).bind fun y309 => (if x3.length + y309.length < 140737488355328 then (swagelaw17_example.l0 k (x3 ++ y309) (wrap64 (x11 + 1)) qz q0 q1 q2 q3 q4 q5 q6 q7 q8 q9 jA jB jC jD) else (none))) else ((some (([3, 93] : List Int) : List Int)).bind fun y315 => (if x3.length + y315.length < 140737488355328 then (some (qz, q0, q1, q2, q3, q4, q5, q6, q7, q8, q9, jA, jB, jC, jD, (x3 ++ y315))) else (none)))
def swagelaw17_example.f (k : Nat)  : Option (Int × Int × (List (S48)) × Int × Int × (List (S63)) × List Int × Int × Int × (List (S63)) × List Int × Int × Int × (List (S63)) × List Int × List Int) := (swagelaw17_one.f).bind fun bt281 => ((swagelaw17_one.f).bind fun bt289 => ((swagelaw17_one.f).bind fun bt297 => (swagelaw17_example.l0 k (([65, 78, 86, 49, 1, 1, 1, 0, 1] : List Int)) 0 1 1 (([(⟨0, 1⟩ : S48)] : List (S48))) bt281.1 bt281.2.1 bt281.2.2.1 bt281.2.2.2 bt289.1 bt289.2.1 bt289.2.2.1 bt289.2.2.2 bt297.1 bt297.2.1 bt297.2.2.1 bt297.2.2.2)))
theorem swagelaw17_example.mono_l : ∀ k, (∀ y0 y1 y2 y3 y4 y5 y6 y7 y8 y9 y10 y11 y12 y13 y14 y15 y16, LeO (swagelaw17_example.l0 k y0 y1 y2 y3 y4 y5 y6 y7 y8 y9 y10 y11 y12 y13 y14 y15 y16) (swagelaw17_example.l0 (k + 1) y0 y1 y2 y3 y4 y5 y6 y7 y8 y9 y10 y11 y12 y13 y14 y15 y16))
 | 0 => fun _ _ _ _ _ _ _ _ _ _ _ _ _ _ _ _ _ r h => by simp [swagelaw17_example.l0] at h
 | k + 1 => by
  have ih0 := swagelaw17_example.mono_l k
  ·intro y0 y1 y2 y3 y4 y5 y6 y7 y8 y9 y10 y11 y12 y13 y14 y15 y16
   unfold swagelaw17_example.l0
   exact zM
theorem swagelaw17_example.mono : ∀ k, LeO (swagelaw17_example.f k ) (swagelaw17_example.f (k + 1) ) := by
 intro  k
 have ih0 := swagelaw17_example.mono_l k
 unfold swagelaw17_example.f
 exact zM
set_option maxHeartbeats 8000000 in
set_option maxRecDepth 100000 in
theorem swagelaw17_example.calls (k : Nat)  (r1 : Int) (r2 : Int) (r3 : List (S48)) (r4 : Int) (r5 : Int) (r6 : List (S63)) (r7 : List Int) (r8 : Int) (r9 : Int) (r10 : List (S63)) (r11 : List Int) (r12 : Int) (r13 : Int) (r14 : List (S63)) (r15 : List Int) (r16 : List Int) (w : World) (h : swagelaw17_example.f k  = some (r1, r2, r3, r4, r5, r6, r7, r8, r9, r10, r11, r12, r13, r14, r15, r16)) :
  Calls Try.prog 15 #[] w fun e w' => ∃ v2_ v5_ v6_ v9_ v10_ v13_ v14_ v15_ : Value, e = .returned (.tuple #[.agg #[.int .i64 r1, .int .i64 r2, v2_, .int .i64 r4, .int .i64 r5, v5_, v6_, .int .i64 r8, .int .i64 r9, v9_, v10_, .int .i64 r12, .int .i64 r13, v13_, v14_], v15_]) ∧ Kd.R k48 48 w' w.heap.size (fun _ => True) v2_ r3 ∧ Kd.R k63 63 w' w.heap.size (fun k_ => some k_ ≠ (v9_ : Value).ownBlock ∧ some k_ ≠ (v13_ : Value).ownBlock) v5_ r6 ∧ Kd.R (Kd.int .i64) 3 w' w.heap.size (fun k_ => some k_ ≠ (v10_ : Value).ownBlock ∧ some k_ ≠ (v14_ : Value).ownBlock) v6_ r7 ∧ Kd.R k63 63 w' w.heap.size (fun k_ => some k_ ≠ (v5_ : Value).ownBlock ∧ some k_ ≠ (v13_ : Value).ownBlock) v9_ r10 ∧ Kd.R (Kd.int .i64) 3 w' w.heap.size (fun k_ => some k_ ≠ (v6_ : Value).ownBlock ∧ some k_ ≠ (v14_ : Value).ownBlock) v10_ r11 ∧ Kd.R k63 63 w' w.heap.size (fun k_ => some k_ ≠ (v5_ : Value).ownBlock ∧ some k_ ≠ (v9_ : Value).ownBlock) v13_ r14 ∧ Kd.R (Kd.int .i64) 3 w' w.heap.size (fun k_ => some k_ ≠ (v6_ : Value).ownBlock ∧ some k_ ≠ (v10_ : Value).ownBlock) v14_ r15 ∧ Kd.R (Kd.int .u8) 5 w' w.heap.size (fun _ => True) v15_ r16 ∧ Below w.heap.size w w' := by
 have hu28 := Try.underlying28
 have hu48 := Try.underlying48
 have HB := aM (Below.refl w.heap.size w)
 have H : ((swagelaw17_one.f).bind fun bt281 => ((swagelaw17_one.f).bind fun bt289 => ((swagelaw17_one.f).bind fun bt297 => (swagelaw17_example.l0 k (([65, 78, 86, 49, 1, 1, 1, 0, 1] : List Int)) 0 1 1 (([(⟨0, 1⟩ : S48)] : List (S48))) bt281.1 bt281.2.1 bt281.2.2.1 bt281.2.2.2 bt289.1 bt289.2.1 bt289.2.2.1 bt289.2.2.2 bt297.1 bt297.2.1 bt297.2.2.1 bt297.2.2.2)))) = some (r1, r2, r3, r4, r5, r6, r7, r8, r9, r10, r11, r12, r13, r14, r15, r16) := h
 clear h
 obtain ⟨y278, hy278⟩ : ∃ y_ : List (S48), y_ = (([(⟨0, 1⟩ : S48)] : List (S48))) := ⟨_, rfl⟩
 replace H : ((swagelaw17_one.f).bind fun bt281 => ((swagelaw17_one.f).bind fun bt289 => ((swagelaw17_one.f).bind fun bt297 => (swagelaw17_example.l0 k (([65, 78, 86, 49, 1, 1, 1, 0, 1] : List Int)) 0 1 1 y278 bt281.1 bt281.2.1 bt281.2.2.1 bt281.2.2.2 bt289.1 bt289.2.1 bt289.2.2.1 bt289.2.2.2 bt297.1 bt297.2.1 bt297.2.2.1 bt297.2.2.2)))) = some (r1, r2, r3, r4, r5, r6, r7, r8, r9, r10, r11, r12, r13, r14, r15, r16) := zH hy278 H
 have Ny278 := aM hy278
 clear hy278
 replace H := Option.bind_eq_some_iff.mp H
 obtain ⟨⟨qX, qY, qO, qP⟩, A10, H⟩ := H
 replace H : ((swagelaw17_one.f).bind fun bt289 => ((swagelaw17_one.f).bind fun bt297 => (swagelaw17_example.l0 k (([65, 78, 86, 49, 1, 1, 1, 0, 1] : List Int)) 0 1 1 y278 qX qY qO qP bt289.1 bt289.2.1 bt289.2.2.1 bt289.2.2.2 bt297.1 bt297.2.1 bt297.2.2.1 bt297.2.2.2))) = some (r1, r2, r3, r4, r5, r6, r7, r8, r9, r10, r11, r12, r13, r14, r15, r16) := H
 have A1 := aM A10
 clear A10
 replace H := Option.bind_eq_some_iff.mp H
 obtain ⟨⟨qZ, qa, qQ, qR⟩, A20, H⟩ := H
 replace H : ((swagelaw17_one.f).bind fun bt297 => (swagelaw17_example.l0 k (([65, 78, 86, 49, 1, 1, 1, 0, 1] : List Int)) 0 1 1 y278 qX qY qO qP qZ qa qQ qR bt297.1 bt297.2.1 bt297.2.2.1 bt297.2.2.2)) = some (r1, r2, r3, r4, r5, r6, r7, r8, r9, r10, r11, r12, r13, r14, r15, r16) := H
 have A2 := aM A20
 clear A20
 replace H := Option.bind_eq_some_iff.mp H
 obtain ⟨⟨qc, qd, qS, qT⟩, A30, H⟩ := H
 replace H : (swagelaw17_example.l0 k (([65, 78, 86, 49, 1, 1, 1, 0, 1] : List Int)) 0 1 1 y278 qX qY qO qP qZ qa qQ qR qc qd qS qT) = some (r1, r2, r3, r4, r5, r6, r7, r8, r9, r10, r11, r12, r13, r14, r15, r16) := H
 have A3 := aM A30
 clear A30
 obtain ⟨y306, hy306⟩ : ∃ y_ : List Int, y_ = (([65, 78, 86, 49, 1, 1, 1, 0, 1] : List Int)) := ⟨_, rfl⟩
 replace H : (swagelaw17_example.l0 k y306 0 1 1 y278 qX qY qO qP qZ qa qQ qR qc qd qS qT) = some (r1, r2, r3, r4, r5, r6, r7, r8, r9, r10, r11, r12, r13, r14, r15, r16) := zH hy306 H
 have Ny306 := aM hy306
 clear hy306
 have H' := aM H
 clear H
 go_enter Try.func15, Try.ntmps15
 go_wp2_with (first | ((with_reducible refine gate_dst (N := 0) rfl ?_); refine box_event rfl (N := 0) rfl (cs := #[.int .i64 0, .int .i64 0, .slice none 0 0, .int .i64 0, .int .i64 0, .slice none 0 0, .slice none 0 0, .int .i64 0, .int .i64 0, .slice none 0 0, .slice none 0 0, .int .i64 0, .int .i64 0, .slice none 0 0, .slice none 0 0]) (t := 28) zG ?_; intro qD hg w4 hbox hb; have qA := aM (hbox); have jr := aM ((by rw [hg]; exact (below_size (lB HB)) : w.heap.size ≤ qD)); have js := aM ((by rw [hg]; exact (below_size (lB HB)) : w.heap.size ≤ qD)); replace HB := aM (below_step (lB HB) hb); clear hb hbox hg) | ((with_reducible refine gate_dst (N := 5) rfl ?_); refine Kd.R_lit k48 _ 48 ?hg (N := 5) ?hd (xs := ([(⟨0, 1⟩ : S48)] : List (S48))) (inner := [.int .i64 0, .int .i64 1]) (ok := fun _ => True) (okp := fun _ => True) ?hr ?hp (fun _ hk => hk) trivial (Below.refl _ _) (Nat.le_refl _) (by simp) ?_; (case hd => rfl); (case hg => rfl); (case hr => first | (go_simp; done) | (go_simp; rfl)); (case hp => exact (Reps.c2 (show Kd.M k48 _ _ _ (⟨0, 1⟩ : S48) [.int .i64 0, .int .i64 1] from (k48_mkM _ _ _ (⟨0, 1⟩ : S48) )) (Reps.none _ _))); intro v279 w5 ho6 hb hg_ hnew_; clear hg_ hnew_; (first | rw [← Ny278.out] at ho6 | (simp only [Int.reduceToNat] at ho6; rw [← Ny278.out] at ho6)); have qU := aM (Kd.R_lower ho6 (below_size (zB HB))); replace qA := aM (blk_below (g := qD) (lK qA) hb); replace HB := aM (below_step (zB HB) hb); clear hb ho6) | ((with_reducible refine gate_callee (f := 32) rfl ?_); refine goesL_ (some 6) rfl rfl Try.func32 zk rfl #[] rfl zA ?_; (with_reducible refine (swagelaw17_one.calls  qX qY qO qP _ A1.out).mono ?_); rintro e w7 ⟨v284, v287, rfl, ho0, ho1, hb⟩; refine ⟨_, rfl, ?_⟩; replace qU := aM (Kd.R_below (lR qU) hb); have qV := aM (Kd.R_lower ho0 (below_size (zB HB))); have qW := aM (Kd.R_lower ho1 (below_size (zB HB))); replace qA := aM (blk_below (g := qD) (lK qA) hb); replace HB := aM (below_step (zB HB) hb); (try clear hb); (try clear ho0); (try clear ho1)) | ((with_reducible refine gate_callee (f := 32) rfl ?_); refine goesL_ (some 7) rfl rfl Try.func32 zk rfl #[] rfl zA ?_; (with_reducible refine (swagelaw17_one.calls  qZ qa qQ qR _ A2.out).mono ?_); rintro e w8 ⟨v292, v295, rfl, ho0, ho1, hb⟩; refine ⟨_, rfl, ?_⟩; replace qU := aM (Kd.R_below (lR qU) hb); have qe := aM (Kd.R_lower (Kd.R_new' ho0 (Kd.R_lt (lR qV))) (below_size (zB HB))); replace qV := aM (Kd.R_elder' (lR qV) (Kd.R_base ho0) hb); have qf := aM (Kd.R_lower (Kd.R_new' ho1 (Kd.R_lt (lR qW))) (below_size (zB HB))); replace qW := aM (Kd.R_elder' (lR qW) (Kd.R_base ho1) hb); replace qA := aM (blk_below (g := qD) (lK qA) hb); replace HB := aM (below_step (zB HB) hb); (try clear hb); (try clear ho0); (try clear ho1)) | ((with_reducible refine gate_callee (f := 32) rfl ?_); refine goesL_ (some 8) rfl rfl Try.func32 zk rfl #[] rfl zA ?_; (with_reducible refine (swagelaw17_one.calls  qc qd qS qT _ A3.out).mono ?_); rintro e w9 ⟨v300, v303, rfl, ho0, ho1, hb⟩; refine ⟨_, rfl, ?_⟩; replace qU := aM (Kd.R_below (lR qU) hb); have qh := aM (Kd.R_lower (Kd.R_new' (Kd.R_new' ho0 (Kd.R_lt (lR qV))) (Kd.R_lt (lR qe))) (below_size (zB HB))); replace qV := aM (Kd.R_elder' (lR qV) (Kd.R_base ho0) hb); replace qe := aM (Kd.R_elder' (lR qe) (Kd.R_base ho0) hb); have qi := aM (Kd.R_lower (Kd.R_new' (Kd.R_new' ho1 (Kd.R_lt (lR qW))) (Kd.R_lt (lR qf))) (below_size (zB HB))); replace qW := aM (Kd.R_elder' (lR qW) (Kd.R_base ho1) hb); replace qf := aM (Kd.R_elder' (lR qf) (Kd.R_base ho1) hb); replace qA := aM (blk_below (g := qD) (lK qA) hb); replace HB := aM (below_step (zB HB) hb); (try clear hb); (try clear ho0); (try clear ho1); obtain ⟨qk, ql, eo10⟩ := Kd.R_slice qi.out; subst eo10; obtain ⟨qm, qn, eo11⟩ := Kd.R_slice qh.out; subst eo11; obtain ⟨qo, qp, eo12⟩ := Kd.R_slice qf.out; subst eo12; obtain ⟨qq, qr, eo13⟩ := Kd.R_slice qe.out; subst eo13; obtain ⟨qs, qt, eo14⟩ := Kd.R_slice qW.out; subst eo14; obtain ⟨qu, qv, eo15⟩ := Kd.R_slice qV.out; subst eo15; obtain ⟨qx, qy, eo16⟩ := Kd.R_slice qU.out; subst eo16) | ((with_reducible refine gate_dst (N := 2) rfl ?_); refine box_event rfl (N := 2) rfl (cs := #[.int .i64 0, .int .i64 0, .slice none 0 0, .int .i64 0, .int .i64 0, .slice none 0 0, .slice none 0 0, .int .i64 0, .int .i64 0, .slice none 0 0, .slice none 0 0, .int .i64 0, .int .i64 0, .slice none 0 0, .slice none 0 0]) (t := 28) zG ?_; intro qN hg w17 hbox hb; replace qU := aM (Kd.R_below (lR qU) hb); replace qV := aM (Kd.R_below (lR qV) hb); replace qW := aM (Kd.R_below (lR qW) hb); replace qe := aM (Kd.R_below (lR qe) hb); replace qf := aM (Kd.R_below (lR qf) hb); replace qh := aM (Kd.R_below (lR qh) hb); replace qi := aM (Kd.R_below (lR qi) hb); have qC := aM (hbox); have jt := aM ((by rw [hg]; exact (below_size (zB HB)) : w.heap.size ≤ qN)); have ju := aM ((by rw [hg]; exact (below_size (zB HB)) : w.heap.size ≤ qN)); replace HB := aM (below_step (zB HB) hb); have qE := aM ((by rw [hg]; exact Nat.ne_of_lt (blk_lt (g := qD) (lK qA)) : qD ≠ qN)); have qB := aM ((by rw [hg]; exact Nat.ne_of_gt (blk_lt (g := qD) (lK qA)) : qN ≠ qD)); replace qA := aM (blk_below (g := qD) (lK qA) hb); clear hb hbox hg; have jv := qB.out; have jw := qE.out; have jL := zc15 qC.out; have jM := fun i_ : Nat => blk_frozen qC.out i_) | ((with_reducible refine gate_dst (N := 10) rfl ?_); refine Kd.R_lit (Kd.int .u8) _ 5 ?hg (N := 10) ?hd (xs := ([65, 78, 86, 49, 1, 1, 1, 0, 1] : List Int)) (inner := [.int .u8 65, .int .u8 78, .int .u8 86, .int .u8 49, .int .u8 1, .int .u8 1, .int .u8 1, .int .u8 0, .int .u8 1]) (ok := fun _ => True) (okp := fun _ => True) ?hr ?hp (fun _ hk => hk) trivial (Below.refl _ _) (Nat.le_refl _) (by simp) ?_; (case hd => rfl); (case hg => rfl); (case hr => first | (go_simp; done) | (go_simp; rfl)); (case hp => exact (Reps.one (show Kd.M (Kd.int .u8) _ _ _ 65 [.int .u8 65] from rfl) (Reps.one (show Kd.M (Kd.int .u8) _ _ _ 78 [.int .u8 78] from rfl) (Reps.one (show Kd.M (Kd.int .u8) _ _ _ 86 [.int .u8 86] from rfl) (Reps.one (show Kd.M (Kd.int .u8) _ _ _ 49 [.int .u8 49] from rfl) (Reps.one (show Kd.M (Kd.int .u8) _ _ _ 1 [.int .u8 1] from rfl) (Reps.one (show Kd.M (Kd.int .u8) _ _ _ 1 [.int .u8 1] from rfl) (Reps.one (show Kd.M (Kd.int .u8) _ _ _ 1 [.int .u8 1] from rfl) (Reps.one (show Kd.M (Kd.int .u8) _ _ _ 0 [.int .u8 0] from rfl) (Reps.one (show Kd.M (Kd.int .u8) _ _ _ 1 [.int .u8 1] from rfl) (Reps.none _ _))))))))))); intro v307 w20 ho21 hb hg_ hnew_; clear hg_ hnew_; (first | rw [← Ny306.out] at ho21 | (simp only [Int.reduceToNat] at ho21; rw [← Ny306.out] at ho21)); replace qU := aM (Kd.R_below (by apply rX; exact (Kd.R_mono (zR15 (Kd.R_types qU.out qC.out (by decide))) (fun _ h_ => h_.1))) hb); replace qV := aM (Kd.R_below (by apply rX; exact (Kd.R_mono (zR15 (Kd.R_types qV.out qC.out (by decide))) (fun _ h_ => h_.1))) hb); replace qW := aM (Kd.R_below (by apply rX; exact (Kd.R_mono (zR15 (Kd.R_types qW.out qC.out (by decide))) (fun _ h_ => h_.1))) hb); replace qe := aM (Kd.R_below (by apply rX; exact (Kd.R_mono (zR15 (Kd.R_types qe.out qC.out (by decide))) (fun _ h_ => h_.1))) hb); replace qf := aM (Kd.R_below (by apply rX; exact (Kd.R_mono (zR15 (Kd.R_types qf.out qC.out (by decide))) (fun _ h_ => h_.1))) hb); replace qh := aM (Kd.R_below (by apply rX; exact (Kd.R_mono (zR15 (Kd.R_types qh.out qC.out (by decide))) (fun _ h_ => h_.1))) hb); replace qi := aM (Kd.R_below (by apply rX; exact (Kd.R_mono (zR15 (Kd.R_types qi.out qC.out (by decide))) (fun _ h_ => h_.1))) hb); have jE := aM (Kd.R_lower ho21 (below_size (zB HB))); replace qA := aM (blk_below (g := qD) (zb qA) hb); replace qC := aM (blk_below (g := qN) (o := .cells #[.int .i64 1, .int .i64 1, .slice qx y278.length qy, .int .i64 qX, .int .i64 qY, .slice qu qO.length qv, .slice qs qP.length qt, .int .i64 qZ, .int .i64 qa, .slice qq qQ.length qr, .slice qo qR.length qp, .int .i64 qc, .int .i64 qd, .slice qm qS.length qn, .slice qk qT.length ql] 28 (0, 0)) (by refine lZ ?_; apply zp15; refine lZ ?_; exact qC.out) hb); replace HB := aM (below_step (zB HB) hb); clear hb ho21))
 go_loopg [3, 11] k (fun kq v3 v11 w' => ∃ (qb : List Int) (qg : Int), v11 = .int .i64 qg ∧ Aside0 (swagelaw17_example.l0 kq qb qg 1 1 y278 qX qY qO qP qZ qa qQ qR qc qd qS qT = some (r1, r2, r3, r4, r5, r6, r7, r8, r9, r10, r11, r12, r13, r14, r15, r16)) ∧ Aside0 (kq ≤ k) ∧ Aside0 (Kd.R (Kd.int .u8) 5 w' w.heap.size (fun _ => True) v3 qb) ∧ Aside0 (Kd.R k48 48 w' w.heap.size (fun _ => True) (.slice qx y278.length qy) y278) ∧ Aside0 (Kd.R k63 63 w' w.heap.size (fun k_ => some k_ ≠ ((.slice qq qQ.length qr) : Value).ownBlock ∧ some k_ ≠ ((.slice qm qS.length qn) : Value).ownBlock) (.slice qu qO.length qv) qO) ∧ Aside0 (Kd.R (Kd.int .i64) 3 w' w.heap.size (fun k_ => some k_ ≠ ((.slice qo qR.length qp) : Value).ownBlock ∧ some k_ ≠ ((.slice qk qT.length ql) : Value).ownBlock) (.slice qs qP.length qt) qP) ∧ Aside0 (Kd.R k63 63 w' w.heap.size (fun k_ => some k_ ≠ ((.slice qu qO.length qv) : Value).ownBlock ∧ some k_ ≠ ((.slice qm qS.length qn) : Value).ownBlock) (.slice qq qQ.length qr) qQ) ∧ Aside0 (Kd.R (Kd.int .i64) 3 w' w.heap.size (fun k_ => some k_ ≠ ((.slice qs qP.length qt) : Value).ownBlock ∧ some k_ ≠ ((.slice qk qT.length ql) : Value).ownBlock) (.slice qo qR.length qp) qR) ∧ Aside0 (Kd.R k63 63 w' w.heap.size (fun k_ => some k_ ≠ ((.slice qu qO.length qv) : Value).ownBlock ∧ some k_ ≠ ((.slice qq qQ.length qr) : Value).ownBlock) (.slice qm qS.length qn) qS) ∧ Aside0 (Kd.R (Kd.int .i64) 3 w' w.heap.size (fun k_ => some k_ ≠ ((.slice qs qP.length qt) : Value).ownBlock ∧ some k_ ≠ ((.slice qo qR.length qp) : Value).ownBlock) (.slice qk qT.length ql) qT) ∧ Aside0 (w'.heap[qD]? = some (.cells #[.int .i64 0, .int .i64 0, (.slice none 0 0), .int .i64 0, .int .i64 0, (.slice none 0 0), (.slice none 0 0), .int .i64 0, .int .i64 0, (.slice none 0 0), (.slice none 0 0), .int .i64 0, .int .i64 0, (.slice none 0 0), (.slice none 0 0)] 28 (0, 0))) ∧ Aside0 (w'.heap[qN]? = some (.cells #[.int .i64 1, .int .i64 1, (.slice qx y278.length qy), .int .i64 qX, .int .i64 qY, (.slice qu qO.length qv), (.slice qs qP.length qt), .int .i64 qZ, .int .i64 qa, (.slice qq qQ.length qr), (.slice qo qR.length qp), .int .i64 qc, .int .i64 qd, (.slice qm qS.length qn), (.slice qk qT.length ql)] 28 (0, 0))) ∧ Aside0 (Below w.heap.size w w'))
 case atStart => exact ⟨(y306), (0), zT, H', ⟨Nat.le_refl _⟩, ⟨lR jE⟩, ⟨lR qU⟩, ⟨by apply rX; exact Kd.R_mono qV.out (fun _ hk => ⟨hk.1.2, hk.2⟩)⟩, ⟨by apply rX; exact Kd.R_mono qW.out (fun _ hk => ⟨hk.1.2, hk.2⟩)⟩, ⟨by apply rX; exact Kd.R_mono qe.out (fun _ hk => ⟨hk.1.2, hk.2⟩)⟩, ⟨by apply rX; exact Kd.R_mono qf.out (fun _ hk => ⟨hk.1.2, hk.2⟩)⟩, ⟨by apply rX; exact Kd.R_mono qh.out (fun _ hk => ⟨hk.1.2, hk.2⟩)⟩, ⟨by apply rX; exact Kd.R_mono qi.out (fun _ hk => ⟨hk.1.2, hk.2⟩)⟩, ⟨zb qA⟩, ⟨zb qC⟩, ⟨zB HB⟩⟩
 case round =>
  clear H'
  obtain ⟨qb, qg, rfl, HA, HK1, qM, qF, qG, qH, qI, qJ, qK, qL, qA, qC, HB⟩ := hrel
  cases gk with
  | zero => exact absurd HA.out (by simp [swagelaw17_example.l0])
  | succ k1 =>
   have H := HA.out
   clear HA
   simp only [swagelaw17_example.l0] at H
   by_cases c22 : qg < 3
   ·rw [if_pos c22] at H
    have c22b0 := decide_eq_true c22
    clear c22
    obtain ⟨y309, hy309⟩ : ∃ y_ : List Int, y_ = (([1, 1, 0, 0, 1, 0] : List Int)) := ⟨_, rfl⟩
    replace H : (if qb.length + y309.length < 140737488355328 then (swagelaw17_example.l0 k1 (qb ++ y309) (wrap64 (qg + 1)) 1 1 y278 qX qY qO qP qZ qa qQ qR qc qd qS qT) else (none)) = some (r1, r2, r3, r4, r5, r6, r7, r8, r9, r10, r11, r12, r13, r14, r15, r16) := zH hy309 H
    have Ny309 := aM hy309
    clear hy309
    by_cases c23 : qb.length + y309.length < 140737488355328
    ·rw [if_pos c23] at H
     have LMc23 := aM c23
     clear c23
     obtain ⟨y312, hy312⟩ : ∃ y_ : List Int, y_ = (qb ++ y309) := ⟨_, rfl⟩
     replace H : (swagelaw17_example.l0 k1 y312 (wrap64 (qg + 1)) 1 1 y278 qX qY qO qP qZ qa qQ qR qc qd qS qT) = some (r1, r2, r3, r4, r5, r6, r7, r8, r9, r10, r11, r12, r13, r14, r15, r16) := zH hy312 H
     have Ny312 := aM hy312
     clear hy312
     have H' := aM H
     clear H
     go_wp2_with (first | ((with_reducible refine gate_dst (N := 14) rfl ?_); refine Kd.R_lit (Kd.int .u8) _ 5 ?hg (N := 14) ?hd (xs := ([1, 1, 0, 0, 1, 0] : List Int)) (inner := [.int .u8 1, .int .u8 1, .int .u8 0, .int .u8 0, .int .u8 1, .int .u8 0]) (ok := fun _ => True) (okp := fun _ => True) ?hr ?hp (fun _ hk => hk) trivial (Below.refl _ _) (Nat.le_refl _) (by simp) ?_; (case hd => rfl); (case hg => rfl); (case hr => first | (go_simp; done) | (go_simp; rfl)); (case hp => exact (Reps.one (show Kd.M (Kd.int .u8) _ _ _ 1 [.int .u8 1] from rfl) (Reps.one (show Kd.M (Kd.int .u8) _ _ _ 1 [.int .u8 1] from rfl) (Reps.one (show Kd.M (Kd.int .u8) _ _ _ 0 [.int .u8 0] from rfl) (Reps.one (show Kd.M (Kd.int .u8) _ _ _ 0 [.int .u8 0] from rfl) (Reps.one (show Kd.M (Kd.int .u8) _ _ _ 1 [.int .u8 1] from rfl) (Reps.one (show Kd.M (Kd.int .u8) _ _ _ 0 [.int .u8 0] from rfl) (Reps.none _ _)))))))); intro v310 w24 ho25 hb hg_ hnew_; clear hg_ hnew_; (first | rw [← Ny309.out] at ho25 | (simp only [Int.reduceToNat] at ho25; rw [← Ny309.out] at ho25)); replace qF := aM (Kd.R_below (lR qF) hb); replace qG := aM (Kd.R_below (lR qG) hb); replace qH := aM (Kd.R_below (lR qH) hb); replace qI := aM (Kd.R_below (lR qI) hb); replace qJ := aM (Kd.R_below (lR qJ) hb); replace qK := aM (Kd.R_below (lR qK) hb); replace qL := aM (Kd.R_below (lR qL) hb); have qw := aM (Kd.R_lower (Kd.R_new' ho25 (Kd.R_lt (lR qM))) (below_size (zB HB))); replace qM := aM (Kd.R_elder' (lR qM) (Kd.R_base ho25) hb); replace qA := aM (blk_below (g := qD) (lK qA) hb); replace qC := aM (blk_below (g := qN) (lK qC) hb); replace HB := aM (below_step (zB HB) hb); clear hb ho25; obtain ⟨jH, jI, eo27⟩ := Kd.R_slice qw.out; subst eo27) | ((with_reducible refine gate_builtin (b := .append) (xs := #[.tmp 13, .tmp 14]) rfl ?_); at_builtin; refine Kd.R_append_rows (Kd.int .u8) (w0 := w) w.heap.size rfl (.tmp 13) (.tmp 14) 31 5 (.int .u8 0) 1 rfl Try.underlying31 info5 rfl (by decide) (by omega) u3 qb y309 _ _ _ (fun k_ => some k_ ≠ (.slice jH y309.length jI : Value).ownBlock) (fun _ => False) rfl rfl ?aO ?aR (fun _ _ h => h) (fun _ h => h.elim) ?aF ?aB ?aS ?aL ?_; (case aR => repeat (first | exact (Kd.R_reads' qw.out).2.2 | (with_reducible refine Kd.C_alloc ?_ _) | (with_reducible refine Kd.C_drewN ?_ _) | (with_reducible refine Kd.C_drew ?_))); (case aB => exact (zB HB)); (case aF => exact (fun k_ hk => Kd.fresh' (Kd.R_lt (lR qw)) k_ hk)); (case aO => exact (by apply rX; exact Kd.R_mono qM.out (fun _ hk => hk.2))); (case aS => exact (below_size (zB HB))); (case aL => have := LMc23.out; omega); intro v313 w26 ho hb hg hat; rw [← Ny312.out] at ho; replace qF := aM (Kd.R_over' (lR qF) (Kd.R_typed (lR qM)) (by decide) hg); replace qG := aM (Kd.R_over' (lR qG) (Kd.R_typed (lR qM)) (by decide) hg); replace qH := aM (Kd.R_over' (lR qH) (Kd.R_typed (lR qM)) (by decide) hg); replace qI := aM (Kd.R_over' (lR qI) (Kd.R_typed (lR qM)) (by decide) hg); replace qJ := aM (Kd.R_over' (lR qJ) (Kd.R_typed (lR qM)) (by decide) hg); replace qK := aM (Kd.R_over' (lR qK) (Kd.R_typed (lR qM)) (by decide) hg); replace qL := aM (Kd.R_over' (lR qL) (Kd.R_typed (lR qM)) (by decide) hg); replace qA := aM (blk_grown (g := qD) (lK qA) hg (Kd.R_ne qM.out qA.out (by decide))); replace qC := aM (blk_grown (g := qN) (lK qC) hg (Kd.R_ne qM.out qC.out (by decide))); replace qw := aM (Kd.R_after (ok := (fun _ => True)) (lR qw) hg hat); replace HB := aM (hb); have jF := aM (ho); clear qM; clear ho hb hg hat))
     go_roundg k1
     case measure => have := HK1.out; omega
     case rel => exact ⟨(y312), (wrap64 (qg + 1)), zT, H', ⟨by have := HK1.out; omega⟩, ⟨by apply rX; exact Kd.R_mono jF.out (fun _ hk => trivial)⟩, ⟨lR qF⟩, ⟨lR qG⟩, ⟨lR qH⟩, ⟨lR qI⟩, ⟨lR qJ⟩, ⟨lR qK⟩, ⟨lR qL⟩, ⟨zb qA⟩, ⟨zb qC⟩, ⟨zB HB⟩⟩
    ·rw [if_neg c23] at H
     exact absurd H (by simp)
   ·rw [if_neg c22] at H
    have c22b0 := decide_eq_false c22
    clear c22
    obtain ⟨y315, hy315⟩ : ∃ y_ : List Int, y_ = (([3, 93] : List Int)) := ⟨_, rfl⟩
    replace H : (if qb.length + y315.length < 140737488355328 then (some (1, 1, y278, qX, qY, qO, qP, qZ, qa, qQ, qR, qc, qd, qS, qT, (qb ++ y315))) else (none)) = some (r1, r2, r3, r4, r5, r6, r7, r8, r9, r10, r11, r12, r13, r14, r15, r16) := zH hy315 H
    have Ny315 := aM hy315
    clear hy315
    by_cases c28 : qb.length + y315.length < 140737488355328
    ·rw [if_pos c28] at H
     have LMc28 := aM c28
     clear c28
     obtain ⟨y318, hy318⟩ : ∃ y_ : List Int, y_ = (qb ++ y315) := ⟨_, rfl⟩
     replace H : (some (1, 1, y278, qX, qY, qO, qP, qZ, qa, qQ, qR, qc, qd, qS, qT, y318)) = some (r1, r2, r3, r4, r5, r6, r7, r8, r9, r10, r11, r12, r13, r14, r15, r16) := zH hy318 H
     have Ny318 := aM hy318
     clear hy318
     simp only [Option.some.injEq, Prod.mk.injEq] at H
     obtain ⟨rfl, rfl, rfl, rfl, rfl, rfl, rfl, rfl, rfl, rfl, rfl, rfl, rfl, rfl, rfl, rfl⟩ := H
     try go_wp2
     have n0_ := aM (Kd.R_drew qM.out)
     have n1_ := aM (Kd.R_drew qF.out)
     have n2_ := aM (Kd.R_drew qG.out)
     have n3_ := aM (Kd.R_drew qH.out)
     have n4_ := aM (Kd.R_drew qI.out)
     have n5_ := aM (Kd.R_drew qJ.out)
     have n6_ := aM (Kd.R_drew qK.out)
     have n7_ := aM (Kd.R_drew qL.out)
     have n8_ := aM (blk_drew qA.out)
     have n9_ := aM (blk_drew qC.out)
     have n10_ := aM (below_drew1 HB.out)
     clear qM
     clear qF
     clear qG
     clear qH
     clear qI
     clear qJ
     clear qK
     clear qL
     clear qA
     clear qC
     clear HB
     have qM := n0_
     have qF := n1_
     have qG := n2_
     have qH := n3_
     have qI := n4_
     have qJ := n5_
     have qK := n6_
     have qL := n7_
     have qA := n8_
     have qC := n9_
     have HB := n10_
     clear n0_ n1_ n2_ n3_ n4_ n5_ n6_ n7_ n8_ n9_ n10_
     refine start_ (n := 6) (S := fun w' => w'.cell? ⟨qN, 0, none⟩ = some (.int .i64 1) ∧ w'.cell? ⟨qN, 1, none⟩ = some (.int .i64 1) ∧ w'.cell? ⟨qN, 2, none⟩ = some (.slice qx y278.length qy) ∧ w'.cell? ⟨qN, 3, none⟩ = some (.int .i64 qX) ∧ w'.cell? ⟨qN, 4, none⟩ = some (.int .i64 qY) ∧ w'.cell? ⟨qN, 5, none⟩ = some (.slice qu qO.length qv) ∧ w'.cell? ⟨qN, 6, none⟩ = some (.slice qs qP.length qt) ∧ w'.cell? ⟨qN, 7, none⟩ = some (.int .i64 qZ) ∧ w'.cell? ⟨qN, 8, none⟩ = some (.int .i64 qa) ∧ w'.cell? ⟨qN, 9, none⟩ = some (.slice qq qQ.length qr) ∧ w'.cell? ⟨qN, 10, none⟩ = some (.slice qo qR.length qp) ∧ w'.cell? ⟨qN, 11, none⟩ = some (.int .i64 qc) ∧ w'.cell? ⟨qN, 12, none⟩ = some (.int .i64 qd) ∧ w'.cell? ⟨qN, 13, none⟩ = some (.slice qm qS.length qn) ∧ w'.cell? ⟨qN, 14, none⟩ = some (.slice qk qT.length ql)) (ds := []) (bs 6 0) zk rfl rfl ⟨(blk_cell qC.out 0).trans rfl, (blk_cell qC.out 1).trans rfl, (blk_cell qC.out 2).trans rfl, (blk_cell qC.out 3).trans rfl, (blk_cell qC.out 4).trans rfl, (blk_cell qC.out 5).trans rfl, (blk_cell qC.out 6).trans rfl, (blk_cell qC.out 7).trans rfl, (blk_cell qC.out 8).trans rfl, (blk_cell qC.out 9).trans rfl, (blk_cell qC.out 10).trans rfl, (blk_cell qC.out 11).trans rfl, (blk_cell qC.out 12).trans rfl, (blk_cell qC.out 13).trans rfl, (blk_cell qC.out 14).trans rfl⟩ (fun hHeld => ?_)
     generalize wr.drew = w29 at qM qF qG qH qI qJ qK qL qA qC HB hHeld ⊢
     refine pure_ (i := 1) (N := some 18) (v := ?_) (a' := ?_) (bs 6 2) rfl rfl zk (fun _ _ _ h => h) (Or.inl ⟨by rfl, ?_⟩) ?_ ?_
     rotate_left
     ·intro w'
      go_simp
      with_reducible rfl
     rotate_left
     ·simp only [Act.put, List.setIfInBounds_toArray, List.set_cons_zero, List.set_cons_succ, i64_w, i32_w]
      rfl
     refine take_ (i := 0) (N := some 17) (v := ?_) (a' := ?_) (bs 6 3) rfl rfl zk (fun _ _ _ h => h) (Or.inl ⟨by rfl, ?_⟩) hHeld ?_ ?_
     rotate_left
     ·rintro w' ⟨s0, s1, s2, s3, s4, s5, s6, s7, s8, s9, s10, s11, s12, s13, s14⟩
      go_simp
      with_reducible rfl
     rotate_left
     ·simp only [Act.put, List.setIfInBounds_toArray, List.set_cons_zero, List.set_cons_succ, i64_w, i32_w]
      rfl
     refine one_ (i := 2) (N := some 19) (bs 6 7) rfl rfl zk (by decide) (fun K hK => ?_)
     refine Kd.R_lit_step (Kd.int .u8) _ 5 ?hg (N := 19) ?hd (xs := ([3, 93] : List Int)) (inner := [.int .u8 3, .int .u8 93]) (ok := fun _ => True) (okp := fun _ => True) ?hr ?hp (fun _ hk => hk) trivial (Below.refl _ _) (Nat.le_refl _) (by simp) ?_; (case hd => rfl); (case hg => rfl); (case hr => first | (go_simp; done) | (go_simp; rfl)); (case hp => exact (Reps.one (show Kd.M (Kd.int .u8) _ _ _ 3 [.int .u8 3] from rfl) (Reps.one (show Kd.M (Kd.int .u8) _ _ _ 93 [.int .u8 93] from rfl) (Reps.none _ _))))
     intro v316 w30 ho31 hb hg_ hnew_
     clear hg_ hnew_
     (first | rw [← Ny315.out] at ho31 | (simp only [Int.reduceToNat] at ho31; rw [← Ny315.out] at ho31))
     have n0_ := aM (Kd.R_elder' (lR qM) (Kd.R_base ho31) hb)
     have n1_ := aM (Kd.R_below (lR qF) hb)
     have n2_ := aM (Kd.R_below (lR qG) hb)
     have n3_ := aM (Kd.R_below (lR qH) hb)
     have n4_ := aM (Kd.R_below (lR qI) hb)
     have n5_ := aM (Kd.R_below (lR qJ) hb)
     have n6_ := aM (Kd.R_below (lR qK) hb)
     have n7_ := aM (Kd.R_below (lR qL) hb)
     have n8_ := aM (Kd.R_lower (Kd.R_new' ho31 (Kd.R_lt (lR qM))) (below_size (zB HB)))
     have n9_ := aM (blk_below (g := qD) (lK qA) hb)
     have n10_ := aM (blk_below (g := qN) (lK qC) hb)
     have n11_ := aM (below_step (zB HB) hb)
     clear qM
     clear qF
     clear qG
     clear qH
     clear qI
     clear qJ
     clear qK
     clear qL
     clear qA
     clear qC
     clear HB
     have qM := n0_
     have qF := n1_
     have qG := n2_
     have qH := n3_
     have qI := n4_
     have qJ := n5_
     have qK := n6_
     have qL := n7_
     have qj := n8_
     have qA := n9_
     have qC := n10_
     have HB := n11_
     clear n0_ n1_ n2_ n3_ n4_ n5_ n6_ n7_ n8_ n9_ n10_ n11_
     clear hb ho31
     obtain ⟨jJ, jK, eo33⟩ := Kd.R_slice qj.out
     (first | subst eo33 | (injection eo33 with f1_ f2_ f3_; have f4_ := f1_.symm; have f5_ := f3_.symm; clear f1_ f2_ f3_; subst f4_; subst f5_))
     refine hK.out _ _ (zc15 qC.out) (fun hHeld => ?_)
     clear hK K
     refine norm_ (a' := ?_) ?_ ?_
     rotate_left
     ·show Act.put _ (some 19) _ = _
      simp only [Act.put, List.setIfInBounds_toArray, List.set_cons_zero, List.set_cons_succ, i64_w, i32_w]
      rfl
     refine one_ (i := 3) (N := some 20) (bs 6 15) rfl rfl zk (by decide) (fun K hK => ?_)
     refine Kd.R_append_rows_step (Kd.int .u8) (w0 := w) w.heap.size (by rfl) (.tmp 18) (.tmp 19) 31 5 (.int .u8 0) 1 rfl Try.underlying31 info5 rfl (by decide) (by omega) u3 qb y315 _ _ _ (fun k_ => some k_ ≠ (.slice jJ y315.length jK : Value).ownBlock) (fun _ => False) rfl rfl ?aO ?aR (fun _ _ h => h) (fun _ h => h.elim) ?aF ?aB ?aS ?aL ?_
     (case aR => repeat (first | exact (Kd.R_reads' qj.out).2.2 | (with_reducible refine Kd.C_alloc ?_ _) | (with_reducible refine Kd.C_drewN ?_ _) | (with_reducible refine Kd.C_drew ?_)))
     (case aB => exact (zB HB))
     (case aF => exact (fun k_ hk => Kd.fresh' (Kd.R_lt (lR qj)) k_ hk))
     (case aO => exact (by apply rX; exact Kd.R_mono qM.out (fun _ hk => hk.2)))
     (case aS => exact (below_size (zB HB)))
     (case aL => have := LMc28.out; omega)
     intro v319 w32 ho hb hg hat
     rw [← Ny318.out] at ho
     have n0_ := aM (Kd.R_over' (lR qF) (Kd.R_typed (lR qM)) (by decide) hg)
     have n1_ := aM (Kd.R_over' (lR qG) (Kd.R_typed (lR qM)) (by decide) hg)
     have n2_ := aM (Kd.R_over' (lR qH) (Kd.R_typed (lR qM)) (by decide) hg)
     have n3_ := aM (Kd.R_over' (lR qI) (Kd.R_typed (lR qM)) (by decide) hg)
     have n4_ := aM (Kd.R_over' (lR qJ) (Kd.R_typed (lR qM)) (by decide) hg)
     have n5_ := aM (Kd.R_over' (lR qK) (Kd.R_typed (lR qM)) (by decide) hg)
     have n6_ := aM (Kd.R_over' (lR qL) (Kd.R_typed (lR qM)) (by decide) hg)
     have n7_ := aM (blk_grown (g := qD) (lK qA) hg (Kd.R_ne qM.out qA.out (by decide)))
     have n8_ := aM (blk_grown (g := qN) (lK qC) hg (Kd.R_ne qM.out qC.out (by decide)))
     have n9_ := aM (Kd.R_after (ok := (fun _ => True)) (lR qj) hg hat)
     have n10_ := aM (hb)
     have n11_ := aM (ho)
     clear qF
     clear qG
     clear qH
     clear qI
     clear qJ
     clear qK
     clear qL
     clear qA
     clear qC
     clear qj
     clear HB
     clear qM
     have qF := n0_
     have qG := n1_
     have qH := n2_
     have qI := n3_
     have qJ := n4_
     have qK := n5_
     have qL := n6_
     have qA := n7_
     have qC := n8_
     have qj := n9_
     have HB := n10_
     have jG := n11_
     clear n0_ n1_ n2_ n3_ n4_ n5_ n6_ n7_ n8_ n9_ n10_ n11_
     clear ho hb hg hat
     refine hK.out _ _ (zc15 qC.out) (fun hHeld => ?_)
     clear hK K
     refine norm_ (a' := ?_) ?_ ?_
     rotate_left
     ·show Act.put _ (some 20) _ = _
      simp only [Act.put, List.setIfInBounds_toArray, List.set_cons_zero, List.set_cons_succ, i64_w, i32_w]
      rfl
     refine one_ (i := 4) (N := none) (bs 6 31) rfl rfl zk (by decide) (fun K hK => ?_)
     have yC : w32.cell? ⟨qD, 0, none⟩ = some (.int .i64 0) := (blk_cell qA.out 0).trans rfl
     have jx := blk_frozen qA.out 0
     have jN := qB.out
     have jO := qE.out
     have yD : w32.cell? ⟨qD, 1, none⟩ = some (.int .i64 0) := (blk_cell qA.out 1).trans rfl
     have jy := blk_frozen qA.out 1
     have jP := qB.out
     have jQ := qE.out
     have yE : w32.cell? ⟨qD, 2, none⟩ = some (.slice none 0 0) := (blk_cell qA.out 2).trans rfl
     have jz := blk_frozen qA.out 2
     have jR := qB.out
     have jS := qE.out
     have yF : w32.cell? ⟨qD, 3, none⟩ = some (.int .i64 0) := (blk_cell qA.out 3).trans rfl
     have j0 := blk_frozen qA.out 3
     have jT := qB.out
     have jU := qE.out
     have yG : w32.cell? ⟨qD, 4, none⟩ = some (.int .i64 0) := (blk_cell qA.out 4).trans rfl
     have j1 := blk_frozen qA.out 4
     have jV := qB.out
     have jW := qE.out
     have yH : w32.cell? ⟨qD, 5, none⟩ = some (.slice none 0 0) := (blk_cell qA.out 5).trans rfl
     have j2 := blk_frozen qA.out 5
     have jX := qB.out
     have jY := qE.out
     have yI : w32.cell? ⟨qD, 6, none⟩ = some (.slice none 0 0) := (blk_cell qA.out 6).trans rfl
     have j3 := blk_frozen qA.out 6
     have jZ := qB.out
     have ja := qE.out
     have yJ : w32.cell? ⟨qD, 7, none⟩ = some (.int .i64 0) := (blk_cell qA.out 7).trans rfl
     have j4 := blk_frozen qA.out 7
     have jb := qB.out
     have jc := qE.out
     have yK : w32.cell? ⟨qD, 8, none⟩ = some (.int .i64 0) := (blk_cell qA.out 8).trans rfl
     have j5 := blk_frozen qA.out 8
     have jd := qB.out
     have je := qE.out
     have yL : w32.cell? ⟨qD, 9, none⟩ = some (.slice none 0 0) := (blk_cell qA.out 9).trans rfl
     have j6 := blk_frozen qA.out 9
     have jf := qB.out
     have jg := qE.out
     have yM : w32.cell? ⟨qD, 10, none⟩ = some (.slice none 0 0) := (blk_cell qA.out 10).trans rfl
     have j7 := blk_frozen qA.out 10
     have jh := qB.out
     have ji := qE.out
     have yN : w32.cell? ⟨qD, 11, none⟩ = some (.int .i64 0) := (blk_cell qA.out 11).trans rfl
     have j8 := blk_frozen qA.out 11
     have jj := qB.out
     have jk := qE.out
     have yO : w32.cell? ⟨qD, 12, none⟩ = some (.int .i64 0) := (blk_cell qA.out 12).trans rfl
     have j9 := blk_frozen qA.out 12
     have jl := qB.out
     have jm := qE.out
     have yP : w32.cell? ⟨qD, 13, none⟩ = some (.slice none 0 0) := (blk_cell qA.out 13).trans rfl
     have yA := blk_frozen qA.out 13
     have jn := qB.out
     have jo := qE.out
     have yQ : w32.cell? ⟨qD, 14, none⟩ = some (.slice none 0 0) := (blk_cell qA.out 14).trans rfl
     have yB := blk_frozen qA.out 14
     have jp := qB.out
     have jq := qE.out
     refine skip_ (w1 := ?_) (by rfl) rfl ?_ ?_
     rotate_left
     ·go_simp
      rfl
     refine hK.out _ _ ⟨((zf15 qB.out).trans (hHeld.1)), ((zf15 qB.out).trans (hHeld.2.1)), ((zf15 qB.out).trans (hHeld.2.2.1)), ((zf15 qB.out).trans (hHeld.2.2.2.1)), ((zf15 qB.out).trans (hHeld.2.2.2.2.1)), ((zf15 qB.out).trans (hHeld.2.2.2.2.2.1)), ((zf15 qB.out).trans (hHeld.2.2.2.2.2.2.1)), ((zf15 qB.out).trans (hHeld.2.2.2.2.2.2.2.1)), ((zf15 qB.out).trans (hHeld.2.2.2.2.2.2.2.2.1)), ((zf15 qB.out).trans (hHeld.2.2.2.2.2.2.2.2.2.1)), ((zf15 qB.out).trans (hHeld.2.2.2.2.2.2.2.2.2.2.1)), ((zf15 qB.out).trans (hHeld.2.2.2.2.2.2.2.2.2.2.2.1)), ((zf15 qB.out).trans (hHeld.2.2.2.2.2.2.2.2.2.2.2.2.1)), ((zf15 qB.out).trans (hHeld.2.2.2.2.2.2.2.2.2.2.2.2.2.1)), ((zf15 qB.out).trans (hHeld.2.2.2.2.2.2.2.2.2.2.2.2.2.2))⟩ (fun hHeld => ?_)
     clear hK K
     refine pure_ (i := 5) (N := some 1) (v := ?_) (a' := ?_) (bs 6 63) rfl rfl zk (fun _ _ _ h => h) (Or.inl ⟨by rfl, ?_⟩) ?_ ?_
     rotate_left
     ·intro w'
      go_simp
      with_reducible rfl
     rotate_left
     ·simp only [Act.put, List.setIfInBounds_toArray, List.set_cons_zero, List.set_cons_succ, i64_w, i32_w]
      rfl
     refine done_ zk ?_
     try go_wp2
     refine bodyPost_ret (results_ct rfl _ _ qD 28 #[.int .i64 1, .int .i64 1, .slice qx y278.length qy, .int .i64 qX, .int .i64 qY, .slice qu qO.length qv, .slice qs qP.length qt, .int .i64 qZ, .int .i64 qa, .slice qq qQ.length qr, .slice qo qR.length qp, .int .i64 qc, .int .i64 qd, .slice qm qS.length qn, .slice qk qT.length ql] (0, 0) _ rfl (by refine lZ ?_; apply zp15; refine lZ ?_; exact qA.out) Try.underlying28 rfl zk) rfl ?_
     exact ⟨_, _, _, _, _, _, _, _, zE, by apply rX; exact Kd.R_mono (zR15 (Kd.R_types qF.out qA.out (by decide))) (fun _ hk => trivial), by apply rX; exact Kd.R_mono (zR15 (Kd.R_types qG.out qA.out (by decide))) (fun _ hk => ⟨hk.1.1, hk.1.2⟩), by apply rX; exact Kd.R_mono (zR15 (Kd.R_types qH.out qA.out (by decide))) (fun _ hk => ⟨hk.1.1, hk.1.2⟩), by apply rX; exact Kd.R_mono (zR15 (Kd.R_types qI.out qA.out (by decide))) (fun _ hk => ⟨hk.1.1, hk.1.2⟩), by apply rX; exact Kd.R_mono (zR15 (Kd.R_types qJ.out qA.out (by decide))) (fun _ hk => ⟨hk.1.1, hk.1.2⟩), by apply rX; exact Kd.R_mono (zR15 (Kd.R_types qK.out qA.out (by decide))) (fun _ hk => ⟨hk.1.1, hk.1.2⟩), by apply rX; exact Kd.R_mono (zR15 (Kd.R_types qL.out qA.out (by decide))) (fun _ hk => ⟨hk.1.1, hk.1.2⟩), by apply rX; exact Kd.R_mono (zR15 (Kd.R_types jG.out qA.out (by decide))) (fun _ hk => trivial), zB HB⟩
    ·rw [if_neg c28] at H
     exact absurd H (by simp)

end Go.Proofs.Ytccbdcbeinkjgaa.XA
end

section
namespace Go.Proofs.Ytccbdcbeinkjgaa.XA
open Go.Proofs.Ytccbdcbeinkjgaa.Lift Go.RowKit Go.Proofs.YtccbdcbeinkjgaaW.PrintWords Go.Proofs.YtccbdcbeinkjgaaW.PrintLast Go.Proofs.YtccbdcbeinkjgaaW.PrintMore
attribute [local go_sem] max2_int min2_int max_two min_two max_three min_three max_four min_four
set_option linter.unusedVariables false
set_option linter.unusedSimpArgs false

attribute [local go_sem high] eqA63
/-! ### swageref08_Same: function 48 -/
mutual
def swageref08_Same.j0 : Nat → Bool → Int → Int → List (S63) → List Int → Int → Int → List (S63) → List Int → Option (Bool)
 | 0, _, _, _, _, _, _, _, _, _ => none
 | k + 1, x36, qU, qV, qP, qS, qW, qX, qQ, qT => if x36 = true then (some false) else (swageref08_Same.l0 k 0 qU qV qP qS qW qX qQ qT)
def swageref08_Same.l0 : Nat → Int → Int → Int → List (S63) → List Int → Int → Int → List (S63) → List Int → Option (Bool)
 | 0, _, _, _, _, _, _, _, _, _ => none
 | k + 1, x5, qU, qV, qP, qS, qW, qX, qQ, qT => if x5 < (qP.length : Int) then (if 0 ≤ x5 then (if x5 < (qQ.length : Int) then (if (!(((rd_T63 qP x5).f0) == ((rd_T63 qQ x5).f0)) || (!(((rd_T63 qP x5).f1) == ((rd_T63 qQ x5).f1)) || (!(((rd_T63 qP x5).f2) == ((rd_T63 qQ x5).f2)) || (!(((rd_T63 qP x5).f3) == ((rd_T63 qQ x5).f3)) || (!(((rd_T63 qP x5).f4) == ((rd_T63 qQ x5).f4))))))) = true then (some false) else (swageref08_Same.l0 k (wrap64 (x5 + 1)) qU qV qP qS qW qX qQ qT)) else (none)) else (none)) else (swageref08_Same.l1 k 0 qU qV qP qS qW qX qQ qT)
def swageref08_Same.l1 : Nat → Int → Int → Int → List (S63) → List Int → Int → Int → List (S63) → List Int → Option (Bool)
 | 0, _, _, _, _, _, _, _, _, _ => none
 | k + 1, x6, qU, qV, qP, qS, qW, qX, qQ, qT => if x6 < (qS.length : Int) then (if 0 ≤ x6 then (if x6 < (qT.length : Int) then (if (rd qS x6) = (rd qT x6) then (swageref08_Same.l1 k (wrap64 (x6 + 1)) qU qV qP qS qW qX qQ qT) else (some false)) else (none)) else (none)) else (some true)
end
def swageref08_Same.f (k : Nat) (qL : Int) (qM : Int) (qB : List (S63)) (qF : List Int) (qN : Int) (qO : Int) (qC : List (S63)) (qG : List Int) : Option (Bool) := if qL = qN then (if qM = qO then (if (qB.length : Int) = (qC.length : Int) then (swageref08_Same.j0 k ((qF.length : Int) != (qG.length : Int)) qL qM qB qF qN qO qC qG) else (swageref08_Same.j0 k true qL qM qB qF qN qO qC qG)) else (swageref08_Same.j0 k true qL qM qB qF qN qO qC qG)) else (swageref08_Same.j0 k true qL qM qB qF qN qO qC qG)
theorem swageref08_Same.mono_l : ∀ k, (∀ y0 y1 y2 y3 y4 y5 y6 y7 y8, LeO (swageref08_Same.j0 k y0 y1 y2 y3 y4 y5 y6 y7 y8) (swageref08_Same.j0 (k + 1) y0 y1 y2 y3 y4 y5 y6 y7 y8)) ∧ (∀ y0 y1 y2 y3 y4 y5 y6 y7 y8, LeO (swageref08_Same.l0 k y0 y1 y2 y3 y4 y5 y6 y7 y8) (swageref08_Same.l0 (k + 1) y0 y1 y2 y3 y4 y5 y6 y7 y8)) ∧ (∀ y0 y1 y2 y3 y4 y5 y6 y7 y8, LeO (swageref08_Same.l1 k y0 y1 y2 y3 y4 y5 y6 y7 y8) (swageref08_Same.l1 (k + 1) y0 y1 y2 y3 y4 y5 y6 y7 y8))
 | 0 => ⟨fun _ _ _ _ _ _ _ _ _ r h => by simp [swageref08_Same.j0] at h, fun _ _ _ _ _ _ _ _ _ r h => by simp [swageref08_Same.l0] at h, fun _ _ _ _ _ _ _ _ _ r h => by simp [swageref08_Same.l1] at h⟩
 | k + 1 => by
  obtain ⟨ih0, ih1, ih2⟩ := swageref08_Same.mono_l k
  refine ⟨?_, ?_, ?_⟩
  ·intro y0 y1 y2 y3 y4 y5 y6 y7 y8
   unfold swageref08_Same.j0
   exact zM
  ·intro y0 y1 y2 y3 y4 y5 y6 y7 y8
   unfold swageref08_Same.l0
   exact zM
  ·intro y0 y1 y2 y3 y4 y5 y6 y7 y8
   unfold swageref08_Same.l1
   exact zM
theorem swageref08_Same.mono : ∀ a0 a1 a2 a3 a4 a5 a6 a7 k, LeO (swageref08_Same.f k a0 a1 a2 a3 a4 a5 a6 a7) (swageref08_Same.f (k + 1) a0 a1 a2 a3 a4 a5 a6 a7) := by
 intro a0 a1 a2 a3 a4 a5 a6 a7 k
 obtain ⟨ih0, ih1, ih2⟩ := swageref08_Same.mono_l k
 unfold swageref08_Same.f
 exact zM
set_option maxHeartbeats 8000000 in
set_option maxRecDepth 100000 in
theorem swageref08_Same.calls (k : Nat) (qL : Int) (qM : Int) (qY : Option Addr) (qZ : Nat) (qB : List (S63)) (qa : Option Addr) (qb : Nat) (qF : List Int) (qN : Int) (qO : Int) (qc : Option Addr) (qd : Nat) (qC : List (S63)) (qe : Option Addr) (qf : Nat) (qG : List Int) (r : Bool) (w : World) (qh : Kd.C k63 w qY qB.length qB) (qi : qB.length ≤ qZ) (qj : Kd.C (Kd.int .i64) w qa qF.length qF) (qk : qF.length ≤ qb) (ql : Kd.C k63 w qc qC.length qC) (qm : qC.length ≤ qd) (qn : Kd.C (Kd.int .i64) w qe qG.length qG) (qo : qG.length ≤ qf) (h : swageref08_Same.f k qL qM qB qF qN qO qC qG = some r) :
  Calls Try.prog 48 #[.agg #[.int .i64 qL, .int .i64 qM, .slice qY qB.length qZ, .slice qa qF.length qb], .agg #[.int .i64 qN, .int .i64 qO, .slice qc qC.length qd, .slice qe qG.length qf]] w fun e w' => e = .returned (.bool r) ∧ Below w.heap.size w w' := by
 have hu26 := Try.underlying26
 have hu63 := Try.underlying63
 have qp := aM qh
 have jX := aM qi
 clear qh qi
 have qq := aM qj
 have jY := aM qk
 clear qj qk
 have qr := aM ql
 have jZ := aM qm
 clear ql qm
 have qs := aM qn
 have ja := aM qo
 clear qn qo
 have HB := aM (Below.refl w.heap.size w)
 have H : (if qL = qN then (if qM = qO then (if (qB.length : Int) = (qC.length : Int) then (swageref08_Same.j0 k ((qF.length : Int) != (qG.length : Int)) qL qM qB qF qN qO qC qG) else (swageref08_Same.j0 k true qL qM qB qF qN qO qC qG)) else (swageref08_Same.j0 k true qL qM qB qF qN qO qC qG)) else (swageref08_Same.j0 k true qL qM qB qF qN qO qC qG)) = some r := h
 clear h
 have HC3 := aM H
 clear H
 go_enter Try.func48, Try.ntmps48
 go_upto_region 1 with (first | ((with_reducible refine gate_dst (N := 2) rfl ?_); (try (refine gate_guard (by rfl) ?_; dsimp only)); refine box_event rfl (N := 2) rfl (cs := #[.int .i64 qL, .int .i64 qM, .slice qY qB.length qZ, .slice qa qF.length qb]) (t := 26) zG ?_; intro qH hg w4 hbox hb; have qA := aM (hbox); have qt := aM ((by rw [hg]; exact (below_size (lB HB)) : w.heap.size ≤ qH)); have qu := aM ((by rw [hg]; exact (below_size (lB HB)) : w.heap.size ≤ qH)); replace HB := aM (below_step (lB HB) hb); clear hb hbox hg) | ((with_reducible refine gate_dst (N := 3) rfl ?_); (try (refine gate_guard (by rfl) ?_; dsimp only)); refine box_event rfl (N := 3) rfl (cs := #[.int .i64 qN, .int .i64 qO, .slice qc qC.length qd, .slice qe qG.length qf]) (t := 26) zG ?_; intro qR hg w5 hbox hb; have qE := aM (hbox); have qv := aM ((by rw [hg]; exact (below_size (zB HB)) : w.heap.size ≤ qR)); have qw := aM ((by rw [hg]; exact (below_size (zB HB)) : w.heap.size ≤ qR)); replace HB := aM (below_step (zB HB) hb); have qJ := aM ((by rw [hg]; exact Nat.ne_of_lt (blk_lt (g := qH) (lK qA)) : qH ≠ qR)); have qK := aM ((by rw [hg]; exact Nat.ne_of_gt (blk_lt (g := qH) (lK qA)) : qR ≠ qH)); replace qA := aM (blk_below (g := qH) (lK qA) hb); clear hb hbox hg))
 repeat (go_quiet (first | ((with_reducible refine gate_dst (N := 2) rfl ?_); (try (refine gate_guard (by rfl) ?_; dsimp only)); refine box_event rfl (N := 2) rfl (cs := #[.int .i64 qL, .int .i64 qM, .slice qY qB.length qZ, .slice qa qF.length qb]) (t := 26) zG ?_; intro qH hg w4 hbox hb; have qA := aM (hbox); have qt := aM ((by rw [hg]; exact (below_size (lB HB)) : w.heap.size ≤ qH)); have qu := aM ((by rw [hg]; exact (below_size (lB HB)) : w.heap.size ≤ qH)); replace HB := aM (below_step (lB HB) hb); clear hb hbox hg) | ((with_reducible refine gate_dst (N := 3) rfl ?_); (try (refine gate_guard (by rfl) ?_; dsimp only)); refine box_event rfl (N := 3) rfl (cs := #[.int .i64 qN, .int .i64 qO, .slice qc qC.length qd, .slice qe qG.length qf]) (t := 26) zG ?_; intro qR hg w5 hbox hb; have qE := aM (hbox); have qv := aM ((by rw [hg]; exact (below_size (zB HB)) : w.heap.size ≤ qR)); have qw := aM ((by rw [hg]; exact (below_size (zB HB)) : w.heap.size ≤ qR)); replace HB := aM (below_step (zB HB) hb); have qJ := aM ((by rw [hg]; exact Nat.ne_of_lt (blk_lt (g := qH) (lK qA)) : qH ≠ qR)); have qK := aM ((by rw [hg]; exact Nat.ne_of_gt (blk_lt (g := qH) (lK qA)) : qR ≠ qH)); replace qA := aM (blk_below (g := qH) (lK qA) hb); clear hb hbox hg)); go_upto_region 1 with (first | ((with_reducible refine gate_dst (N := 2) rfl ?_); (try (refine gate_guard (by rfl) ?_; dsimp only)); refine box_event rfl (N := 2) rfl (cs := #[.int .i64 qL, .int .i64 qM, .slice qY qB.length qZ, .slice qa qF.length qb]) (t := 26) zG ?_; intro qH hg w4 hbox hb; have qA := aM (hbox); have qt := aM ((by rw [hg]; exact (below_size (lB HB)) : w.heap.size ≤ qH)); have qu := aM ((by rw [hg]; exact (below_size (lB HB)) : w.heap.size ≤ qH)); replace HB := aM (below_step (lB HB) hb); clear hb hbox hg) | ((with_reducible refine gate_dst (N := 3) rfl ?_); (try (refine gate_guard (by rfl) ?_; dsimp only)); refine box_event rfl (N := 3) rfl (cs := #[.int .i64 qN, .int .i64 qO, .slice qc qC.length qd, .slice qe qG.length qf]) (t := 26) zG ?_; intro qR hg w5 hbox hb; have qE := aM (hbox); have qv := aM ((by rw [hg]; exact (below_size (zB HB)) : w.heap.size ≤ qR)); have qw := aM ((by rw [hg]; exact (below_size (zB HB)) : w.heap.size ≤ qR)); replace HB := aM (below_step (zB HB) hb); have qJ := aM ((by rw [hg]; exact Nat.ne_of_lt (blk_lt (g := qH) (lK qA)) : qH ≠ qR)); have qK := aM ((by rw [hg]; exact Nat.ne_of_gt (blk_lt (g := qH) (lK qA)) : qR ≠ qH)); replace qA := aM (blk_below (g := qH) (lK qA) hb); clear hb hbox hg)))
 (try simp only [Act.put, List.setIfInBounds_toArray, List.set_cons_zero, List.set_cons_succ])
 go_cut [36] (fun v36 wc => ∃ (kq : Nat) (qg : Bool), v36 = .bool qg ∧ Aside0 (swageref08_Same.j0 kq qg qL qM qB qF qN qO qC qG = some r) ∧ Aside0 (kq ≤ k) ∧ Aside0 (wc.heap[qH]? = some (.cells #[.int .i64 qL, .int .i64 qM, (.slice qY qB.length qZ), (.slice qa qF.length qb)] 26 (0, 0))) ∧ Aside0 (wc.heap[qR]? = some (.cells #[.int .i64 qN, .int .i64 qO, (.slice qc qC.length qd), (.slice qe qG.length qf)] 26 (0, 0))) ∧ Aside0 (Below w.heap.size w wc))
 case first =>
  have H := HC3.out
  clear HC3
  by_cases c6 : qL = qN
  ·rw [if_pos c6] at H
   have c6b0 : (qL == qN) = true := beq_iff_eq.mpr c6
   have c6b1 : (qL != qN) = false := bne_eq_false_iff_eq.mpr c6
   clear c6
   (first | rw [c6b0] | (simp only [i64_w, i32_w]; rw [c6b0]) | skip)
   by_cases c7 : qM = qO
   ·rw [if_pos c7] at H
    have c7b0 : (qM == qO) = true := beq_iff_eq.mpr c7
    have c7b1 : (qM != qO) = false := bne_eq_false_iff_eq.mpr c7
    clear c7
    by_cases c8 : (qB.length : Int) = (qC.length : Int)
    ·rw [if_pos c8] at H
     have c8b0 : ((qB.length : Int) == (qC.length : Int)) = true := beq_iff_eq.mpr c8
     have c8b1 : ((qB.length : Int) != (qC.length : Int)) = false := bne_eq_false_iff_eq.mpr c8
     have c8b2 : (qB.length == qC.length) = true := by first | simpa using c8 | (simp at c8 ⊢; omega)
     clear c8
     have H' := aM H
     clear H
     have jt := qJ.out
     have ju := qK.out
     have qx := zc4 qA.out
     have qy := fun i_ : Nat => blk_frozen qA.out i_
     have qz := zc4 qE.out
     have q0 := fun i_ : Nat => blk_frozen qE.out i_
     go_wp2
     repeat (go_quiet (fail); try go_wp2)
     go_meet
     case rel => exact ⟨_, (((qF.length : Int) != (qG.length : Int))), zT, H', ⟨zO⟩, ⟨zb qA⟩, ⟨zb qE⟩, ⟨zB HB⟩⟩
    ·rw [if_neg c8] at H
     have c8b0 : ((qB.length : Int) == (qC.length : Int)) = false := beq_eq_false_iff_ne.mpr c8
     have c8b1 : ((qB.length : Int) != (qC.length : Int)) = true := bne_iff_ne.mpr c8
     have c8b2 : (qB.length == qC.length) = false := by first | simpa using c8 | (simp at c8 ⊢; omega)
     have H' := aM H
     clear H
     have jb := qJ.out
     have jc := qK.out
     have q1 := zc4 qA.out
     have q2 := fun i_ : Nat => blk_frozen qA.out i_
     have q3 := zc4 qE.out
     have q4 := fun i_ : Nat => blk_frozen qE.out i_
     go_wp2
     repeat (go_quiet (fail); try go_wp2)
     go_meet
     case rel => exact ⟨_, (true), zT, H', ⟨zO⟩, ⟨zb qA⟩, ⟨zb qE⟩, ⟨zB HB⟩⟩
   ·rw [if_neg c7] at H
    have c7b0 : (qM == qO) = false := beq_eq_false_iff_ne.mpr c7
    have c7b1 : (qM != qO) = true := bne_iff_ne.mpr c7
    have H' := aM H
    clear H
    have jd := qJ.out
    have je := qK.out
    have q5 := zc4 qA.out
    have q6 := fun i_ : Nat => blk_frozen qA.out i_
    have q7 := zc4 qE.out
    have q8 := fun i_ : Nat => blk_frozen qE.out i_
    go_wp2
    repeat (go_quiet (fail); try go_wp2)
    go_meet
    case rel => exact ⟨_, (true), zT, H', ⟨zO⟩, ⟨zb qA⟩, ⟨zb qE⟩, ⟨zB HB⟩⟩
  ·rw [if_neg c6] at H
   have c6b0 : (qL == qN) = false := beq_eq_false_iff_ne.mpr c6
   have c6b1 : (qL != qN) = true := bne_iff_ne.mpr c6
   (first | rw [c6b0] | (simp only [i64_w, i32_w]; rw [c6b0]) | skip)
   have H' := aM H
   clear H
   have jf := qJ.out
   have jg := qK.out
   have q9 := zc4 qA.out
   have jA := fun i_ : Nat => blk_frozen qA.out i_
   have jB := zc4 qE.out
   have jC := fun i_ : Nat => blk_frozen qE.out i_
   go_wp2
   repeat (go_quiet (fail); try go_wp2)
   go_meet
   case rel => exact ⟨_, (true), zT, H', ⟨zO⟩, ⟨zb qA⟩, ⟨zb qE⟩, ⟨zB HB⟩⟩
 case rest =>
  clear HC3
  obtain ⟨kq, qg, rfl, HA, HJ2, qA, qE, HB⟩ := hcut
  cases kq with
  | zero => exact absurd HA.out (by simp [swageref08_Same.j0])
  | succ kj2 =>
   have H := HA.out
   clear HA
   simp only [swageref08_Same.j0] at H
   by_cases c21 : qg = true
   ·subst c21
    have H1 : (some false) = some r := by rw [if_pos rfl] at H; exact H
    clear H
    have H := H1
    clear H1
    obtain rfl := Option.some.inj H
    go_wp2
    repeat (go_quiet (fail); try go_wp2)
    go_ret
    exact ⟨zE, zB HB⟩
   ·replace c21 := Bool.eq_false_iff.mpr c21
    subst c21
    have H1 : (swageref08_Same.l0 kj2 0 qL qM qB qF qN qO qC qG) = some r := by rw [if_neg (show ¬ (false = true) by decide)] at H; exact H
    clear H
    have H := H1
    clear H1
    have H' := aM H
    clear H
    go_wp2
    repeat (go_quiet (fail); try go_wp2)
    go_loopg [5] kj2 (fun kq v5 w' => ∃ (qD : Int), v5 = .int .i64 qD ∧ Aside0 (swageref08_Same.l0 kq qD qL qM qB qF qN qO qC qG = some r) ∧ Aside0 (kq ≤ kj2) ∧ Aside0 (w'.heap[qH]? = some (.cells #[.int .i64 qL, .int .i64 qM, (.slice qY qB.length qZ), (.slice qa qF.length qb)] 26 (0, 0))) ∧ Aside0 (w'.heap[qR]? = some (.cells #[.int .i64 qN, .int .i64 qO, (.slice qc qC.length qd), (.slice qe qG.length qf)] 26 (0, 0))) ∧ Aside0 (Below w.heap.size w w'))
    case atStart => exact ⟨(0), zT, H', ⟨Nat.le_refl _⟩, ⟨zb qA⟩, ⟨zb qE⟩, ⟨zB HB⟩⟩
    case round =>
     clear H'
     try clear c21
     obtain ⟨qD, rfl, HA, HK2, qA, qE, HB⟩ := hrel
     cases gk with
     | zero => exact absurd HA.out (by simp [swageref08_Same.l0])
     | succ k2 =>
      have H := HA.out
      clear HA
      simp only [swageref08_Same.l0] at H
      by_cases c22 : qD < (qB.length : Int)
      ·rw [if_pos c22] at H
       have c22b0 := decide_eq_true c22
       clear c22
       by_cases c23 : 0 ≤ qD
       ·rw [if_pos c23] at H
        have c23b0 := decide_eq_true c23
        clear c23
        by_cases c24 : qD < (qC.length : Int)
        ·rw [if_pos c24] at H
         have c24b0 := decide_eq_true c24
         clear c24
         by_cases c25 : (!(((rd_T63 qB qD).f0) == ((rd_T63 qC qD).f0)) || (!(((rd_T63 qB qD).f1) == ((rd_T63 qC qD).f1)) || (!(((rd_T63 qB qD).f2) == ((rd_T63 qC qD).f2)) || (!(((rd_T63 qB qD).f3) == ((rd_T63 qC qD).f3)) || (!(((rd_T63 qB qD).f4) == ((rd_T63 qC qD).f4))))))) = true
         ·rw [if_pos c25] at H
          have c25b0 : (!(((rd_T63 qB qD).f0) == ((rd_T63 qC qD).f0)) || (!(((rd_T63 qB qD).f1) == ((rd_T63 qC qD).f1)) || (!(((rd_T63 qB qD).f2) == ((rd_T63 qC qD).f2)) || (!(((rd_T63 qB qD).f3) == ((rd_T63 qC qD).f3)) || (!(((rd_T63 qB qD).f4) == ((rd_T63 qC qD).f4))))))) = true := c25
          clear c25
          obtain rfl := Option.some.inj H
          have jh := qJ.out
          have ji := qK.out
          have jD := zc4 qA.out
          have jE := fun i_ : Nat => blk_frozen qA.out i_
          have p445 : 0 ≤ (qD : Int) := of_decide_eq_true za
          have q445 : qD < (qB.length : Int) := of_decide_eq_true za
          obtain ⟨ad445, e445, hx445_0, hx445_1, hx445_2, hx445_3, hx445_4⟩ := at_T63 qp.out qD p445 q445
          cases e445
          replace hx445_0 := (HB.out.cell (World.block_lt_of_cell? w _ hx445_0)).trans hx445_0
          replace hx445_1 := (HB.out.cell (World.block_lt_of_cell? w _ hx445_1)).trans hx445_1
          replace hx445_2 := (HB.out.cell (World.block_lt_of_cell? w _ hx445_2)).trans hx445_2
          replace hx445_3 := (HB.out.cell (World.block_lt_of_cell? w _ hx445_3)).trans hx445_3
          replace hx445_4 := (HB.out.cell (World.block_lt_of_cell? w _ hx445_4)).trans hx445_4
          replace p445 := eq_true p445
          replace q445 := eq_true q445
          have jF := zc4 qE.out
          have jG := fun i_ : Nat => blk_frozen qE.out i_
          have p446 : 0 ≤ (qD : Int) := of_decide_eq_true za
          have q446 : qD < (qC.length : Int) := of_decide_eq_true za
          obtain ⟨ad446, e446, hx446_0, hx446_1, hx446_2, hx446_3, hx446_4⟩ := at_T63 qr.out qD p446 q446
          cases e446
          replace hx446_0 := (HB.out.cell (World.block_lt_of_cell? w _ hx446_0)).trans hx446_0
          replace hx446_1 := (HB.out.cell (World.block_lt_of_cell? w _ hx446_1)).trans hx446_1
          replace hx446_2 := (HB.out.cell (World.block_lt_of_cell? w _ hx446_2)).trans hx446_2
          replace hx446_3 := (HB.out.cell (World.block_lt_of_cell? w _ hx446_3)).trans hx446_3
          replace hx446_4 := (HB.out.cell (World.block_lt_of_cell? w _ hx446_4)).trans hx446_4
          replace p446 := eq_true p446
          replace q446 := eq_true q446
          go_wp2
          repeat (go_quiet (fail); try go_wp2)
          go_ret
          exact ⟨zE, zB HB⟩
         ·rw [if_neg c25] at H
          have c25b0 : (!(((rd_T63 qB qD).f0) == ((rd_T63 qC qD).f0)) || (!(((rd_T63 qB qD).f1) == ((rd_T63 qC qD).f1)) || (!(((rd_T63 qB qD).f2) == ((rd_T63 qC qD).f2)) || (!(((rd_T63 qB qD).f3) == ((rd_T63 qC qD).f3)) || (!(((rd_T63 qB qD).f4) == ((rd_T63 qC qD).f4))))))) = false := by simpa using c25
          clear c25
          have H' := aM H
          clear H
          have jj := qJ.out
          have jk := qK.out
          have jH := zc4 qA.out
          have jI := fun i_ : Nat => blk_frozen qA.out i_
          have p445 : 0 ≤ (qD : Int) := of_decide_eq_true za
          have q445 : qD < (qB.length : Int) := of_decide_eq_true za
          obtain ⟨ad445, e445, hx445_0, hx445_1, hx445_2, hx445_3, hx445_4⟩ := at_T63 qp.out qD p445 q445
          cases e445
          replace hx445_0 := (HB.out.cell (World.block_lt_of_cell? w _ hx445_0)).trans hx445_0
          replace hx445_1 := (HB.out.cell (World.block_lt_of_cell? w _ hx445_1)).trans hx445_1
          replace hx445_2 := (HB.out.cell (World.block_lt_of_cell? w _ hx445_2)).trans hx445_2
          replace hx445_3 := (HB.out.cell (World.block_lt_of_cell? w _ hx445_3)).trans hx445_3
          replace hx445_4 := (HB.out.cell (World.block_lt_of_cell? w _ hx445_4)).trans hx445_4
          replace p445 := eq_true p445
          replace q445 := eq_true q445
          have jJ := zc4 qE.out
          have jK := fun i_ : Nat => blk_frozen qE.out i_
          have p446 : 0 ≤ (qD : Int) := of_decide_eq_true za
          have q446 : qD < (qC.length : Int) := of_decide_eq_true za
          obtain ⟨ad446, e446, hx446_0, hx446_1, hx446_2, hx446_3, hx446_4⟩ := at_T63 qr.out qD p446 q446
          cases e446
          replace hx446_0 := (HB.out.cell (World.block_lt_of_cell? w _ hx446_0)).trans hx446_0
          replace hx446_1 := (HB.out.cell (World.block_lt_of_cell? w _ hx446_1)).trans hx446_1
          replace hx446_2 := (HB.out.cell (World.block_lt_of_cell? w _ hx446_2)).trans hx446_2
          replace hx446_3 := (HB.out.cell (World.block_lt_of_cell? w _ hx446_3)).trans hx446_3
          replace hx446_4 := (HB.out.cell (World.block_lt_of_cell? w _ hx446_4)).trans hx446_4
          replace p446 := eq_true p446
          replace q446 := eq_true q446
          go_wp2
          repeat (go_quiet (fail); try go_wp2)
          go_roundg k2
          case measure => have := HJ2.out; have := HK2.out; omega
          case rel => exact ⟨(wrap64 (qD + 1)), zT, H', ⟨by have := HJ2.out; have := HK2.out; omega⟩, ⟨zb qA⟩, ⟨zb qE⟩, ⟨zB HB⟩⟩
        ·rw [if_neg c24] at H
         exact absurd H (by simp)
       ·rw [if_neg c23] at H
        exact absurd H (by simp)
      ·rw [if_neg c22] at H
       have c22b0 := decide_eq_false c22
       clear c22
       have H' := aM H
       clear H
       have jl := qJ.out
       have jm := qK.out
       have jL := zc4 qA.out
       have jM := fun i_ : Nat => blk_frozen qA.out i_
       go_wp2
       repeat (go_quiet (fail); try go_wp2)
       go_loopg [6] k2 (fun kq v6 w' => ∃ (qI : Int), v6 = .int .i64 qI ∧ Aside0 (swageref08_Same.l1 kq qI qL qM qB qF qN qO qC qG = some r) ∧ Aside0 (kq ≤ k2) ∧ Aside0 (w'.heap[qH]? = some (.cells #[.int .i64 qL, .int .i64 qM, (.slice qY qB.length qZ), (.slice qa qF.length qb)] 26 (0, 0))) ∧ Aside0 (w'.heap[qR]? = some (.cells #[.int .i64 qN, .int .i64 qO, (.slice qc qC.length qd), (.slice qe qG.length qf)] 26 (0, 0))) ∧ Aside0 (Below w.heap.size w w'))
       case atStart => exact ⟨(0), zT, H', ⟨Nat.le_refl _⟩, ⟨zb qA⟩, ⟨zb qE⟩, ⟨zB HB⟩⟩
       case round =>
        clear H'
        try clear c21
        try clear c22
        obtain ⟨qI, rfl, HA, HK3, qA, qE, HB⟩ := hrel
        cases gk with
        | zero => exact absurd HA.out (by simp [swageref08_Same.l1])
        | succ k3 =>
         have H := HA.out
         clear HA
         simp only [swageref08_Same.l1] at H
         by_cases c34 : qI < (qF.length : Int)
         ·rw [if_pos c34] at H
          have c34b0 := decide_eq_true c34
          clear c34
          by_cases c35 : 0 ≤ qI
          ·rw [if_pos c35] at H
           have c35b0 := decide_eq_true c35
           clear c35
           by_cases c36 : qI < (qG.length : Int)
           ·rw [if_pos c36] at H
            have c36b0 := decide_eq_true c36
            clear c36
            by_cases c37 : (rd qF qI) = (rd qG qI)
            ·rw [if_pos c37] at H
             have c37b0 : ((rd qF qI) == (rd qG qI)) = true := beq_iff_eq.mpr c37
             have c37b1 : ((rd qF qI) != (rd qG qI)) = false := bne_eq_false_iff_eq.mpr c37
             clear c37
             have H' := aM H
             clear H
             have jn := qJ.out
             have jo := qK.out
             have jN := zc4 qA.out
             have jO := fun i_ : Nat => blk_frozen qA.out i_
             have p447 : 0 ≤ (qI : Int) := of_decide_eq_true za
             have q447 : qI < (qF.length : Int) := of_decide_eq_true za
             obtain ⟨ad447, e447, hx447_0⟩ := Kd.at_int qq.out qI p447 q447
             cases e447
             replace hx447_0 := (HB.out.cell (World.block_lt_of_cell? w _ hx447_0)).trans hx447_0
             replace p447 := eq_true p447
             replace q447 := eq_true q447
             have jP := zc4 qE.out
             have jQ := fun i_ : Nat => blk_frozen qE.out i_
             have p448 : 0 ≤ (qI : Int) := of_decide_eq_true za
             have q448 : qI < (qG.length : Int) := of_decide_eq_true za
             obtain ⟨ad448, e448, hx448_0⟩ := Kd.at_int qs.out qI p448 q448
             cases e448
             replace hx448_0 := (HB.out.cell (World.block_lt_of_cell? w _ hx448_0)).trans hx448_0
             replace p448 := eq_true p448
             replace q448 := eq_true q448
             go_wp2
             repeat (go_quiet (fail); try go_wp2)
             go_roundg k3
             case measure => have := HJ2.out; have := HK2.out; have := HK3.out; omega
             case rel => exact ⟨(wrap64 (qI + 1)), zT, H', ⟨by have := HJ2.out; have := HK2.out; have := HK3.out; omega⟩, ⟨zb qA⟩, ⟨zb qE⟩, ⟨zB HB⟩⟩
            ·rw [if_neg c37] at H
             have c37b0 : ((rd qF qI) == (rd qG qI)) = false := beq_eq_false_iff_ne.mpr c37
             have c37b1 : ((rd qF qI) != (rd qG qI)) = true := bne_iff_ne.mpr c37
             obtain rfl := Option.some.inj H
             have jp := qJ.out
             have jq := qK.out
             have jR := zc4 qA.out
             have jS := fun i_ : Nat => blk_frozen qA.out i_
             have p447 : 0 ≤ (qI : Int) := of_decide_eq_true za
             have q447 : qI < (qF.length : Int) := of_decide_eq_true za
             obtain ⟨ad447, e447, hx447_0⟩ := Kd.at_int qq.out qI p447 q447
             cases e447
             replace hx447_0 := (HB.out.cell (World.block_lt_of_cell? w _ hx447_0)).trans hx447_0
             replace p447 := eq_true p447
             replace q447 := eq_true q447
             have jT := zc4 qE.out
             have jU := fun i_ : Nat => blk_frozen qE.out i_
             have p448 : 0 ≤ (qI : Int) := of_decide_eq_true za
             have q448 : qI < (qG.length : Int) := of_decide_eq_true za
             obtain ⟨ad448, e448, hx448_0⟩ := Kd.at_int qs.out qI p448 q448
             cases e448
             replace hx448_0 := (HB.out.cell (World.block_lt_of_cell? w _ hx448_0)).trans hx448_0
             replace p448 := eq_true p448
             replace q448 := eq_true q448
             go_wp2
             repeat (go_quiet (fail); try go_wp2)
             go_ret
             exact ⟨zE, zB HB⟩
           ·rw [if_neg c36] at H
            exact absurd H (by simp)
          ·rw [if_neg c35] at H
           exact absurd H (by simp)
         ·rw [if_neg c34] at H
          have c34b0 := decide_eq_false c34
          clear c34
          obtain rfl := Option.some.inj H
          have jr := qJ.out
          have js := qK.out
          have jV := zc4 qA.out
          have jW := fun i_ : Nat => blk_frozen qA.out i_
          go_wp2
          repeat (go_quiet (fail); try go_wp2)
          go_ret
          exact ⟨zE, zB HB⟩

end Go.Proofs.Ytccbdcbeinkjgaa.XA
end
