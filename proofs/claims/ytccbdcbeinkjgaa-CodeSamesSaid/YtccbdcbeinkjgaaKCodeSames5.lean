/- Part 5 of the proof of the law CodeSames for every input: words, walks and plain laws. No condition. -/
import Derived.Laws.EntriesVeiled
import Derived.Test.YtccbdcbeinkjgaaKCodeSames4
section
namespace Go.Proofs.Ytccbdcbeinkjgaa.XA
open Go.Proofs.Ytccbdcbeinkjgaa.Lift Go.RowKit Go.Proofs.YtccbdcbeinkjgaaW.PrintWords Go.Proofs.YtccbdcbeinkjgaaW.PrintLast Go.Proofs.YtccbdcbeinkjgaaW.PrintMore
attribute [local go_sem] max2_int min2_int max_two min_two max_three min_three max_four min_four
set_option linter.unusedVariables false
set_option linter.unusedSimpArgs false

/-! ### swagelaw17_example: function 15 -/
def swagelaw17_example.l0 : Nat → List Int → Int → Int → Int → List (S48) → Int → Int → List (S63) → List Int → Int → Int → List (S63) → List Int → Int → Int → List (S63) → List Int → Option (Int × Int × (List (S48)) × Int × Int × (List (S63)) × List Int × Int × Int × (List (S63)) × List Int × Int × Int × (List (S63)) × List Int × List Int)
 | 0, _, _, _, _, _, _, _, _, _, _, _, _, _, _, _, _, _ => none
 | k + 1, x3, x11, q1, q2, q3, q4, q5, q6, q7, q8, q9, jA, jB, jC, jD, jE, jF => if x11 < 3 then ((some (([1, 1, 0, 0, 1, 0] : List Int) : List Int)).bind fun y309 => (if x3.length + y309.length < 140737488355328 then (swagelaw17_example.l0 k (x3 ++ y309) (wrap64 (x11 + 1)) q1 q2 q3 q4 q5 q6 q7 q8 q9 jA jB jC jD jE jF) else (none))) else ((some (([3, 93] : List Int) : List Int)).bind fun y315 => (if x3.length + y315.length < 140737488355328 then (some (q1, q2, q3, q4, q5, q6, q7, q8, q9, jA, jB, jC, jD, jE, jF, (x3 ++ y315))) else (none)))
def swagelaw17_example.f (k : Nat)  : Option (Int × Int × (List (S48)) × Int × Int × (List (S63)) × List Int × Int × Int × (List (S63)) × List Int × Int × Int × (List (S63)) × List Int × List Int) := (swagelaw17_one.f).bind fun bt281 => ((swagelaw17_one.f).bind fun bt289 => ((swagelaw17_one.f).bind fun bt297 => (swagelaw17_example.l0 k (([65, 78, 86, 49, 1, 1, 1, 0, 1] : List Int)) 0 1 1 (([(⟨0, 1⟩ : S48)] : List (S48))) bt281.1 bt281.2.1 bt281.2.2.1 bt281.2.2.2 bt289.1 bt289.2.1 bt289.2.2.1 bt289.2.2.2 bt297.1 bt297.2.1 bt297.2.2.1 bt297.2.2.2)))
theorem swagelaw17_example.mono_l : ∀ k, (∀ y0 y1 y2 y3 y4 y5 y6 y7 y8 y9 y10 y11 y12 y13 y14 y15 y16, LeO (swagelaw17_example.l0 k y0 y1 y2 y3 y4 y5 y6 y7 y8 y9 y10 y11 y12 y13 y14 y15 y16) (swagelaw17_example.l0 (k + 1) y0 y1 y2 y3 y4 y5 y6 y7 y8 y9 y10 y11 y12 y13 y14 y15 y16))
 | 0 => fun _ _ _ _ _ _ _ _ _ _ _ _ _ _ _ _ _ r h => by simp [swagelaw17_example.l0] at h
 | k + 1 => by
  have ih0 := swagelaw17_example.mono_l k
  ·intro y0 y1 y2 y3 y4 y5 y6 y7 y8 y9 y10 y11 y12 y13 y14 y15 y16
   unfold swagelaw17_example.l0
   repeat' first
   | (with_reducible exact ih0 ..)
   | (with_reducible exact LeO.refl _)
   | (with_reducible exact LeO.none _)
   | (with_reducible refine LeO.ite ?_ ?_)
   | (with_reducible refine LeO.bind ?_ (fun _ => ?_))
   | exact ih0 _ _ _ _ _ _ _ _ _ _ _ _ _ _ _ _ _
   | exact LeO.none _
   | refine LeO.ite ?_ ?_
   | refine LeO.bind ?_ (fun _ => ?_)
theorem swagelaw17_example.mono : ∀ k, LeO (swagelaw17_example.f k ) (swagelaw17_example.f (k + 1) ) := by
 intro  k
 have ih0 := swagelaw17_example.mono_l k
 unfold swagelaw17_example.f
 repeat' first
   | (with_reducible exact ih0 ..)
   | (with_reducible exact LeO.refl _)
   | (with_reducible exact LeO.none _)
   | (with_reducible refine LeO.ite ?_ ?_)
   | (with_reducible refine LeO.bind ?_ (fun _ => ?_))
   | exact ih0 _ _ _ _ _ _ _ _ _ _ _ _ _ _ _ _ _
   | exact LeO.none _
   | refine LeO.ite ?_ ?_
   | refine LeO.bind ?_ (fun _ => ?_)
set_option maxHeartbeats 8000000 in
set_option maxRecDepth 100000 in
theorem swagelaw17_example.calls (k : Nat)  (r1 : Int) (r2 : Int) (r3 : List (S48)) (r4 : Int) (r5 : Int) (r6 : List (S63)) (r7 : List Int) (r8 : Int) (r9 : Int) (r10 : List (S63)) (r11 : List Int) (r12 : Int) (r13 : Int) (r14 : List (S63)) (r15 : List Int) (r16 : List Int) (w : World) (h : swagelaw17_example.f k  = some (r1, r2, r3, r4, r5, r6, r7, r8, r9, r10, r11, r12, r13, r14, r15, r16)) :
  Calls Try.prog 15 #[] w fun e w' => ∃ v2_ v5_ v6_ v9_ v10_ v13_ v14_ v15_ : Value, e = .returned (.tuple #[.agg #[.int .i64 r1, .int .i64 r2, v2_, .int .i64 r4, .int .i64 r5, v5_, v6_, .int .i64 r8, .int .i64 r9, v9_, v10_, .int .i64 r12, .int .i64 r13, v13_, v14_], v15_]) ∧ Kd.R k48 48 w' w.heap.size (fun _ => True) v2_ r3 ∧ Kd.R k63 63 w' w.heap.size (fun k_ => some k_ ≠ (v9_ : Value).ownBlock ∧ some k_ ≠ (v13_ : Value).ownBlock) v5_ r6 ∧ Kd.R (Kd.int .i64) 3 w' w.heap.size (fun k_ => some k_ ≠ (v10_ : Value).ownBlock ∧ some k_ ≠ (v14_ : Value).ownBlock) v6_ r7 ∧ Kd.R k63 63 w' w.heap.size (fun k_ => some k_ ≠ (v5_ : Value).ownBlock ∧ some k_ ≠ (v13_ : Value).ownBlock) v9_ r10 ∧ Kd.R (Kd.int .i64) 3 w' w.heap.size (fun k_ => some k_ ≠ (v6_ : Value).ownBlock ∧ some k_ ≠ (v14_ : Value).ownBlock) v10_ r11 ∧ Kd.R k63 63 w' w.heap.size (fun k_ => some k_ ≠ (v5_ : Value).ownBlock ∧ some k_ ≠ (v9_ : Value).ownBlock) v13_ r14 ∧ Kd.R (Kd.int .i64) 3 w' w.heap.size (fun k_ => some k_ ≠ (v6_ : Value).ownBlock ∧ some k_ ≠ (v10_ : Value).ownBlock) v14_ r15 ∧ Kd.R (Kd.int .u8) 5 w' w.heap.size (fun _ => True) v15_ r16 ∧ Below w.heap.size w w' := by
 have hu28 := Try.underlying28
 have hu48 := Try.underlying48
 have HB := aM (Below.refl w.heap.size w)
 have H : ((swagelaw17_one.f).bind fun bt281 => ((swagelaw17_one.f).bind fun bt289 => ((swagelaw17_one.f).bind fun bt297 => (swagelaw17_example.l0 k (([65, 78, 86, 49, 1, 1, 1, 0, 1] : List Int)) 0 1 1 (([(⟨0, 1⟩ : S48)] : List (S48))) bt281.1 bt281.2.1 bt281.2.2.1 bt281.2.2.2 bt289.1 bt289.2.1 bt289.2.2.1 bt289.2.2.2 bt297.1 bt297.2.1 bt297.2.2.1 bt297.2.2.2)))) = some (r1, r2, r3, r4, r5, r6, r7, r8, r9, r10, r11, r12, r13, r14, r15, r16) := h
 clear h
 obtain ⟨y278, hy278⟩ : ∃ y_ : List (S48), y_ = (([(⟨0, 1⟩ : S48)] : List (S48))) := ⟨_, rfl⟩
 replace H : ((swagelaw17_one.f).bind fun bt281 => ((swagelaw17_one.f).bind fun bt289 => ((swagelaw17_one.f).bind fun bt297 => (swagelaw17_example.l0 k (([65, 78, 86, 49, 1, 1, 1, 0, 1] : List Int)) 0 1 1 y278 bt281.1 bt281.2.1 bt281.2.2.1 bt281.2.2.2 bt289.1 bt289.2.1 bt289.2.2.1 bt289.2.2.2 bt297.1 bt297.2.1 bt297.2.2.1 bt297.2.2.2)))) = some (r1, r2, r3, r4, r5, r6, r7, r8, r9, r10, r11, r12, r13, r14, r15, r16) := by first | (rw [hy278]; with_reducible exact H) | (have H2_ := (Option.bind_some _ _).symm.trans H; rw [hy278]; with_reducible exact H2_) | (have H2_ := (Option.bind_some _ _).symm.trans H; with_reducible exact H2_) | with_reducible exact H | (rw [hy278]; exact H) | exact H
 have Ny278 := aM hy278
 clear hy278
 replace H := Option.bind_eq_some_iff.mp H
 obtain ⟨⟨qZ, qa, qP, qQ⟩, A10, H⟩ := H
 replace H : ((swagelaw17_one.f).bind fun bt289 => ((swagelaw17_one.f).bind fun bt297 => (swagelaw17_example.l0 k (([65, 78, 86, 49, 1, 1, 1, 0, 1] : List Int)) 0 1 1 y278 qZ qa qP qQ bt289.1 bt289.2.1 bt289.2.2.1 bt289.2.2.2 bt297.1 bt297.2.1 bt297.2.2.1 bt297.2.2.2))) = some (r1, r2, r3, r4, r5, r6, r7, r8, r9, r10, r11, r12, r13, r14, r15, r16) := H
 have A1 := aM A10
 clear A10
 replace H := Option.bind_eq_some_iff.mp H
 obtain ⟨⟨qb, qc, qR, qS⟩, A20, H⟩ := H
 replace H : ((swagelaw17_one.f).bind fun bt297 => (swagelaw17_example.l0 k (([65, 78, 86, 49, 1, 1, 1, 0, 1] : List Int)) 0 1 1 y278 qZ qa qP qQ qb qc qR qS bt297.1 bt297.2.1 bt297.2.2.1 bt297.2.2.2)) = some (r1, r2, r3, r4, r5, r6, r7, r8, r9, r10, r11, r12, r13, r14, r15, r16) := H
 have A2 := aM A20
 clear A20
 replace H := Option.bind_eq_some_iff.mp H
 obtain ⟨⟨qe, qf, qU, qV⟩, A30, H⟩ := H
 replace H : (swagelaw17_example.l0 k (([65, 78, 86, 49, 1, 1, 1, 0, 1] : List Int)) 0 1 1 y278 qZ qa qP qQ qb qc qR qS qe qf qU qV) = some (r1, r2, r3, r4, r5, r6, r7, r8, r9, r10, r11, r12, r13, r14, r15, r16) := H
 have A3 := aM A30
 clear A30
 obtain ⟨y306, hy306⟩ : ∃ y_ : List Int, y_ = (([65, 78, 86, 49, 1, 1, 1, 0, 1] : List Int)) := ⟨_, rfl⟩
 replace H : (swagelaw17_example.l0 k y306 0 1 1 y278 qZ qa qP qQ qb qc qR qS qe qf qU qV) = some (r1, r2, r3, r4, r5, r6, r7, r8, r9, r10, r11, r12, r13, r14, r15, r16) := by first | (rw [hy306]; with_reducible exact H) | (have H2_ := (Option.bind_some _ _).symm.trans H; rw [hy306]; with_reducible exact H2_) | (have H2_ := (Option.bind_some _ _).symm.trans H; with_reducible exact H2_) | with_reducible exact H | (rw [hy306]; exact H) | exact H
 have Ny306 := aM hy306
 clear hy306
 have H' := aM H
 clear H
 go_enter Try.func15, Try.ntmps15
 go_wp2_with (first | ((with_reducible refine gate_dst (N := 0) rfl ?_); refine box_event ?hg (N := 0) ?hd (cs := #[.int .i64 0, .int .i64 0, .slice none 0 0, .int .i64 0, .int .i64 0, .slice none 0 0, .slice none 0 0, .int .i64 0, .int .i64 0, .slice none 0 0, .slice none 0 0, .int .i64 0, .int .i64 0, .slice none 0 0, .slice none 0 0]) (t := 28) ?hr ?_; (case hd => rfl); (case hg => rfl); (case hr => first | (go_simp; done) | (go_simp; rfl)); intro qE hg w4 hbox hb; have qA := aM (hbox); have jt := aM ((by rw [hg]; exact (below_size (lB HB)) : w.heap.size ≤ qE)); have qM := aM ((by rw [hg]; exact (below_size (lB HB)) : w.heap.size ≤ qE)); replace HB := aM (below_step (lB HB) hb); clear hb hbox hg) | ((with_reducible refine gate_dst (N := 5) rfl ?_); refine Kd.R_lit k48 _ 48 ?hg (N := 5) ?hd (xs := ([(⟨0, 1⟩ : S48)] : List (S48))) (inner := [.int .i64 0, .int .i64 1]) (ok := fun _ => True) (okp := fun _ => True) ?hr ?hp (fun _ hk => hk) trivial (Below.refl _ _) (Nat.le_refl _) (by simp) ?_; (case hd => rfl); (case hg => rfl); (case hr => first | (go_simp; done) | (go_simp; rfl)); (case hp => exact (Reps.c2 (show Kd.M k48 _ _ _ (⟨0, 1⟩ : S48) [.int .i64 0, .int .i64 1] from (k48_mkM _ _ _ (⟨0, 1⟩ : S48) )) (Reps.none _ _))); intro v279 w5 ho6 hb hg_ hnew_; clear hg_ hnew_; (first | rw [← Ny278.out] at ho6 | (simp only [Int.reduceToNat] at ho6; rw [← Ny278.out] at ho6)); have qW := aM (Kd.R_lower ho6 (below_size (by have := GEc.mk qM.out; exact lS HB))); replace qA := aM (blk_below (g := qE) (lK qA) hb); replace HB := aM (below_step (by have := GEc.mk qM.out; exact lS HB) hb); clear hb ho6) | ((with_reducible refine gate_callee (f := 32) rfl ?_); refine goesL_ (some 6) rfl rfl Try.func32 (by kernel_rfl) rfl #[] rfl (by (try simp only [List.map_toArray, List.map_cons, List.map_nil]); first | done | rfl | (simp only [List.length_drop, List.length_take]; rfl)) ?_; (with_reducible refine (swagelaw17_one.calls  qZ qa qP qQ _ A1.out).mono ?_); rintro e w7 ⟨v284, v287, rfl, ho0, ho1, hb⟩; refine ⟨_, rfl, ?_⟩; replace qW := aM (Kd.R_below (lR qW) hb); have qX := aM (Kd.R_lower ho0 (below_size (by have := GEc.mk qM.out; exact lS HB))); have qY := aM (Kd.R_lower ho1 (below_size (by have := GEc.mk qM.out; exact lS HB))); replace qA := aM (blk_below (g := qE) (lK qA) hb); replace HB := aM (below_step (by have := GEc.mk qM.out; exact lS HB) hb); (try clear hb); (try clear hb2); (try clear hk); (try clear hi); (try clear ho0); (try clear ho1)) | ((with_reducible refine gate_callee (f := 32) rfl ?_); refine goesL_ (some 7) rfl rfl Try.func32 (by kernel_rfl) rfl #[] rfl (by (try simp only [List.map_toArray, List.map_cons, List.map_nil]); first | done | rfl | (simp only [List.length_drop, List.length_take]; rfl)) ?_; (with_reducible refine (swagelaw17_one.calls  qb qc qR qS _ A2.out).mono ?_); rintro e w8 ⟨v292, v295, rfl, ho0, ho1, hb⟩; refine ⟨_, rfl, ?_⟩; replace qW := aM (Kd.R_below (lR qW) hb); have qg := aM (Kd.R_lower (Kd.R_new' ho0 (Kd.R_lt (lR qX))) (below_size (by have := GEc.mk qM.out; exact lS HB))); replace qX := aM (Kd.R_elder' (lR qX) (Kd.R_base ho0) hb); have qh := aM (Kd.R_lower (Kd.R_new' ho1 (Kd.R_lt (lR qY))) (below_size (by have := GEc.mk qM.out; exact lS HB))); replace qY := aM (Kd.R_elder' (lR qY) (Kd.R_base ho1) hb); replace qA := aM (blk_below (g := qE) (lK qA) hb); replace HB := aM (below_step (by have := GEc.mk qM.out; exact lS HB) hb); (try clear hb); (try clear hb2); (try clear hk); (try clear hi); (try clear ho0); (try clear ho1)) | ((with_reducible refine gate_callee (f := 32) rfl ?_); refine goesL_ (some 8) rfl rfl Try.func32 (by kernel_rfl) rfl #[] rfl (by (try simp only [List.map_toArray, List.map_cons, List.map_nil]); first | done | rfl | (simp only [List.length_drop, List.length_take]; rfl)) ?_; (with_reducible refine (swagelaw17_one.calls  qe qf qU qV _ A3.out).mono ?_); rintro e w9 ⟨v300, v303, rfl, ho0, ho1, hb⟩; refine ⟨_, rfl, ?_⟩; replace qW := aM (Kd.R_below (lR qW) hb); have qj := aM (Kd.R_lower (Kd.R_new' (Kd.R_new' ho0 (Kd.R_lt (lR qX))) (Kd.R_lt (lR qg))) (below_size (by have := GEc.mk qM.out; exact lS HB))); replace qX := aM (Kd.R_elder' (lR qX) (Kd.R_base ho0) hb); replace qg := aM (Kd.R_elder' (lR qg) (Kd.R_base ho0) hb); have qk := aM (Kd.R_lower (Kd.R_new' (Kd.R_new' ho1 (Kd.R_lt (lR qY))) (Kd.R_lt (lR qh))) (below_size (by have := GEc.mk qM.out; exact lS HB))); replace qY := aM (Kd.R_elder' (lR qY) (Kd.R_base ho1) hb); replace qh := aM (Kd.R_elder' (lR qh) (Kd.R_base ho1) hb); replace qA := aM (blk_below (g := qE) (lK qA) hb); replace HB := aM (below_step (by have := GEc.mk qM.out; exact lS HB) hb); (try clear hb); (try clear hb2); (try clear hk); (try clear hi); (try clear ho0); (try clear ho1); obtain ⟨qm, qn, eo10⟩ := Kd.R_slice qk.out; subst eo10; obtain ⟨qo, qp, eo11⟩ := Kd.R_slice qj.out; subst eo11; obtain ⟨qq, qr, eo12⟩ := Kd.R_slice qh.out; subst eo12; obtain ⟨qs, qt, eo13⟩ := Kd.R_slice qg.out; subst eo13; obtain ⟨qu, qv, eo14⟩ := Kd.R_slice qY.out; subst eo14; obtain ⟨qw, qx, eo15⟩ := Kd.R_slice qX.out; subst eo15; obtain ⟨qz, q0, eo16⟩ := Kd.R_slice qW.out; subst eo16) | ((with_reducible refine gate_dst (N := 2) rfl ?_); refine box_event ?hg (N := 2) ?hd (cs := #[.int .i64 0, .int .i64 0, .slice none 0 0, .int .i64 0, .int .i64 0, .slice none 0 0, .slice none 0 0, .int .i64 0, .int .i64 0, .slice none 0 0, .slice none 0 0, .int .i64 0, .int .i64 0, .slice none 0 0, .slice none 0 0]) (t := 28) ?hr ?_; (case hd => rfl); (case hg => rfl); (case hr => first | (go_simp; done) | (go_simp; rfl)); intro qO hg w17 hbox hb; replace qW := aM (Kd.R_below (lR qW) hb); replace qX := aM (Kd.R_below (lR qX) hb); replace qY := aM (Kd.R_below (lR qY) hb); replace qg := aM (Kd.R_below (lR qg) hb); replace qh := aM (Kd.R_below (lR qh) hb); replace qj := aM (Kd.R_below (lR qj) hb); replace qk := aM (Kd.R_below (lR qk) hb); have qD := aM (hbox); have ju := aM ((by rw [hg]; exact (below_size (by have := GEc.mk qM.out; exact lS HB)) : w.heap.size ≤ qO)); have qT := aM ((by rw [hg]; exact (below_size (by have := GEc.mk qM.out; exact lS HB)) : w.heap.size ≤ qO)); replace HB := aM (below_step (by have := GEc.mk qM.out; exact lS HB) hb); have qB := aM ((by rw [hg]; exact Nat.ne_of_lt (blk_lt (g := qE) (lK qA)) : qE ≠ qO)); have qC := aM ((by rw [hg]; exact Nat.ne_of_gt (blk_lt (g := qE) (lK qA)) : qO ≠ qE)); replace qA := aM (blk_below (g := qE) (lK qA) hb); clear hb hbox hg; have jv := qC.out; have jw := qB.out; have jN := zc15 qD.out; have jO := fun i_ : Nat => blk_frozen qD.out i_) | ((with_reducible refine gate_dst (N := 10) rfl ?_); refine Kd.R_lit (Kd.int .u8) _ 5 ?hg (N := 10) ?hd (xs := ([65, 78, 86, 49, 1, 1, 1, 0, 1] : List Int)) (inner := [.int .u8 65, .int .u8 78, .int .u8 86, .int .u8 49, .int .u8 1, .int .u8 1, .int .u8 1, .int .u8 0, .int .u8 1]) (ok := fun _ => True) (okp := fun _ => True) ?hr ?hp (fun _ hk => hk) trivial (Below.refl _ _) (Nat.le_refl _) (by simp) ?_; (case hd => rfl); (case hg => rfl); (case hr => first | (go_simp; done) | (go_simp; rfl)); (case hp => exact (Reps.one (show Kd.M (Kd.int .u8) _ _ _ 65 [.int .u8 65] from rfl) (Reps.one (show Kd.M (Kd.int .u8) _ _ _ 78 [.int .u8 78] from rfl) (Reps.one (show Kd.M (Kd.int .u8) _ _ _ 86 [.int .u8 86] from rfl) (Reps.one (show Kd.M (Kd.int .u8) _ _ _ 49 [.int .u8 49] from rfl) (Reps.one (show Kd.M (Kd.int .u8) _ _ _ 1 [.int .u8 1] from rfl) (Reps.one (show Kd.M (Kd.int .u8) _ _ _ 1 [.int .u8 1] from rfl) (Reps.one (show Kd.M (Kd.int .u8) _ _ _ 1 [.int .u8 1] from rfl) (Reps.one (show Kd.M (Kd.int .u8) _ _ _ 0 [.int .u8 0] from rfl) (Reps.one (show Kd.M (Kd.int .u8) _ _ _ 1 [.int .u8 1] from rfl) (Reps.none _ _))))))))))); intro v307 w20 ho21 hb hg_ hnew_; clear hg_ hnew_; (first | rw [← Ny306.out] at ho21 | (simp only [Int.reduceToNat] at ho21; rw [← Ny306.out] at ho21)); replace qW := aM (Kd.R_below (by (with_reducible repeat (first | apply Kd.R_alloc | apply Kd.R_drewN | apply Kd.R_drew)); exact (Kd.R_mono (zR15 (Kd.R_types qW.out qD.out (by decide))) (fun _ h_ => h_.1))) hb); replace qX := aM (Kd.R_below (by (with_reducible repeat (first | apply Kd.R_alloc | apply Kd.R_drewN | apply Kd.R_drew)); exact (Kd.R_mono (zR15 (Kd.R_types qX.out qD.out (by decide))) (fun _ h_ => h_.1))) hb); replace qY := aM (Kd.R_below (by (with_reducible repeat (first | apply Kd.R_alloc | apply Kd.R_drewN | apply Kd.R_drew)); exact (Kd.R_mono (zR15 (Kd.R_types qY.out qD.out (by decide))) (fun _ h_ => h_.1))) hb); replace qg := aM (Kd.R_below (by (with_reducible repeat (first | apply Kd.R_alloc | apply Kd.R_drewN | apply Kd.R_drew)); exact (Kd.R_mono (zR15 (Kd.R_types qg.out qD.out (by decide))) (fun _ h_ => h_.1))) hb); replace qh := aM (Kd.R_below (by (with_reducible repeat (first | apply Kd.R_alloc | apply Kd.R_drewN | apply Kd.R_drew)); exact (Kd.R_mono (zR15 (Kd.R_types qh.out qD.out (by decide))) (fun _ h_ => h_.1))) hb); replace qj := aM (Kd.R_below (by (with_reducible repeat (first | apply Kd.R_alloc | apply Kd.R_drewN | apply Kd.R_drew)); exact (Kd.R_mono (zR15 (Kd.R_types qj.out qD.out (by decide))) (fun _ h_ => h_.1))) hb); replace qk := aM (Kd.R_below (by (with_reducible repeat (first | apply Kd.R_alloc | apply Kd.R_drewN | apply Kd.R_drew)); exact (Kd.R_mono (zR15 (Kd.R_types qk.out qD.out (by decide))) (fun _ h_ => h_.1))) hb); have jG := aM (Kd.R_lower ho21 (below_size (by have := GEc.mk qM.out; have := GEc.mk qT.out; exact lS HB))); replace qA := aM (blk_below (g := qE) (o := .cells #[.int .i64 0, .int .i64 0, .slice none 0 0, .int .i64 0, .int .i64 0, .slice none 0 0, .slice none 0 0, .int .i64 0, .int .i64 0, .slice none 0 0, .slice none 0 0, .int .i64 0, .int .i64 0, .slice none 0 0, .slice none 0 0] 28 (0, 0)) (by refine lZ ?_; refine blk_far ?_ qB.out _; refine lZ ?_; refine blk_far ?_ qB.out _; refine lZ ?_; refine blk_far ?_ qB.out _; refine lZ ?_; refine blk_far ?_ qB.out _; refine lZ ?_; refine blk_far ?_ qB.out _; refine lZ ?_; refine blk_far ?_ qB.out _; refine lZ ?_; refine blk_far ?_ qB.out _; refine lZ ?_; refine blk_far ?_ qB.out _; refine lZ ?_; refine blk_far ?_ qB.out _; refine lZ ?_; refine blk_far ?_ qB.out _; refine lZ ?_; refine blk_far ?_ qB.out _; refine lZ ?_; refine blk_far ?_ qB.out _; refine lZ ?_; refine blk_far ?_ qB.out _; refine lZ ?_; refine blk_far ?_ qB.out _; refine lZ ?_; refine blk_far ?_ qB.out _; refine lZ ?_; exact qA.out) hb); replace qD := aM (blk_below (g := qO) (o := .cells #[.int .i64 1, .int .i64 1, .slice qz y278.length q0, .int .i64 qZ, .int .i64 qa, .slice qw qP.length qx, .slice qu qQ.length qv, .int .i64 qb, .int .i64 qc, .slice qs qR.length qt, .slice qq qS.length qr, .int .i64 qe, .int .i64 qf, .slice qo qU.length qp, .slice qm qV.length qn] 28 (0, 0)) (by refine lZ ?_; apply zp15; refine lZ ?_; exact qD.out) hb); replace HB := aM (below_step (by have := GEc.mk qM.out; have := GEc.mk qT.out; exact lS HB) hb); clear hb ho21))
 go_loopg [3, 11] k (fun kq v3 v11 w' => ∃ (qd : List Int) (qi : Int), v11 = .int .i64 qi ∧ Aside0 (swagelaw17_example.l0 kq qd qi 1 1 y278 qZ qa qP qQ qb qc qR qS qe qf qU qV = some (r1, r2, r3, r4, r5, r6, r7, r8, r9, r10, r11, r12, r13, r14, r15, r16)) ∧ Aside0 (kq ≤ k) ∧ Aside0 (Kd.R (Kd.int .u8) 5 w' w.heap.size (fun _ => True) v3 qd) ∧ Aside0 (Kd.R k48 48 w' w.heap.size (fun _ => True) (.slice qz y278.length q0) y278) ∧ Aside0 (Kd.R k63 63 w' w.heap.size (fun k_ => some k_ ≠ ((.slice qs qR.length qt) : Value).ownBlock ∧ some k_ ≠ ((.slice qo qU.length qp) : Value).ownBlock) (.slice qw qP.length qx) qP) ∧ Aside0 (Kd.R (Kd.int .i64) 3 w' w.heap.size (fun k_ => some k_ ≠ ((.slice qq qS.length qr) : Value).ownBlock ∧ some k_ ≠ ((.slice qm qV.length qn) : Value).ownBlock) (.slice qu qQ.length qv) qQ) ∧ Aside0 (Kd.R k63 63 w' w.heap.size (fun k_ => some k_ ≠ ((.slice qw qP.length qx) : Value).ownBlock ∧ some k_ ≠ ((.slice qo qU.length qp) : Value).ownBlock) (.slice qs qR.length qt) qR) ∧ Aside0 (Kd.R (Kd.int .i64) 3 w' w.heap.size (fun k_ => some k_ ≠ ((.slice qu qQ.length qv) : Value).ownBlock ∧ some k_ ≠ ((.slice qm qV.length qn) : Value).ownBlock) (.slice qq qS.length qr) qS) ∧ Aside0 (Kd.R k63 63 w' w.heap.size (fun k_ => some k_ ≠ ((.slice qw qP.length qx) : Value).ownBlock ∧ some k_ ≠ ((.slice qs qR.length qt) : Value).ownBlock) (.slice qo qU.length qp) qU) ∧ Aside0 (Kd.R (Kd.int .i64) 3 w' w.heap.size (fun k_ => some k_ ≠ ((.slice qu qQ.length qv) : Value).ownBlock ∧ some k_ ≠ ((.slice qq qS.length qr) : Value).ownBlock) (.slice qm qV.length qn) qV) ∧ Aside0 (w'.heap[qE]? = some (.cells #[.int .i64 0, .int .i64 0, (.slice none 0 0), .int .i64 0, .int .i64 0, (.slice none 0 0), (.slice none 0 0), .int .i64 0, .int .i64 0, (.slice none 0 0), (.slice none 0 0), .int .i64 0, .int .i64 0, (.slice none 0 0), (.slice none 0 0)] 28 (0, 0))) ∧ Aside0 (w'.heap[qO]? = some (.cells #[.int .i64 1, .int .i64 1, (.slice qz y278.length q0), .int .i64 qZ, .int .i64 qa, (.slice qw qP.length qx), (.slice qu qQ.length qv), .int .i64 qb, .int .i64 qc, (.slice qs qR.length qt), (.slice qq qS.length qr), .int .i64 qe, .int .i64 qf, (.slice qo qU.length qp), (.slice qm qV.length qn)] 28 (0, 0))) ∧ Aside0 (Below w.heap.size w w'))
 case atStart => exact ⟨(y306), (0), (by first | rfl | (simp; done) | (simp [*]; done)), H', ⟨Nat.le_refl _⟩, ⟨by (with_reducible repeat (first | apply Kd.R_alloc | apply Kd.R_drewN | apply Kd.R_drew)); exact jG.out⟩, ⟨by (with_reducible repeat (first | apply Kd.R_alloc | apply Kd.R_drewN | apply Kd.R_drew)); exact qW.out⟩, ⟨by (with_reducible repeat (first | apply Kd.R_alloc | apply Kd.R_drewN | apply Kd.R_drew)); exact Kd.R_mono qX.out (fun _ hk => ⟨hk.1.2, hk.2⟩)⟩, ⟨by (with_reducible repeat (first | apply Kd.R_alloc | apply Kd.R_drewN | apply Kd.R_drew)); exact Kd.R_mono qY.out (fun _ hk => ⟨hk.1.2, hk.2⟩)⟩, ⟨by (with_reducible repeat (first | apply Kd.R_alloc | apply Kd.R_drewN | apply Kd.R_drew)); exact Kd.R_mono qg.out (fun _ hk => ⟨hk.1.2, hk.2⟩)⟩, ⟨by (with_reducible repeat (first | apply Kd.R_alloc | apply Kd.R_drewN | apply Kd.R_drew)); exact Kd.R_mono qh.out (fun _ hk => ⟨hk.1.2, hk.2⟩)⟩, ⟨by (with_reducible repeat (first | apply Kd.R_alloc | apply Kd.R_drewN | apply Kd.R_drew)); exact Kd.R_mono qj.out (fun _ hk => ⟨hk.1.2, hk.2⟩)⟩, ⟨by (with_reducible repeat (first | apply Kd.R_alloc | apply Kd.R_drewN | apply Kd.R_drew)); exact Kd.R_mono qk.out (fun _ hk => ⟨hk.1.2, hk.2⟩)⟩, ⟨by refine lZ ?_; exact qA.out⟩, ⟨by refine lZ ?_; exact qD.out⟩, ⟨by repeat (first | (with_reducible first | exact HB.out | apply below_alloc | apply pw_below_drewN | apply below_drew1 | refine below_set ?_ qM.out | refine below_set ?_ qT.out) | exact HB.out)⟩⟩
 case round =>
  clear H'
  obtain ⟨qd, qi, rfl, HA, HK1, qN, qF, qG, qH, qI, qJ, qK, qL, qA, qD, HB⟩ := hrel
  cases gk with
  | zero => exact absurd HA.out (by simp [swagelaw17_example.l0])
  | succ k1 =>
   have H := HA.out
   clear HA
   simp only [swagelaw17_example.l0] at H
   by_cases c22 : qi < 3
   ·rw [if_pos c22] at H
    have c22b0 : decide (qi < 3) = true := decide_eq_true c22
    clear c22
    obtain ⟨y309, hy309⟩ : ∃ y_ : List Int, y_ = (([1, 1, 0, 0, 1, 0] : List Int)) := ⟨_, rfl⟩
    replace H : (if qd.length + y309.length < 140737488355328 then (swagelaw17_example.l0 k1 (qd ++ y309) (wrap64 (qi + 1)) 1 1 y278 qZ qa qP qQ qb qc qR qS qe qf qU qV) else (none)) = some (r1, r2, r3, r4, r5, r6, r7, r8, r9, r10, r11, r12, r13, r14, r15, r16) := by first | (rw [hy309]; with_reducible exact H) | (have H2_ := (Option.bind_some _ _).symm.trans H; rw [hy309]; with_reducible exact H2_) | (have H2_ := (Option.bind_some _ _).symm.trans H; with_reducible exact H2_) | with_reducible exact H | (rw [hy309]; exact H) | exact H
    have Ny309 := aM hy309
    clear hy309
    by_cases c23 : qd.length + y309.length < 140737488355328
    ·rw [if_pos c23] at H
     have LMc23 := aM c23
     clear c23
     obtain ⟨y312, hy312⟩ : ∃ y_ : List Int, y_ = (qd ++ y309) := ⟨_, rfl⟩
     replace H : (swagelaw17_example.l0 k1 y312 (wrap64 (qi + 1)) 1 1 y278 qZ qa qP qQ qb qc qR qS qe qf qU qV) = some (r1, r2, r3, r4, r5, r6, r7, r8, r9, r10, r11, r12, r13, r14, r15, r16) := by first | (rw [hy312]; with_reducible exact H) | (have H2_ := (Option.bind_some _ _).symm.trans H; rw [hy312]; with_reducible exact H2_) | (have H2_ := (Option.bind_some _ _).symm.trans H; with_reducible exact H2_) | with_reducible exact H | (rw [hy312]; exact H) | exact H
     have Ny312 := aM hy312
     clear hy312
     have H' := aM H
     clear H
     go_wp2_with (first | ((with_reducible refine gate_dst (N := 14) rfl ?_); refine Kd.R_lit (Kd.int .u8) _ 5 ?hg (N := 14) ?hd (xs := ([1, 1, 0, 0, 1, 0] : List Int)) (inner := [.int .u8 1, .int .u8 1, .int .u8 0, .int .u8 0, .int .u8 1, .int .u8 0]) (ok := fun _ => True) (okp := fun _ => True) ?hr ?hp (fun _ hk => hk) trivial (Below.refl _ _) (Nat.le_refl _) (by simp) ?_; (case hd => rfl); (case hg => rfl); (case hr => first | (go_simp; done) | (go_simp; rfl)); (case hp => exact (Reps.one (show Kd.M (Kd.int .u8) _ _ _ 1 [.int .u8 1] from rfl) (Reps.one (show Kd.M (Kd.int .u8) _ _ _ 1 [.int .u8 1] from rfl) (Reps.one (show Kd.M (Kd.int .u8) _ _ _ 0 [.int .u8 0] from rfl) (Reps.one (show Kd.M (Kd.int .u8) _ _ _ 0 [.int .u8 0] from rfl) (Reps.one (show Kd.M (Kd.int .u8) _ _ _ 1 [.int .u8 1] from rfl) (Reps.one (show Kd.M (Kd.int .u8) _ _ _ 0 [.int .u8 0] from rfl) (Reps.none _ _)))))))); intro v310 w24 ho25 hb hg_ hnew_; clear hg_ hnew_; (first | rw [← Ny309.out] at ho25 | (simp only [Int.reduceToNat] at ho25; rw [← Ny309.out] at ho25)); replace qF := aM (Kd.R_below (lR qF) hb); replace qG := aM (Kd.R_below (lR qG) hb); replace qH := aM (Kd.R_below (lR qH) hb); replace qI := aM (Kd.R_below (lR qI) hb); replace qJ := aM (Kd.R_below (lR qJ) hb); replace qK := aM (Kd.R_below (lR qK) hb); replace qL := aM (Kd.R_below (lR qL) hb); have qy := aM (Kd.R_lower (Kd.R_new' ho25 (Kd.R_lt (lR qN))) (below_size (by have := GEc.mk qM.out; have := GEc.mk qT.out; exact lS HB))); replace qN := aM (Kd.R_elder' (lR qN) (Kd.R_base ho25) hb); replace qA := aM (blk_below (g := qE) (lK qA) hb); replace qD := aM (blk_below (g := qO) (lK qD) hb); replace HB := aM (below_step (by have := GEc.mk qM.out; have := GEc.mk qT.out; exact lS HB) hb); clear hb ho25; obtain ⟨jJ, jK, eo27⟩ := Kd.R_slice qy.out; subst eo27) | ((with_reducible refine gate_builtin (b := .append) (xs := #[.tmp 13, .tmp 14]) rfl ?_); at_builtin; refine Kd.R_append_rows (Kd.int .u8) (w0 := w) w.heap.size rfl (.tmp 13) (.tmp 14) 31 5 (.int .u8 0) 1 rfl Try.underlying31 info5 rfl (by decide) (by omega) u3 qd y309 _ _ _ (fun k_ => some k_ ≠ (.slice jJ y309.length jK : Value).ownBlock) (fun _ => False) rfl rfl ?aO ?aR (fun _ _ h => h) (fun _ h => h.elim) ?aF ?aB ?aS ?aL ?_; (case aR => repeat (first | exact (Kd.R_reads' qy.out).2.2 | (with_reducible refine Kd.C_alloc ?_ _) | (with_reducible refine Kd.C_drewN ?_ _) | (with_reducible refine Kd.C_drew ?_))); (case aB => exact (by have := GEc.mk qM.out; have := GEc.mk qT.out; exact lS HB)); (case aF => exact (fun k_ hk => Kd.fresh' (Kd.R_lt (lR qy)) k_ hk)); (case aO => exact (by (with_reducible repeat (first | apply Kd.R_alloc | apply Kd.R_drewN | apply Kd.R_drew)); exact Kd.R_mono qN.out (fun _ hk => hk.2))); (case aS => exact (below_size (by have := GEc.mk qM.out; have := GEc.mk qT.out; exact lS HB))); (case aL => have := LMc23.out; omega); intro v313 w26 ho hb hg hat; rw [← Ny312.out] at ho; replace qF := aM (Kd.R_over' (lR qF) (Kd.R_typed (lR qN)) (by decide) hg); replace qG := aM (Kd.R_over' (lR qG) (Kd.R_typed (lR qN)) (by decide) hg); replace qH := aM (Kd.R_over' (lR qH) (Kd.R_typed (lR qN)) (by decide) hg); replace qI := aM (Kd.R_over' (lR qI) (Kd.R_typed (lR qN)) (by decide) hg); replace qJ := aM (Kd.R_over' (lR qJ) (Kd.R_typed (lR qN)) (by decide) hg); replace qK := aM (Kd.R_over' (lR qK) (Kd.R_typed (lR qN)) (by decide) hg); replace qL := aM (Kd.R_over' (lR qL) (Kd.R_typed (lR qN)) (by decide) hg); replace qA := aM (blk_grown (g := qE) (lK qA) hg (Kd.R_ne qN.out qA.out (by decide))); replace qD := aM (blk_grown (g := qO) (lK qD) hg (Kd.R_ne qN.out qD.out (by decide))); replace qy := aM (Kd.R_after (ok := (fun _ => True)) (lR qy) hg hat); replace HB := aM (hb); have jH := aM (ho); clear qN; clear ho hb hg hat))
     go_roundg k1
     case measure => have := HK1.out; omega
     case rel => exact ⟨(y312), (wrap64 (qi + 1)), (by first | rfl | (simp; done) | (simp [*]; done)), H', ⟨by have := HK1.out; omega⟩, ⟨by (with_reducible repeat (first | apply Kd.R_alloc | apply Kd.R_drewN | apply Kd.R_drew)); exact Kd.R_mono jH.out (fun _ hk => trivial)⟩, ⟨by (with_reducible repeat (first | apply Kd.R_alloc | apply Kd.R_drewN | apply Kd.R_drew)); exact qF.out⟩, ⟨by (with_reducible repeat (first | apply Kd.R_alloc | apply Kd.R_drewN | apply Kd.R_drew)); exact qG.out⟩, ⟨by (with_reducible repeat (first | apply Kd.R_alloc | apply Kd.R_drewN | apply Kd.R_drew)); exact qH.out⟩, ⟨by (with_reducible repeat (first | apply Kd.R_alloc | apply Kd.R_drewN | apply Kd.R_drew)); exact qI.out⟩, ⟨by (with_reducible repeat (first | apply Kd.R_alloc | apply Kd.R_drewN | apply Kd.R_drew)); exact qJ.out⟩, ⟨by (with_reducible repeat (first | apply Kd.R_alloc | apply Kd.R_drewN | apply Kd.R_drew)); exact qK.out⟩, ⟨by (with_reducible repeat (first | apply Kd.R_alloc | apply Kd.R_drewN | apply Kd.R_drew)); exact qL.out⟩, ⟨by refine lZ ?_; exact qA.out⟩, ⟨by refine lZ ?_; exact qD.out⟩, ⟨by repeat (first | (with_reducible first | exact HB.out | apply below_alloc | apply pw_below_drewN | apply below_drew1 | refine below_set ?_ qM.out | refine below_set ?_ qT.out) | exact HB.out)⟩⟩
    ·rw [if_neg c23] at H
     exact absurd H (by simp)
   ·rw [if_neg c22] at H
    have c22b0 : decide (qi < 3) = false := decide_eq_false c22
    clear c22
    obtain ⟨y315, hy315⟩ : ∃ y_ : List Int, y_ = (([3, 93] : List Int)) := ⟨_, rfl⟩
    replace H : (if qd.length + y315.length < 140737488355328 then (some (1, 1, y278, qZ, qa, qP, qQ, qb, qc, qR, qS, qe, qf, qU, qV, (qd ++ y315))) else (none)) = some (r1, r2, r3, r4, r5, r6, r7, r8, r9, r10, r11, r12, r13, r14, r15, r16) := by first | (rw [hy315]; with_reducible exact H) | (have H2_ := (Option.bind_some _ _).symm.trans H; rw [hy315]; with_reducible exact H2_) | (have H2_ := (Option.bind_some _ _).symm.trans H; with_reducible exact H2_) | with_reducible exact H | (rw [hy315]; exact H) | exact H
    have Ny315 := aM hy315
    clear hy315
    by_cases c28 : qd.length + y315.length < 140737488355328
    ·rw [if_pos c28] at H
     have LMc28 := aM c28
     clear c28
     obtain ⟨y318, hy318⟩ : ∃ y_ : List Int, y_ = (qd ++ y315) := ⟨_, rfl⟩
     replace H : (some (1, 1, y278, qZ, qa, qP, qQ, qb, qc, qR, qS, qe, qf, qU, qV, y318)) = some (r1, r2, r3, r4, r5, r6, r7, r8, r9, r10, r11, r12, r13, r14, r15, r16) := by first | (rw [hy318]; with_reducible exact H) | (have H2_ := (Option.bind_some _ _).symm.trans H; rw [hy318]; with_reducible exact H2_) | (have H2_ := (Option.bind_some _ _).symm.trans H; with_reducible exact H2_) | with_reducible exact H | (rw [hy318]; exact H) | exact H
     have Ny318 := aM hy318
     clear hy318
     simp only [Option.some.injEq, Prod.mk.injEq] at H
     obtain ⟨rfl, rfl, rfl, rfl, rfl, rfl, rfl, rfl, rfl, rfl, rfl, rfl, rfl, rfl, rfl, rfl⟩ := H
     try go_wp2
     have n0_ := aM (Kd.R_drew qN.out)
     have n1_ := aM (Kd.R_drew qF.out)
     have n2_ := aM (Kd.R_drew qG.out)
     have n3_ := aM (Kd.R_drew qH.out)
     have n4_ := aM (Kd.R_drew qI.out)
     have n5_ := aM (Kd.R_drew qJ.out)
     have n6_ := aM (Kd.R_drew qK.out)
     have n7_ := aM (Kd.R_drew qL.out)
     have n8_ := aM (blk_drew qA.out)
     have n9_ := aM (blk_drew qD.out)
     have n10_ := aM (below_drew1 HB.out)
     clear qN
     clear qF
     clear qG
     clear qH
     clear qI
     clear qJ
     clear qK
     clear qL
     clear qA
     clear qD
     clear HB
     have qN := n0_
     have qF := n1_
     have qG := n2_
     have qH := n3_
     have qI := n4_
     have qJ := n5_
     have qK := n6_
     have qL := n7_
     have qA := n8_
     have qD := n9_
     have HB := n10_
     clear n0_ n1_ n2_ n3_ n4_ n5_ n6_ n7_ n8_ n9_ n10_
     refine start_ (n := 6) (S := fun w' => w'.cell? ⟨qO, 0, none⟩ = some (.int .i64 1) ∧ w'.cell? ⟨qO, 1, none⟩ = some (.int .i64 1) ∧ w'.cell? ⟨qO, 2, none⟩ = some (.slice qz y278.length q0) ∧ w'.cell? ⟨qO, 3, none⟩ = some (.int .i64 qZ) ∧ w'.cell? ⟨qO, 4, none⟩ = some (.int .i64 qa) ∧ w'.cell? ⟨qO, 5, none⟩ = some (.slice qw qP.length qx) ∧ w'.cell? ⟨qO, 6, none⟩ = some (.slice qu qQ.length qv) ∧ w'.cell? ⟨qO, 7, none⟩ = some (.int .i64 qb) ∧ w'.cell? ⟨qO, 8, none⟩ = some (.int .i64 qc) ∧ w'.cell? ⟨qO, 9, none⟩ = some (.slice qs qR.length qt) ∧ w'.cell? ⟨qO, 10, none⟩ = some (.slice qq qS.length qr) ∧ w'.cell? ⟨qO, 11, none⟩ = some (.int .i64 qe) ∧ w'.cell? ⟨qO, 12, none⟩ = some (.int .i64 qf) ∧ w'.cell? ⟨qO, 13, none⟩ = some (.slice qo qU.length qp) ∧ w'.cell? ⟨qO, 14, none⟩ = some (.slice qm qV.length qn)) (ds := []) #[false, false, false, false, false, false] (by kernel_rfl) rfl rfl ⟨(blk_cell qD.out 0).trans rfl, (blk_cell qD.out 1).trans rfl, (blk_cell qD.out 2).trans rfl, (blk_cell qD.out 3).trans rfl, (blk_cell qD.out 4).trans rfl, (blk_cell qD.out 5).trans rfl, (blk_cell qD.out 6).trans rfl, (blk_cell qD.out 7).trans rfl, (blk_cell qD.out 8).trans rfl, (blk_cell qD.out 9).trans rfl, (blk_cell qD.out 10).trans rfl, (blk_cell qD.out 11).trans rfl, (blk_cell qD.out 12).trans rfl, (blk_cell qD.out 13).trans rfl, (blk_cell qD.out 14).trans rfl⟩ (fun hHeld => ?_)
     generalize wr.drew = w29 at qN qF qG qH qI qJ qK qL qA qD HB hHeld ⊢
     refine pure_ (i := 1) (N := some 18) (v := ?_) (a' := ?_) #[false, true, false, false, false, false] rfl rfl (by kernel_rfl) (fun _ _ _ h => h) (Or.inl ⟨by rfl, ?_⟩) ?_ ?_
     rotate_left
     ·intro w'
      go_simp
      with_reducible rfl
     rotate_left
     ·simp only [Act.put, List.setIfInBounds_toArray, List.set_cons_zero, List.set_cons_succ, i64_w, i32_w]
      rfl
     refine take_ (i := 0) (N := some 17) (v := ?_) (a' := ?_) #[true, true, false, false, false, false] rfl rfl (by kernel_rfl) (fun _ _ _ h => h) (Or.inl ⟨by rfl, ?_⟩) hHeld ?_ ?_
     rotate_left
     ·rintro w' ⟨s0, s1, s2, s3, s4, s5, s6, s7, s8, s9, s10, s11, s12, s13, s14⟩
      go_simp
      with_reducible rfl
     rotate_left
     ·simp only [Act.put, List.setIfInBounds_toArray, List.set_cons_zero, List.set_cons_succ, i64_w, i32_w]
      rfl
     refine one_ (i := 2) (N := some 19) #[true, true, true, false, false, false] rfl rfl (by kernel_rfl) (by decide) (fun K hK => ?_)
     refine Kd.R_lit_step (Kd.int .u8) _ 5 ?hg (N := 19) ?hd (xs := ([3, 93] : List Int)) (inner := [.int .u8 3, .int .u8 93]) (ok := fun _ => True) (okp := fun _ => True) ?hr ?hp (fun _ hk => hk) trivial (Below.refl _ _) (Nat.le_refl _) (by simp) ?_; (case hd => rfl); (case hg => rfl); (case hr => first | (go_simp; done) | (go_simp; rfl)); (case hp => exact (Reps.one (show Kd.M (Kd.int .u8) _ _ _ 3 [.int .u8 3] from rfl) (Reps.one (show Kd.M (Kd.int .u8) _ _ _ 93 [.int .u8 93] from rfl) (Reps.none _ _))))
     intro v316 w30 ho31 hb hg_ hnew_
     clear hg_ hnew_
     (first | rw [← Ny315.out] at ho31 | (simp only [Int.reduceToNat] at ho31; rw [← Ny315.out] at ho31))
     have n0_ := aM (Kd.R_elder' (lR qN) (Kd.R_base ho31) hb)
     have n1_ := aM (Kd.R_below (lR qF) hb)
     have n2_ := aM (Kd.R_below (lR qG) hb)
     have n3_ := aM (Kd.R_below (lR qH) hb)
     have n4_ := aM (Kd.R_below (lR qI) hb)
     have n5_ := aM (Kd.R_below (lR qJ) hb)
     have n6_ := aM (Kd.R_below (lR qK) hb)
     have n7_ := aM (Kd.R_below (lR qL) hb)
     have n8_ := aM (Kd.R_lower (Kd.R_new' ho31 (Kd.R_lt (lR qN))) (below_size (by have := GEc.mk qM.out; have := GEc.mk qT.out; exact lS HB)))
     have n9_ := aM (blk_below (g := qE) (lK qA) hb)
     have n10_ := aM (blk_below (g := qO) (lK qD) hb)
     have n11_ := aM (below_step (by have := GEc.mk qM.out; have := GEc.mk qT.out; exact lS HB) hb)
     clear qN
     clear qF
     clear qG
     clear qH
     clear qI
     clear qJ
     clear qK
     clear qL
     clear qA
     clear qD
     clear HB
     have qN := n0_
     have qF := n1_
     have qG := n2_
     have qH := n3_
     have qI := n4_
     have qJ := n5_
     have qK := n6_
     have qL := n7_
     have ql := n8_
     have qA := n9_
     have qD := n10_
     have HB := n11_
     clear n0_ n1_ n2_ n3_ n4_ n5_ n6_ n7_ n8_ n9_ n10_ n11_
     clear hb ho31
     obtain ⟨jL, jM, eo33⟩ := Kd.R_slice ql.out
     (first | subst eo33 | (injection eo33 with f1_ f2_ f3_; have f4_ := f1_.symm; have f5_ := f3_.symm; clear f1_ f2_ f3_; subst f4_; subst f5_))
     refine hK.out _ _ (zc15 qD.out) (fun hHeld => ?_)
     clear hK K
     refine norm_ (a' := ?_) ?_ ?_
     rotate_left
     ·show Act.put _ (some 19) _ = _
      simp only [Act.put, List.setIfInBounds_toArray, List.set_cons_zero, List.set_cons_succ, i64_w, i32_w]
      rfl
     refine one_ (i := 3) (N := some 20) #[true, true, true, true, false, false] rfl rfl (by kernel_rfl) (by decide) (fun K hK => ?_)
     refine Kd.R_append_rows_step (Kd.int .u8) (w0 := w) w.heap.size (by rfl) (.tmp 18) (.tmp 19) 31 5 (.int .u8 0) 1 rfl Try.underlying31 info5 rfl (by decide) (by omega) u3 qd y315 _ _ _ (fun k_ => some k_ ≠ (.slice jL y315.length jM : Value).ownBlock) (fun _ => False) rfl rfl ?aO ?aR (fun _ _ h => h) (fun _ h => h.elim) ?aF ?aB ?aS ?aL ?_
     (case aR => repeat (first | exact (Kd.R_reads' ql.out).2.2 | (with_reducible refine Kd.C_alloc ?_ _) | (with_reducible refine Kd.C_drewN ?_ _) | (with_reducible refine Kd.C_drew ?_)))
     (case aB => exact (by have := GEc.mk qM.out; have := GEc.mk qT.out; exact lS HB))
     (case aF => exact (fun k_ hk => Kd.fresh' (Kd.R_lt (lR ql)) k_ hk))
     (case aO => exact (by (with_reducible repeat (first | apply Kd.R_alloc | apply Kd.R_drewN | apply Kd.R_drew)); exact Kd.R_mono qN.out (fun _ hk => hk.2)))
     (case aS => exact (below_size (by have := GEc.mk qM.out; have := GEc.mk qT.out; exact lS HB)))
     (case aL => have := LMc28.out; omega)
     intro v319 w32 ho hb hg hat
     rw [← Ny318.out] at ho
     have n0_ := aM (Kd.R_over' (lR qF) (Kd.R_typed (lR qN)) (by decide) hg)
     have n1_ := aM (Kd.R_over' (lR qG) (Kd.R_typed (lR qN)) (by decide) hg)
     have n2_ := aM (Kd.R_over' (lR qH) (Kd.R_typed (lR qN)) (by decide) hg)
     have n3_ := aM (Kd.R_over' (lR qI) (Kd.R_typed (lR qN)) (by decide) hg)
     have n4_ := aM (Kd.R_over' (lR qJ) (Kd.R_typed (lR qN)) (by decide) hg)
     have n5_ := aM (Kd.R_over' (lR qK) (Kd.R_typed (lR qN)) (by decide) hg)
     have n6_ := aM (Kd.R_over' (lR qL) (Kd.R_typed (lR qN)) (by decide) hg)
     have n7_ := aM (blk_grown (g := qE) (lK qA) hg (Kd.R_ne qN.out qA.out (by decide)))
     have n8_ := aM (blk_grown (g := qO) (lK qD) hg (Kd.R_ne qN.out qD.out (by decide)))
     have n9_ := aM (Kd.R_after (ok := (fun _ => True)) (lR ql) hg hat)
     have n10_ := aM (hb)
     have n11_ := aM (ho)
     clear qF
     clear qG
     clear qH
     clear qI
     clear qJ
     clear qK
     clear qL
     clear qA
     clear qD
     clear ql
     clear HB
     clear qN
     have qF := n0_
     have qG := n1_
     have qH := n2_
     have qI := n3_
     have qJ := n4_
     have qK := n5_
     have qL := n6_
     have qA := n7_
     have qD := n8_
     have ql := n9_
     have HB := n10_
     have jI := n11_
     clear n0_ n1_ n2_ n3_ n4_ n5_ n6_ n7_ n8_ n9_ n10_ n11_
     clear ho hb hg hat
     refine hK.out _ _ (zc15 qD.out) (fun hHeld => ?_)
     clear hK K
     refine norm_ (a' := ?_) ?_ ?_
     rotate_left
     ·show Act.put _ (some 20) _ = _
      simp only [Act.put, List.setIfInBounds_toArray, List.set_cons_zero, List.set_cons_succ, i64_w, i32_w]
      rfl
     refine one_ (i := 4) (N := none) #[true, true, true, true, true, false] rfl rfl (by kernel_rfl) (by decide) (fun K hK => ?_)
     have yC : w32.cell? ⟨qE, 0, none⟩ = some (.int .i64 0) := (blk_cell qA.out 0).trans rfl
     have jx := blk_frozen qA.out 0
     have jP := qC.out
     have jQ := qB.out
     have yD : w32.cell? ⟨qE, 1, none⟩ = some (.int .i64 0) := (blk_cell qA.out 1).trans rfl
     have jy := blk_frozen qA.out 1
     have jR := qC.out
     have jS := qB.out
     have yE : w32.cell? ⟨qE, 2, none⟩ = some (.slice none 0 0) := (blk_cell qA.out 2).trans rfl
     have jz := blk_frozen qA.out 2
     have jT := qC.out
     have jU := qB.out
     have yF : w32.cell? ⟨qE, 3, none⟩ = some (.int .i64 0) := (blk_cell qA.out 3).trans rfl
     have j0 := blk_frozen qA.out 3
     have jV := qC.out
     have jW := qB.out
     have yG : w32.cell? ⟨qE, 4, none⟩ = some (.int .i64 0) := (blk_cell qA.out 4).trans rfl
     have j1 := blk_frozen qA.out 4
     have jX := qC.out
     have jY := qB.out
     have yH : w32.cell? ⟨qE, 5, none⟩ = some (.slice none 0 0) := (blk_cell qA.out 5).trans rfl
     have j2 := blk_frozen qA.out 5
     have jZ := qC.out
     have ja := qB.out
     have yI : w32.cell? ⟨qE, 6, none⟩ = some (.slice none 0 0) := (blk_cell qA.out 6).trans rfl
     have j3 := blk_frozen qA.out 6
     have jb := qC.out
     have jc := qB.out
     have yJ : w32.cell? ⟨qE, 7, none⟩ = some (.int .i64 0) := (blk_cell qA.out 7).trans rfl
     have j4 := blk_frozen qA.out 7
     have jd := qC.out
     have je := qB.out
     have yK : w32.cell? ⟨qE, 8, none⟩ = some (.int .i64 0) := (blk_cell qA.out 8).trans rfl
     have j5 := blk_frozen qA.out 8
     have jf := qC.out
     have jg := qB.out
     have yL : w32.cell? ⟨qE, 9, none⟩ = some (.slice none 0 0) := (blk_cell qA.out 9).trans rfl
     have j6 := blk_frozen qA.out 9
     have jh := qC.out
     have ji := qB.out
     have yM : w32.cell? ⟨qE, 10, none⟩ = some (.slice none 0 0) := (blk_cell qA.out 10).trans rfl
     have j7 := blk_frozen qA.out 10
     have jj := qC.out
     have jk := qB.out
     have yN : w32.cell? ⟨qE, 11, none⟩ = some (.int .i64 0) := (blk_cell qA.out 11).trans rfl
     have j8 := blk_frozen qA.out 11
     have jl := qC.out
     have jm := qB.out
     have yO : w32.cell? ⟨qE, 12, none⟩ = some (.int .i64 0) := (blk_cell qA.out 12).trans rfl
     have j9 := blk_frozen qA.out 12
     have jn := qC.out
     have jo := qB.out
     have yP : w32.cell? ⟨qE, 13, none⟩ = some (.slice none 0 0) := (blk_cell qA.out 13).trans rfl
     have yA := blk_frozen qA.out 13
     have jp := qC.out
     have jq := qB.out
     have yQ : w32.cell? ⟨qE, 14, none⟩ = some (.slice none 0 0) := (blk_cell qA.out 14).trans rfl
     have yB := blk_frozen qA.out 14
     have jr := qC.out
     have js := qB.out
     refine skip_ (w1 := ?_) (by rfl) rfl ?_ ?_
     rotate_left
     ·go_simp
      rfl
     refine hK.out _ _ ⟨((zf15 qC.out).trans (hHeld.1)), ((zf15 qC.out).trans (hHeld.2.1)), ((zf15 qC.out).trans (hHeld.2.2.1)), ((zf15 qC.out).trans (hHeld.2.2.2.1)), ((zf15 qC.out).trans (hHeld.2.2.2.2.1)), ((zf15 qC.out).trans (hHeld.2.2.2.2.2.1)), ((zf15 qC.out).trans (hHeld.2.2.2.2.2.2.1)), ((zf15 qC.out).trans (hHeld.2.2.2.2.2.2.2.1)), ((zf15 qC.out).trans (hHeld.2.2.2.2.2.2.2.2.1)), ((zf15 qC.out).trans (hHeld.2.2.2.2.2.2.2.2.2.1)), ((zf15 qC.out).trans (hHeld.2.2.2.2.2.2.2.2.2.2.1)), ((zf15 qC.out).trans (hHeld.2.2.2.2.2.2.2.2.2.2.2.1)), ((zf15 qC.out).trans (hHeld.2.2.2.2.2.2.2.2.2.2.2.2.1)), ((zf15 qC.out).trans (hHeld.2.2.2.2.2.2.2.2.2.2.2.2.2.1)), ((zf15 qC.out).trans (hHeld.2.2.2.2.2.2.2.2.2.2.2.2.2.2))⟩ (fun hHeld => ?_)
     clear hK K
     refine pure_ (i := 5) (N := some 1) (v := ?_) (a' := ?_) #[true, true, true, true, true, true] rfl rfl (by kernel_rfl) (fun _ _ _ h => h) (Or.inl ⟨by rfl, ?_⟩) ?_ ?_
     rotate_left
     ·intro w'
      go_simp
      with_reducible rfl
     rotate_left
     ·simp only [Act.put, List.setIfInBounds_toArray, List.set_cons_zero, List.set_cons_succ, i64_w, i32_w]
      rfl
     refine done_ (by kernel_rfl) ?_
     try go_wp2
     refine bodyPost_ret (results_ct rfl _ _ qE 28 #[.int .i64 1, .int .i64 1, .slice qz y278.length q0, .int .i64 qZ, .int .i64 qa, .slice qw qP.length qx, .slice qu qQ.length qv, .int .i64 qb, .int .i64 qc, .slice qs qR.length qt, .slice qq qS.length qr, .int .i64 qe, .int .i64 qf, .slice qo qU.length qp, .slice qm qV.length qn] (0, 0) _ rfl (by refine lZ ?_; apply zp15; refine lZ ?_; exact qA.out) Try.underlying28 rfl (by kernel_rfl)) rfl ?_
     exact ⟨_, _, _, _, _, _, _, _, by first | rfl | (simp [errW_none, errW_some] <;> rfl) | (simp [*, errW_none, errW_some] <;> rfl), by (with_reducible repeat (first | apply Kd.R_alloc | apply Kd.R_drewN | apply Kd.R_drew)); exact Kd.R_mono (zR15 (Kd.R_types qF.out qA.out (by decide))) (fun _ hk => trivial), by (with_reducible repeat (first | apply Kd.R_alloc | apply Kd.R_drewN | apply Kd.R_drew)); exact Kd.R_mono (zR15 (Kd.R_types qG.out qA.out (by decide))) (fun _ hk => ⟨hk.1.1, hk.1.2⟩), by (with_reducible repeat (first | apply Kd.R_alloc | apply Kd.R_drewN | apply Kd.R_drew)); exact Kd.R_mono (zR15 (Kd.R_types qH.out qA.out (by decide))) (fun _ hk => ⟨hk.1.1, hk.1.2⟩), by (with_reducible repeat (first | apply Kd.R_alloc | apply Kd.R_drewN | apply Kd.R_drew)); exact Kd.R_mono (zR15 (Kd.R_types qI.out qA.out (by decide))) (fun _ hk => ⟨hk.1.1, hk.1.2⟩), by (with_reducible repeat (first | apply Kd.R_alloc | apply Kd.R_drewN | apply Kd.R_drew)); exact Kd.R_mono (zR15 (Kd.R_types qJ.out qA.out (by decide))) (fun _ hk => ⟨hk.1.1, hk.1.2⟩), by (with_reducible repeat (first | apply Kd.R_alloc | apply Kd.R_drewN | apply Kd.R_drew)); exact Kd.R_mono (zR15 (Kd.R_types qK.out qA.out (by decide))) (fun _ hk => ⟨hk.1.1, hk.1.2⟩), by (with_reducible repeat (first | apply Kd.R_alloc | apply Kd.R_drewN | apply Kd.R_drew)); exact Kd.R_mono (zR15 (Kd.R_types qL.out qA.out (by decide))) (fun _ hk => ⟨hk.1.1, hk.1.2⟩), by (with_reducible repeat (first | apply Kd.R_alloc | apply Kd.R_drewN | apply Kd.R_drew)); exact Kd.R_mono (zR15 (Kd.R_types jI.out qA.out (by decide))) (fun _ hk => trivial), by repeat (first | (with_reducible first | exact HB.out | apply below_alloc | apply pw_below_drewN | apply below_drew1 | refine below_set ?_ qM.out | refine below_set ?_ qT.out) | exact HB.out)⟩
    ·rw [if_neg c28] at H
     exact absurd H (by simp)

end Go.Proofs.Ytccbdcbeinkjgaa.XA
end

section
namespace Go.Proofs.Ytccbdcbeinkjgaa.XA
open Go.Proofs.Ytccbdcbeinkjgaa.Lift Go.RowKit Go.Proofs.YtccbdcbeinkjgaaW.PrintWords Go.Proofs.YtccbdcbeinkjgaaW.PrintLast Go.Proofs.YtccbdcbeinkjgaaW.PrintMore
attribute [local go_sem] max2_int min2_int max_two min_two max_three min_three max_four min_four
set_option linter.unusedVariables false
set_option linter.unusedSimpArgs false

/-! ### code_reader_constant: function 56 -/
--IMPORT Derived.Laws.EntriesVeiled
/-- May an instruction's constant be c? -/
def mayC (op c : Int) : Bool := if op = 5 ∨ op = 6 then (!(c == 0)) && (decide (-512 ≤ c) && decide (c ≤ 512)) else if op = 7 ∨ op = 8 then decide (1 ≤ c) && decide (c ≤ 64) else c == 0
/-- Two bytes as a number with a sign. -/
def both16 (h l : Int) : Int := if h ≤ 127 then h * 256 + l else h * 256 + l - 65536
def anyLow (op x : Int) : Bool := (List.range 256).any fun l => mayC op (both16 x (l : Int))
set_option maxHeartbeats 4000000 in
theorem may_any (op c : Int) (g1 : Nat) (W : World) (h1 : W.cell? ⟨g1, 0, none⟩ = some (.int .i64 op)) :
  Calls Try.prog 61 #[.int .i64 c, .pointer (some ⟨g1, 0, none⟩)] W fun e w' => e = .returned (.bool (mayC op c)) ∧ w' = W := by
 unfold mayC
 by_cases c5 : op = 5
 ·subst c5
  cases h0 : c == 0 <;> cases h2 : decide (-512 ≤ c)
  all_goals
   have h0n : (c != 0) = !(c == 0) := rfl
   rw [h0] at h0n
   go_enter Try.func61, Try.ntmps61
   go_wp2
   repeat (go_quiet (fail); try go_wp2)
   go_ret
   exact ⟨by simp [h0, h2], rfl⟩
 ·have c5b : (op == 5) = false := beq_eq_false_iff_ne.2 c5
  by_cases c6 : op = 6
  ·subst c6
   clear c5
   cases h0 : c == 0 <;> cases h2 : decide (-512 ≤ c)
   all_goals
    have h0n : (c != 0) = !(c == 0) := rfl
    rw [h0] at h0n
    go_enter Try.func61, Try.ntmps61
    go_wp2
    repeat (go_quiet (fail); try go_wp2)
    go_ret
    exact ⟨by simp [h0, h2], rfl⟩
  ·have c6b : (op == 6) = false := beq_eq_false_iff_ne.2 c6
   rw [if_neg (by omega)]
   by_cases c7 : op = 7
   ·subst c7
    clear c5 c6
    cases h2 : decide (1 ≤ c)
    all_goals
     go_enter Try.func61, Try.ntmps61
     go_wp2
     repeat (go_quiet (fail); try go_wp2)
     go_ret
     exact ⟨by simp [h2], rfl⟩
   ·have c7b : (op == 7) = false := beq_eq_false_iff_ne.2 c7
    by_cases c8 : op = 8
    ·subst c8
     clear c5 c6 c7
     cases h2 : decide (1 ≤ c)
     all_goals
      go_enter Try.func61, Try.ntmps61
      go_wp2
      repeat (go_quiet (fail); try go_wp2)
      go_ret
      exact ⟨by simp [h2], rfl⟩
    ·have c8b : (op == 8) = false := beq_eq_false_iff_ne.2 c8
     rw [if_neg (by omega)]
     clear c5 c6 c7 c8
     go_enter Try.func61, Try.ntmps61
     go_wp2
     repeat (go_quiet (fail); try go_wp2)
     go_ret
     exact ⟨rfl, rfl⟩
theorem or256 {h l : Int} (h0 : 0 ≤ h) (h1 : h ≤ 255) (l0 : 0 ≤ l) (l1 : l ≤ 255) : Go.bits .or .i64 (h * 256) l = h * 256 + l := by
 have e32 : (2 : Int) ^ 32 = 4294967296 := by decide
 have e8 : (2 : Int) ^ 8 = 256 := by decide
 refine bits_join .i64 32 (by decide) (fun n a b => ?_) 8 (h * 256) l (by omega) (by rw [e8]; omega) (by rw [e32]; omega) l0 (by rw [e8]; omega) (by rw [e32]; omega)
 rw [e32] at b
 rw [i64_w]; unfold wrap64; omega
theorem both_any (h l : Int) (h0 : 0 ≤ h) (h1 : h ≤ 255) (l0 : 0 ≤ l) (l1 : l ≤ 255) (W : World) :
  Calls Try.prog 62 #[.int .i64 h, .int .i64 l] W fun e w' => e = .returned (.int .i64 (both16 h l)) ∧ w' = W := by
 have ho := or256 h0 h1 l0 l1
 have h16 : IntKind.i16.wrap (h * 256 + l) = both16 h l := by
  unfold both16
  simp [IntKind.wrap, IntKind.bits, IntKind.signed]
  split <;> omega
 have h64 : IntKind.i64.wrap (both16 h l) = both16 h l := by rw [i64_w]; unfold both16 wrap64; split <;> omega
 have h64b : wrap64 (both16 h l) = both16 h l := by rw [← i64_w]; exact h64
 go_enter Try.func62, Try.ntmps62
 go_wp2
 go_ret
 exact ⟨rfl, rfl⟩
theorem drawn_on {W w : World} (h : ∃ q, w = W.drewN q) (n : Nat) : ∃ q, w.drewN n = W.drewN q := by
 obtain ⟨q, rfl⟩ := h
 exact ⟨q + n, World.drewN_drewN ..⟩
theorem any_before (op x : Int) (k : Nat) (h : ∀ j : Nat, j < k → mayC op (both16 x (j : Int)) = false) (hk : k = 256) : anyLow op x = false := by
 subst hk
 unfold anyLow
 rw [List.any_eq_false]
 intro l hl
 rw [h l (List.mem_range.1 hl)]
 decide
theorem any_here (op x : Int) (k : Nat) (hk : k < 256) (h : mayC op (both16 x (k : Int)) = true) : anyLow op x = true := List.any_eq_true.2 ⟨k, List.mem_range.2 hk, h⟩
set_option maxHeartbeats 4000000 in
set_option maxRecDepth 100000 in
theorem high_pred (op : Int) (gm gb g1 : Nat) (w : World) (hm : w.cell? ⟨gm, 0, none⟩ = some (.func (.func 61) #[] #[.pointer (some ⟨g1, 0, none⟩)])) (hb : w.cell? ⟨gb, 0, none⟩ = some (.func (.func 62) #[] #[])) (ho : w.cell? ⟨g1, 0, none⟩ = some (.int .i64 op)) (b1 : gm < w.heap.size) (b2 : gb < w.heap.size) (b3 : g1 < w.heap.size) :
  PredB Try.prog 63 #[.pointer (some ⟨gm, 0, none⟩), .pointer (some ⟨gb, 0, none⟩)] (anyLow op) w := by
 intro W x x0 x1 hB
 have cm := (hB.cell (p := ⟨gm, 0, none⟩) b1).trans hm
 have cb := (hB.cell (p := ⟨gb, 0, none⟩) b2).trans hb
 have co := (hB.cell (p := ⟨g1, 0, none⟩) b3).trans ho
 clear hm hb ho b1 b2 b3 hB
 unfold FnGives
 go_enter Try.func63, Try.ntmps63
 go_wp2
 go_loopw [6] (fun i wr => ∃ k : Nat, k ≤ 256 ∧ i = .int .i64 k ∧ (∀ j : Nat, j < k → mayC op (both16 x (j : Int)) = false) ∧ ∃ q, wr = W.drewN q) (fun i _ => 256 - (intOf i).toNat)
 case atStart => exact ⟨0, by omega, rfl, fun j hj => absurd hj (Nat.not_lt_zero _), 0, rfl⟩
 case round =>
  obtain ⟨k, hk, rfl, hall, hq⟩ := hrel
  have HA := aM hall
  have HQ := aM hq
  have cm' : wr.cell? ⟨gm, 0, none⟩ = some (.func (.func 61) #[] #[.pointer (some ⟨g1, 0, none⟩)]) := by obtain ⟨q, rfl⟩ := hq; exact cm
  have cb' : wr.cell? ⟨gb, 0, none⟩ = some (.func (.func 62) #[] #[]) := by obtain ⟨q, rfl⟩ := hq; exact cb
  have co' : wr.cell? ⟨g1, 0, none⟩ = some (.int .i64 op) := by obtain ⟨q, rfl⟩ := hq; exact co
  clear hall hq cm cb co
  by_cases hlt : k < 256
  ·have k0 : (0 : Int) ≤ (k : Int) := Int.natCast_nonneg k
   have k1 : (k : Int) ≤ 255 := by omega
   cases hmc : mayC op (both16 x (k : Int))
   ·have HM := aM hmc
    clear hmc
    go_wp2
    go_quiet ((first | (go_at_call 62; exact Calls.quiet_of_same (both_any x k x0 x1 k0 k1 _)) | (go_at_call 61; exact Calls.quiet_of_same ((may_any op _ g1 _ (by go_simp)).mono (fun e w' h => by rw [HM.out] at h; exact h)))))
    go_wp2
    go_roundw
    case rel =>
     refine ⟨k + 1, by omega, by go_num, fun j hj => ?_, drawn_on HQ.out _⟩
     by_cases e : j = k
     ·rw [e]; exact HM.out
     ·exact HA.out j (by omega)
    case measure => simp [intOf]; omega
   ·have HM := aM hmc
    have HR := aM (any_here op x k hlt hmc)
    clear hmc
    go_wp2
    go_quiet ((first | (go_at_call 62; exact Calls.quiet_of_same (both_any x k x0 x1 k0 k1 _)) | (go_at_call 61; exact Calls.quiet_of_same ((may_any op _ g1 _ (by go_simp)).mono (fun e w' h => by rw [HM.out] at h; exact h)))))
    go_wp2
    go_ret
    exact ⟨by rw [HR.out]; rfl, drawn_on HQ.out _⟩
  ·have HR := aM (any_before op x k HA.out (by omega))
   go_wp2
   go_ret
   exact ⟨by rw [HR.out]; rfl, HQ.out⟩
set_option maxHeartbeats 4000000 in
set_option maxRecDepth 100000 in
theorem low_pred (op h : Int) (h0 : 0 ≤ h) (h1 : h ≤ 255) (gm gb g1 gh : Nat) (w : World) (hm : w.cell? ⟨gm, 0, none⟩ = some (.func (.func 61) #[] #[.pointer (some ⟨g1, 0, none⟩)])) (hb : w.cell? ⟨gb, 0, none⟩ = some (.func (.func 62) #[] #[])) (ho : w.cell? ⟨g1, 0, none⟩ = some (.int .i64 op)) (hh : w.cell? ⟨gh, 0, none⟩ = some (.int .i64 h)) (b1 : gm < w.heap.size) (b2 : gb < w.heap.size) (b3 : g1 < w.heap.size) (b4 : gh < w.heap.size) :
  PredB Try.prog 64 #[.pointer (some ⟨gm, 0, none⟩), .pointer (some ⟨gb, 0, none⟩), .pointer (some ⟨gh, 0, none⟩)] (fun x => mayC op (both16 h x)) w := by
 intro W x x0 x1 hB
 have cm := (hB.cell (p := ⟨gm, 0, none⟩) b1).trans hm
 have cb := (hB.cell (p := ⟨gb, 0, none⟩) b2).trans hb
 have co := (hB.cell (p := ⟨g1, 0, none⟩) b3).trans ho
 have ch := (hB.cell (p := ⟨gh, 0, none⟩) b4).trans hh
 clear hm hb ho hh b1 b2 b3 b4 hB
 unfold FnGives
 cases hmc : mayC op (both16 h x)
 all_goals
  have HM := aM hmc
  clear hmc
  go_enter Try.func64, Try.ntmps64
  go_wp2
  go_quiet ((first | (go_at_call 62; exact Calls.quiet_of_same (both_any h x h0 h1 x0 x1 _)) | (go_at_call 61; exact Calls.quiet_of_same ((may_any op _ g1 _ (by go_simp)).mono (fun e w' h => by rw [HM.out] at h; exact h)))))
  go_wp2
  go_ret
  exact ⟨by rw [HM.out]; rfl, _, rfl⟩
def code_reader_constant.f (s0_0 : List Int) (s0_1 : Int) (s0_2 : Bool) (a1 : Int) : Option (Int × Int × Bool) := (byteF (anyLow a1) s0_0 s0_1 s0_2).bind fun b => (byteF (fun x => mayC a1 (both16 b.1 x)) s0_0 b.2.1 b.2.2).bind fun c => some (both16 b.1 c.1, c.2.1, c.2.2)
theorem keep_cell {w w1 : World} {g b : Nat} {row : Option Nat} {v : Value} (hk : KeepBut w w1 g row) (hr : row = none) (hc : w.cell? ⟨b, 0, none⟩ = some v) (hb : b < w.heap.size) (hne : b ≠ g) : w1.cell? ⟨b, 0, none⟩ = some v := by
 subst hr
 obtain ⟨o, ho⟩ : ∃ o, w.heap[b]? = some o := ⟨_, Array.getElem?_eq_getElem hb⟩
 have h1 := hk.blk ho hne (by simp)
 rw [← hc]
 unfold World.cell?
 simp only [h1, ho]
theorem cell_on {w : World} {b : Nat} {v : Value} (o : Obj) (h : w.cell? ⟨b, 0, none⟩ = some v) (hb : b < w.heap.size) : (w.alloc o).cell? ⟨b, 0, none⟩ = some v :=
 ((below_alloc (Below.refl w.heap.size w) o).cell (p := ⟨b, 0, none⟩) hb).trans h
set_option maxHeartbeats 4000000 in
set_option maxRecDepth 100000 in
theorem code_reader_constant.calls (g : Nat) (s0_0 : List Int) (s0_1 : Int) (s0_2 : Bool) (a1 : Int) (r1 : Int) (r2 : Int) (r3 : Bool) (w0 w : World) (hI : IsS70 w0 w g s0_0 s0_1 s0_2) (hB : Below w0.heap.size w0 w) (h : code_reader_constant.f s0_0 s0_1 s0_2 a1 = some (r1, r2, r3)) :
  Calls Try.prog 56 #[.pointer (some ⟨g, 0, none⟩), .int .i64 a1] w fun e w' => e = .returned (.int .i64 r1) ∧ IsS70 w0 w' g s0_0 r2 r3 ∧ Below w0.heap.size w0 w' ∧ KeepBut w w' g none := by
 unfold code_reader_constant.f at h
 obtain ⟨⟨x, y, z⟩, hb, h⟩ := Option.bind_eq_some_iff.mp h
 obtain ⟨⟨x2, y2, z2⟩, hb2, h⟩ := Option.bind_eq_some_iff.mp h
 simp only [Option.some.injEq, Prod.mk.injEq] at h
 obtain ⟨rfl, rfl, rfl⟩ := h
 obtain ⟨x0, x1⟩ := byteF_rng hb
 obtain ⟨u0, u1⟩ := byteF_rng hb2
 have HB2 := aM hb2
 have HB1 := aM hb
 have egH := enters_of Try.func63 (by kernel_rfl) rfl
 have egL := enters_of Try.func64 (by kernel_rfl) rfl
 have hlt := IsS70.lt hI
 have hI1 := IsS70.alloc (IsS70.alloc (IsS70.alloc hI (.cells #[.int .i64 a1] 3)) (.cells #[.func (.func 61) #[] #[.pointer (some ⟨w.heap.size, 0, none⟩)]] 89)) (.cells #[.func (.func 62) #[] #[]] 71)
 have hB1 := below_alloc (below_alloc (below_alloc hB (.cells #[.int .i64 a1] 3)) (.cells #[.func (.func 61) #[] #[.pointer (some ⟨w.heap.size, 0, none⟩)]] 89)) (.cells #[.func (.func 62) #[] #[]] 71)
 obtain ⟨W1, hW1⟩ : ∃ W1, W1 = ((w.alloc (.cells #[.int .i64 a1] 3)).alloc (.cells #[.func (.func 61) #[] #[.pointer (some ⟨w.heap.size, 0, none⟩)]] 89)).alloc (.cells #[.func (.func 62) #[] #[]] 71) := ⟨_, rfl⟩
 have hK1 : KeepBut w W1 g none := by rw [hW1]; repeat (first | (with_reducible first | exact KeepBut.refl w g none | apply keep_alloc) | exact KeepBut.refl w g none)
 have hz1 : W1.heap.size = w.heap.size + 3 := by rw [hW1]; simp
 have c1 : W1.cell? ⟨w.heap.size + 1, 0, none⟩ = some (.func (.func 61) #[] #[.pointer (some ⟨w.heap.size, 0, none⟩)]) := by rw [hW1]; go_simp
 have c2 : W1.cell? ⟨w.heap.size + 1 + 1, 0, none⟩ = some (.func (.func 62) #[] #[]) := by rw [hW1]; go_simp
 have c3 : W1.cell? ⟨w.heap.size, 0, none⟩ = some (.int .i64 a1) := by rw [hW1]; go_simp
 rw [← hW1] at hI1 hB1
 have C1 := code_reader_byte egH g s0_0 s0_1 s0_2 x y z w0 W1 (high_pred a1 (w.heap.size + 1) (w.heap.size + 1 + 1) w.heap.size W1 c1 c2 c3 (by omega) (by omega) (by omega)) hI1 hB1 hb
 have C2 : ∀ w1, IsS70 w0 w1 g s0_0 y z → Below w0.heap.size w0 w1 → KeepBut W1 w1 g none → ∀ gh, w1.heap.size = gh → (Calls Try.prog 51 #[.pointer (some ⟨g, 0, none⟩), .func (.func 64) #[] #[.pointer (some ⟨w.heap.size + 1, 0, none⟩), .pointer (some ⟨w.heap.size + 1 + 1, 0, none⟩), .pointer (some ⟨gh, 0, none⟩)]] (w1.alloc (.cells #[.int .i64 x] 3)) fun e w' => e = .returned (.int .i64 x2) ∧ IsS70 w0 w' g s0_0 y2 z2 ∧ Below w0.heap.size w0 w' ∧ KeepBut W1 w' g none ∧ w'.cell? ⟨w.heap.size + 1 + 1, 0, none⟩ = some (.func (.func 62) #[] #[]) ∧ w'.cell? ⟨gh, 0, none⟩ = some (.int .i64 x)) := by
  intro w1 hI2 hB2 hK2 gh hgh
  subst hgh
  have hz2 := hK2.1
  have d1 := cell_on (.cells #[.int .i64 x] 3) (keep_cell hK2 rfl c1 (by omega) (by omega)) (by omega)
  have d2 := cell_on (.cells #[.int .i64 x] 3) (keep_cell hK2 rfl c2 (by omega) (by omega)) (by omega)
  have d3 := cell_on (.cells #[.int .i64 x] 3) (keep_cell hK2 rfl c3 (by omega) (by omega)) (by omega)
  have d4 : (w1.alloc (.cells #[.int .i64 x] 3)).cell? ⟨w1.heap.size, 0, none⟩ = some (.int .i64 x) := by go_simp
  have hK3 := keep_alloc hK2 (.cells #[.int .i64 x] 3)
  refine (code_reader_byte egL g s0_0 y z x2 y2 z2 w0 _ (low_pred a1 x x0 x1 (w.heap.size + 1) (w.heap.size + 1 + 1) w.heap.size w1.heap.size _ d1 d2 d3 d4 (by simp; omega) (by simp; omega) (by simp; omega) (by simp)) (IsS70.alloc hI2 _) (below_alloc hB2 _) hb2).mono ?_
  rintro e w' ⟨he, q1, q2, q3⟩
  exact ⟨he, q1, q2, hK3.trans q3 (Or.inl rfl), keep_cell q3 rfl d2 (by simp; omega) (by omega), keep_cell q3 rfl d4 (by simp) (by omega)⟩
 have HC2 := aM C2
 have HK1 := aM hK1
 subst hW1
 clear hb hb2 hI hB hI1 hB1 C2 hK1 c1 c2 c3 hz1 hlt
 go_enter Try.func56, Try.ntmps56
 go_wp2_with (first | (go_at_call 51; refine C1.mono ?_; rintro e w1 ⟨rfl, hI2, hB2, hK2⟩; have HN := aM (HC2.out w1 hI2 hB2 hK2 _ rfl); clear C1 hI2 hB2 hK2) | (go_at_call 51; refine HN.out.mono ?_; rintro e w2 ⟨rfl, hI3, hB3, hK3, e1, e2⟩) | (go_at_call 62; refine (both_any x x2 x0 x1 u0 u1 _).mono ?_; rintro e w' ⟨rfl, rfl⟩))
 go_ret
 exact ⟨rfl, hI3, hB3, HK1.out.trans hK3 (Or.inl rfl)⟩

/-! ### code_reader_program_1: function 54 -/
theorem program1_pred (w : World) : PredB Try.prog 54 #[] (fun x => decide (x * 256 ≤ 16384)) w := by
 intro W x x0 x1 hb
 unfold FnGives
 go_enter Try.func54, Try.ntmps54
 go_wp2
 go_ret
 exact ⟨rfl, 0, rfl⟩
def code_reader_program_1.f (s0_0 : List Int) (s0_1 : Int) (s0_2 : Bool) : Option (Int × Int × Bool) := byteF (fun x => decide (x * 256 ≤ 16384)) s0_0 s0_1 s0_2
theorem code_reader_program_1.calls (g : Nat) (s0_0 : List Int) (s0_1 : Int) (s0_2 : Bool) (r1 : Int) (r2 : Int) (r3 : Bool) (w0 w : World) (hI : IsS70 w0 w g s0_0 s0_1 s0_2) (hB : Below w0.heap.size w0 w) (h : code_reader_program_1.f s0_0 s0_1 s0_2 = some (r1, r2, r3)) :
  Calls Try.prog 51 #[.pointer (some ⟨g, 0, none⟩), .func (.func 54) #[] #[]] w fun e w' => e = .returned (.int .i64 r1) ∧ IsS70 w0 w' g s0_0 r2 r3 ∧ Below w0.heap.size w0 w' ∧ KeepBut w w' g none :=
 code_reader_byte (enters_of Try.func54 (by kernel_rfl) rfl) g s0_0 s0_1 s0_2 r1 r2 r3 w0 w (program1_pred w) hI hB h

end Go.Proofs.Ytccbdcbeinkjgaa.XA
end

section
namespace Go.Proofs.Ytccbdcbeinkjgaa.XA
open Go.Proofs.Ytccbdcbeinkjgaa.Lift Go.RowKit Go.Proofs.YtccbdcbeinkjgaaW.PrintWords Go.Proofs.YtccbdcbeinkjgaaW.PrintLast Go.Proofs.YtccbdcbeinkjgaaW.PrintMore
attribute [local go_sem] max2_int min2_int max_two min_two max_three min_three max_four min_four
set_option linter.unusedVariables false
set_option linter.unusedSimpArgs false

/-! ### code_reader_program_2: function 55 -/
theorem program2_pred (h : Int) (h0 : 0 ≤ h) (h1 : h ≤ 255) (g1 : Nat) (w : World) (hc : w.cell? ⟨g1, 0, none⟩ = some (.int .i64 h)) (b1 : g1 < w.heap.size) : PredB Try.prog 55 #[.pointer (some ⟨g1, 0, none⟩)] (fun x => decide (h * 256 + x ≤ 16384)) w := by
 intro W x x0 x1 hb
 have cc := (hb.cell (p := ⟨g1, 0, none⟩) b1).trans hc
 have ho := or256 h0 h1 x0 x1
 clear hc b1 hb
 unfold FnGives
 go_enter Try.func55, Try.ntmps55
 go_wp2
 go_ret
 exact ⟨rfl, 0, rfl⟩
def code_reader_program_2.f (s0_0 : List Int) (s0_1 : Int) (s0_2 : Bool) (a1 : Int) : Option (Int × Int × Bool) := if 0 ≤ a1 ∧ a1 ≤ 255 then byteF (fun x => decide (a1 * 256 + x ≤ 16384)) s0_0 s0_1 s0_2 else none
theorem code_reader_program_2.calls (g : Nat) (s0_0 : List Int) (s0_1 : Int) (s0_2 : Bool) (a1 : Int) (r1 : Int) (r2 : Int) (r3 : Bool) (w0 w : World) (hI : IsS70 w0 w g s0_0 s0_1 s0_2) (hB : Below w0.heap.size w0 w) (h : code_reader_program_2.f s0_0 s0_1 s0_2 a1 = some (r1, r2, r3)) (g1 : Nat) (hc : w.cell? ⟨g1, 0, none⟩ = some (.int .i64 a1)) (b1 : g1 < w.heap.size) :
  Calls Try.prog 51 #[.pointer (some ⟨g, 0, none⟩), .func (.func 55) #[] #[.pointer (some ⟨g1, 0, none⟩)]] w fun e w' => e = .returned (.int .i64 r1) ∧ IsS70 w0 w' g s0_0 r2 r3 ∧ Below w0.heap.size w0 w' ∧ KeepBut w w' g none := by
 unfold code_reader_program_2.f at h
 by_cases c : 0 ≤ a1 ∧ a1 ≤ 255
 ·rw [if_pos c] at h
  exact code_reader_byte (enters_of Try.func55 (by kernel_rfl) rfl) g s0_0 s0_1 s0_2 r1 r2 r3 w0 w (program2_pred a1 c.1 c.2 g1 w hc b1) hI hB h
 ·rw [if_neg c] at h; cases h

end Go.Proofs.Ytccbdcbeinkjgaa.XA
end

section
namespace Go.Proofs.Ytccbdcbeinkjgaa.XA
open Go.Proofs.Ytccbdcbeinkjgaa.Lift Go.RowKit Go.Proofs.YtccbdcbeinkjgaaW.PrintWords Go.Proofs.YtccbdcbeinkjgaaW.PrintLast Go.Proofs.YtccbdcbeinkjgaaW.PrintMore
attribute [local go_sem] max2_int min2_int max_two min_two max_three min_three max_four min_four
set_option linter.unusedVariables false
set_option linter.unusedSimpArgs false

/-! ### code_reader_program: function 35 -/
mutual
def code_reader_program.j2 : Nat → List Int → Int → Bool → Int → Int → List (S63) → Option (Int × Int × (List (S63)) × List Int × Int × Bool)
 | 0, _, _, _, _, _, _ => none
 | k + 1, qk, q0, q1, qo, qi, qj => (code_reader_within.f qk q0 q1 1 128).bind fun bt363 => (code_reader_program.l1 k bt363.1 0 qk bt363.2.1 bt363.2.2 qo qi qj ([] : List Int))
def code_reader_program.l1 : Nat → Int → Int → List Int → Int → Bool → Int → Int → List (S63) → List Int → Option (Int × Int × (List (S63)) × List Int × Int × Bool)
 | 0, _, _, _, _, _, _, _, _, _ => none
 | k + 1, x72, x73, qk, q0, q1, qo, qi, qj, jO => if x73 < x72 then ((code_reader_within.f qk q0 q1 0 (wrap64 (qi - 1))).bind fun bt366 => (if jO.length < 17592186044416 then (code_reader_program.l1 k x72 (wrap64 (x73 + 1)) qk bt366.2.1 bt366.2.2 qo qi qj (jO ++ [bt366.1])) else (none))) else (some (qo, qi, qj, jO, q0, q1))
def code_reader_program.l0 : Nat → Int → Int → List Int → Int → Bool → Int → Int → List (S63) → Option (Int × Int × (List (S63)) × List Int × Int × Bool)
 | 0, _, _, _, _, _, _, _, _ => none
 | k + 1, x23, x24, qk, q0, q1, qo, qi, qj => if x24 < x23 then ((code_reader_within.f qk q0 q1 1 8).bind fun bt335 => ((code_reader_within.f qk bt335.2.1 bt335.2.2 0 (wrap64 (qi - 1))).bind fun bt338 => ((code_reader_within.f qk bt338.2.1 bt338.2.2 0 (wrap64 (qi - 1))).bind fun bt341 => (if bt335.1 = 3 then (code_reader_program.j1 k x23 x24 true qk bt341.2.1 bt341.2.2 qo qi qj bt335.1 bt338.1 bt341.1 0 0) else (code_reader_program.j1 k x23 x24 (bt335.1 == 4) qk bt341.2.1 bt341.2.2 qo qi qj bt335.1 bt338.1 bt341.1 0 0))))) else (code_reader_program.j2 k qk q0 q1 qo qi qj)
def code_reader_program.j1 : Nat → Int → Int → Bool → List Int → Int → Bool → Int → Int → List (S63) → Int → Int → Int → Int → Int → Option (Int × Int × (List (S63)) × List Int × Int × Bool)
 | 0, _, _, _, _, _, _, _, _, _, _, _, _, _, _ => none
 | k + 1, x23, x24, x46, qk, q0, q1, qo, qi, qj, jE, jU, jV, ju, yC => if x46 = true then ((code_reader_within.f qk q0 q1 0 (wrap64 (qi - 1))).bind fun bt345 => ((code_reader_constant.f qk bt345.2.1 bt345.2.2 jE).bind fun bt348 => (if bt348.2.2 = true then (code_reader_program.j2 k qk bt348.2.1 bt348.2.2 qo qi qj) else (if qj.length < 3518437208883 then (code_reader_program.l0 k x23 (wrap64 (x24 + 1)) qk bt348.2.1 bt348.2.2 qo qi (qj ++ [(⟨jE, jU, jV, bt345.1, bt348.1⟩ : S63)])) else (none))))) else ((code_reader_within.f qk q0 q1 0 0).bind fun bt354 => ((code_reader_constant.f qk bt354.2.1 bt354.2.2 jE).bind fun bt357 => (if bt357.2.2 = true then (code_reader_program.j2 k qk bt357.2.1 bt357.2.2 qo qi qj) else (if qj.length < 3518437208883 then (code_reader_program.l0 k x23 (wrap64 (x24 + 1)) qk bt357.2.1 bt357.2.2 qo qi (qj ++ [(⟨jE, jU, jV, ju, bt357.1⟩ : S63)])) else (none)))))
end
def code_reader_program.f (k : Nat) (s0_0 : List Int) (s0_1 : Int) (s0_2 : Bool) : Option (Int × Int × (List (S63)) × List Int × Int × Bool) := (code_reader_within.f s0_0 s0_1 s0_2 1 128).bind fun bt322 => ((code_reader_within.f s0_0 bt322.2.1 bt322.2.2 bt322.1 128).bind fun bt326 => ((code_reader_program_1.f s0_0 bt326.2.1 bt326.2.2).bind fun bt329 => ((code_reader_program_2.f s0_0 bt329.2.1 bt329.2.2 bt329.1).bind fun bt332 => (code_reader_program.l0 k (Go.bits .or .i64 (wrap64 (bt329.1 * 256)) bt332.1) 0 s0_0 bt332.2.1 bt332.2.2 bt322.1 bt326.1 ([] : List (S63))))))
theorem code_reader_program.mono_l : ∀ k, (∀ y0 y1 y2 y3 y4 y5, LeO (code_reader_program.j2 k y0 y1 y2 y3 y4 y5) (code_reader_program.j2 (k + 1) y0 y1 y2 y3 y4 y5)) ∧ (∀ y0 y1 y2 y3 y4 y5 y6 y7 y8, LeO (code_reader_program.l1 k y0 y1 y2 y3 y4 y5 y6 y7 y8) (code_reader_program.l1 (k + 1) y0 y1 y2 y3 y4 y5 y6 y7 y8)) ∧ (∀ y0 y1 y2 y3 y4 y5 y6 y7, LeO (code_reader_program.l0 k y0 y1 y2 y3 y4 y5 y6 y7) (code_reader_program.l0 (k + 1) y0 y1 y2 y3 y4 y5 y6 y7)) ∧ (∀ y0 y1 y2 y3 y4 y5 y6 y7 y8 y9 y10 y11 y12 y13, LeO (code_reader_program.j1 k y0 y1 y2 y3 y4 y5 y6 y7 y8 y9 y10 y11 y12 y13) (code_reader_program.j1 (k + 1) y0 y1 y2 y3 y4 y5 y6 y7 y8 y9 y10 y11 y12 y13))
 | 0 => ⟨fun _ _ _ _ _ _ r h => by simp [code_reader_program.j2] at h, fun _ _ _ _ _ _ _ _ _ r h => by simp [code_reader_program.l1] at h, fun _ _ _ _ _ _ _ _ r h => by simp [code_reader_program.l0] at h, fun _ _ _ _ _ _ _ _ _ _ _ _ _ _ r h => by simp [code_reader_program.j1] at h⟩
 | k + 1 => by
  obtain ⟨ih0, ih1, ih2, ih3⟩ := code_reader_program.mono_l k
  refine ⟨?_, ?_, ?_, ?_⟩
  ·intro y0 y1 y2 y3 y4 y5
   unfold code_reader_program.j2
   repeat' first
   | (with_reducible exact ih0 ..)
   | (with_reducible exact ih1 ..)
   | (with_reducible exact ih2 ..)
   | (with_reducible exact ih3 ..)
   | (with_reducible exact LeO.refl _)
   | (with_reducible exact LeO.none _)
   | (with_reducible refine LeO.ite ?_ ?_)
   | (with_reducible refine LeO.bind ?_ (fun _ => ?_))
   | exact ih0 _ _ _ _ _ _
   | exact ih1 _ _ _ _ _ _ _ _ _
   | exact ih2 _ _ _ _ _ _ _ _
   | exact ih3 _ _ _ _ _ _ _ _ _ _ _ _ _ _
   | exact LeO.none _
   | refine LeO.ite ?_ ?_
   | refine LeO.bind ?_ (fun _ => ?_)
  ·intro y0 y1 y2 y3 y4 y5 y6 y7 y8
   unfold code_reader_program.l1
   repeat' first
   | (with_reducible exact ih0 ..)
   | (with_reducible exact ih1 ..)
   | (with_reducible exact ih2 ..)
   | (with_reducible exact ih3 ..)
   | (with_reducible exact LeO.refl _)
   | (with_reducible exact LeO.none _)
   | (with_reducible refine LeO.ite ?_ ?_)
   | (with_reducible refine LeO.bind ?_ (fun _ => ?_))
   | exact ih0 _ _ _ _ _ _
   | exact ih1 _ _ _ _ _ _ _ _ _
   | exact ih2 _ _ _ _ _ _ _ _
   | exact ih3 _ _ _ _ _ _ _ _ _ _ _ _ _ _
   | exact LeO.none _
   | refine LeO.ite ?_ ?_
   | refine LeO.bind ?_ (fun _ => ?_)
  ·intro y0 y1 y2 y3 y4 y5 y6 y7
   unfold code_reader_program.l0
   repeat' first
   | (with_reducible exact ih0 ..)
   | (with_reducible exact ih1 ..)
   | (with_reducible exact ih2 ..)
   | (with_reducible exact ih3 ..)
   | (with_reducible exact LeO.refl _)
   | (with_reducible exact LeO.none _)
   | (with_reducible refine LeO.ite ?_ ?_)
   | (with_reducible refine LeO.bind ?_ (fun _ => ?_))
   | exact ih0 _ _ _ _ _ _
   | exact ih1 _ _ _ _ _ _ _ _ _
   | exact ih2 _ _ _ _ _ _ _ _
   | exact ih3 _ _ _ _ _ _ _ _ _ _ _ _ _ _
   | exact LeO.none _
   | refine LeO.ite ?_ ?_
   | refine LeO.bind ?_ (fun _ => ?_)
  ·intro y0 y1 y2 y3 y4 y5 y6 y7 y8 y9 y10 y11 y12 y13
   unfold code_reader_program.j1
   repeat' first
   | (with_reducible exact ih0 ..)
   | (with_reducible exact ih1 ..)
   | (with_reducible exact ih2 ..)
   | (with_reducible exact ih3 ..)
   | (with_reducible exact LeO.refl _)
   | (with_reducible exact LeO.none _)
   | (with_reducible refine LeO.ite ?_ ?_)
   | (with_reducible refine LeO.bind ?_ (fun _ => ?_))
   | exact ih0 _ _ _ _ _ _
   | exact ih1 _ _ _ _ _ _ _ _ _
   | exact ih2 _ _ _ _ _ _ _ _
   | exact ih3 _ _ _ _ _ _ _ _ _ _ _ _ _ _
   | exact LeO.none _
   | refine LeO.ite ?_ ?_
   | refine LeO.bind ?_ (fun _ => ?_)
theorem code_reader_program.mono : ∀ a0 a1 a2 k, LeO (code_reader_program.f k a0 a1 a2) (code_reader_program.f (k + 1) a0 a1 a2) := by
 intro a0 a1 a2 k
 obtain ⟨ih0, ih1, ih2, ih3⟩ := code_reader_program.mono_l k
 unfold code_reader_program.f
 repeat' first
   | (with_reducible exact ih0 ..)
   | (with_reducible exact ih1 ..)
   | (with_reducible exact ih2 ..)
   | (with_reducible exact ih3 ..)
   | (with_reducible exact LeO.refl _)
   | (with_reducible exact LeO.none _)
   | (with_reducible refine LeO.ite ?_ ?_)
   | (with_reducible refine LeO.bind ?_ (fun _ => ?_))
   | exact ih0 _ _ _ _ _ _
   | exact ih1 _ _ _ _ _ _ _ _ _
   | exact ih2 _ _ _ _ _ _ _ _
   | exact ih3 _ _ _ _ _ _ _ _ _ _ _ _ _ _
   | exact LeO.none _
   | refine LeO.ite ?_ ?_
   | refine LeO.bind ?_ (fun _ => ?_)
def code_reader_program.T7 : Bool × List (List Nat × List Nat) := (true, [([], []), ([0], [0]), ([], []), ([], []), ([3], [3]), ([4], [4]), ([2, 5, 1], [2, 5]), ([], []), ([], []), ([8], [8]), ([9], [9]), ([7, 10, 6], [7, 10]), ([1, 6, 11], [1, 6, 11]), ([], []), ([13, 12, 11, 0, 1, 2, 3, 4, 5, 6, 7, 8, 9, 10, 11, 12, 13], [12, 13])])
def code_reader_program.B7 : List Nat := [0, 1, 0, 0, 8, 24, 63, 0, 0, 256, 768, 2047, 4095, 0, 16383]
theorem code_reader_program.tab7 : rtab .any (opsOf Try.f35 7) = code_reader_program.T7 := by kernel_rfl
theorem code_reader_program.bits7 : waitsOk code_reader_program.T7.2 code_reader_program.B7 = true := by kernel_rfl
def code_reader_program.T17 : Bool × List (List Nat × List Nat) := (true, [([], []), ([0], [0]), ([], []), ([], []), ([3], [3]), ([4], [4]), ([2, 5], [2, 5]), ([6], [6]), ([1, 7, 6], [1, 7]), ([0, 1, 2, 3, 4, 5, 6, 7, 8], []), ([9, 8, 8, 0, 1, 2, 3, 4, 5, 6, 7, 8], [8, 9])])
def code_reader_program.B17 : List Nat := [0, 1, 0, 0, 8, 24, 60, 124, 255, 511, 1023]
theorem code_reader_program.tab17 : rtab .any (opsOf Try.f35 17) = code_reader_program.T17 := by kernel_rfl
theorem code_reader_program.bits17 : waitsOk code_reader_program.T17.2 code_reader_program.B17 = true := by kernel_rfl
set_option maxHeartbeats 8000000 in
set_option maxRecDepth 100000 in
theorem code_reader_program.calls (k : Nat) (g : Nat) (s0_0 : List Int) (s0_1 : Int) (s0_2 : Bool) (r1 : Int) (r2 : Int) (r3 : List (S63)) (r4 : List Int) (r5 : Int) (r6 : Bool) (w0 w : World) (hI : IsS70 w0 w g s0_0 s0_1 s0_2) (hB : Below w0.heap.size w0 w) (h : code_reader_program.f k s0_0 s0_1 s0_2 = some (r1, r2, r3, r4, r5, r6)) :
  Calls Try.prog 35 #[.pointer (some ⟨g, 0, none⟩)] w fun e w' => ∃ v2_ v3_ : Value, e = .returned (.agg #[.int .i64 r1, .int .i64 r2, v2_, v3_]) ∧ Kd.R k63 63 w' w.heap.size (fun _ => True) v2_ r3 ∧ Kd.R (Kd.int .i64) 3 w' w.heap.size (fun _ => True) v3_ r4 ∧ IsS70 w0 w' g s0_0 r5 r6 ∧ Below w0.heap.size w0 w' ∧ KeepBut w w' g none := by
 have hu26 := Try.underlying26
 have hu63 := Try.underlying63
 have HI0 := aM hI
 have HK := aM (KeepBut.refl w g none)
 have HL := aM hB.size
 clear hI
 have HW0 := aM hB.size
 have HB := aM hB
 clear hB
 have H : ((code_reader_within.f s0_0 s0_1 s0_2 1 128).bind fun bt322 => ((code_reader_within.f s0_0 bt322.2.1 bt322.2.2 bt322.1 128).bind fun bt326 => ((code_reader_program_1.f s0_0 bt326.2.1 bt326.2.2).bind fun bt329 => ((code_reader_program_2.f s0_0 bt329.2.1 bt329.2.2 bt329.1).bind fun bt332 => (code_reader_program.l0 k (Go.bits .or .i64 (wrap64 (bt329.1 * 256)) bt332.1) 0 s0_0 bt332.2.1 bt332.2.2 bt322.1 bt326.1 ([] : List (S63))))))) = some (r1, r2, r3, r4, r5, r6) := h
 clear h
 replace H := Option.bind_eq_some_iff.mp H
 obtain ⟨⟨qN, qx, qy⟩, A20, H⟩ := H
 replace H : ((code_reader_within.f s0_0 qx qy qN 128).bind fun bt326 => ((code_reader_program_1.f s0_0 bt326.2.1 bt326.2.2).bind fun bt329 => ((code_reader_program_2.f s0_0 bt329.2.1 bt329.2.2 bt329.1).bind fun bt332 => (code_reader_program.l0 k (Go.bits .or .i64 (wrap64 (bt329.1 * 256)) bt332.1) 0 s0_0 bt332.2.1 bt332.2.2 qN bt326.1 ([] : List (S63)))))) = some (r1, r2, r3, r4, r5, r6) := H
 have A2 := aM A20
 clear A20
 replace H := Option.bind_eq_some_iff.mp H
 obtain ⟨⟨qO, jF, jG⟩, A30, H⟩ := H
 replace H : ((code_reader_program_1.f s0_0 jF jG).bind fun bt329 => ((code_reader_program_2.f s0_0 bt329.2.1 bt329.2.2 bt329.1).bind fun bt332 => (code_reader_program.l0 k (Go.bits .or .i64 (wrap64 (bt329.1 * 256)) bt332.1) 0 s0_0 bt332.2.1 bt332.2.2 qN qO ([] : List (S63))))) = some (r1, r2, r3, r4, r5, r6) := H
 have A3 := aM A30
 clear A30
 replace H := Option.bind_eq_some_iff.mp H
 obtain ⟨⟨qg, jH, jI⟩, A40, H⟩ := H
 replace H : ((code_reader_program_2.f s0_0 jH jI qg).bind fun bt332 => (code_reader_program.l0 k (Go.bits .or .i64 (wrap64 (qg * 256)) bt332.1) 0 s0_0 bt332.2.1 bt332.2.2 qN qO ([] : List (S63)))) = some (r1, r2, r3, r4, r5, r6) := H
 have A4 := aM A40
 clear A40
 replace H := Option.bind_eq_some_iff.mp H
 obtain ⟨⟨ql, jP, jQ⟩, A50, H⟩ := H
 replace H : (code_reader_program.l0 k (Go.bits .or .i64 (wrap64 (qg * 256)) ql) 0 s0_0 jP jQ qN qO ([] : List (S63))) = some (r1, r2, r3, r4, r5, r6) := H
 have A5 := aM A50
 clear A50
 have HC6 := aM H
 clear H
 go_enter Try.func35, Try.ntmps35
 try go_step3
 go_upto_block 0 with (first | ((with_reducible refine gate_dst (N := 2) rfl ?_); refine box_event ?hg (N := 2) ?hd (cs := #[.int .i64 0, .int .i64 0, .slice none 0 0, .slice none 0 0]) (t := 26) ?hr ?_; (case hd => rfl); (case hg => rfl); (case hr => first | (go_simp; done) | (go_simp; rfl)); intro qI hg w7 hbox hb; replace HB := aM (below_step (by have := GEc.mk (IsS70.ge HI0.out); exact lS HB) hb); have qC := aM (hbox); have qM := aM ((by rw [hg]; exact (keep_size (w := w) (g := g) (row := none) (kS HK)) : w.heap.size ≤ qI)); have qR := aM ((Nat.le_trans HW0.out (by rw [hg]; exact (keep_size (w := w) (g := g) (row := none) (kS HK)) : w.heap.size ≤ qI) : w0.heap.size ≤ qI)); replace HK := aM (KeepBut.trans (kS HK) (KeepBut.of_below hb g none) (.inl rfl)); have qD := aM ((by rw [hg]; exact Nat.ne_of_lt (IsS70.lt (show IsS70 w0 _ g s0_0 s0_1 s0_2 from by repeat (first | (with_reducible first | exact HI0.out | apply IsS70.alloc | apply IsS70.drewN | apply IsS70.drew | apply IsS70.set_1 | apply IsS70.set_2) | exact HI0.out))) : g ≠ qI)); have qW := aM ((by rw [hg]; exact Nat.ne_of_gt (IsS70.lt (show IsS70 w0 _ g s0_0 s0_1 s0_2 from by repeat (first | (with_reducible first | exact HI0.out | apply IsS70.alloc | apply IsS70.drewN | apply IsS70.drew | apply IsS70.set_1 | apply IsS70.set_2) | exact HI0.out))) : qI ≠ g)); replace HI0 := aM (IsS70.below (by repeat (first | (with_reducible first | exact HI0.out | apply IsS70.alloc | apply IsS70.drewN | apply IsS70.drew | apply IsS70.set_1 | apply IsS70.set_2) | exact HI0.out)) hb); clear hb hbox hg) | ((with_reducible refine gate_callee (f := 33) rfl ?_); refine goesL_ (some 8) rfl rfl Try.func33 (by kernel_rfl) rfl #[.pointer (some ⟨g, 0, none⟩), .int .i64 1, .int .i64 128] rfl (by (try simp only [List.map_toArray, List.map_cons, List.map_nil]); first | done | rfl | (simp only [List.length_drop, List.length_take]; rfl)) ?_; (with_reducible refine (code_reader_within.calls g s0_0 s0_1 s0_2 1 128 qN qx qy w0 _ ?side1 ?side2 A2.out).mono ?_); (case side1 => repeat (first | (with_reducible first | exact HI0.out | apply IsS70.alloc | apply IsS70.drewN | apply IsS70.drew | apply IsS70.set_1 | apply IsS70.set_2 | refine IsS70.far ?_ qD.out _) | exact HI0.out)); (case side2 => exact (by have := GEc.mk (IsS70.ge HI0.out); have := GEc.mk qR.out; exact lS HB)); rintro e w8 ⟨rfl, hi, hb, hk⟩; refine ⟨_, rfl, ?_⟩; replace qC := aM (KeepBut.blk hk (g' := qI) (lK qC) qW.out (by simp)); replace HK := aM (KeepBut.trans (by have := GEc.mk qM.out; exact kS HK) hk (.inl rfl)); replace HB := aM (hb); replace HI0 := aM (hi); (try clear hb); (try clear hb2); (try clear hk); (try clear hi)) | ((with_reducible refine gate_dst (N := 3) rfl ?_); refine box_event ?hg (N := 3) ?hd (cs := #[.int .i64 0, .int .i64 0, .slice none 0 0, .slice none 0 0]) (t := 26) ?hr ?_; (case hd => rfl); (case hg => rfl); (case hr => first | (go_simp; done) | (go_simp; rfl)); intro qG hg w9 hbox hb; replace HB := aM (below_step (by have := GEc.mk (IsS70.ge HI0.out); have := GEc.mk qR.out; exact lS HB) hb); have qA := aM (hbox); have qQ := aM ((by rw [hg]; exact (keep_size (w := w) (g := g) (row := none) (by have := GEc.mk qM.out; exact kS HK)) : w.heap.size ≤ qG)); have qU := aM ((Nat.le_trans HW0.out (by rw [hg]; exact (keep_size (w := w) (g := g) (row := none) (by have := GEc.mk qM.out; exact kS HK)) : w.heap.size ≤ qG) : w0.heap.size ≤ qG)); replace HK := aM (KeepBut.trans (by have := GEc.mk qM.out; exact kS HK) (KeepBut.of_below hb g none) (.inl rfl)); have qV := aM ((by rw [hg]; exact Nat.ne_of_lt (blk_lt (g := qI) (lK qC)) : qI ≠ qG)); have qm := aM ((by rw [hg]; exact Nat.ne_of_gt (blk_lt (g := qI) (lK qC)) : qG ≠ qI)); replace qC := aM (blk_below (g := qI) (lK qC) hb); have qE := aM ((by rw [hg]; exact Nat.ne_of_lt (IsS70.lt (show IsS70 w0 _ g s0_0 qx qy from by repeat (first | (with_reducible first | exact HI0.out | apply IsS70.alloc | apply IsS70.drewN | apply IsS70.drew | apply IsS70.set_1 | apply IsS70.set_2 | refine IsS70.far ?_ qD.out _) | exact HI0.out))) : g ≠ qG)); have qT := aM ((by rw [hg]; exact Nat.ne_of_gt (IsS70.lt (show IsS70 w0 _ g s0_0 qx qy from by repeat (first | (with_reducible first | exact HI0.out | apply IsS70.alloc | apply IsS70.drewN | apply IsS70.drew | apply IsS70.set_1 | apply IsS70.set_2 | refine IsS70.far ?_ qD.out _) | exact HI0.out))) : qG ≠ g)); replace HI0 := aM (IsS70.below (by repeat (first | (with_reducible first | exact HI0.out | apply IsS70.alloc | apply IsS70.drewN | apply IsS70.drew | apply IsS70.set_1 | apply IsS70.set_2 | refine IsS70.far ?_ qD.out _) | exact HI0.out)) hb); clear hb hbox hg; have jl := qm.out; have jm := qV.out; have jn := qT.out; have jo := qE.out; obtain ⟨jW, jX, jY, jZ⟩ := zc4 qA.out; have ja := fun i_ : Nat => blk_frozen qA.out i_) | ((with_reducible refine gate_callee (f := 33) rfl ?_); refine goesL_ (some 13) rfl rfl Try.func33 (by kernel_rfl) rfl #[.pointer (some ⟨g, 0, none⟩), .int .i64 qN, .int .i64 128] rfl (by (try simp only [List.map_toArray, List.map_cons, List.map_nil]); first | done | rfl | (simp only [List.length_drop, List.length_take]; rfl)) ?_; (with_reducible refine (code_reader_within.calls g s0_0 qx qy qN 128 qO jF jG w0 _ ?side1 ?side2 A3.out).mono ?_); (case side1 => repeat (first | (with_reducible first | exact HI0.out | apply IsS70.alloc | apply IsS70.drewN | apply IsS70.drew | apply IsS70.set_1 | apply IsS70.set_2 | refine IsS70.far ?_ qD.out _ | refine IsS70.far ?_ qE.out _) | exact HI0.out)); (case side2 => exact (by have := GEc.mk (IsS70.ge HI0.out); have := GEc.mk qR.out; have := GEc.mk qU.out; exact lS HB)); rintro e w13 ⟨rfl, hi, hb, hk⟩; refine ⟨_, rfl, ?_⟩; replace qC := aM (KeepBut.blk hk (g' := qI) (o := .cells #[.int .i64 0, .int .i64 0, .slice none 0 0, .slice none 0 0] 26 (0, 0)) (by refine lZ ?_; refine blk_far ?_ qV.out _; refine lZ ?_; refine blk_far ?_ qV.out _; refine lZ ?_; refine blk_far ?_ qV.out _; refine lZ ?_; refine blk_far ?_ qV.out _; refine lZ ?_; exact qC.out) qW.out (by simp)); replace qA := aM (KeepBut.blk hk (g' := qG) (o := .cells #[.int .i64 qN, .int .i64 0, .slice none 0 0, .slice none 0 0] 26 (0, 0)) (by refine lZ ?_; refine blk_put (cs := #[.int .i64 qN, .int .i64 0, .slice none 0 0, .slice none 0 0]) ?_ 3 _ rfl; refine lZ ?_; refine blk_put (cs := #[.int .i64 qN, .int .i64 0, .slice none 0 0, .slice none 0 0]) ?_ 2 _ rfl; refine lZ ?_; refine blk_put (cs := #[.int .i64 qN, .int .i64 0, .slice none 0 0, .slice none 0 0]) ?_ 1 _ rfl; refine lZ ?_; refine blk_put (cs := #[.int .i64 0, .int .i64 0, .slice none 0 0, .slice none 0 0]) ?_ 0 _ rfl; refine lZ ?_; exact qA.out) qT.out (by simp)); replace HK := aM (KeepBut.trans (by have := GEc.mk qM.out; have := GEc.mk qQ.out; exact kS HK) hk (.inl rfl)); replace HB := aM (hb); replace HI0 := aM (hi); (try clear hb); (try clear hb2); (try clear hk); (try clear hi); obtain ⟨jb, jc, jd, je⟩ := zc4 qA.out; have jf := fun i_ : Nat => blk_frozen qA.out i_) | ((with_reducible refine gate_callee (f := 51) rfl ?_); refine goesL_ (some 16) rfl rfl Try.func51 (by kernel_rfl) rfl #[.pointer (some ⟨g, 0, none⟩), .func (.func 54) #[] #[]] rfl (by (try simp only [List.map_toArray, List.map_cons, List.map_nil]); first | done | rfl | (simp only [List.length_drop, List.length_take]; rfl)) ?_; (with_reducible refine (code_reader_program_1.calls g s0_0 jF jG qg jH jI w0 _ ?side1 ?side2 A4.out).mono ?_); (case side1 => repeat (first | (with_reducible first | exact HI0.out | apply IsS70.alloc | apply IsS70.drewN | apply IsS70.drew | apply IsS70.set_1 | apply IsS70.set_2 | refine IsS70.far ?_ qD.out _ | refine IsS70.far ?_ qE.out _) | exact HI0.out)); (case side2 => exact (by have := GEc.mk (IsS70.ge HI0.out); have := GEc.mk qR.out; have := GEc.mk qU.out; exact lS HB)); rintro e w15 ⟨rfl, hi, hb, hk⟩; refine ⟨_, rfl, ?_⟩; replace qC := aM (KeepBut.blk hk (g' := qI) (o := .cells #[.int .i64 0, .int .i64 0, .slice none 0 0, .slice none 0 0] 26 (0, 0)) (by refine lZ ?_; refine blk_far ?_ qV.out _; refine lZ ?_; exact qC.out) qW.out (by simp)); replace qA := aM (KeepBut.blk hk (g' := qG) (o := .cells #[.int .i64 qN, .int .i64 qO, .slice none 0 0, .slice none 0 0] 26 (0, 0)) (by refine lZ ?_; refine blk_put (cs := #[.int .i64 qN, .int .i64 0, .slice none 0 0, .slice none 0 0]) ?_ 1 _ rfl; refine lZ ?_; exact qA.out) qT.out (by simp)); replace HK := aM (KeepBut.trans (by have := GEc.mk qM.out; have := GEc.mk qQ.out; exact kS HK) hk (.inl rfl)); replace HB := aM (hb); replace HI0 := aM (hi); (try clear hb); (try clear hb2); (try clear hk); (try clear hi)) | ((with_reducible refine gate_callee (f := 51) rfl ?_); refine goesL_ (some 19) rfl rfl Try.func51 (by kernel_rfl) rfl #[.pointer (some ⟨g, 0, none⟩), .func (.func 55) #[] #[.pointer (some ⟨w15.heap.size, 0, none⟩)]] rfl (by (try simp only [List.map_toArray, List.map_cons, List.map_nil]); first | done | rfl | (simp only [List.length_drop, List.length_take]; rfl)) ?_; (with_reducible refine (code_reader_program_2.calls g s0_0 jH jI qg ql jP jQ w0 _ ?side1 ?side2 A5.out w15.heap.size (by go_simp) (by simp)).mono ?_); (case side1 => repeat (first | (with_reducible first | exact HI0.out | apply IsS70.alloc | apply IsS70.drewN | apply IsS70.drew | apply IsS70.set_1 | apply IsS70.set_2 | refine IsS70.far ?_ qD.out _ | refine IsS70.far ?_ qE.out _) | exact HI0.out)); (case side2 => exact (by have := GEc.mk (IsS70.ge HI0.out); have := GEc.mk qR.out; have := GEc.mk qU.out; exact lS HB)); rintro e w16 ⟨rfl, hi, hb, hk⟩; refine ⟨_, rfl, ?_⟩; have hcH := keep_cell (b := w15.heap.size) (v := .int .i64 qg) hk rfl (by go_simp) (by simp) (Nat.ne_of_gt (IsS70.lt HI0.out)); replace qC := aM (KeepBut.blk hk (g' := qI) (lK qC) qW.out (by simp)); replace qA := aM (KeepBut.blk hk (g' := qG) (lK qA) qT.out (by simp)); replace HK := aM (KeepBut.trans (by have := GEc.mk qM.out; have := GEc.mk qQ.out; exact kS HK) hk (.inl rfl)); replace HB := aM (hb); replace HI0 := aM (hi); (try clear hb); (try clear hb2); (try clear hk); (try clear hi)))
 go_step3
 go_upto_block 0 with (first | ((with_reducible refine gate_dst (N := 2) rfl ?_); refine box_event ?hg (N := 2) ?hd (cs := #[.int .i64 0, .int .i64 0, .slice none 0 0, .slice none 0 0]) (t := 26) ?hr ?_; (case hd => rfl); (case hg => rfl); (case hr => first | (go_simp; done) | (go_simp; rfl)); intro qI hg w7 hbox hb; replace HB := aM (below_step (by have := GEc.mk (IsS70.ge HI0.out); exact lS HB) hb); have qC := aM (hbox); have qM := aM ((by rw [hg]; exact (keep_size (w := w) (g := g) (row := none) (kS HK)) : w.heap.size ≤ qI)); have qR := aM ((Nat.le_trans HW0.out (by rw [hg]; exact (keep_size (w := w) (g := g) (row := none) (kS HK)) : w.heap.size ≤ qI) : w0.heap.size ≤ qI)); replace HK := aM (KeepBut.trans (kS HK) (KeepBut.of_below hb g none) (.inl rfl)); have qD := aM ((by rw [hg]; exact Nat.ne_of_lt (IsS70.lt (show IsS70 w0 _ g s0_0 s0_1 s0_2 from by repeat (first | (with_reducible first | exact HI0.out | apply IsS70.alloc | apply IsS70.drewN | apply IsS70.drew | apply IsS70.set_1 | apply IsS70.set_2) | exact HI0.out))) : g ≠ qI)); have qW := aM ((by rw [hg]; exact Nat.ne_of_gt (IsS70.lt (show IsS70 w0 _ g s0_0 s0_1 s0_2 from by repeat (first | (with_reducible first | exact HI0.out | apply IsS70.alloc | apply IsS70.drewN | apply IsS70.drew | apply IsS70.set_1 | apply IsS70.set_2) | exact HI0.out))) : qI ≠ g)); replace HI0 := aM (IsS70.below (by repeat (first | (with_reducible first | exact HI0.out | apply IsS70.alloc | apply IsS70.drewN | apply IsS70.drew | apply IsS70.set_1 | apply IsS70.set_2) | exact HI0.out)) hb); clear hb hbox hg) | ((with_reducible refine gate_callee (f := 33) rfl ?_); refine goesL_ (some 8) rfl rfl Try.func33 (by kernel_rfl) rfl #[.pointer (some ⟨g, 0, none⟩), .int .i64 1, .int .i64 128] rfl (by (try simp only [List.map_toArray, List.map_cons, List.map_nil]); first | done | rfl | (simp only [List.length_drop, List.length_take]; rfl)) ?_; (with_reducible refine (code_reader_within.calls g s0_0 s0_1 s0_2 1 128 qN qx qy w0 _ ?side1 ?side2 A2.out).mono ?_); (case side1 => repeat (first | (with_reducible first | exact HI0.out | apply IsS70.alloc | apply IsS70.drewN | apply IsS70.drew | apply IsS70.set_1 | apply IsS70.set_2 | refine IsS70.far ?_ qD.out _) | exact HI0.out)); (case side2 => exact (by have := GEc.mk (IsS70.ge HI0.out); have := GEc.mk qR.out; exact lS HB)); rintro e w8 ⟨rfl, hi, hb, hk⟩; refine ⟨_, rfl, ?_⟩; replace qC := aM (KeepBut.blk hk (g' := qI) (lK qC) qW.out (by simp)); replace HK := aM (KeepBut.trans (by have := GEc.mk qM.out; exact kS HK) hk (.inl rfl)); replace HB := aM (hb); replace HI0 := aM (hi); (try clear hb); (try clear hb2); (try clear hk); (try clear hi)) | ((with_reducible refine gate_dst (N := 3) rfl ?_); refine box_event ?hg (N := 3) ?hd (cs := #[.int .i64 0, .int .i64 0, .slice none 0 0, .slice none 0 0]) (t := 26) ?hr ?_; (case hd => rfl); (case hg => rfl); (case hr => first | (go_simp; done) | (go_simp; rfl)); intro qG hg w9 hbox hb; replace HB := aM (below_step (by have := GEc.mk (IsS70.ge HI0.out); have := GEc.mk qR.out; exact lS HB) hb); have qA := aM (hbox); have qQ := aM ((by rw [hg]; exact (keep_size (w := w) (g := g) (row := none) (by have := GEc.mk qM.out; exact kS HK)) : w.heap.size ≤ qG)); have qU := aM ((Nat.le_trans HW0.out (by rw [hg]; exact (keep_size (w := w) (g := g) (row := none) (by have := GEc.mk qM.out; exact kS HK)) : w.heap.size ≤ qG) : w0.heap.size ≤ qG)); replace HK := aM (KeepBut.trans (by have := GEc.mk qM.out; exact kS HK) (KeepBut.of_below hb g none) (.inl rfl)); have qV := aM ((by rw [hg]; exact Nat.ne_of_lt (blk_lt (g := qI) (lK qC)) : qI ≠ qG)); have qm := aM ((by rw [hg]; exact Nat.ne_of_gt (blk_lt (g := qI) (lK qC)) : qG ≠ qI)); replace qC := aM (blk_below (g := qI) (lK qC) hb); have qE := aM ((by rw [hg]; exact Nat.ne_of_lt (IsS70.lt (show IsS70 w0 _ g s0_0 qx qy from by repeat (first | (with_reducible first | exact HI0.out | apply IsS70.alloc | apply IsS70.drewN | apply IsS70.drew | apply IsS70.set_1 | apply IsS70.set_2 | refine IsS70.far ?_ qD.out _) | exact HI0.out))) : g ≠ qG)); have qT := aM ((by rw [hg]; exact Nat.ne_of_gt (IsS70.lt (show IsS70 w0 _ g s0_0 qx qy from by repeat (first | (with_reducible first | exact HI0.out | apply IsS70.alloc | apply IsS70.drewN | apply IsS70.drew | apply IsS70.set_1 | apply IsS70.set_2 | refine IsS70.far ?_ qD.out _) | exact HI0.out))) : qG ≠ g)); replace HI0 := aM (IsS70.below (by repeat (first | (with_reducible first | exact HI0.out | apply IsS70.alloc | apply IsS70.drewN | apply IsS70.drew | apply IsS70.set_1 | apply IsS70.set_2 | refine IsS70.far ?_ qD.out _) | exact HI0.out)) hb); clear hb hbox hg; have jl := qm.out; have jm := qV.out; have jn := qT.out; have jo := qE.out; obtain ⟨jW, jX, jY, jZ⟩ := zc4 qA.out; have ja := fun i_ : Nat => blk_frozen qA.out i_) | ((with_reducible refine gate_callee (f := 33) rfl ?_); refine goesL_ (some 13) rfl rfl Try.func33 (by kernel_rfl) rfl #[.pointer (some ⟨g, 0, none⟩), .int .i64 qN, .int .i64 128] rfl (by (try simp only [List.map_toArray, List.map_cons, List.map_nil]); first | done | rfl | (simp only [List.length_drop, List.length_take]; rfl)) ?_; (with_reducible refine (code_reader_within.calls g s0_0 qx qy qN 128 qO jF jG w0 _ ?side1 ?side2 A3.out).mono ?_); (case side1 => repeat (first | (with_reducible first | exact HI0.out | apply IsS70.alloc | apply IsS70.drewN | apply IsS70.drew | apply IsS70.set_1 | apply IsS70.set_2 | refine IsS70.far ?_ qD.out _ | refine IsS70.far ?_ qE.out _) | exact HI0.out)); (case side2 => exact (by have := GEc.mk (IsS70.ge HI0.out); have := GEc.mk qR.out; have := GEc.mk qU.out; exact lS HB)); rintro e w13 ⟨rfl, hi, hb, hk⟩; refine ⟨_, rfl, ?_⟩; replace qC := aM (KeepBut.blk hk (g' := qI) (o := .cells #[.int .i64 0, .int .i64 0, .slice none 0 0, .slice none 0 0] 26 (0, 0)) (by refine lZ ?_; refine blk_far ?_ qV.out _; refine lZ ?_; refine blk_far ?_ qV.out _; refine lZ ?_; refine blk_far ?_ qV.out _; refine lZ ?_; refine blk_far ?_ qV.out _; refine lZ ?_; exact qC.out) qW.out (by simp)); replace qA := aM (KeepBut.blk hk (g' := qG) (o := .cells #[.int .i64 qN, .int .i64 0, .slice none 0 0, .slice none 0 0] 26 (0, 0)) (by refine lZ ?_; refine blk_put (cs := #[.int .i64 qN, .int .i64 0, .slice none 0 0, .slice none 0 0]) ?_ 3 _ rfl; refine lZ ?_; refine blk_put (cs := #[.int .i64 qN, .int .i64 0, .slice none 0 0, .slice none 0 0]) ?_ 2 _ rfl; refine lZ ?_; refine blk_put (cs := #[.int .i64 qN, .int .i64 0, .slice none 0 0, .slice none 0 0]) ?_ 1 _ rfl; refine lZ ?_; refine blk_put (cs := #[.int .i64 0, .int .i64 0, .slice none 0 0, .slice none 0 0]) ?_ 0 _ rfl; refine lZ ?_; exact qA.out) qT.out (by simp)); replace HK := aM (KeepBut.trans (by have := GEc.mk qM.out; have := GEc.mk qQ.out; exact kS HK) hk (.inl rfl)); replace HB := aM (hb); replace HI0 := aM (hi); (try clear hb); (try clear hb2); (try clear hk); (try clear hi); obtain ⟨jb, jc, jd, je⟩ := zc4 qA.out; have jf := fun i_ : Nat => blk_frozen qA.out i_) | ((with_reducible refine gate_callee (f := 51) rfl ?_); refine goesL_ (some 16) rfl rfl Try.func51 (by kernel_rfl) rfl #[.pointer (some ⟨g, 0, none⟩), .func (.func 54) #[] #[]] rfl (by (try simp only [List.map_toArray, List.map_cons, List.map_nil]); first | done | rfl | (simp only [List.length_drop, List.length_take]; rfl)) ?_; (with_reducible refine (code_reader_program_1.calls g s0_0 jF jG qg jH jI w0 _ ?side1 ?side2 A4.out).mono ?_); (case side1 => repeat (first | (with_reducible first | exact HI0.out | apply IsS70.alloc | apply IsS70.drewN | apply IsS70.drew | apply IsS70.set_1 | apply IsS70.set_2 | refine IsS70.far ?_ qD.out _ | refine IsS70.far ?_ qE.out _) | exact HI0.out)); (case side2 => exact (by have := GEc.mk (IsS70.ge HI0.out); have := GEc.mk qR.out; have := GEc.mk qU.out; exact lS HB)); rintro e w15 ⟨rfl, hi, hb, hk⟩; refine ⟨_, rfl, ?_⟩; replace qC := aM (KeepBut.blk hk (g' := qI) (o := .cells #[.int .i64 0, .int .i64 0, .slice none 0 0, .slice none 0 0] 26 (0, 0)) (by refine lZ ?_; refine blk_far ?_ qV.out _; refine lZ ?_; exact qC.out) qW.out (by simp)); replace qA := aM (KeepBut.blk hk (g' := qG) (o := .cells #[.int .i64 qN, .int .i64 qO, .slice none 0 0, .slice none 0 0] 26 (0, 0)) (by refine lZ ?_; refine blk_put (cs := #[.int .i64 qN, .int .i64 0, .slice none 0 0, .slice none 0 0]) ?_ 1 _ rfl; refine lZ ?_; exact qA.out) qT.out (by simp)); replace HK := aM (KeepBut.trans (by have := GEc.mk qM.out; have := GEc.mk qQ.out; exact kS HK) hk (.inl rfl)); replace HB := aM (hb); replace HI0 := aM (hi); (try clear hb); (try clear hb2); (try clear hk); (try clear hi)) | ((with_reducible refine gate_callee (f := 51) rfl ?_); refine goesL_ (some 19) rfl rfl Try.func51 (by kernel_rfl) rfl #[.pointer (some ⟨g, 0, none⟩), .func (.func 55) #[] #[.pointer (some ⟨w15.heap.size, 0, none⟩)]] rfl (by (try simp only [List.map_toArray, List.map_cons, List.map_nil]); first | done | rfl | (simp only [List.length_drop, List.length_take]; rfl)) ?_; (with_reducible refine (code_reader_program_2.calls g s0_0 jH jI qg ql jP jQ w0 _ ?side1 ?side2 A5.out w15.heap.size (by go_simp) (by simp)).mono ?_); (case side1 => repeat (first | (with_reducible first | exact HI0.out | apply IsS70.alloc | apply IsS70.drewN | apply IsS70.drew | apply IsS70.set_1 | apply IsS70.set_2 | refine IsS70.far ?_ qD.out _ | refine IsS70.far ?_ qE.out _) | exact HI0.out)); (case side2 => exact (by have := GEc.mk (IsS70.ge HI0.out); have := GEc.mk qR.out; have := GEc.mk qU.out; exact lS HB)); rintro e w16 ⟨rfl, hi, hb, hk⟩; refine ⟨_, rfl, ?_⟩; have hcH := keep_cell (b := w15.heap.size) (v := .int .i64 qg) hk rfl (by go_simp) (by simp) (Nat.ne_of_gt (IsS70.lt HI0.out)); replace qC := aM (KeepBut.blk hk (g' := qI) (lK qC) qW.out (by simp)); replace qA := aM (KeepBut.blk hk (g' := qG) (lK qA) qT.out (by simp)); replace HK := aM (KeepBut.trans (by have := GEc.mk qM.out; have := GEc.mk qQ.out; exact kS HK) hk (.inl rfl)); replace HB := aM (hb); replace HI0 := aM (hi); (try clear hb); (try clear hb2); (try clear hk); (try clear hi)))
 go_step3
 go_upto_block 0 with (first | ((with_reducible refine gate_dst (N := 2) rfl ?_); refine box_event ?hg (N := 2) ?hd (cs := #[.int .i64 0, .int .i64 0, .slice none 0 0, .slice none 0 0]) (t := 26) ?hr ?_; (case hd => rfl); (case hg => rfl); (case hr => first | (go_simp; done) | (go_simp; rfl)); intro qI hg w7 hbox hb; replace HB := aM (below_step (by have := GEc.mk (IsS70.ge HI0.out); exact lS HB) hb); have qC := aM (hbox); have qM := aM ((by rw [hg]; exact (keep_size (w := w) (g := g) (row := none) (kS HK)) : w.heap.size ≤ qI)); have qR := aM ((Nat.le_trans HW0.out (by rw [hg]; exact (keep_size (w := w) (g := g) (row := none) (kS HK)) : w.heap.size ≤ qI) : w0.heap.size ≤ qI)); replace HK := aM (KeepBut.trans (kS HK) (KeepBut.of_below hb g none) (.inl rfl)); have qD := aM ((by rw [hg]; exact Nat.ne_of_lt (IsS70.lt (show IsS70 w0 _ g s0_0 s0_1 s0_2 from by repeat (first | (with_reducible first | exact HI0.out | apply IsS70.alloc | apply IsS70.drewN | apply IsS70.drew | apply IsS70.set_1 | apply IsS70.set_2) | exact HI0.out))) : g ≠ qI)); have qW := aM ((by rw [hg]; exact Nat.ne_of_gt (IsS70.lt (show IsS70 w0 _ g s0_0 s0_1 s0_2 from by repeat (first | (with_reducible first | exact HI0.out | apply IsS70.alloc | apply IsS70.drewN | apply IsS70.drew | apply IsS70.set_1 | apply IsS70.set_2) | exact HI0.out))) : qI ≠ g)); replace HI0 := aM (IsS70.below (by repeat (first | (with_reducible first | exact HI0.out | apply IsS70.alloc | apply IsS70.drewN | apply IsS70.drew | apply IsS70.set_1 | apply IsS70.set_2) | exact HI0.out)) hb); clear hb hbox hg) | ((with_reducible refine gate_callee (f := 33) rfl ?_); refine goesL_ (some 8) rfl rfl Try.func33 (by kernel_rfl) rfl #[.pointer (some ⟨g, 0, none⟩), .int .i64 1, .int .i64 128] rfl (by (try simp only [List.map_toArray, List.map_cons, List.map_nil]); first | done | rfl | (simp only [List.length_drop, List.length_take]; rfl)) ?_; (with_reducible refine (code_reader_within.calls g s0_0 s0_1 s0_2 1 128 qN qx qy w0 _ ?side1 ?side2 A2.out).mono ?_); (case side1 => repeat (first | (with_reducible first | exact HI0.out | apply IsS70.alloc | apply IsS70.drewN | apply IsS70.drew | apply IsS70.set_1 | apply IsS70.set_2 | refine IsS70.far ?_ qD.out _) | exact HI0.out)); (case side2 => exact (by have := GEc.mk (IsS70.ge HI0.out); have := GEc.mk qR.out; exact lS HB)); rintro e w8 ⟨rfl, hi, hb, hk⟩; refine ⟨_, rfl, ?_⟩; replace qC := aM (KeepBut.blk hk (g' := qI) (lK qC) qW.out (by simp)); replace HK := aM (KeepBut.trans (by have := GEc.mk qM.out; exact kS HK) hk (.inl rfl)); replace HB := aM (hb); replace HI0 := aM (hi); (try clear hb); (try clear hb2); (try clear hk); (try clear hi)) | ((with_reducible refine gate_dst (N := 3) rfl ?_); refine box_event ?hg (N := 3) ?hd (cs := #[.int .i64 0, .int .i64 0, .slice none 0 0, .slice none 0 0]) (t := 26) ?hr ?_; (case hd => rfl); (case hg => rfl); (case hr => first | (go_simp; done) | (go_simp; rfl)); intro qG hg w9 hbox hb; replace HB := aM (below_step (by have := GEc.mk (IsS70.ge HI0.out); have := GEc.mk qR.out; exact lS HB) hb); have qA := aM (hbox); have qQ := aM ((by rw [hg]; exact (keep_size (w := w) (g := g) (row := none) (by have := GEc.mk qM.out; exact kS HK)) : w.heap.size ≤ qG)); have qU := aM ((Nat.le_trans HW0.out (by rw [hg]; exact (keep_size (w := w) (g := g) (row := none) (by have := GEc.mk qM.out; exact kS HK)) : w.heap.size ≤ qG) : w0.heap.size ≤ qG)); replace HK := aM (KeepBut.trans (by have := GEc.mk qM.out; exact kS HK) (KeepBut.of_below hb g none) (.inl rfl)); have qV := aM ((by rw [hg]; exact Nat.ne_of_lt (blk_lt (g := qI) (lK qC)) : qI ≠ qG)); have qm := aM ((by rw [hg]; exact Nat.ne_of_gt (blk_lt (g := qI) (lK qC)) : qG ≠ qI)); replace qC := aM (blk_below (g := qI) (lK qC) hb); have qE := aM ((by rw [hg]; exact Nat.ne_of_lt (IsS70.lt (show IsS70 w0 _ g s0_0 qx qy from by repeat (first | (with_reducible first | exact HI0.out | apply IsS70.alloc | apply IsS70.drewN | apply IsS70.drew | apply IsS70.set_1 | apply IsS70.set_2 | refine IsS70.far ?_ qD.out _) | exact HI0.out))) : g ≠ qG)); have qT := aM ((by rw [hg]; exact Nat.ne_of_gt (IsS70.lt (show IsS70 w0 _ g s0_0 qx qy from by repeat (first | (with_reducible first | exact HI0.out | apply IsS70.alloc | apply IsS70.drewN | apply IsS70.drew | apply IsS70.set_1 | apply IsS70.set_2 | refine IsS70.far ?_ qD.out _) | exact HI0.out))) : qG ≠ g)); replace HI0 := aM (IsS70.below (by repeat (first | (with_reducible first | exact HI0.out | apply IsS70.alloc | apply IsS70.drewN | apply IsS70.drew | apply IsS70.set_1 | apply IsS70.set_2 | refine IsS70.far ?_ qD.out _) | exact HI0.out)) hb); clear hb hbox hg; have jl := qm.out; have jm := qV.out; have jn := qT.out; have jo := qE.out; obtain ⟨jW, jX, jY, jZ⟩ := zc4 qA.out; have ja := fun i_ : Nat => blk_frozen qA.out i_) | ((with_reducible refine gate_callee (f := 33) rfl ?_); refine goesL_ (some 13) rfl rfl Try.func33 (by kernel_rfl) rfl #[.pointer (some ⟨g, 0, none⟩), .int .i64 qN, .int .i64 128] rfl (by (try simp only [List.map_toArray, List.map_cons, List.map_nil]); first | done | rfl | (simp only [List.length_drop, List.length_take]; rfl)) ?_; (with_reducible refine (code_reader_within.calls g s0_0 qx qy qN 128 qO jF jG w0 _ ?side1 ?side2 A3.out).mono ?_); (case side1 => repeat (first | (with_reducible first | exact HI0.out | apply IsS70.alloc | apply IsS70.drewN | apply IsS70.drew | apply IsS70.set_1 | apply IsS70.set_2 | refine IsS70.far ?_ qD.out _ | refine IsS70.far ?_ qE.out _) | exact HI0.out)); (case side2 => exact (by have := GEc.mk (IsS70.ge HI0.out); have := GEc.mk qR.out; have := GEc.mk qU.out; exact lS HB)); rintro e w13 ⟨rfl, hi, hb, hk⟩; refine ⟨_, rfl, ?_⟩; replace qC := aM (KeepBut.blk hk (g' := qI) (o := .cells #[.int .i64 0, .int .i64 0, .slice none 0 0, .slice none 0 0] 26 (0, 0)) (by refine lZ ?_; refine blk_far ?_ qV.out _; refine lZ ?_; refine blk_far ?_ qV.out _; refine lZ ?_; refine blk_far ?_ qV.out _; refine lZ ?_; refine blk_far ?_ qV.out _; refine lZ ?_; exact qC.out) qW.out (by simp)); replace qA := aM (KeepBut.blk hk (g' := qG) (o := .cells #[.int .i64 qN, .int .i64 0, .slice none 0 0, .slice none 0 0] 26 (0, 0)) (by refine lZ ?_; refine blk_put (cs := #[.int .i64 qN, .int .i64 0, .slice none 0 0, .slice none 0 0]) ?_ 3 _ rfl; refine lZ ?_; refine blk_put (cs := #[.int .i64 qN, .int .i64 0, .slice none 0 0, .slice none 0 0]) ?_ 2 _ rfl; refine lZ ?_; refine blk_put (cs := #[.int .i64 qN, .int .i64 0, .slice none 0 0, .slice none 0 0]) ?_ 1 _ rfl; refine lZ ?_; refine blk_put (cs := #[.int .i64 0, .int .i64 0, .slice none 0 0, .slice none 0 0]) ?_ 0 _ rfl; refine lZ ?_; exact qA.out) qT.out (by simp)); replace HK := aM (KeepBut.trans (by have := GEc.mk qM.out; have := GEc.mk qQ.out; exact kS HK) hk (.inl rfl)); replace HB := aM (hb); replace HI0 := aM (hi); (try clear hb); (try clear hb2); (try clear hk); (try clear hi); obtain ⟨jb, jc, jd, je⟩ := zc4 qA.out; have jf := fun i_ : Nat => blk_frozen qA.out i_) | ((with_reducible refine gate_callee (f := 51) rfl ?_); refine goesL_ (some 16) rfl rfl Try.func51 (by kernel_rfl) rfl #[.pointer (some ⟨g, 0, none⟩), .func (.func 54) #[] #[]] rfl (by (try simp only [List.map_toArray, List.map_cons, List.map_nil]); first | done | rfl | (simp only [List.length_drop, List.length_take]; rfl)) ?_; (with_reducible refine (code_reader_program_1.calls g s0_0 jF jG qg jH jI w0 _ ?side1 ?side2 A4.out).mono ?_); (case side1 => repeat (first | (with_reducible first | exact HI0.out | apply IsS70.alloc | apply IsS70.drewN | apply IsS70.drew | apply IsS70.set_1 | apply IsS70.set_2 | refine IsS70.far ?_ qD.out _ | refine IsS70.far ?_ qE.out _) | exact HI0.out)); (case side2 => exact (by have := GEc.mk (IsS70.ge HI0.out); have := GEc.mk qR.out; have := GEc.mk qU.out; exact lS HB)); rintro e w15 ⟨rfl, hi, hb, hk⟩; refine ⟨_, rfl, ?_⟩; replace qC := aM (KeepBut.blk hk (g' := qI) (o := .cells #[.int .i64 0, .int .i64 0, .slice none 0 0, .slice none 0 0] 26 (0, 0)) (by refine lZ ?_; refine blk_far ?_ qV.out _; refine lZ ?_; exact qC.out) qW.out (by simp)); replace qA := aM (KeepBut.blk hk (g' := qG) (o := .cells #[.int .i64 qN, .int .i64 qO, .slice none 0 0, .slice none 0 0] 26 (0, 0)) (by refine lZ ?_; refine blk_put (cs := #[.int .i64 qN, .int .i64 0, .slice none 0 0, .slice none 0 0]) ?_ 1 _ rfl; refine lZ ?_; exact qA.out) qT.out (by simp)); replace HK := aM (KeepBut.trans (by have := GEc.mk qM.out; have := GEc.mk qQ.out; exact kS HK) hk (.inl rfl)); replace HB := aM (hb); replace HI0 := aM (hi); (try clear hb); (try clear hb2); (try clear hk); (try clear hi)) | ((with_reducible refine gate_callee (f := 51) rfl ?_); refine goesL_ (some 19) rfl rfl Try.func51 (by kernel_rfl) rfl #[.pointer (some ⟨g, 0, none⟩), .func (.func 55) #[] #[.pointer (some ⟨w15.heap.size, 0, none⟩)]] rfl (by (try simp only [List.map_toArray, List.map_cons, List.map_nil]); first | done | rfl | (simp only [List.length_drop, List.length_take]; rfl)) ?_; (with_reducible refine (code_reader_program_2.calls g s0_0 jH jI qg ql jP jQ w0 _ ?side1 ?side2 A5.out w15.heap.size (by go_simp) (by simp)).mono ?_); (case side1 => repeat (first | (with_reducible first | exact HI0.out | apply IsS70.alloc | apply IsS70.drewN | apply IsS70.drew | apply IsS70.set_1 | apply IsS70.set_2 | refine IsS70.far ?_ qD.out _ | refine IsS70.far ?_ qE.out _) | exact HI0.out)); (case side2 => exact (by have := GEc.mk (IsS70.ge HI0.out); have := GEc.mk qR.out; have := GEc.mk qU.out; exact lS HB)); rintro e w16 ⟨rfl, hi, hb, hk⟩; refine ⟨_, rfl, ?_⟩; have hcH := keep_cell (b := w15.heap.size) (v := .int .i64 qg) hk rfl (by go_simp) (by simp) (Nat.ne_of_gt (IsS70.lt HI0.out)); replace qC := aM (KeepBut.blk hk (g' := qI) (lK qC) qW.out (by simp)); replace qA := aM (KeepBut.blk hk (g' := qG) (lK qA) qT.out (by simp)); replace HK := aM (KeepBut.trans (by have := GEc.mk qM.out; have := GEc.mk qQ.out; exact kS HK) hk (.inl rfl)); replace HB := aM (hb); replace HI0 := aM (hi); (try clear hb); (try clear hb2); (try clear hk); (try clear hi)))
 (try simp only [Act.put, List.setIfInBounds_toArray, List.set_cons_zero, List.set_cons_succ])
 go_cut [] (fun wc => ∃ (kq : Nat) (jB : Int) (jC : Bool) (qn : List (S63)) (qX : Value), Aside0 (code_reader_program.j2 kq s0_0 jB jC qN qO qn = some (r1, r2, r3, r4, r5, r6)) ∧ Aside0 (kq ≤ k) ∧ Aside0 (Kd.R k63 63 wc w.heap.size (fun _ => True) qX qn) ∧ Aside0 (wc.heap[qI]? = some (.cells #[.int .i64 0, .int .i64 0, (.slice none 0 0), (.slice none 0 0)] 26 (0, 0))) ∧ Aside0 (wc.heap[qG]? = some (.cells #[.int .i64 qN, .int .i64 qO, qX, (.slice none 0 0)] 26 (0, 0))) ∧ Aside0 (IsS70 w0 wc g s0_0 jB jC) ∧ Aside0 (KeepBut w wc g none) ∧ Aside0 (Below w0.heap.size w0 wc))
 case first =>
  have H := HC6.out
  clear HC6
  have H' := aM H
  clear H
  go_wp2
  repeat (go_step3; go_wp2)
  go_loopg [24] k (fun kq v24 w' => ∃ (qh : Int) (qs : Int) (qt : Bool) (qJ : List (S63)) (qX : Value), v24 = .int .i64 qh ∧ Aside0 (code_reader_program.l0 kq (Go.bits .or .i64 (wrap64 (qg * 256)) ql) qh s0_0 qs qt qN qO qJ = some (r1, r2, r3, r4, r5, r6)) ∧ Aside0 (kq ≤ k) ∧ Aside0 (Kd.R k63 63 w' w.heap.size (fun _ => True) qX qJ) ∧ Aside0 (w'.heap[qI]? = some (.cells #[.int .i64 0, .int .i64 0, (.slice none 0 0), (.slice none 0 0)] 26 (0, 0))) ∧ Aside0 (w'.heap[qG]? = some (.cells #[.int .i64 qN, .int .i64 qO, qX, (.slice none 0 0)] 26 (0, 0))) ∧ Aside0 (IsS70 w0 w' g s0_0 qs qt) ∧ Aside0 (KeepBut w w' g none) ∧ Aside0 (Below w0.heap.size w0 w'))
  case atStart => exact ⟨(0), (jP), (jQ), (([] : List (S63))), (.slice none 0 0), (by first | rfl | (simp; done) | (simp [*]; done)), H', ⟨Nat.le_refl _⟩, ⟨by first | exact Kd.R_nil _ _ _ _ _ | exact Kd.N_nil _ _ _ _ _ | exact Kd.V_nil _ _ _ _ _ | exact Kd.Q_nil _ _ _ _ _ | exact Kd.S_nil _ _ _ _ _⟩, ⟨by refine lZ ?_; exact qC.out⟩, ⟨by refine lZ ?_; exact qA.out⟩, ⟨by repeat (first | (with_reducible first | exact HI0.out | apply IsS70.alloc | apply IsS70.drewN | apply IsS70.drew | apply IsS70.set_1 | apply IsS70.set_2 | refine IsS70.far ?_ qD.out _ | refine IsS70.far ?_ qE.out _) | exact HI0.out)⟩, ⟨by repeat (first | (with_reducible first | exact HK.out | apply KeepBut.set_ | apply keep_drewN | apply keep_drew | apply keep_alloc | refine keep_far ?_ qM.out _ | refine keep_far ?_ qQ.out _) | exact HK.out)⟩, ⟨by repeat (first | (with_reducible first | exact HB.out | apply below_alloc | apply pw_below_drewN | apply below_drew1 | refine below_set ?_ (IsS70.ge HI0.out) | refine below_set ?_ qR.out | refine below_set ?_ qU.out) | exact HB.out)⟩⟩
  case round =>
   clear H'
   obtain ⟨qh, qs, qt, qJ, qX, rfl, HA, HK1, qB, qC, qA, HI0, HK, HB⟩ := hrel
   cases gk with
   | zero => exact absurd HA.out (by simp [code_reader_program.l0])
   | succ k1 =>
    have H := HA.out
    clear HA
    simp only [code_reader_program.l0] at H
    by_cases c17 : qh < (Go.bits .or .i64 (wrap64 (qg * 256)) ql)
    ·rw [if_pos c17] at H
     have c17b0 : decide (qh < (Go.bits .or .i64 (wrap64 (qg * 256)) ql)) = true := decide_eq_true c17
     clear c17
     (first | rw [c17b0] | (simp only [i64_w, i32_w]; rw [c17b0]) | skip)
     replace H := Option.bind_eq_some_iff.mp H
     obtain ⟨⟨qS, q5, q6⟩, A180, H⟩ := H
     replace H : ((code_reader_within.f s0_0 q5 q6 0 (wrap64 (qO - 1))).bind fun bt338 => ((code_reader_within.f s0_0 bt338.2.1 bt338.2.2 0 (wrap64 (qO - 1))).bind fun bt341 => (if qS = 3 then (code_reader_program.j1 k1 (Go.bits .or .i64 (wrap64 (qg * 256)) ql) qh true s0_0 bt341.2.1 bt341.2.2 qN qO qJ qS bt338.1 bt341.1 0 0) else (code_reader_program.j1 k1 (Go.bits .or .i64 (wrap64 (qg * 256)) ql) qh (qS == 4) s0_0 bt341.2.1 bt341.2.2 qN qO qJ qS bt338.1 bt341.1 0 0)))) = some (r1, r2, r3, r4, r5, r6) := H
     have A18 := aM A180
     clear A180
     replace H := Option.bind_eq_some_iff.mp H
     obtain ⟨⟨qa, qv, qw⟩, A190, H⟩ := H
     replace H : ((code_reader_within.f s0_0 qv qw 0 (wrap64 (qO - 1))).bind fun bt341 => (if qS = 3 then (code_reader_program.j1 k1 (Go.bits .or .i64 (wrap64 (qg * 256)) ql) qh true s0_0 bt341.2.1 bt341.2.2 qN qO qJ qS qa bt341.1 0 0) else (code_reader_program.j1 k1 (Go.bits .or .i64 (wrap64 (qg * 256)) ql) qh (qS == 4) s0_0 bt341.2.1 bt341.2.2 qN qO qJ qS qa bt341.1 0 0))) = some (r1, r2, r3, r4, r5, r6) := H
     have A19 := aM A190
     clear A190
     replace H := Option.bind_eq_some_iff.mp H
     obtain ⟨⟨qe, qp, qq⟩, A200, H⟩ := H
     replace H : (if qS = 3 then (code_reader_program.j1 k1 (Go.bits .or .i64 (wrap64 (qg * 256)) ql) qh true s0_0 qp qq qN qO qJ qS qa qe 0 0) else (code_reader_program.j1 k1 (Go.bits .or .i64 (wrap64 (qg * 256)) ql) qh (qS == 4) s0_0 qp qq qN qO qJ qS qa qe 0 0)) = some (r1, r2, r3, r4, r5, r6) := H
     have A20 := aM A200
     clear A200
     have ji := aM H
     clear H
     try go_wp2
     have n0_ := aM (Kd.R_drew qB.out)
     have n1_ := aM (blk_drew qC.out)
     have n2_ := aM (blk_drew qA.out)
     have n3_ := aM (IsS70.drew HI0.out)
     have n4_ := aM (keep_drew HK.out)
     have n5_ := aM (below_drew1 HB.out)
     clear qB
     clear qC
     clear qA
     clear HI0
     clear HK
     clear HB
     have qB := n0_
     have qC := n1_
     have qA := n2_
     have HI0 := n3_
     have HK := n4_
     have HB := n5_
     clear n0_ n1_ n2_ n3_ n4_ n5_
     refine start_ (n := 15) (S := fun w' => w'.cell? ⟨qG, 0, none⟩ = some (.int .i64 qN) ∧ w'.cell? ⟨qG, 1, none⟩ = some (.int .i64 qO) ∧ w'.cell? ⟨qG, 2, none⟩ = some (qX) ∧ w'.cell? ⟨qG, 3, none⟩ = some (.slice none 0 0)) (ds := []) #[false, false, false, false, false, false, false, false, false, false, false, false, false, false, false] (by kernel_rfl) rfl rfl ⟨(blk_cell qA.out 0).trans rfl, (blk_cell qA.out 1).trans rfl, (blk_cell qA.out 2).trans rfl, (blk_cell qA.out 3).trans rfl⟩ (fun hHeld => ?_); refine with_tabW code_reader_program.tab7 code_reader_program.bits7 (fun HT_ HW_ => ?_)
     generalize wr.drew = w22 at qB qC qA HI0 HK HB hHeld ⊢
     refine pure_ (i := 0) (N := some 26) (v := ?_) (a' := ?_) #[true, false, false, false, false, false, false, false, false, false, false, false, false, false, false] rfl rfl (any_of HT_.out (by kernel_rfl)) (fun _ _ _ h => h) (Or.inl ⟨by rfl, ?_⟩) ?_ ?_
     rotate_left
     ·intro w'
      go_simp
      with_reducible rfl
     rotate_left
     ·simp only [Act.put, List.setIfInBounds_toArray, List.set_cons_zero, List.set_cons_succ, i64_w, i32_w]
      rfl
     refine pure_ (i := 2) (N := some 28) (v := ?_) (a' := ?_) #[true, false, true, false, false, false, false, false, false, false, false, false, false, false, false] rfl rfl (any_of HT_.out (by kernel_rfl)) (fun _ _ _ h => h) (Or.inl ⟨by rfl, ?_⟩) ?_ ?_
     rotate_left
     ·intro w'
      go_simp
      with_reducible rfl
     rotate_left
     ·simp only [Act.put, List.setIfInBounds_toArray, List.set_cons_zero, List.set_cons_succ, i64_w, i32_w]
      rfl
     refine pure_ (i := 3) (N := some 29) (v := ?_) (a' := ?_) #[true, false, true, true, false, false, false, false, false, false, false, false, false, false, false] rfl rfl (any_of HT_.out (by kernel_rfl)) (fun _ _ _ h => h) (Or.inl ⟨by rfl, ?_⟩) ?_ ?_
     rotate_left
     ·intro w'
      go_simp
      with_reducible rfl
     rotate_left
     ·simp only [Act.put, List.setIfInBounds_toArray, List.set_cons_zero, List.set_cons_succ, i64_w, i32_w]
      rfl
     refine pure_ (i := 7) (N := some 33) (v := ?_) (a' := ?_) #[true, false, true, true, false, false, false, true, false, false, false, false, false, false, false] rfl rfl (any_of HT_.out (by kernel_rfl)) (fun _ _ _ h => h) (Or.inl ⟨by rfl, ?_⟩) ?_ ?_
     rotate_left
     ·intro w'
      go_simp
      with_reducible rfl
     rotate_left
     ·simp only [Act.put, List.setIfInBounds_toArray, List.set_cons_zero, List.set_cons_succ, i64_w, i32_w]
      rfl
     refine pure_ (i := 8) (N := some 34) (v := ?_) (a' := ?_) #[true, false, true, true, false, false, false, true, true, false, false, false, false, false, false] rfl rfl (any_of HT_.out (by kernel_rfl)) (fun _ _ _ h => h) (Or.inl ⟨by rfl, ?_⟩) ?_ ?_
     rotate_left
     ·intro w'
      go_simp
      with_reducible rfl
     rotate_left
     ·simp only [Act.put, List.setIfInBounds_toArray, List.set_cons_zero, List.set_cons_succ, i64_w, i32_w]
      rfl
     refine take_ (i := 4) (N := some 30) (v := ?_) (a' := ?_) #[true, false, true, true, true, false, false, true, true, false, false, false, false, false, false] rfl rfl (take_ofW HT_.out HW_.out (by kernel_rfl)) (fun _ _ _ h => h) (Or.inl ⟨by rfl, ?_⟩) hHeld ?_ ?_
     rotate_left
     ·rintro w' ⟨s0, s1, s2, s3⟩
      go_simp
      with_reducible rfl
     rotate_left
     ·simp only [Act.put, List.setIfInBounds_toArray, List.set_cons_zero, List.set_cons_succ, i64_w, i32_w]
      rfl
     refine pure_ (i := 5) (N := some 31) (v := ?_) (a' := ?_) #[true, false, true, true, true, true, false, true, true, false, false, false, false, false, false] rfl rfl (any_of HT_.out (by kernel_rfl)) (fun _ _ _ h => h) (Or.inl ⟨by rfl, ?_⟩) ?_ ?_
     rotate_left
     ·intro w'
      go_simp
      with_reducible rfl
     rotate_left
     ·simp only [Act.put, List.setIfInBounds_toArray, List.set_cons_zero, List.set_cons_succ, i64_w, i32_w]
      rfl
     refine take_ (i := 9) (N := some 35) (v := ?_) (a' := ?_) #[true, false, true, true, true, true, false, true, true, true, false, false, false, false, false] rfl rfl (take_ofW HT_.out HW_.out (by kernel_rfl)) (fun _ _ _ h => h) (Or.inl ⟨by rfl, ?_⟩) hHeld ?_ ?_
     rotate_left
     ·rintro w' ⟨s0, s1, s2, s3⟩
      go_simp
      with_reducible rfl
     rotate_left
     ·simp only [Act.put, List.setIfInBounds_toArray, List.set_cons_zero, List.set_cons_succ, i64_w, i32_w]
      rfl
     refine pure_ (i := 10) (N := some 36) (v := ?_) (a' := ?_) #[true, false, true, true, true, true, false, true, true, true, true, false, false, false, false] rfl rfl (any_of HT_.out (by kernel_rfl)) (fun _ _ _ h => h) (Or.inl ⟨by rfl, ?_⟩) ?_ ?_
     rotate_left
     ·intro w'
      go_simp
      with_reducible rfl
     rotate_left
     ·simp only [Act.put, List.setIfInBounds_toArray, List.set_cons_zero, List.set_cons_succ, i64_w, i32_w]
      rfl
     refine join_ (σ := Nat) 1 #[true, true, true, true, true, true, true, true, true, true, true, true, true, true, false] (fun s_ => [(27, .int .i64 qS), (32, .int .i64 qa), (37, .int .i64 qe), (6, .pointer (some ⟨s_, 0, none⟩)), (38, .agg #[.int .i64 qS, .int .i64 qa, .int .i64 qe, .int .i64 0, .int .i64 0])]) (fun s_ w' => (w'.cell? ⟨qG, 0, none⟩ = some (.int .i64 qN) ∧ w'.cell? ⟨qG, 1, none⟩ = some (.int .i64 qO) ∧ w'.cell? ⟨qG, 2, none⟩ = some (qX) ∧ w'.cell? ⟨qG, 3, none⟩ = some (.slice none 0 0)) ∧ (Kd.R k63 63 w' w.heap.size (fun k_ => k_ ≠ s_) qX qJ) ∧ (w'.heap[qI]? = some (.cells #[.int .i64 0, .int .i64 0, .slice none 0 0, .slice none 0 0] 26 (0, 0))) ∧ (w'.heap[qG]? = some (.cells #[.int .i64 qN, .int .i64 qO, qX, .slice none 0 0] 26 (0, 0))) ∧ (w'.heap[s_]? = some (.cells #[.int .i64 0, .int .i64 0, .int .i64 0, .int .i64 0, .int .i64 0] 63 (0, 0))) ∧ (w.heap.size ≤ s_) ∧ (w0.heap.size ≤ s_) ∧ (g ≠ s_) ∧ (s_ ≠ g) ∧ (qI ≠ s_) ∧ (s_ ≠ qI) ∧ (qG ≠ s_) ∧ (s_ ≠ qG) ∧ (IsS70 w0 w' g s0_0 qp qq) ∧ (KeepBut w w' g none) ∧ (Below w0.heap.size w0 w')) ?_ ?_
     rotate_left
     ·intro hCont
      refine two_ (i := 1) (j := 13) (Ni := some 27) (Nj := some 6) #[true, true, true, true, true, true, false, true, true, true, true, false, false, false, false] #[true, false, true, true, true, true, false, true, true, true, true, false, false, true, false] rfl rfl rfl rfl (two_of HT_.out (by kernel_rfl)) (by decide) (by decide) (fun K hK => ?_) (fun K hK => ?_)
      ·skip
       refine goes_ Try.func33 (by kernel_rfl) rfl #[.pointer (some ⟨g, 0, none⟩), .int .i64 1, .int .i64 8] (by rfl) rfl rfl (by (try simp only [List.map_toArray, List.map_cons, List.map_nil]); first | done | rfl | (simp only [List.length_drop, List.length_take]; rfl)) ?_
       with_reducible refine (code_reader_within.calls g s0_0 qs qt 1 8 qS q5 q6 w0 _ ?side1 ?side2 A18.out).mono ?_
       (case side1 => repeat (first | (with_reducible first | exact HI0.out | apply IsS70.alloc | apply IsS70.drewN | apply IsS70.drew | apply IsS70.set_1 | apply IsS70.set_2 | refine IsS70.far ?_ qD.out _ | refine IsS70.far ?_ qE.out _) | exact HI0.out))
       (case side2 => exact (by have := GEc.mk (IsS70.ge HI0.out); have := GEc.mk qR.out; have := GEc.mk qU.out; exact lS HB))
       rintro e w23 ⟨rfl, hi, hb, hk⟩
       refine ⟨_, rfl, ?_⟩
       have n0_ := aM (Kd.R_mono (Kd.R_keep (IsS70.apart (show IsS70 w0 _ g s0_0 qs qt from by repeat (first | (with_reducible first | exact HI0.out | apply IsS70.alloc | apply IsS70.drewN | apply IsS70.drew | apply IsS70.set_1 | apply IsS70.set_2 | refine IsS70.far ?_ qD.out _ | refine IsS70.far ?_ qE.out _) | exact HI0.out)) (lR qB) (by decide)) hk (fun _ h => h.2)) (fun _ h => h.1))
       have n1_ := aM (KeepBut.blk hk (g' := qI) (lK qC) qW.out (by simp))
       have n2_ := aM (KeepBut.blk hk (g' := qG) (lK qA) qT.out (by simp))
       have n3_ := aM (KeepBut.trans (by have := GEc.mk qM.out; have := GEc.mk qQ.out; exact kS HK) hk (.inl rfl))
       have n4_ := aM (hb)
       have n5_ := aM (hi)
       clear qB
       clear qC
       clear qA
       clear HK
       clear HB
       clear HI0
       have qB := n0_
       have qC := n1_
       have qA := n2_
       have HK := n3_
       have HB := n4_
       have HI0 := n5_
       clear n0_ n1_ n2_ n3_ n4_ n5_
       (try clear hb)
       (try clear hb2)
       (try clear hk)
       (try clear hi)
       refine hK.out _ _ ⟨(blk_cell qA.out 0).trans rfl, (blk_cell qA.out 1).trans rfl, (blk_cell qA.out 2).trans rfl, (blk_cell qA.out 3).trans rfl⟩ (fun hHeld => ?_)
       clear hK K
       refine norm_ (a' := ?_) ?_ ?_
       rotate_left
       ·show Act.put _ (some 27) _ = _
        simp only [Act.put, List.setIfInBounds_toArray, List.set_cons_zero, List.set_cons_succ, i64_w, i32_w]
        rfl
       refine two_ (i := 6) (j := 13) (Ni := some 32) (Nj := some 6) #[true, true, true, true, true, true, true, true, true, true, true, false, false, false, false] #[true, true, true, true, true, true, false, true, true, true, true, false, false, true, false] rfl rfl rfl rfl (two_of HT_.out (by kernel_rfl)) (by decide) (by decide) (fun K hK => ?_) (fun K hK => ?_)
       ·skip
        refine goes_ Try.func33 (by kernel_rfl) rfl #[.pointer (some ⟨g, 0, none⟩), .int .i64 0, .int .i64 (wrap64 (qO - 1))] (by rfl) rfl rfl (by (try simp only [List.map_toArray, List.map_cons, List.map_nil]); first | done | rfl | (simp only [List.length_drop, List.length_take]; rfl)) ?_
        with_reducible refine (code_reader_within.calls g s0_0 q5 q6 0 (wrap64 (qO - 1)) qa qv qw w0 _ ?side1 ?side2 A19.out).mono ?_
        (case side1 => repeat (first | (with_reducible first | exact HI0.out | apply IsS70.alloc | apply IsS70.drewN | apply IsS70.drew | apply IsS70.set_1 | apply IsS70.set_2 | refine IsS70.far ?_ qD.out _ | refine IsS70.far ?_ qE.out _) | exact HI0.out))
        (case side2 => exact (by have := GEc.mk (IsS70.ge HI0.out); have := GEc.mk qR.out; have := GEc.mk qU.out; exact lS HB))
        rintro e w24 ⟨rfl, hi, hb, hk⟩
        refine ⟨_, rfl, ?_⟩
        have n0_ := aM (Kd.R_mono (Kd.R_keep (IsS70.apart (show IsS70 w0 _ g s0_0 q5 q6 from by repeat (first | (with_reducible first | exact HI0.out | apply IsS70.alloc | apply IsS70.drewN | apply IsS70.drew | apply IsS70.set_1 | apply IsS70.set_2 | refine IsS70.far ?_ qD.out _ | refine IsS70.far ?_ qE.out _) | exact HI0.out)) (lR qB) (by decide)) hk (fun _ h => h.2)) (fun _ h => h.1))
        have n1_ := aM (KeepBut.blk hk (g' := qI) (lK qC) qW.out (by simp))
        have n2_ := aM (KeepBut.blk hk (g' := qG) (lK qA) qT.out (by simp))
        have n3_ := aM (KeepBut.trans (by have := GEc.mk qM.out; have := GEc.mk qQ.out; exact kS HK) hk (.inl rfl))
        have n4_ := aM (hb)
        have n5_ := aM (hi)
        clear qB
        clear qC
        clear qA
        clear HK
        clear HB
        clear HI0
        have qB := n0_
        have qC := n1_
        have qA := n2_
        have HK := n3_
        have HB := n4_
        have HI0 := n5_
        clear n0_ n1_ n2_ n3_ n4_ n5_
        (try clear hb)
        (try clear hb2)
        (try clear hk)
        (try clear hi)
        refine hK.out _ _ ⟨(blk_cell qA.out 0).trans rfl, (blk_cell qA.out 1).trans rfl, (blk_cell qA.out 2).trans rfl, (blk_cell qA.out 3).trans rfl⟩ (fun hHeld => ?_)
        clear hK K
        refine norm_ (a' := ?_) ?_ ?_
        rotate_left
        ·show Act.put _ (some 32) _ = _
         simp only [Act.put, List.setIfInBounds_toArray, List.set_cons_zero, List.set_cons_succ, i64_w, i32_w]
         rfl
        refine two_ (i := 11) (j := 13) (Ni := some 37) (Nj := some 6) #[true, true, true, true, true, true, true, true, true, true, true, true, false, false, false] #[true, true, true, true, true, true, true, true, true, true, true, false, false, true, false] rfl rfl rfl rfl (two_of HT_.out (by kernel_rfl)) (by decide) (by decide) (fun K hK => ?_) (fun K hK => ?_)
        ·skip
         refine goes_ Try.func33 (by kernel_rfl) rfl #[.pointer (some ⟨g, 0, none⟩), .int .i64 0, .int .i64 (wrap64 (qO - 1))] (by rfl) rfl rfl (by (try simp only [List.map_toArray, List.map_cons, List.map_nil]); first | done | rfl | (simp only [List.length_drop, List.length_take]; rfl)) ?_
         with_reducible refine (code_reader_within.calls g s0_0 qv qw 0 (wrap64 (qO - 1)) qe qp qq w0 _ ?side1 ?side2 A20.out).mono ?_
         (case side1 => repeat (first | (with_reducible first | exact HI0.out | apply IsS70.alloc | apply IsS70.drewN | apply IsS70.drew | apply IsS70.set_1 | apply IsS70.set_2 | refine IsS70.far ?_ qD.out _ | refine IsS70.far ?_ qE.out _) | exact HI0.out))
         (case side2 => exact (by have := GEc.mk (IsS70.ge HI0.out); have := GEc.mk qR.out; have := GEc.mk qU.out; exact lS HB))
         rintro e w25 ⟨rfl, hi, hb, hk⟩
         refine ⟨_, rfl, ?_⟩
         have n0_ := aM (Kd.R_mono (Kd.R_keep (IsS70.apart (show IsS70 w0 _ g s0_0 qv qw from by repeat (first | (with_reducible first | exact HI0.out | apply IsS70.alloc | apply IsS70.drewN | apply IsS70.drew | apply IsS70.set_1 | apply IsS70.set_2 | refine IsS70.far ?_ qD.out _ | refine IsS70.far ?_ qE.out _) | exact HI0.out)) (lR qB) (by decide)) hk (fun _ h => h.2)) (fun _ h => h.1))
         have n1_ := aM (KeepBut.blk hk (g' := qI) (lK qC) qW.out (by simp))
         have n2_ := aM (KeepBut.blk hk (g' := qG) (lK qA) qT.out (by simp))
         have n3_ := aM (KeepBut.trans (by have := GEc.mk qM.out; have := GEc.mk qQ.out; exact kS HK) hk (.inl rfl))
         have n4_ := aM (hb)
         have n5_ := aM (hi)
         clear qB
         clear qC
         clear qA
         clear HK
         clear HB
         clear HI0
         have qB := n0_
         have qC := n1_
         have qA := n2_
         have HK := n3_
         have HB := n4_
         have HI0 := n5_
         clear n0_ n1_ n2_ n3_ n4_ n5_
         (try clear hb)
         (try clear hb2)
         (try clear hk)
         (try clear hi)
         refine hK.out _ _ ⟨(blk_cell qA.out 0).trans rfl, (blk_cell qA.out 1).trans rfl, (blk_cell qA.out 2).trans rfl, (blk_cell qA.out 3).trans rfl⟩ (fun hHeld => ?_)
         clear hK K
         refine norm_ (a' := ?_) ?_ ?_
         rotate_left
         ·show Act.put _ (some 37) _ = _
          simp only [Act.put, List.setIfInBounds_toArray, List.set_cons_zero, List.set_cons_succ, i64_w, i32_w]
          rfl
         refine pure_ (i := 12) (N := some 38) (v := ?_) (a' := ?_) #[true, true, true, true, true, true, true, true, true, true, true, true, true, false, false] rfl rfl (any_of HT_.out (by kernel_rfl)) (fun _ _ _ h => h) (Or.inl ⟨by rfl, ?_⟩) ?_ ?_
         rotate_left
         ·intro w'
          go_simp
          with_reducible rfl
         rotate_left
         ·simp only [Act.put, List.setIfInBounds_toArray, List.set_cons_zero, List.set_cons_succ, i64_w, i32_w]
          rfl
         refine one_ (i := 13) (N := some 6) #[true, true, true, true, true, true, true, true, true, true, true, true, true, true, false] rfl rfl (one_of HT_.out (by kernel_rfl)) (by decide) (fun K hK => ?_)
         refine box_step ?hg (N := 6) ?hd (cs := #[.int .i64 0, .int .i64 0, .int .i64 0, .int .i64 0, .int .i64 0]) (t := 63) ?hr ?_; (case hd => rfl); (case hg => rfl); (case hr => first | (go_simp; done) | (go_simp; rfl))
         intro qF hg w26 hbox hb
         have n0_ := aM (Kd.R_below (Kd.R_elderB (lR qB) qF (Nat.le_of_eq hg.symm)) hb)
         have n1_ := aM (blk_below (g := qI) (lK qC) hb)
         have n2_ := aM (blk_below (g := qG) (lK qA) hb)
         have n3_ := aM (IsS70.below (by repeat (first | (with_reducible first | exact HI0.out | apply IsS70.alloc | apply IsS70.drewN | apply IsS70.drew | apply IsS70.set_1 | apply IsS70.set_2 | refine IsS70.far ?_ qD.out _ | refine IsS70.far ?_ qE.out _) | exact HI0.out)) hb)
         have n4_ := aM (KeepBut.trans (by have := GEc.mk qM.out; have := GEc.mk qQ.out; exact kS HK) (KeepBut.of_below hb g none) (.inl rfl))
         have n5_ := aM (below_step (by have := GEc.mk (IsS70.ge HI0.out); have := GEc.mk qR.out; have := GEc.mk qU.out; exact lS HB) hb)
         have n6_ := aM (hbox)
         have n7_ := aM ((by rw [hg]; exact (keep_size (w := w) (g := g) (row := none) (by have := GEc.mk qM.out; have := GEc.mk qQ.out; exact kS HK)) : w.heap.size ≤ qF))
         have n8_ := aM ((Nat.le_trans HW0.out (by rw [hg]; exact (keep_size (w := w) (g := g) (row := none) (by have := GEc.mk qM.out; have := GEc.mk qQ.out; exact kS HK)) : w.heap.size ≤ qF) : w0.heap.size ≤ qF))
         have n9_ := aM ((by rw [hg]; exact Nat.ne_of_lt (blk_lt (g := qI) (lK qC)) : qI ≠ qF))
         have n10_ := aM ((by rw [hg]; exact Nat.ne_of_gt (blk_lt (g := qI) (lK qC)) : qF ≠ qI))
         have n11_ := aM ((by rw [hg]; exact Nat.ne_of_lt (blk_lt (g := qG) (lK qA)) : qG ≠ qF))
         have n12_ := aM ((by rw [hg]; exact Nat.ne_of_gt (blk_lt (g := qG) (lK qA)) : qF ≠ qG))
         have n13_ := aM ((by rw [hg]; exact Nat.ne_of_lt (IsS70.lt (show IsS70 w0 _ g s0_0 qp qq from by repeat (first | (with_reducible first | exact HI0.out | apply IsS70.alloc | apply IsS70.drewN | apply IsS70.drew | apply IsS70.set_1 | apply IsS70.set_2 | refine IsS70.far ?_ qD.out _ | refine IsS70.far ?_ qE.out _) | exact HI0.out))) : g ≠ qF))
         have n14_ := aM ((by rw [hg]; exact Nat.ne_of_gt (IsS70.lt (show IsS70 w0 _ g s0_0 qp qq from by repeat (first | (with_reducible first | exact HI0.out | apply IsS70.alloc | apply IsS70.drewN | apply IsS70.drew | apply IsS70.set_1 | apply IsS70.set_2 | refine IsS70.far ?_ qD.out _ | refine IsS70.far ?_ qE.out _) | exact HI0.out))) : qF ≠ g))
         clear qB
         clear qC
         clear qA
         clear HI0
         clear HK
         clear HB
         have qB := n0_
         have qC := n1_
         have qA := n2_
         have HI0 := n3_
         have HK := n4_
         have HB := n5_
         have qK := n6_
         have qZ := n7_
         have qd := n8_
         have qP := n9_
         have qb := n10_
         have qH := n11_
         have qc := n12_
         have qL := n13_
         have qY := n14_
         clear n0_ n1_ n2_ n3_ n4_ n5_ n6_ n7_ n8_ n9_ n10_ n11_ n12_ n13_ n14_
         clear hb hbox hg
         refine hK.out _ _ ⟨(blk_cell qA.out 0).trans rfl, (blk_cell qA.out 1).trans rfl, (blk_cell qA.out 2).trans rfl, (blk_cell qA.out 3).trans rfl⟩ (fun hHeld => ?_)
         clear hK K
         refine norm_ (a' := ?_) ?_ ?_
         rotate_left
         ·show Act.put _ (some 6) _ = _
          simp only [Act.put, List.setIfInBounds_toArray, List.set_cons_zero, List.set_cons_succ, i64_w, i32_w]
          rfl
         exact norm_ (by simp only [putAll, Act.put, List.setIfInBounds_toArray, List.set_cons_zero, List.set_cons_succ]) (hCont (qF) _ ⟨hHeld, (by (with_reducible repeat (first | apply Kd.R_alloc | apply Kd.R_drewN | apply Kd.R_drew)); exact Kd.R_mono qB.out (fun _ hk => hk.2)), (lK qC), (lK qA), (lK qK), qZ.out, qd.out, qL.out, qY.out, qP.out, qb.out, qH.out, qc.out, (by repeat (first | (with_reducible first | exact HI0.out | apply IsS70.alloc | apply IsS70.drewN | apply IsS70.drew | apply IsS70.set_1 | apply IsS70.set_2 | refine IsS70.far ?_ qD.out _ | refine IsS70.far ?_ qE.out _ | refine IsS70.far ?_ qL.out _) | exact HI0.out)), (by have := GEc.mk qM.out; have := GEc.mk qQ.out; have := GEc.mk qZ.out; exact kS HK), (by have := GEc.mk (IsS70.ge HI0.out); have := GEc.mk qR.out; have := GEc.mk qU.out; have := GEc.mk qd.out; exact lS HB)⟩)
        ·skip
         refine box_step ?hg (N := 6) ?hd (cs := #[.int .i64 0, .int .i64 0, .int .i64 0, .int .i64 0, .int .i64 0]) (t := 63) ?hr ?_; (case hd => rfl); (case hg => rfl); (case hr => first | (go_simp; done) | (go_simp; rfl))
         intro qF hg w25 hbox hb
         have n0_ := aM (Kd.R_below (Kd.R_elderB (lR qB) qF (Nat.le_of_eq hg.symm)) hb)
         have n1_ := aM (blk_below (g := qI) (lK qC) hb)
         have n2_ := aM (blk_below (g := qG) (lK qA) hb)
         have n3_ := aM (IsS70.below (by repeat (first | (with_reducible first | exact HI0.out | apply IsS70.alloc | apply IsS70.drewN | apply IsS70.drew | apply IsS70.set_1 | apply IsS70.set_2 | refine IsS70.far ?_ qD.out _ | refine IsS70.far ?_ qE.out _) | exact HI0.out)) hb)
         have n4_ := aM (KeepBut.trans (by have := GEc.mk qM.out; have := GEc.mk qQ.out; exact kS HK) (KeepBut.of_below hb g none) (.inl rfl))
         have n5_ := aM (below_step (by have := GEc.mk (IsS70.ge HI0.out); have := GEc.mk qR.out; have := GEc.mk qU.out; exact lS HB) hb)
         have n6_ := aM (hbox)
         have n7_ := aM ((by rw [hg]; exact (keep_size (w := w) (g := g) (row := none) (by have := GEc.mk qM.out; have := GEc.mk qQ.out; exact kS HK)) : w.heap.size ≤ qF))
         have n8_ := aM ((Nat.le_trans HW0.out (by rw [hg]; exact (keep_size (w := w) (g := g) (row := none) (by have := GEc.mk qM.out; have := GEc.mk qQ.out; exact kS HK)) : w.heap.size ≤ qF) : w0.heap.size ≤ qF))
         have n9_ := aM ((by rw [hg]; exact Nat.ne_of_lt (blk_lt (g := qI) (lK qC)) : qI ≠ qF))
         have n10_ := aM ((by rw [hg]; exact Nat.ne_of_gt (blk_lt (g := qI) (lK qC)) : qF ≠ qI))
         have n11_ := aM ((by rw [hg]; exact Nat.ne_of_lt (blk_lt (g := qG) (lK qA)) : qG ≠ qF))
         have n12_ := aM ((by rw [hg]; exact Nat.ne_of_gt (blk_lt (g := qG) (lK qA)) : qF ≠ qG))
         have n13_ := aM ((by rw [hg]; exact Nat.ne_of_lt (IsS70.lt (show IsS70 w0 _ g s0_0 qv qw from by repeat (first | (with_reducible first | exact HI0.out | apply IsS70.alloc | apply IsS70.drewN | apply IsS70.drew | apply IsS70.set_1 | apply IsS70.set_2 | refine IsS70.far ?_ qD.out _ | refine IsS70.far ?_ qE.out _) | exact HI0.out))) : g ≠ qF))
         have n14_ := aM ((by rw [hg]; exact Nat.ne_of_gt (IsS70.lt (show IsS70 w0 _ g s0_0 qv qw from by repeat (first | (with_reducible first | exact HI0.out | apply IsS70.alloc | apply IsS70.drewN | apply IsS70.drew | apply IsS70.set_1 | apply IsS70.set_2 | refine IsS70.far ?_ qD.out _ | refine IsS70.far ?_ qE.out _) | exact HI0.out))) : qF ≠ g))
         clear qB
         clear qC
         clear qA
         clear HI0
         clear HK
         clear HB
         have qB := n0_
         have qC := n1_
         have qA := n2_
         have HI0 := n3_
         have HK := n4_
         have HB := n5_
         have qK := n6_
         have qZ := n7_
         have qd := n8_
         have qP := n9_
         have qb := n10_
         have qH := n11_
         have qc := n12_
         have qL := n13_
         have qY := n14_
         clear n0_ n1_ n2_ n3_ n4_ n5_ n6_ n7_ n8_ n9_ n10_ n11_ n12_ n13_ n14_
         clear hb hbox hg
         refine hK.out _ _ ⟨(blk_cell qA.out 0).trans rfl, (blk_cell qA.out 1).trans rfl, (blk_cell qA.out 2).trans rfl, (blk_cell qA.out 3).trans rfl⟩ (fun hHeld => ?_)
         clear hK K
         refine norm_ (a' := ?_) ?_ ?_
         rotate_left
         ·show Act.put _ (some 6) _ = _
          simp only [Act.put, List.setIfInBounds_toArray, List.set_cons_zero, List.set_cons_succ, i64_w, i32_w]
          rfl
         refine one_ (i := 11) (N := some 37) #[true, true, true, true, true, true, true, true, true, true, true, true, false, true, false] rfl rfl (one_of HT_.out (by kernel_rfl)) (by decide) (fun K hK => ?_)
         refine goes_ Try.func33 (by kernel_rfl) rfl #[.pointer (some ⟨g, 0, none⟩), .int .i64 0, .int .i64 (wrap64 (qO - 1))] (by rfl) rfl rfl (by (try simp only [List.map_toArray, List.map_cons, List.map_nil]); first | done | rfl | (simp only [List.length_drop, List.length_take]; rfl)) ?_
         with_reducible refine (code_reader_within.calls g s0_0 qv qw 0 (wrap64 (qO - 1)) qe qp qq w0 _ ?side1 ?side2 A20.out).mono ?_
         (case side1 => repeat (first | (with_reducible first | exact HI0.out | apply IsS70.alloc | apply IsS70.drewN | apply IsS70.drew | apply IsS70.set_1 | apply IsS70.set_2 | refine IsS70.far ?_ qD.out _ | refine IsS70.far ?_ qE.out _ | refine IsS70.far ?_ qL.out _) | exact HI0.out))
         (case side2 => exact (by have := GEc.mk (IsS70.ge HI0.out); have := GEc.mk qR.out; have := GEc.mk qU.out; have := GEc.mk qd.out; exact lS HB))
         rintro e w26 ⟨rfl, hi, hb, hk⟩
         refine ⟨_, rfl, ?_⟩
         have n0_ := aM (Kd.R_mono (Kd.R_keep (IsS70.apart (show IsS70 w0 _ g s0_0 qv qw from by repeat (first | (with_reducible first | exact HI0.out | apply IsS70.alloc | apply IsS70.drewN | apply IsS70.drew | apply IsS70.set_1 | apply IsS70.set_2 | refine IsS70.far ?_ qD.out _ | refine IsS70.far ?_ qE.out _ | refine IsS70.far ?_ qL.out _) | exact HI0.out)) (lR qB) (by decide)) hk (fun _ h => h.2)) (fun _ h => h.1))
         have n1_ := aM (KeepBut.blk hk (g' := qI) (lK qC) qW.out (by simp))
         have n2_ := aM (KeepBut.blk hk (g' := qG) (lK qA) qT.out (by simp))
         have n3_ := aM (KeepBut.blk hk (g' := qF) (lK qK) qY.out (by simp))
         have n4_ := aM (KeepBut.trans (by have := GEc.mk qM.out; have := GEc.mk qQ.out; have := GEc.mk qZ.out; exact kS HK) hk (.inl rfl))
         have n5_ := aM (hb)
         have n6_ := aM (hi)
         clear qB
         clear qC
         clear qA
         clear qK
         clear HK
         clear HB
         clear HI0
         have qB := n0_
         have qC := n1_
         have qA := n2_
         have qK := n3_
         have HK := n4_
         have HB := n5_
         have HI0 := n6_
         clear n0_ n1_ n2_ n3_ n4_ n5_ n6_
         (try clear hb)
         (try clear hb2)
         (try clear hk)
         (try clear hi)
         refine hK.out _ _ ⟨(blk_cell qA.out 0).trans rfl, (blk_cell qA.out 1).trans rfl, (blk_cell qA.out 2).trans rfl, (blk_cell qA.out 3).trans rfl⟩ (fun hHeld => ?_)
         clear hK K
         refine norm_ (a' := ?_) ?_ ?_
         rotate_left
         ·show Act.put _ (some 37) _ = _
          simp only [Act.put, List.setIfInBounds_toArray, List.set_cons_zero, List.set_cons_succ, i64_w, i32_w]
          rfl
         refine pure_ (i := 12) (N := some 38) (v := ?_) (a' := ?_) #[true, true, true, true, true, true, true, true, true, true, true, true, true, true, false] rfl rfl (any_of HT_.out (by kernel_rfl)) (fun _ _ _ h => h) (Or.inl ⟨by rfl, ?_⟩) ?_ ?_
         rotate_left
         ·intro w'
          go_simp
          with_reducible rfl
         rotate_left
         ·simp only [Act.put, List.setIfInBounds_toArray, List.set_cons_zero, List.set_cons_succ, i64_w, i32_w]
          rfl
         exact norm_ (by simp only [putAll, Act.put, List.setIfInBounds_toArray, List.set_cons_zero, List.set_cons_succ]) (hCont (qF) _ ⟨hHeld, (by (with_reducible repeat (first | apply Kd.R_alloc | apply Kd.R_drewN | apply Kd.R_drew)); exact Kd.R_mono qB.out (fun _ hk => hk.2)), (lK qC), (lK qA), (lK qK), qZ.out, qd.out, qL.out, qY.out, qP.out, qb.out, qH.out, qc.out, (by repeat (first | (with_reducible first | exact HI0.out | apply IsS70.alloc | apply IsS70.drewN | apply IsS70.drew | apply IsS70.set_1 | apply IsS70.set_2 | refine IsS70.far ?_ qD.out _ | refine IsS70.far ?_ qE.out _ | refine IsS70.far ?_ qL.out _) | exact HI0.out)), (by have := GEc.mk qM.out; have := GEc.mk qQ.out; have := GEc.mk qZ.out; exact kS HK), (by have := GEc.mk (IsS70.ge HI0.out); have := GEc.mk qR.out; have := GEc.mk qU.out; have := GEc.mk qd.out; exact lS HB)⟩)
       ·skip
        refine box_step ?hg (N := 6) ?hd (cs := #[.int .i64 0, .int .i64 0, .int .i64 0, .int .i64 0, .int .i64 0]) (t := 63) ?hr ?_; (case hd => rfl); (case hg => rfl); (case hr => first | (go_simp; done) | (go_simp; rfl))
        intro qF hg w24 hbox hb
        have n0_ := aM (Kd.R_below (Kd.R_elderB (lR qB) qF (Nat.le_of_eq hg.symm)) hb)
        have n1_ := aM (blk_below (g := qI) (lK qC) hb)
        have n2_ := aM (blk_below (g := qG) (lK qA) hb)
        have n3_ := aM (IsS70.below (by repeat (first | (with_reducible first | exact HI0.out | apply IsS70.alloc | apply IsS70.drewN | apply IsS70.drew | apply IsS70.set_1 | apply IsS70.set_2 | refine IsS70.far ?_ qD.out _ | refine IsS70.far ?_ qE.out _) | exact HI0.out)) hb)
        have n4_ := aM (KeepBut.trans (by have := GEc.mk qM.out; have := GEc.mk qQ.out; exact kS HK) (KeepBut.of_below hb g none) (.inl rfl))
        have n5_ := aM (below_step (by have := GEc.mk (IsS70.ge HI0.out); have := GEc.mk qR.out; have := GEc.mk qU.out; exact lS HB) hb)
        have n6_ := aM (hbox)
        have n7_ := aM ((by rw [hg]; exact (keep_size (w := w) (g := g) (row := none) (by have := GEc.mk qM.out; have := GEc.mk qQ.out; exact kS HK)) : w.heap.size ≤ qF))
        have n8_ := aM ((Nat.le_trans HW0.out (by rw [hg]; exact (keep_size (w := w) (g := g) (row := none) (by have := GEc.mk qM.out; have := GEc.mk qQ.out; exact kS HK)) : w.heap.size ≤ qF) : w0.heap.size ≤ qF))
        have n9_ := aM ((by rw [hg]; exact Nat.ne_of_lt (blk_lt (g := qI) (lK qC)) : qI ≠ qF))
        have n10_ := aM ((by rw [hg]; exact Nat.ne_of_gt (blk_lt (g := qI) (lK qC)) : qF ≠ qI))
        have n11_ := aM ((by rw [hg]; exact Nat.ne_of_lt (blk_lt (g := qG) (lK qA)) : qG ≠ qF))
        have n12_ := aM ((by rw [hg]; exact Nat.ne_of_gt (blk_lt (g := qG) (lK qA)) : qF ≠ qG))
        have n13_ := aM ((by rw [hg]; exact Nat.ne_of_lt (IsS70.lt (show IsS70 w0 _ g s0_0 q5 q6 from by repeat (first | (with_reducible first | exact HI0.out | apply IsS70.alloc | apply IsS70.drewN | apply IsS70.drew | apply IsS70.set_1 | apply IsS70.set_2 | refine IsS70.far ?_ qD.out _ | refine IsS70.far ?_ qE.out _) | exact HI0.out))) : g ≠ qF))
        have n14_ := aM ((by rw [hg]; exact Nat.ne_of_gt (IsS70.lt (show IsS70 w0 _ g s0_0 q5 q6 from by repeat (first | (with_reducible first | exact HI0.out | apply IsS70.alloc | apply IsS70.drewN | apply IsS70.drew | apply IsS70.set_1 | apply IsS70.set_2 | refine IsS70.far ?_ qD.out _ | refine IsS70.far ?_ qE.out _) | exact HI0.out))) : qF ≠ g))
        clear qB
        clear qC
        clear qA
        clear HI0
        clear HK
        clear HB
        have qB := n0_
        have qC := n1_
        have qA := n2_
        have HI0 := n3_
        have HK := n4_
        have HB := n5_
        have qK := n6_
        have qZ := n7_
        have qd := n8_
        have qP := n9_
        have qb := n10_
        have qH := n11_
        have qc := n12_
        have qL := n13_
        have qY := n14_
        clear n0_ n1_ n2_ n3_ n4_ n5_ n6_ n7_ n8_ n9_ n10_ n11_ n12_ n13_ n14_
        clear hb hbox hg
        refine hK.out _ _ ⟨(blk_cell qA.out 0).trans rfl, (blk_cell qA.out 1).trans rfl, (blk_cell qA.out 2).trans rfl, (blk_cell qA.out 3).trans rfl⟩ (fun hHeld => ?_)
        clear hK K
        refine norm_ (a' := ?_) ?_ ?_
        rotate_left
        ·show Act.put _ (some 6) _ = _
         simp only [Act.put, List.setIfInBounds_toArray, List.set_cons_zero, List.set_cons_succ, i64_w, i32_w]
         rfl
        refine one_ (i := 6) (N := some 32) #[true, true, true, true, true, true, true, true, true, true, true, false, false, true, false] rfl rfl (one_of HT_.out (by kernel_rfl)) (by decide) (fun K hK => ?_)
        refine goes_ Try.func33 (by kernel_rfl) rfl #[.pointer (some ⟨g, 0, none⟩), .int .i64 0, .int .i64 (wrap64 (qO - 1))] (by rfl) rfl rfl (by (try simp only [List.map_toArray, List.map_cons, List.map_nil]); first | done | rfl | (simp only [List.length_drop, List.length_take]; rfl)) ?_
        with_reducible refine (code_reader_within.calls g s0_0 q5 q6 0 (wrap64 (qO - 1)) qa qv qw w0 _ ?side1 ?side2 A19.out).mono ?_
        (case side1 => repeat (first | (with_reducible first | exact HI0.out | apply IsS70.alloc | apply IsS70.drewN | apply IsS70.drew | apply IsS70.set_1 | apply IsS70.set_2 | refine IsS70.far ?_ qD.out _ | refine IsS70.far ?_ qE.out _ | refine IsS70.far ?_ qL.out _) | exact HI0.out))
        (case side2 => exact (by have := GEc.mk (IsS70.ge HI0.out); have := GEc.mk qR.out; have := GEc.mk qU.out; have := GEc.mk qd.out; exact lS HB))
        rintro e w25 ⟨rfl, hi, hb, hk⟩
        refine ⟨_, rfl, ?_⟩
        have n0_ := aM (Kd.R_mono (Kd.R_keep (IsS70.apart (show IsS70 w0 _ g s0_0 q5 q6 from by repeat (first | (with_reducible first | exact HI0.out | apply IsS70.alloc | apply IsS70.drewN | apply IsS70.drew | apply IsS70.set_1 | apply IsS70.set_2 | refine IsS70.far ?_ qD.out _ | refine IsS70.far ?_ qE.out _ | refine IsS70.far ?_ qL.out _) | exact HI0.out)) (lR qB) (by decide)) hk (fun _ h => h.2)) (fun _ h => h.1))
        have n1_ := aM (KeepBut.blk hk (g' := qI) (lK qC) qW.out (by simp))
        have n2_ := aM (KeepBut.blk hk (g' := qG) (lK qA) qT.out (by simp))
        have n3_ := aM (KeepBut.blk hk (g' := qF) (lK qK) qY.out (by simp))
        have n4_ := aM (KeepBut.trans (by have := GEc.mk qM.out; have := GEc.mk qQ.out; have := GEc.mk qZ.out; exact kS HK) hk (.inl rfl))
        have n5_ := aM (hb)
        have n6_ := aM (hi)
        clear qB
        clear qC
        clear qA
        clear qK
        clear HK
        clear HB
        clear HI0
        have qB := n0_
        have qC := n1_
        have qA := n2_
        have qK := n3_
        have HK := n4_
        have HB := n5_
        have HI0 := n6_
        clear n0_ n1_ n2_ n3_ n4_ n5_ n6_
        (try clear hb)
        (try clear hb2)
        (try clear hk)
        (try clear hi)
        refine hK.out _ _ ⟨(blk_cell qA.out 0).trans rfl, (blk_cell qA.out 1).trans rfl, (blk_cell qA.out 2).trans rfl, (blk_cell qA.out 3).trans rfl⟩ (fun hHeld => ?_)
        clear hK K
        refine norm_ (a' := ?_) ?_ ?_
        rotate_left
        ·show Act.put _ (some 32) _ = _
         simp only [Act.put, List.setIfInBounds_toArray, List.set_cons_zero, List.set_cons_succ, i64_w, i32_w]
         rfl
        refine one_ (i := 11) (N := some 37) #[true, true, true, true, true, true, true, true, true, true, true, true, false, true, false] rfl rfl (one_of HT_.out (by kernel_rfl)) (by decide) (fun K hK => ?_)
        refine goes_ Try.func33 (by kernel_rfl) rfl #[.pointer (some ⟨g, 0, none⟩), .int .i64 0, .int .i64 (wrap64 (qO - 1))] (by rfl) rfl rfl (by (try simp only [List.map_toArray, List.map_cons, List.map_nil]); first | done | rfl | (simp only [List.length_drop, List.length_take]; rfl)) ?_
        with_reducible refine (code_reader_within.calls g s0_0 qv qw 0 (wrap64 (qO - 1)) qe qp qq w0 _ ?side1 ?side2 A20.out).mono ?_
        (case side1 => repeat (first | (with_reducible first | exact HI0.out | apply IsS70.alloc | apply IsS70.drewN | apply IsS70.drew | apply IsS70.set_1 | apply IsS70.set_2 | refine IsS70.far ?_ qD.out _ | refine IsS70.far ?_ qE.out _ | refine IsS70.far ?_ qL.out _) | exact HI0.out))
        (case side2 => exact (by have := GEc.mk (IsS70.ge HI0.out); have := GEc.mk qR.out; have := GEc.mk qU.out; have := GEc.mk qd.out; exact lS HB))
        rintro e w26 ⟨rfl, hi, hb, hk⟩
        refine ⟨_, rfl, ?_⟩
        have n0_ := aM (Kd.R_mono (Kd.R_keep (IsS70.apart (show IsS70 w0 _ g s0_0 qv qw from by repeat (first | (with_reducible first | exact HI0.out | apply IsS70.alloc | apply IsS70.drewN | apply IsS70.drew | apply IsS70.set_1 | apply IsS70.set_2 | refine IsS70.far ?_ qD.out _ | refine IsS70.far ?_ qE.out _ | refine IsS70.far ?_ qL.out _) | exact HI0.out)) (lR qB) (by decide)) hk (fun _ h => h.2)) (fun _ h => h.1))
        have n1_ := aM (KeepBut.blk hk (g' := qI) (lK qC) qW.out (by simp))
        have n2_ := aM (KeepBut.blk hk (g' := qG) (lK qA) qT.out (by simp))
        have n3_ := aM (KeepBut.blk hk (g' := qF) (lK qK) qY.out (by simp))
        have n4_ := aM (KeepBut.trans (by have := GEc.mk qM.out; have := GEc.mk qQ.out; have := GEc.mk qZ.out; exact kS HK) hk (.inl rfl))
        have n5_ := aM (hb)
        have n6_ := aM (hi)
        clear qB
        clear qC
        clear qA
        clear qK
        clear HK
        clear HB
        clear HI0
        have qB := n0_
        have qC := n1_
        have qA := n2_
        have qK := n3_
        have HK := n4_
        have HB := n5_
        have HI0 := n6_
        clear n0_ n1_ n2_ n3_ n4_ n5_ n6_
        (try clear hb)
        (try clear hb2)
        (try clear hk)
        (try clear hi)
        refine hK.out _ _ ⟨(blk_cell qA.out 0).trans rfl, (blk_cell qA.out 1).trans rfl, (blk_cell qA.out 2).trans rfl, (blk_cell qA.out 3).trans rfl⟩ (fun hHeld => ?_)
        clear hK K
        refine norm_ (a' := ?_) ?_ ?_
        rotate_left
        ·show Act.put _ (some 37) _ = _
         simp only [Act.put, List.setIfInBounds_toArray, List.set_cons_zero, List.set_cons_succ, i64_w, i32_w]
         rfl
        refine pure_ (i := 12) (N := some 38) (v := ?_) (a' := ?_) #[true, true, true, true, true, true, true, true, true, true, true, true, true, true, false] rfl rfl (any_of HT_.out (by kernel_rfl)) (fun _ _ _ h => h) (Or.inl ⟨by rfl, ?_⟩) ?_ ?_
        rotate_left
        ·intro w'
         go_simp
         with_reducible rfl
        rotate_left
        ·simp only [Act.put, List.setIfInBounds_toArray, List.set_cons_zero, List.set_cons_succ, i64_w, i32_w]
         rfl
        exact norm_ (by simp only [putAll, Act.put, List.setIfInBounds_toArray, List.set_cons_zero, List.set_cons_succ]) (hCont (qF) _ ⟨hHeld, (by (with_reducible repeat (first | apply Kd.R_alloc | apply Kd.R_drewN | apply Kd.R_drew)); exact Kd.R_mono qB.out (fun _ hk => hk.2)), (lK qC), (lK qA), (lK qK), qZ.out, qd.out, qL.out, qY.out, qP.out, qb.out, qH.out, qc.out, (by repeat (first | (with_reducible first | exact HI0.out | apply IsS70.alloc | apply IsS70.drewN | apply IsS70.drew | apply IsS70.set_1 | apply IsS70.set_2 | refine IsS70.far ?_ qD.out _ | refine IsS70.far ?_ qE.out _ | refine IsS70.far ?_ qL.out _) | exact HI0.out)), (by have := GEc.mk qM.out; have := GEc.mk qQ.out; have := GEc.mk qZ.out; exact kS HK), (by have := GEc.mk (IsS70.ge HI0.out); have := GEc.mk qR.out; have := GEc.mk qU.out; have := GEc.mk qd.out; exact lS HB)⟩)
      ·skip
       refine box_step ?hg (N := 6) ?hd (cs := #[.int .i64 0, .int .i64 0, .int .i64 0, .int .i64 0, .int .i64 0]) (t := 63) ?hr ?_; (case hd => rfl); (case hg => rfl); (case hr => first | (go_simp; done) | (go_simp; rfl))
       intro qF hg w23 hbox hb
       have n0_ := aM (Kd.R_below (Kd.R_elderB (lR qB) qF (Nat.le_of_eq hg.symm)) hb)
       have n1_ := aM (blk_below (g := qI) (lK qC) hb)
       have n2_ := aM (blk_below (g := qG) (lK qA) hb)
       have n3_ := aM (IsS70.below (by repeat (first | (with_reducible first | exact HI0.out | apply IsS70.alloc | apply IsS70.drewN | apply IsS70.drew | apply IsS70.set_1 | apply IsS70.set_2 | refine IsS70.far ?_ qD.out _ | refine IsS70.far ?_ qE.out _) | exact HI0.out)) hb)
       have n4_ := aM (KeepBut.trans (by have := GEc.mk qM.out; have := GEc.mk qQ.out; exact kS HK) (KeepBut.of_below hb g none) (.inl rfl))
       have n5_ := aM (below_step (by have := GEc.mk (IsS70.ge HI0.out); have := GEc.mk qR.out; have := GEc.mk qU.out; exact lS HB) hb)
       have n6_ := aM (hbox)
       have n7_ := aM ((by rw [hg]; exact (keep_size (w := w) (g := g) (row := none) (by have := GEc.mk qM.out; have := GEc.mk qQ.out; exact kS HK)) : w.heap.size ≤ qF))
       have n8_ := aM ((Nat.le_trans HW0.out (by rw [hg]; exact (keep_size (w := w) (g := g) (row := none) (by have := GEc.mk qM.out; have := GEc.mk qQ.out; exact kS HK)) : w.heap.size ≤ qF) : w0.heap.size ≤ qF))
       have n9_ := aM ((by rw [hg]; exact Nat.ne_of_lt (blk_lt (g := qI) (lK qC)) : qI ≠ qF))
       have n10_ := aM ((by rw [hg]; exact Nat.ne_of_gt (blk_lt (g := qI) (lK qC)) : qF ≠ qI))
       have n11_ := aM ((by rw [hg]; exact Nat.ne_of_lt (blk_lt (g := qG) (lK qA)) : qG ≠ qF))
       have n12_ := aM ((by rw [hg]; exact Nat.ne_of_gt (blk_lt (g := qG) (lK qA)) : qF ≠ qG))
       have n13_ := aM ((by rw [hg]; exact Nat.ne_of_lt (IsS70.lt (show IsS70 w0 _ g s0_0 qs qt from by repeat (first | (with_reducible first | exact HI0.out | apply IsS70.alloc | apply IsS70.drewN | apply IsS70.drew | apply IsS70.set_1 | apply IsS70.set_2 | refine IsS70.far ?_ qD.out _ | refine IsS70.far ?_ qE.out _) | exact HI0.out))) : g ≠ qF))
       have n14_ := aM ((by rw [hg]; exact Nat.ne_of_gt (IsS70.lt (show IsS70 w0 _ g s0_0 qs qt from by repeat (first | (with_reducible first | exact HI0.out | apply IsS70.alloc | apply IsS70.drewN | apply IsS70.drew | apply IsS70.set_1 | apply IsS70.set_2 | refine IsS70.far ?_ qD.out _ | refine IsS70.far ?_ qE.out _) | exact HI0.out))) : qF ≠ g))
       clear qB
       clear qC
       clear qA
       clear HI0
       clear HK
       clear HB
       have qB := n0_
       have qC := n1_
       have qA := n2_
       have HI0 := n3_
       have HK := n4_
       have HB := n5_
       have qK := n6_
       have qZ := n7_
       have qd := n8_
       have qP := n9_
       have qb := n10_
       have qH := n11_
       have qc := n12_
       have qL := n13_
       have qY := n14_
       clear n0_ n1_ n2_ n3_ n4_ n5_ n6_ n7_ n8_ n9_ n10_ n11_ n12_ n13_ n14_
       clear hb hbox hg
       refine hK.out _ _ ⟨(blk_cell qA.out 0).trans rfl, (blk_cell qA.out 1).trans rfl, (blk_cell qA.out 2).trans rfl, (blk_cell qA.out 3).trans rfl⟩ (fun hHeld => ?_)
       clear hK K
       refine norm_ (a' := ?_) ?_ ?_
       rotate_left
       ·show Act.put _ (some 6) _ = _
        simp only [Act.put, List.setIfInBounds_toArray, List.set_cons_zero, List.set_cons_succ, i64_w, i32_w]
        rfl
       refine one_ (i := 1) (N := some 27) #[true, true, true, true, true, true, false, true, true, true, true, false, false, true, false] rfl rfl (one_of HT_.out (by kernel_rfl)) (by decide) (fun K hK => ?_)
       refine goes_ Try.func33 (by kernel_rfl) rfl #[.pointer (some ⟨g, 0, none⟩), .int .i64 1, .int .i64 8] (by rfl) rfl rfl (by (try simp only [List.map_toArray, List.map_cons, List.map_nil]); first | done | rfl | (simp only [List.length_drop, List.length_take]; rfl)) ?_
       with_reducible refine (code_reader_within.calls g s0_0 qs qt 1 8 qS q5 q6 w0 _ ?side1 ?side2 A18.out).mono ?_
       (case side1 => repeat (first | (with_reducible first | exact HI0.out | apply IsS70.alloc | apply IsS70.drewN | apply IsS70.drew | apply IsS70.set_1 | apply IsS70.set_2 | refine IsS70.far ?_ qD.out _ | refine IsS70.far ?_ qE.out _ | refine IsS70.far ?_ qL.out _) | exact HI0.out))
       (case side2 => exact (by have := GEc.mk (IsS70.ge HI0.out); have := GEc.mk qR.out; have := GEc.mk qU.out; have := GEc.mk qd.out; exact lS HB))
       rintro e w24 ⟨rfl, hi, hb, hk⟩
       refine ⟨_, rfl, ?_⟩
       have n0_ := aM (Kd.R_mono (Kd.R_keep (IsS70.apart (show IsS70 w0 _ g s0_0 qs qt from by repeat (first | (with_reducible first | exact HI0.out | apply IsS70.alloc | apply IsS70.drewN | apply IsS70.drew | apply IsS70.set_1 | apply IsS70.set_2 | refine IsS70.far ?_ qD.out _ | refine IsS70.far ?_ qE.out _ | refine IsS70.far ?_ qL.out _) | exact HI0.out)) (lR qB) (by decide)) hk (fun _ h => h.2)) (fun _ h => h.1))
       have n1_ := aM (KeepBut.blk hk (g' := qI) (lK qC) qW.out (by simp))
       have n2_ := aM (KeepBut.blk hk (g' := qG) (lK qA) qT.out (by simp))
       have n3_ := aM (KeepBut.blk hk (g' := qF) (lK qK) qY.out (by simp))
       have n4_ := aM (KeepBut.trans (by have := GEc.mk qM.out; have := GEc.mk qQ.out; have := GEc.mk qZ.out; exact kS HK) hk (.inl rfl))
       have n5_ := aM (hb)
       have n6_ := aM (hi)
       clear qB
       clear qC
       clear qA
       clear qK
       clear HK
       clear HB
       clear HI0
       have qB := n0_
       have qC := n1_
       have qA := n2_
       have qK := n3_
       have HK := n4_
       have HB := n5_
       have HI0 := n6_
       clear n0_ n1_ n2_ n3_ n4_ n5_ n6_
       (try clear hb)
       (try clear hb2)
       (try clear hk)
       (try clear hi)
       refine hK.out _ _ ⟨(blk_cell qA.out 0).trans rfl, (blk_cell qA.out 1).trans rfl, (blk_cell qA.out 2).trans rfl, (blk_cell qA.out 3).trans rfl⟩ (fun hHeld => ?_)
       clear hK K
       refine norm_ (a' := ?_) ?_ ?_
       rotate_left
       ·show Act.put _ (some 27) _ = _
        simp only [Act.put, List.setIfInBounds_toArray, List.set_cons_zero, List.set_cons_succ, i64_w, i32_w]
        rfl
       refine one_ (i := 6) (N := some 32) #[true, true, true, true, true, true, true, true, true, true, true, false, false, true, false] rfl rfl (one_of HT_.out (by kernel_rfl)) (by decide) (fun K hK => ?_)
       refine goes_ Try.func33 (by kernel_rfl) rfl #[.pointer (some ⟨g, 0, none⟩), .int .i64 0, .int .i64 (wrap64 (qO - 1))] (by rfl) rfl rfl (by (try simp only [List.map_toArray, List.map_cons, List.map_nil]); first | done | rfl | (simp only [List.length_drop, List.length_take]; rfl)) ?_
       with_reducible refine (code_reader_within.calls g s0_0 q5 q6 0 (wrap64 (qO - 1)) qa qv qw w0 _ ?side1 ?side2 A19.out).mono ?_
       (case side1 => repeat (first | (with_reducible first | exact HI0.out | apply IsS70.alloc | apply IsS70.drewN | apply IsS70.drew | apply IsS70.set_1 | apply IsS70.set_2 | refine IsS70.far ?_ qD.out _ | refine IsS70.far ?_ qE.out _ | refine IsS70.far ?_ qL.out _) | exact HI0.out))
       (case side2 => exact (by have := GEc.mk (IsS70.ge HI0.out); have := GEc.mk qR.out; have := GEc.mk qU.out; have := GEc.mk qd.out; exact lS HB))
       rintro e w25 ⟨rfl, hi, hb, hk⟩
       refine ⟨_, rfl, ?_⟩
       have n0_ := aM (Kd.R_mono (Kd.R_keep (IsS70.apart (show IsS70 w0 _ g s0_0 q5 q6 from by repeat (first | (with_reducible first | exact HI0.out | apply IsS70.alloc | apply IsS70.drewN | apply IsS70.drew | apply IsS70.set_1 | apply IsS70.set_2 | refine IsS70.far ?_ qD.out _ | refine IsS70.far ?_ qE.out _ | refine IsS70.far ?_ qL.out _) | exact HI0.out)) (lR qB) (by decide)) hk (fun _ h => h.2)) (fun _ h => h.1))
       have n1_ := aM (KeepBut.blk hk (g' := qI) (lK qC) qW.out (by simp))
       have n2_ := aM (KeepBut.blk hk (g' := qG) (lK qA) qT.out (by simp))
       have n3_ := aM (KeepBut.blk hk (g' := qF) (lK qK) qY.out (by simp))
       have n4_ := aM (KeepBut.trans (by have := GEc.mk qM.out; have := GEc.mk qQ.out; have := GEc.mk qZ.out; exact kS HK) hk (.inl rfl))
       have n5_ := aM (hb)
       have n6_ := aM (hi)
       clear qB
       clear qC
       clear qA
       clear qK
       clear HK
       clear HB
       clear HI0
       have qB := n0_
       have qC := n1_
       have qA := n2_
       have qK := n3_
       have HK := n4_
       have HB := n5_
       have HI0 := n6_
       clear n0_ n1_ n2_ n3_ n4_ n5_ n6_
       (try clear hb)
       (try clear hb2)
       (try clear hk)
       (try clear hi)
       refine hK.out _ _ ⟨(blk_cell qA.out 0).trans rfl, (blk_cell qA.out 1).trans rfl, (blk_cell qA.out 2).trans rfl, (blk_cell qA.out 3).trans rfl⟩ (fun hHeld => ?_)
       clear hK K
       refine norm_ (a' := ?_) ?_ ?_
       rotate_left
       ·show Act.put _ (some 32) _ = _
        simp only [Act.put, List.setIfInBounds_toArray, List.set_cons_zero, List.set_cons_succ, i64_w, i32_w]
        rfl
       refine one_ (i := 11) (N := some 37) #[true, true, true, true, true, true, true, true, true, true, true, true, false, true, false] rfl rfl (one_of HT_.out (by kernel_rfl)) (by decide) (fun K hK => ?_)
       refine goes_ Try.func33 (by kernel_rfl) rfl #[.pointer (some ⟨g, 0, none⟩), .int .i64 0, .int .i64 (wrap64 (qO - 1))] (by rfl) rfl rfl (by (try simp only [List.map_toArray, List.map_cons, List.map_nil]); first | done | rfl | (simp only [List.length_drop, List.length_take]; rfl)) ?_
       with_reducible refine (code_reader_within.calls g s0_0 qv qw 0 (wrap64 (qO - 1)) qe qp qq w0 _ ?side1 ?side2 A20.out).mono ?_
       (case side1 => repeat (first | (with_reducible first | exact HI0.out | apply IsS70.alloc | apply IsS70.drewN | apply IsS70.drew | apply IsS70.set_1 | apply IsS70.set_2 | refine IsS70.far ?_ qD.out _ | refine IsS70.far ?_ qE.out _ | refine IsS70.far ?_ qL.out _) | exact HI0.out))
       (case side2 => exact (by have := GEc.mk (IsS70.ge HI0.out); have := GEc.mk qR.out; have := GEc.mk qU.out; have := GEc.mk qd.out; exact lS HB))
       rintro e w26 ⟨rfl, hi, hb, hk⟩
       refine ⟨_, rfl, ?_⟩
       have n0_ := aM (Kd.R_mono (Kd.R_keep (IsS70.apart (show IsS70 w0 _ g s0_0 qv qw from by repeat (first | (with_reducible first | exact HI0.out | apply IsS70.alloc | apply IsS70.drewN | apply IsS70.drew | apply IsS70.set_1 | apply IsS70.set_2 | refine IsS70.far ?_ qD.out _ | refine IsS70.far ?_ qE.out _ | refine IsS70.far ?_ qL.out _) | exact HI0.out)) (lR qB) (by decide)) hk (fun _ h => h.2)) (fun _ h => h.1))
       have n1_ := aM (KeepBut.blk hk (g' := qI) (lK qC) qW.out (by simp))
       have n2_ := aM (KeepBut.blk hk (g' := qG) (lK qA) qT.out (by simp))
       have n3_ := aM (KeepBut.blk hk (g' := qF) (lK qK) qY.out (by simp))
       have n4_ := aM (KeepBut.trans (by have := GEc.mk qM.out; have := GEc.mk qQ.out; have := GEc.mk qZ.out; exact kS HK) hk (.inl rfl))
       have n5_ := aM (hb)
       have n6_ := aM (hi)
       clear qB
       clear qC
       clear qA
       clear qK
       clear HK
       clear HB
       clear HI0
       have qB := n0_
       have qC := n1_
       have qA := n2_
       have qK := n3_
       have HK := n4_
       have HB := n5_
       have HI0 := n6_
       clear n0_ n1_ n2_ n3_ n4_ n5_ n6_
       (try clear hb)
       (try clear hb2)
       (try clear hk)
       (try clear hi)
       refine hK.out _ _ ⟨(blk_cell qA.out 0).trans rfl, (blk_cell qA.out 1).trans rfl, (blk_cell qA.out 2).trans rfl, (blk_cell qA.out 3).trans rfl⟩ (fun hHeld => ?_)
       clear hK K
       refine norm_ (a' := ?_) ?_ ?_
       rotate_left
       ·show Act.put _ (some 37) _ = _
        simp only [Act.put, List.setIfInBounds_toArray, List.set_cons_zero, List.set_cons_succ, i64_w, i32_w]
        rfl
       refine pure_ (i := 12) (N := some 38) (v := ?_) (a' := ?_) #[true, true, true, true, true, true, true, true, true, true, true, true, true, true, false] rfl rfl (any_of HT_.out (by kernel_rfl)) (fun _ _ _ h => h) (Or.inl ⟨by rfl, ?_⟩) ?_ ?_
       rotate_left
       ·intro w'
        go_simp
        with_reducible rfl
       rotate_left
       ·simp only [Act.put, List.setIfInBounds_toArray, List.set_cons_zero, List.set_cons_succ, i64_w, i32_w]
        rfl
       exact norm_ (by simp only [putAll, Act.put, List.setIfInBounds_toArray, List.set_cons_zero, List.set_cons_succ]) (hCont (qF) _ ⟨hHeld, (by (with_reducible repeat (first | apply Kd.R_alloc | apply Kd.R_drewN | apply Kd.R_drew)); exact Kd.R_mono qB.out (fun _ hk => hk.2)), (lK qC), (lK qA), (lK qK), qZ.out, qd.out, qL.out, qY.out, qP.out, qb.out, qH.out, qc.out, (by repeat (first | (with_reducible first | exact HI0.out | apply IsS70.alloc | apply IsS70.drewN | apply IsS70.drew | apply IsS70.set_1 | apply IsS70.set_2 | refine IsS70.far ?_ qD.out _ | refine IsS70.far ?_ qE.out _ | refine IsS70.far ?_ qL.out _) | exact HI0.out)), (by have := GEc.mk qM.out; have := GEc.mk qQ.out; have := GEc.mk qZ.out; exact kS HK), (by have := GEc.mk (IsS70.ge HI0.out); have := GEc.mk qR.out; have := GEc.mk qU.out; have := GEc.mk qd.out; exact lS HB)⟩)
     rintro qF w27 ⟨hS_, h0_, h1_, h2_, h3_, h4_, h5_, h6_, h7_, h8_, h9_, h10_, h11_, h12_, h13_, h14_⟩
     have n0_ : Aside0 (Kd.R k63 63 w27 w.heap.size (fun k_ => k_ ≠ qF) qX qJ) := ⟨h0_⟩
     have n1_ : Aside0 (w27.heap[qI]? = some (.cells #[.int .i64 0, .int .i64 0, .slice none 0 0, .slice none 0 0] 26 (0, 0))) := ⟨h1_⟩
     have n2_ : Aside0 (w27.heap[qG]? = some (.cells #[.int .i64 qN, .int .i64 qO, qX, .slice none 0 0] 26 (0, 0))) := ⟨h2_⟩
     have n3_ : Aside0 (w27.heap[qF]? = some (.cells #[.int .i64 0, .int .i64 0, .int .i64 0, .int .i64 0, .int .i64 0] 63 (0, 0))) := ⟨h3_⟩
     have n4_ : Aside0 (w.heap.size ≤ qF) := ⟨h4_⟩
     have n5_ : Aside0 (w0.heap.size ≤ qF) := ⟨h5_⟩
     have n6_ : Aside0 (g ≠ qF) := ⟨h6_⟩
     have n7_ : Aside0 (qF ≠ g) := ⟨h7_⟩
     have n8_ : Aside0 (qI ≠ qF) := ⟨h8_⟩
     have n9_ : Aside0 (qF ≠ qI) := ⟨h9_⟩
     have n10_ : Aside0 (qG ≠ qF) := ⟨h10_⟩
     have n11_ : Aside0 (qF ≠ qG) := ⟨h11_⟩
     have n12_ : Aside0 (IsS70 w0 w27 g s0_0 qp qq) := ⟨h12_⟩
     have n13_ : Aside0 (KeepBut w w27 g none) := ⟨h13_⟩
     have n14_ : Aside0 (Below w0.heap.size w0 w27) := ⟨h14_⟩
     clear qB
     clear qC
     clear qA
     clear HI0
     clear HK
     clear HB
     clear h0_ h1_ h2_ h3_ h4_ h5_ h6_ h7_ h8_ h9_ h10_ h11_ h12_ h13_ h14_
     have qB := n0_
     have qC := n1_
     have qA := n2_
     have qK := n3_
     have qZ := n4_
     have qd := n5_
     have qL := n6_
     have qY := n7_
     have qP := n8_
     have qb := n9_
     have qH := n10_
     have qc := n11_
     have HI0 := n12_
     have HK := n13_
     have HB := n14_
     clear n0_ n1_ n2_ n3_ n4_ n5_ n6_ n7_ n8_ n9_ n10_ n11_ n12_ n13_ n14_
     have hHeld : w27.cell? ⟨qG, 0, none⟩ = some (.int .i64 qN) ∧ w27.cell? ⟨qG, 1, none⟩ = some (.int .i64 qO) ∧ w27.cell? ⟨qG, 2, none⟩ = some (qX) ∧ w27.cell? ⟨qG, 3, none⟩ = some (.slice none 0 0) := hS_
     refine norm_ (a' := ?_) ?_ ?_
     rotate_left
     ·simp only [putAll, Act.put, List.setIfInBounds_toArray, List.set_cons_zero, List.set_cons_succ]
      rfl
     refine one_ (i := 14) (N := none) #[true, true, true, true, true, true, true, true, true, true, true, true, true, true, true] rfl rfl (one_of HT_.out (by kernel_rfl)) (by decide) (fun K hK => ?_)
     have qBW : w27.cell? ⟨qF, 0, none⟩ = some (.int .i64 0) := (blk_cell qK.out 0).trans rfl
     have qAe := blk_frozen qK.out 0
     have yD := qP.out
     have yE := qH.out
     have yF := qb.out
     have yG := qc.out
     have qBX : w27.cell? ⟨qF, 1, none⟩ = some (.int .i64 0) := (blk_cell qK.out 1).trans rfl
     have qAf := blk_frozen qK.out 1
     have yH := qP.out
     have yI := qH.out
     have yJ := qb.out
     have yK := qc.out
     have qBY : w27.cell? ⟨qF, 2, none⟩ = some (.int .i64 0) := (blk_cell qK.out 2).trans rfl
     have qAg := blk_frozen qK.out 2
     have yL := qP.out
     have yM := qH.out
     have yN := qb.out
     have yO := qc.out
     have qBZ : w27.cell? ⟨qF, 3, none⟩ = some (.int .i64 0) := (blk_cell qK.out 3).trans rfl
     have qAh := blk_frozen qK.out 3
     have yP := qP.out
     have yQ := qH.out
     have yR := qb.out
     have yS := qc.out
     have qBa : w27.cell? ⟨qF, 4, none⟩ = some (.int .i64 0) := (blk_cell qK.out 4).trans rfl
     have qAi := blk_frozen qK.out 4
     have yT := qP.out
     have yU := qH.out
     have yV := qb.out
     have yW := qc.out
     refine skip_ (w1 := ?_) (by rfl) rfl ?_ ?_
     rotate_left
     ·go_simp
      rfl
     refine hK.out _ _ ⟨((cell_far (p := ⟨qF, _, none⟩) qH.out _).trans (((cell_far (p := ⟨qF, _, none⟩) qH.out _).trans (((cell_far (p := ⟨qF, _, none⟩) qH.out _).trans (((cell_far (p := ⟨qF, _, none⟩) qH.out _).trans (((cell_far (p := ⟨qF, _, none⟩) qH.out _).trans (hHeld.1)))))))))), ((cell_far (p := ⟨qF, _, none⟩) qH.out _).trans (((cell_far (p := ⟨qF, _, none⟩) qH.out _).trans (((cell_far (p := ⟨qF, _, none⟩) qH.out _).trans (((cell_far (p := ⟨qF, _, none⟩) qH.out _).trans (((cell_far (p := ⟨qF, _, none⟩) qH.out _).trans (hHeld.2.1)))))))))), ((cell_far (p := ⟨qF, _, none⟩) qH.out _).trans (((cell_far (p := ⟨qF, _, none⟩) qH.out _).trans (((cell_far (p := ⟨qF, _, none⟩) qH.out _).trans (((cell_far (p := ⟨qF, _, none⟩) qH.out _).trans (((cell_far (p := ⟨qF, _, none⟩) qH.out _).trans (hHeld.2.2.1)))))))))), ((cell_far (p := ⟨qF, _, none⟩) qH.out _).trans (((cell_far (p := ⟨qF, _, none⟩) qH.out _).trans (((cell_far (p := ⟨qF, _, none⟩) qH.out _).trans (((cell_far (p := ⟨qF, _, none⟩) qH.out _).trans (((cell_far (p := ⟨qF, _, none⟩) qH.out _).trans (hHeld.2.2.2))))))))))⟩ (fun hHeld => ?_)
     clear hK K
     refine done_ (done_of HT_.out (by kernel_rfl)) ?_
     go_upto_region 8 with (fail)
     go_cut [46] (fun v46 wc => ∃ (kq : Nat) (jN : Bool), v46 = .bool jN ∧ Aside0 (code_reader_program.j1 kq (Go.bits .or .i64 (wrap64 (qg * 256)) ql) qh jN s0_0 qp qq qN qO qJ qS qa qe 0 0 = some (r1, r2, r3, r4, r5, r6)) ∧ Aside0 (kq ≤ k1) ∧ Aside0 (Kd.R k63 63 wc w.heap.size (fun k_ => k_ ≠ qF) qX qJ) ∧ Aside0 (wc.heap[qI]? = some (.cells #[.int .i64 0, .int .i64 0, (.slice none 0 0), (.slice none 0 0)] 26 (0, 0))) ∧ Aside0 (wc.heap[qG]? = some (.cells #[.int .i64 qN, .int .i64 qO, qX, (.slice none 0 0)] 26 (0, 0))) ∧ Aside0 (wc.heap[qF]? = some (.cells #[.int .i64 qS, .int .i64 qa, .int .i64 qe, .int .i64 0, .int .i64 0] 63 (0, 0))) ∧ Aside0 (IsS70 w0 wc g s0_0 qp qq) ∧ Aside0 (KeepBut w wc g none) ∧ Aside0 (Below w0.heap.size w0 wc))
     case first =>
      have H := ji.out
      clear ji
      by_cases c33 : qS = 3
      ·rw [if_pos c33] at H
       have c33b0 : (qS == 3) = true := beq_iff_eq.mpr c33
       have c33b1 : (qS != 3) = false := bne_eq_false_iff_eq.mpr c33
       clear c33
       (first | rw [c33b0] | (simp only [i64_w, i32_w]; rw [c33b0]) | skip)
       have H' := aM H
       clear H
       have qAj := qb.out
       have qAk := qP.out
       have qAl := qc.out
       have qAm := qH.out
       have qAn := qY.out
       have qAo := qL.out
       have yX := zc5 qK.out
       have yY := fun i_ : Nat => blk_frozen qK.out i_
       go_wp2
       repeat (go_step3; go_wp2)
       go_meet
       case rel => exact ⟨_, (true), (by first | rfl | (simp; done) | (simp [*]; done)), H', ⟨by have := HK1.out; first | omega | exact Nat.le_refl _⟩, ⟨by (with_reducible repeat (first | apply Kd.R_alloc | apply Kd.R_drewN | apply Kd.R_drew)); exact Kd.R_mono (fA (fA (fA (fA (fA (Kd.R_mono qB.out (fun k_ hk => (⟨hk, hk⟩ : _ ∧ k_ ≠ qF)))))))) (fun _ hk => hk.1)⟩, ⟨by refine lZ ?_; refine blk_far ?_ qP.out _; refine lZ ?_; refine blk_far ?_ qP.out _; refine lZ ?_; refine blk_far ?_ qP.out _; refine lZ ?_; refine blk_far ?_ qP.out _; refine lZ ?_; refine blk_far ?_ qP.out _; refine lZ ?_; exact qC.out⟩, ⟨by refine lZ ?_; refine blk_far ?_ qH.out _; refine lZ ?_; refine blk_far ?_ qH.out _; refine lZ ?_; refine blk_far ?_ qH.out _; refine lZ ?_; refine blk_far ?_ qH.out _; refine lZ ?_; refine blk_far ?_ qH.out _; refine lZ ?_; exact qA.out⟩, ⟨by refine lZ ?_; refine blk_put (cs := #[.int .i64 qS, .int .i64 qa, .int .i64 qe, .int .i64 0, .int .i64 0]) ?_ 4 _ rfl; refine lZ ?_; refine blk_put (cs := #[.int .i64 qS, .int .i64 qa, .int .i64 qe, .int .i64 0, .int .i64 0]) ?_ 3 _ rfl; refine lZ ?_; refine blk_put (cs := #[.int .i64 qS, .int .i64 qa, .int .i64 0, .int .i64 0, .int .i64 0]) ?_ 2 _ rfl; refine lZ ?_; refine blk_put (cs := #[.int .i64 qS, .int .i64 0, .int .i64 0, .int .i64 0, .int .i64 0]) ?_ 1 _ rfl; refine lZ ?_; refine blk_put (cs := #[.int .i64 0, .int .i64 0, .int .i64 0, .int .i64 0, .int .i64 0]) ?_ 0 _ rfl; refine lZ ?_; exact qK.out⟩, ⟨by repeat (first | (with_reducible first | exact HI0.out | apply IsS70.alloc | apply IsS70.drewN | apply IsS70.drew | apply IsS70.set_1 | apply IsS70.set_2 | refine IsS70.far ?_ qD.out _ | refine IsS70.far ?_ qE.out _ | refine IsS70.far ?_ qL.out _) | exact HI0.out)⟩, ⟨by repeat (first | (with_reducible first | exact HK.out | apply KeepBut.set_ | apply keep_drewN | apply keep_drew | apply keep_alloc | refine keep_far ?_ qM.out _ | refine keep_far ?_ qQ.out _ | refine keep_far ?_ qZ.out _) | exact HK.out)⟩, ⟨by repeat (first | (with_reducible first | exact HB.out | apply below_alloc | apply pw_below_drewN | apply below_drew1 | refine below_set ?_ (IsS70.ge HI0.out) | refine below_set ?_ qR.out | refine below_set ?_ qU.out | refine below_set ?_ qd.out) | exact HB.out)⟩⟩
      ·rw [if_neg c33] at H
       have c33b0 : (qS == 3) = false := beq_eq_false_iff_ne.mpr c33
       have c33b1 : (qS != 3) = true := bne_iff_ne.mpr c33
       (first | rw [c33b0] | (simp only [i64_w, i32_w]; rw [c33b0]) | skip)
       have H' := aM H
       clear H
       have qAp := qb.out
       have qAq := qP.out
       have qAr := qc.out
       have qAs := qH.out
       have qAt := qY.out
       have qAu := qL.out
       have yZ := zc5 qK.out
       have ya := fun i_ : Nat => blk_frozen qK.out i_
       go_wp2
       repeat (go_step3; go_wp2)
       go_meet
       case rel => exact ⟨_, ((qS == 4)), (by first | rfl | (simp; done) | (simp [*]; done)), H', ⟨by have := HK1.out; first | omega | exact Nat.le_refl _⟩, ⟨by (with_reducible repeat (first | apply Kd.R_alloc | apply Kd.R_drewN | apply Kd.R_drew)); exact Kd.R_mono (fA (fA (fA (fA (fA (Kd.R_mono qB.out (fun k_ hk => (⟨hk, hk⟩ : _ ∧ k_ ≠ qF)))))))) (fun _ hk => hk.1)⟩, ⟨by refine lZ ?_; refine blk_far ?_ qP.out _; refine lZ ?_; refine blk_far ?_ qP.out _; refine lZ ?_; refine blk_far ?_ qP.out _; refine lZ ?_; refine blk_far ?_ qP.out _; refine lZ ?_; refine blk_far ?_ qP.out _; refine lZ ?_; exact qC.out⟩, ⟨by refine lZ ?_; refine blk_far ?_ qH.out _; refine lZ ?_; refine blk_far ?_ qH.out _; refine lZ ?_; refine blk_far ?_ qH.out _; refine lZ ?_; refine blk_far ?_ qH.out _; refine lZ ?_; refine blk_far ?_ qH.out _; refine lZ ?_; exact qA.out⟩, ⟨by refine lZ ?_; refine blk_put (cs := #[.int .i64 qS, .int .i64 qa, .int .i64 qe, .int .i64 0, .int .i64 0]) ?_ 4 _ rfl; refine lZ ?_; refine blk_put (cs := #[.int .i64 qS, .int .i64 qa, .int .i64 qe, .int .i64 0, .int .i64 0]) ?_ 3 _ rfl; refine lZ ?_; refine blk_put (cs := #[.int .i64 qS, .int .i64 qa, .int .i64 0, .int .i64 0, .int .i64 0]) ?_ 2 _ rfl; refine lZ ?_; refine blk_put (cs := #[.int .i64 qS, .int .i64 0, .int .i64 0, .int .i64 0, .int .i64 0]) ?_ 1 _ rfl; refine lZ ?_; refine blk_put (cs := #[.int .i64 0, .int .i64 0, .int .i64 0, .int .i64 0, .int .i64 0]) ?_ 0 _ rfl; refine lZ ?_; exact qK.out⟩, ⟨by repeat (first | (with_reducible first | exact HI0.out | apply IsS70.alloc | apply IsS70.drewN | apply IsS70.drew | apply IsS70.set_1 | apply IsS70.set_2 | refine IsS70.far ?_ qD.out _ | refine IsS70.far ?_ qE.out _ | refine IsS70.far ?_ qL.out _) | exact HI0.out)⟩, ⟨by repeat (first | (with_reducible first | exact HK.out | apply KeepBut.set_ | apply keep_drewN | apply keep_drew | apply keep_alloc | refine keep_far ?_ qM.out _ | refine keep_far ?_ qQ.out _ | refine keep_far ?_ qZ.out _) | exact HK.out)⟩, ⟨by repeat (first | (with_reducible first | exact HB.out | apply below_alloc | apply pw_below_drewN | apply below_drew1 | refine below_set ?_ (IsS70.ge HI0.out) | refine below_set ?_ qR.out | refine below_set ?_ qU.out | refine below_set ?_ qd.out) | exact HB.out)⟩⟩
     case rest =>
      clear ji
      obtain ⟨kq, jN, rfl, HA, HJ20, qB, qC, qA, qK, HI0, HK, HB⟩ := hcut
      cases kq with
      | zero => exact absurd HA.out (by simp [code_reader_program.j1])
      | succ kj20 =>
       have H := HA.out
       clear HA
       simp only [code_reader_program.j1] at H
       by_cases c42 : jN = true
       ·subst c42
        have H1 : ((code_reader_within.f s0_0 qp qq 0 (wrap64 (qO - 1))).bind fun bt345 => ((code_reader_constant.f s0_0 bt345.2.1 bt345.2.2 qS).bind fun bt348 => (if bt348.2.2 = true then (code_reader_program.j2 kj20 s0_0 bt348.2.1 bt348.2.2 qN qO qJ) else (if qJ.length < 3518437208883 then (code_reader_program.l0 kj20 (Go.bits .or .i64 (wrap64 (qg * 256)) ql) (wrap64 (qh + 1)) s0_0 bt348.2.1 bt348.2.2 qN qO (qJ ++ [(⟨qS, qa, qe, bt345.1, bt348.1⟩ : S63)])) else (none))))) = some (r1, r2, r3, r4, r5, r6) := by rw [if_pos rfl] at H; exact H
        clear H
        have H := H1
        clear H1
        replace H := Option.bind_eq_some_iff.mp H
        obtain ⟨⟨qu, jJ, jK⟩, A430, H⟩ := H
        replace H : ((code_reader_constant.f s0_0 jJ jK qS).bind fun bt348 => (if bt348.2.2 = true then (code_reader_program.j2 kj20 s0_0 bt348.2.1 bt348.2.2 qN qO qJ) else (if qJ.length < 3518437208883 then (code_reader_program.l0 kj20 (Go.bits .or .i64 (wrap64 (qg * 256)) ql) (wrap64 (qh + 1)) s0_0 bt348.2.1 bt348.2.2 qN qO (qJ ++ [(⟨qS, qa, qe, qu, bt348.1⟩ : S63)])) else (none)))) = some (r1, r2, r3, r4, r5, r6) := H
        have A43 := aM A430
        clear A430
        replace H := Option.bind_eq_some_iff.mp H
        obtain ⟨⟨q7, q8, jg⟩, A440, H⟩ := H
        replace H : (if jg = true then (code_reader_program.j2 kj20 s0_0 q8 jg qN qO qJ) else (if qJ.length < 3518437208883 then (code_reader_program.l0 kj20 (Go.bits .or .i64 (wrap64 (qg * 256)) ql) (wrap64 (qh + 1)) s0_0 q8 jg qN qO (qJ ++ [(⟨qS, qa, qe, qu, q7⟩ : S63)])) else (none))) = some (r1, r2, r3, r4, r5, r6) := H
        have A44 := aM A440
        clear A440
        by_cases c45 : jg = true
        ·subst c45
         have H1 : (code_reader_program.j2 kj20 s0_0 q8 true qN qO qJ) = some (r1, r2, r3, r4, r5, r6) := by rw [if_pos rfl] at H; exact H
         clear H
         have H := H1
         clear H1
         have H' := aM H
         clear H
         have qAv := qm.out
         have qAw := qV.out
         have qAx := qH.out
         have qAy := qc.out
         have qAz := qT.out
         have qA0 := qE.out
         have yb := zc4 qA.out
         have yc := fun i_ : Nat => blk_frozen qA.out i_
         go_wp2_with (first | ((with_reducible refine gate_callee (f := 33) rfl ?_); refine goesL_ (some 51) rfl rfl Try.func33 (by kernel_rfl) rfl #[.pointer (some ⟨g, 0, none⟩), .int .i64 0, .int .i64 (wrap64 (qO - 1))] rfl (by (try simp only [List.map_toArray, List.map_cons, List.map_nil]); first | done | rfl | (simp only [List.length_drop, List.length_take]; rfl)) ?_; (with_reducible refine (code_reader_within.calls g s0_0 qp qq 0 (wrap64 (qO - 1)) qu jJ jK w0 _ ?side1 ?side2 A43.out).mono ?_); (case side1 => repeat (first | (with_reducible first | exact HI0.out | apply IsS70.alloc | apply IsS70.drewN | apply IsS70.drew | apply IsS70.set_1 | apply IsS70.set_2 | refine IsS70.far ?_ qD.out _ | refine IsS70.far ?_ qE.out _ | refine IsS70.far ?_ qL.out _) | exact HI0.out)); (case side2 => exact (by have := GEc.mk (IsS70.ge HI0.out); have := GEc.mk qR.out; have := GEc.mk qU.out; have := GEc.mk qd.out; exact lS HB)); rintro e w50 ⟨rfl, hi, hb, hk⟩; refine ⟨_, rfl, ?_⟩; replace qB := aM (Kd.R_mono (Kd.R_keep (IsS70.apart (show IsS70 w0 _ g s0_0 qp qq from by repeat (first | (with_reducible first | exact HI0.out | apply IsS70.alloc | apply IsS70.drewN | apply IsS70.drew | apply IsS70.set_1 | apply IsS70.set_2 | refine IsS70.far ?_ qD.out _ | refine IsS70.far ?_ qE.out _ | refine IsS70.far ?_ qL.out _) | exact HI0.out)) (lR qB) (by decide)) hk (fun _ h => h.2)) (fun _ h => h.1)); replace qC := aM (KeepBut.blk hk (g' := qI) (lK qC) qW.out (by simp)); replace qA := aM (KeepBut.blk hk (g' := qG) (lK qA) qT.out (by simp)); replace qK := aM (KeepBut.blk hk (g' := qF) (lK qK) qY.out (by simp)); replace HK := aM (KeepBut.trans (by have := GEc.mk qM.out; have := GEc.mk qQ.out; have := GEc.mk qZ.out; exact kS HK) hk (.inl rfl)); replace HB := aM (hb); replace HI0 := aM (hi); (try clear hb); (try clear hb2); (try clear hk); (try clear hi); have qA1 := qb.out; have qA2 := qP.out; have qA3 := qY.out; have qA4 := qL.out; have yd := zc5 qK.out; have ye := fun i_ : Nat => blk_frozen qK.out i_) | ((with_reducible refine gate_callee (f := 56) rfl ?_); refine goesL_ (some 58) rfl rfl Try.func56 (by kernel_rfl) rfl #[.pointer (some ⟨g, 0, none⟩), .int .i64 qS] rfl (by (try simp only [List.map_toArray, List.map_cons, List.map_nil]); first | done | rfl | (simp only [List.length_drop, List.length_take]; rfl)) ?_; (with_reducible refine (code_reader_constant.calls g s0_0 jJ jK qS q7 q8 true w0 _ ?side1 ?side2 A44.out).mono ?_); (case side1 => repeat (first | (with_reducible first | exact HI0.out | apply IsS70.alloc | apply IsS70.drewN | apply IsS70.drew | apply IsS70.set_1 | apply IsS70.set_2 | refine IsS70.far ?_ qD.out _ | refine IsS70.far ?_ qE.out _ | refine IsS70.far ?_ qL.out _) | exact HI0.out)); (case side2 => exact (by have := GEc.mk (IsS70.ge HI0.out); have := GEc.mk qR.out; have := GEc.mk qU.out; have := GEc.mk qd.out; exact lS HB)); rintro e w54 ⟨rfl, hi, hb, hk⟩; refine ⟨_, rfl, ?_⟩; replace qB := aM (Kd.R_mono (Kd.R_keep (IsS70.apart (show IsS70 w0 _ g s0_0 jJ jK from by repeat (first | (with_reducible first | exact HI0.out | apply IsS70.alloc | apply IsS70.drewN | apply IsS70.drew | apply IsS70.set_1 | apply IsS70.set_2 | refine IsS70.far ?_ qD.out _ | refine IsS70.far ?_ qE.out _ | refine IsS70.far ?_ qL.out _) | exact HI0.out)) (by (with_reducible repeat (first | apply Kd.R_alloc | apply Kd.R_drewN | apply Kd.R_drew)); exact (Kd.R_mono (fA (Kd.R_mono qB.out (fun k_ hk => (⟨hk, hk⟩ : _ ∧ k_ ≠ qF)))) (fun _ h_ => h_.1))) (by decide)) hk (fun _ h => h.2)) (fun _ h => h.1)); replace qC := aM (KeepBut.blk hk (g' := qI) (o := .cells #[.int .i64 0, .int .i64 0, .slice none 0 0, .slice none 0 0] 26 (0, 0)) (by refine lZ ?_; refine blk_far ?_ qP.out _; refine lZ ?_; exact qC.out) qW.out (by simp)); replace qA := aM (KeepBut.blk hk (g' := qG) (o := .cells #[.int .i64 qN, .int .i64 qO, qX, .slice none 0 0] 26 (0, 0)) (by refine lZ ?_; refine blk_far ?_ qH.out _; refine lZ ?_; exact qA.out) qT.out (by simp)); replace qK := aM (KeepBut.blk hk (g' := qF) (o := .cells #[.int .i64 qS, .int .i64 qa, .int .i64 qe, .int .i64 qu, .int .i64 0] 63 (0, 0)) (by refine lZ ?_; refine blk_put (cs := #[.int .i64 qS, .int .i64 qa, .int .i64 qe, .int .i64 0, .int .i64 0]) ?_ 3 _ rfl; refine lZ ?_; exact qK.out) qY.out (by simp)); replace HK := aM (KeepBut.trans (by have := GEc.mk qM.out; have := GEc.mk qQ.out; have := GEc.mk qZ.out; exact kS HK) hk (.inl rfl)); replace HB := aM (hb); replace HI0 := aM (hi); (try clear hb); (try clear hb2); (try clear hk); (try clear hi); have yf := zc5 qK.out; have yg := fun i_ : Nat => blk_frozen qK.out i_; obtain ⟨ASz56_0, cSz56_0, HGz56, hgz56, HSz56_0⟩ := HI0.out; have yh := cellS70_0 HGz56; have yi := cellS70_1 HGz56; have yj := cellS70_2 HGz56; have yk := blk_frozen HGz56 1; have yl := blk_frozen HGz56 2; clear HGz56 hgz56))
         go_meet
         case rel => exact ⟨_, (q8), (true), (qJ), (qX), H', ⟨by have := HK1.out; have := HJ20.out; first | omega | exact Nat.le_refl _⟩, ⟨by (with_reducible repeat (first | apply Kd.R_alloc | apply Kd.R_drewN | apply Kd.R_drew)); exact Kd.R_mono (fA (Kd.R_mono qB.out (fun k_ hk => (⟨hk, hk⟩ : _ ∧ k_ ≠ qF)))) (fun _ hk => trivial)⟩, ⟨by refine lZ ?_; refine blk_far ?_ qP.out _; refine lZ ?_; exact qC.out⟩, ⟨by refine lZ ?_; refine blk_far ?_ qH.out _; refine lZ ?_; exact qA.out⟩, ⟨by repeat (first | (with_reducible first | exact HI0.out | apply IsS70.alloc | apply IsS70.drewN | apply IsS70.drew | apply IsS70.set_1 | apply IsS70.set_2 | refine IsS70.far ?_ qD.out _ | refine IsS70.far ?_ qE.out _ | refine IsS70.far ?_ qL.out _) | exact HI0.out)⟩, ⟨by repeat (first | (with_reducible first | exact HK.out | apply KeepBut.set_ | apply keep_drewN | apply keep_drew | apply keep_alloc | refine keep_far ?_ qM.out _ | refine keep_far ?_ qQ.out _ | refine keep_far ?_ qZ.out _) | exact HK.out)⟩, ⟨by repeat (first | (with_reducible first | exact HB.out | apply below_alloc | apply pw_below_drewN | apply below_drew1 | refine below_set ?_ (IsS70.ge HI0.out) | refine below_set ?_ qR.out | refine below_set ?_ qU.out | refine below_set ?_ qd.out) | exact HB.out)⟩⟩
        ·replace c45 := Bool.eq_false_iff.mpr c45
         subst c45
         have H1 : (if qJ.length < 3518437208883 then (code_reader_program.l0 kj20 (Go.bits .or .i64 (wrap64 (qg * 256)) ql) (wrap64 (qh + 1)) s0_0 q8 false qN qO (qJ ++ [(⟨qS, qa, qe, qu, q7⟩ : S63)])) else (none)) = some (r1, r2, r3, r4, r5, r6) := by rw [if_neg (show ¬ (false = true) by decide)] at H; exact H
         clear H
         have H := H1
         clear H1
         by_cases c57 : qJ.length < 3518437208883
         ·rw [if_pos c57] at H
          have LMc57 := aM c57
          clear c57
          obtain ⟨y351, hy351⟩ : ∃ y_ : List (S63), y_ = (qJ ++ [(⟨qS, qa, qe, qu, q7⟩ : S63)]) := ⟨_, rfl⟩
          replace H : (code_reader_program.l0 kj20 (Go.bits .or .i64 (wrap64 (qg * 256)) ql) (wrap64 (qh + 1)) s0_0 q8 false qN qO y351) = some (r1, r2, r3, r4, r5, r6) := by first | (rw [hy351]; with_reducible exact H) | (have H2_ := (Option.bind_some _ _).symm.trans H; rw [hy351]; with_reducible exact H2_) | (have H2_ := (Option.bind_some _ _).symm.trans H; with_reducible exact H2_) | with_reducible exact H | (rw [hy351]; exact H) | exact H
          have Ny351 := aM hy351
          clear hy351
          have H' := aM H
          clear H
          have qA5 := qm.out
          have qA6 := qV.out
          have qA7 := qH.out
          have qA8 := qc.out
          have qA9 := qT.out
          have qBA := qE.out
          have ym := zc4 qA.out
          have yn := fun i_ : Nat => blk_frozen qA.out i_
          go_wp2_with (first | ((with_reducible refine gate_callee (f := 33) rfl ?_); refine goesL_ (some 51) rfl rfl Try.func33 (by kernel_rfl) rfl #[.pointer (some ⟨g, 0, none⟩), .int .i64 0, .int .i64 (wrap64 (qO - 1))] rfl (by (try simp only [List.map_toArray, List.map_cons, List.map_nil]); first | done | rfl | (simp only [List.length_drop, List.length_take]; rfl)) ?_; (with_reducible refine (code_reader_within.calls g s0_0 qp qq 0 (wrap64 (qO - 1)) qu jJ jK w0 _ ?side1 ?side2 A43.out).mono ?_); (case side1 => repeat (first | (with_reducible first | exact HI0.out | apply IsS70.alloc | apply IsS70.drewN | apply IsS70.drew | apply IsS70.set_1 | apply IsS70.set_2 | refine IsS70.far ?_ qD.out _ | refine IsS70.far ?_ qE.out _ | refine IsS70.far ?_ qL.out _) | exact HI0.out)); (case side2 => exact (by have := GEc.mk (IsS70.ge HI0.out); have := GEc.mk qR.out; have := GEc.mk qU.out; have := GEc.mk qd.out; exact lS HB)); rintro e w62 ⟨rfl, hi, hb, hk⟩; refine ⟨_, rfl, ?_⟩; replace qB := aM (Kd.R_mono (Kd.R_keep (IsS70.apart (show IsS70 w0 _ g s0_0 qp qq from by repeat (first | (with_reducible first | exact HI0.out | apply IsS70.alloc | apply IsS70.drewN | apply IsS70.drew | apply IsS70.set_1 | apply IsS70.set_2 | refine IsS70.far ?_ qD.out _ | refine IsS70.far ?_ qE.out _ | refine IsS70.far ?_ qL.out _) | exact HI0.out)) (lR qB) (by decide)) hk (fun _ h => h.2)) (fun _ h => h.1)); replace qC := aM (KeepBut.blk hk (g' := qI) (lK qC) qW.out (by simp)); replace qA := aM (KeepBut.blk hk (g' := qG) (lK qA) qT.out (by simp)); replace qK := aM (KeepBut.blk hk (g' := qF) (lK qK) qY.out (by simp)); replace HK := aM (KeepBut.trans (by have := GEc.mk qM.out; have := GEc.mk qQ.out; have := GEc.mk qZ.out; exact kS HK) hk (.inl rfl)); replace HB := aM (hb); replace HI0 := aM (hi); (try clear hb); (try clear hb2); (try clear hk); (try clear hi); have qBB := qb.out; have qBC := qP.out; have qBD := qY.out; have qBE := qL.out; have yo := zc5 qK.out; have yp := fun i_ : Nat => blk_frozen qK.out i_) | ((with_reducible refine gate_callee (f := 56) rfl ?_); refine goesL_ (some 58) rfl rfl Try.func56 (by kernel_rfl) rfl #[.pointer (some ⟨g, 0, none⟩), .int .i64 qS] rfl (by (try simp only [List.map_toArray, List.map_cons, List.map_nil]); first | done | rfl | (simp only [List.length_drop, List.length_take]; rfl)) ?_; (with_reducible refine (code_reader_constant.calls g s0_0 jJ jK qS q7 q8 false w0 _ ?side1 ?side2 A44.out).mono ?_); (case side1 => repeat (first | (with_reducible first | exact HI0.out | apply IsS70.alloc | apply IsS70.drewN | apply IsS70.drew | apply IsS70.set_1 | apply IsS70.set_2 | refine IsS70.far ?_ qD.out _ | refine IsS70.far ?_ qE.out _ | refine IsS70.far ?_ qL.out _) | exact HI0.out)); (case side2 => exact (by have := GEc.mk (IsS70.ge HI0.out); have := GEc.mk qR.out; have := GEc.mk qU.out; have := GEc.mk qd.out; exact lS HB)); rintro e w66 ⟨rfl, hi, hb, hk⟩; refine ⟨_, rfl, ?_⟩; replace qB := aM (Kd.R_mono (Kd.R_keep (IsS70.apart (show IsS70 w0 _ g s0_0 jJ jK from by repeat (first | (with_reducible first | exact HI0.out | apply IsS70.alloc | apply IsS70.drewN | apply IsS70.drew | apply IsS70.set_1 | apply IsS70.set_2 | refine IsS70.far ?_ qD.out _ | refine IsS70.far ?_ qE.out _ | refine IsS70.far ?_ qL.out _) | exact HI0.out)) (by (with_reducible repeat (first | apply Kd.R_alloc | apply Kd.R_drewN | apply Kd.R_drew)); exact (Kd.R_mono (fA (Kd.R_mono qB.out (fun k_ hk => (⟨hk, hk⟩ : _ ∧ k_ ≠ qF)))) (fun _ h_ => h_.1))) (by decide)) hk (fun _ h => h.2)) (fun _ h => h.1)); replace qC := aM (KeepBut.blk hk (g' := qI) (o := .cells #[.int .i64 0, .int .i64 0, .slice none 0 0, .slice none 0 0] 26 (0, 0)) (by refine lZ ?_; refine blk_far ?_ qP.out _; refine lZ ?_; exact qC.out) qW.out (by simp)); replace qA := aM (KeepBut.blk hk (g' := qG) (o := .cells #[.int .i64 qN, .int .i64 qO, qX, .slice none 0 0] 26 (0, 0)) (by refine lZ ?_; refine blk_far ?_ qH.out _; refine lZ ?_; exact qA.out) qT.out (by simp)); replace qK := aM (KeepBut.blk hk (g' := qF) (o := .cells #[.int .i64 qS, .int .i64 qa, .int .i64 qe, .int .i64 qu, .int .i64 0] 63 (0, 0)) (by refine lZ ?_; refine blk_put (cs := #[.int .i64 qS, .int .i64 qa, .int .i64 qe, .int .i64 0, .int .i64 0]) ?_ 3 _ rfl; refine lZ ?_; exact qK.out) qY.out (by simp)); replace HK := aM (KeepBut.trans (by have := GEc.mk qM.out; have := GEc.mk qQ.out; have := GEc.mk qZ.out; exact kS HK) hk (.inl rfl)); replace HB := aM (hb); replace HI0 := aM (hi); (try clear hb); (try clear hb2); (try clear hk); (try clear hi); have yq := zc5 qK.out; have yr := fun i_ : Nat => blk_frozen qK.out i_; obtain ⟨ASz68_0, cSz68_0, HGz68, hgz68, HSz68_0⟩ := HI0.out; have ys := cellS70_0 HGz68; have yt := cellS70_1 HGz68; have yu := cellS70_2 HGz68; have yv := blk_frozen HGz68 1; have yw := blk_frozen HGz68 2; clear HGz68 hgz68; have yx := zc4 qA.out; have yy := fun i_ : Nat => blk_frozen qA.out i_) | ((with_reducible refine gate_builtin (b := .append) (xs := #[.tmp 65, .tmp 67]) rfl ?_); at_builtin; refine Kd.R_append k63 w.heap.size rfl (.tmp 65) (.tmp 67) 23 63 (.agg #[(.int .i64 0), (.int .i64 0), (.int .i64 0), (.int .i64 0), (.int .i64 0)]) 40 rfl Try.underlying23 info63 rfl (by decide) (by omega) qX qJ (⟨qS, qa, qe, qu, q7⟩ : S63) [.int .i64 qS, .int .i64 qa, .int .i64 qe, .int .i64 qu, .int .i64 q7] (fun k_ => k_ ≠ qF) (fun _ => False) rfl (by first | (go_simp; done) | (go_simp; rfl)) ?aP (fun _ hk => hk.elim) ?aF ?aO (Below.refl _ _) ?aS ?aL ?_; (case aP => exact k63_mkM _ _ _ (⟨qS, qa, qe, qu, q7⟩ : S63)); (case aF => exact (fun k_ hk => Kd.freshB (g := qF) (o := .cells #[.int .i64 qS, .int .i64 qa, .int .i64 qe, .int .i64 qu, .int .i64 q7] 63 (0, 0)) (by refine lZ ?_; refine blk_put (cs := #[.int .i64 qS, .int .i64 qa, .int .i64 qe, .int .i64 qu, .int .i64 0]) ?_ 4 _ rfl; refine lZ ?_; exact qK.out) k_ hk)); (case aO => exact (by (with_reducible repeat (first | apply Kd.R_alloc | apply Kd.R_drewN | apply Kd.R_drew)); exact Kd.R_mono (fA (Kd.R_mono qB.out (fun k_ hk => (⟨hk, hk⟩ : _ ∧ k_ ≠ qF)))) (fun _ hk => hk.1))); (case aS => exact (keep_size (w := w) (g := g) (row := none) (by have := GEc.mk qM.out; have := GEc.mk qQ.out; have := GEc.mk qZ.out; exact kS HK))); (case aL => have := LMc57.out; omega); intro v352 w70 ho hb hg hat; rw [← Ny351.out] at ho; replace qC := aM (blk_grown (g := qI) (o := .cells #[.int .i64 0, .int .i64 0, .slice none 0 0, .slice none 0 0] 26 (0, 0)) (by refine lZ ?_; refine blk_far ?_ qP.out _; refine lZ ?_; exact qC.out) hg (Kd.R_ne qB.out qC.out (by decide))); replace qA := aM (blk_grown (g := qG) (o := .cells #[.int .i64 qN, .int .i64 qO, qX, .slice none 0 0] 26 (0, 0)) (by refine lZ ?_; refine blk_far ?_ qH.out _; refine lZ ?_; exact qA.out) hg (Kd.R_ne qB.out qA.out (by decide))); replace qK := aM (blk_grown (g := qF) (o := .cells #[.int .i64 qS, .int .i64 qa, .int .i64 qe, .int .i64 qu, .int .i64 q7] 63 (0, 0)) (by refine lZ ?_; refine blk_put (cs := #[.int .i64 qS, .int .i64 qa, .int .i64 qe, .int .i64 qu, .int .i64 0]) ?_ 4 _ rfl; refine lZ ?_; exact qK.out) hg (Kd.R_away qB.out (fun _ hk => hk))); replace HB := aM (below_weaken (by have := GEc.mk (IsS70.ge HI0.out); have := GEc.mk qR.out; have := GEc.mk qU.out; have := GEc.mk qd.out; exact lS HB) HL.out hb); replace HI0 := aM (IsS70.grown (show IsS70 w0 _ g s0_0 q8 false from by repeat (first | (with_reducible first | exact HI0.out | apply IsS70.alloc | apply IsS70.drewN | apply IsS70.drew | apply IsS70.set_1 | apply IsS70.set_2 | refine IsS70.far ?_ qD.out _ | refine IsS70.far ?_ qE.out _ | refine IsS70.far ?_ qL.out _) | exact HI0.out)) hg (IsS70.own_ne HI0.out qB.out (by decide))); replace HK := aM (KeepBut.trans (by have := GEc.mk qM.out; have := GEc.mk qQ.out; have := GEc.mk qZ.out; exact kS HK) (KeepBut.of_grown hg g) (Kd.R_base2 qB.out)); have jp := aM (ho); clear qB; clear ho hb hg hat; obtain ⟨j0, j3, eo71⟩ := Kd.R_slice jp.out; subst eo71; have yz := zc4 qA.out; have qAA := fun i_ : Nat => blk_frozen qA.out i_))
          go_roundg kj20
          case measure => have := HK1.out; have := HJ20.out; omega
          case rel => exact ⟨(wrap64 (qh + 1)), (q8), (false), (y351), (.slice j0 y351.length j3), (by first | rfl | (simp; done) | (simp [*]; done)), H', ⟨by have := HK1.out; have := HJ20.out; omega⟩, ⟨by (with_reducible repeat (first | apply Kd.R_alloc | apply Kd.R_drewN | apply Kd.R_drew)); exact Kd.R_mono (fA (Kd.R_types jp.out qA.out (by decide))) (fun _ hk => trivial)⟩, ⟨by refine lZ ?_; refine blk_far ?_ qV.out _; refine lZ ?_; exact qC.out⟩, ⟨by refine lZ ?_; refine blk_put (cs := #[.int .i64 qN, .int .i64 qO, qX, .slice none 0 0]) ?_ 2 _ rfl; refine lZ ?_; exact qA.out⟩, ⟨by repeat (first | (with_reducible first | exact HI0.out | apply IsS70.alloc | apply IsS70.drewN | apply IsS70.drew | apply IsS70.set_1 | apply IsS70.set_2 | refine IsS70.far ?_ qD.out _ | refine IsS70.far ?_ qE.out _ | refine IsS70.far ?_ qL.out _) | exact HI0.out)⟩, ⟨by repeat (first | (with_reducible first | exact HK.out | apply KeepBut.set_ | apply keep_drewN | apply keep_drew | apply keep_alloc | refine keep_far ?_ qM.out _ | refine keep_far ?_ qQ.out _ | refine keep_far ?_ qZ.out _) | exact HK.out)⟩, ⟨by repeat (first | (with_reducible first | exact HB.out | apply below_alloc | apply pw_below_drewN | apply below_drew1 | refine below_set ?_ (IsS70.ge HI0.out) | refine below_set ?_ qR.out | refine below_set ?_ qU.out | refine below_set ?_ qd.out) | exact HB.out)⟩⟩
         ·rw [if_neg c57] at H
          exact absurd H (by simp)
       ·replace c42 := Bool.eq_false_iff.mpr c42
        subst c42
        have H1 : ((code_reader_within.f s0_0 qp qq 0 0).bind fun bt354 => ((code_reader_constant.f s0_0 bt354.2.1 bt354.2.2 qS).bind fun bt357 => (if bt357.2.2 = true then (code_reader_program.j2 kj20 s0_0 bt357.2.1 bt357.2.2 qN qO qJ) else (if qJ.length < 3518437208883 then (code_reader_program.l0 kj20 (Go.bits .or .i64 (wrap64 (qg * 256)) ql) (wrap64 (qh + 1)) s0_0 bt357.2.1 bt357.2.2 qN qO (qJ ++ [(⟨qS, qa, qe, 0, bt357.1⟩ : S63)])) else (none))))) = some (r1, r2, r3, r4, r5, r6) := by rw [if_neg (show ¬ (false = true) by decide)] at H; exact H
        clear H
        have H := H1
        clear H1
        replace H := Option.bind_eq_some_iff.mp H
        obtain ⟨⟨jv, jL, jM⟩, A730, H⟩ := H
        replace H : ((code_reader_constant.f s0_0 jL jM qS).bind fun bt357 => (if bt357.2.2 = true then (code_reader_program.j2 kj20 s0_0 bt357.2.1 bt357.2.2 qN qO qJ) else (if qJ.length < 3518437208883 then (code_reader_program.l0 kj20 (Go.bits .or .i64 (wrap64 (qg * 256)) ql) (wrap64 (qh + 1)) s0_0 bt357.2.1 bt357.2.2 qN qO (qJ ++ [(⟨qS, qa, qe, 0, bt357.1⟩ : S63)])) else (none)))) = some (r1, r2, r3, r4, r5, r6) := H
        have A73 := aM A730
        clear A730
        replace H := Option.bind_eq_some_iff.mp H
        obtain ⟨⟨q9, jA, jh⟩, A740, H⟩ := H
        replace H : (if jh = true then (code_reader_program.j2 kj20 s0_0 jA jh qN qO qJ) else (if qJ.length < 3518437208883 then (code_reader_program.l0 kj20 (Go.bits .or .i64 (wrap64 (qg * 256)) ql) (wrap64 (qh + 1)) s0_0 jA jh qN qO (qJ ++ [(⟨qS, qa, qe, 0, q9⟩ : S63)])) else (none))) = some (r1, r2, r3, r4, r5, r6) := H
        have A74 := aM A740
        clear A740
        by_cases c75 : jh = true
        ·subst c75
         have H1 : (code_reader_program.j2 kj20 s0_0 jA true qN qO qJ) = some (r1, r2, r3, r4, r5, r6) := by rw [if_pos rfl] at H; exact H
         clear H
         have H := H1
         clear H1
         have H' := aM H
         clear H
         go_wp2_with (first | ((with_reducible refine gate_callee (f := 33) rfl ?_); refine goesL_ (some 54) rfl rfl Try.func33 (by kernel_rfl) rfl #[.pointer (some ⟨g, 0, none⟩), .int .i64 0, .int .i64 0] rfl (by (try simp only [List.map_toArray, List.map_cons, List.map_nil]); first | done | rfl | (simp only [List.length_drop, List.length_take]; rfl)) ?_; (with_reducible refine (code_reader_within.calls g s0_0 qp qq 0 0 jv jL jM w0 _ ?side1 ?side2 A73.out).mono ?_); (case side1 => repeat (first | (with_reducible first | exact HI0.out | apply IsS70.alloc | apply IsS70.drewN | apply IsS70.drew | apply IsS70.set_1 | apply IsS70.set_2 | refine IsS70.far ?_ qD.out _ | refine IsS70.far ?_ qE.out _ | refine IsS70.far ?_ qL.out _) | exact HI0.out)); (case side2 => exact (by have := GEc.mk (IsS70.ge HI0.out); have := GEc.mk qR.out; have := GEc.mk qU.out; have := GEc.mk qd.out; exact lS HB)); rintro e w76 ⟨rfl, hi, hb, hk⟩; refine ⟨_, rfl, ?_⟩; replace qB := aM (Kd.R_mono (Kd.R_keep (IsS70.apart (show IsS70 w0 _ g s0_0 qp qq from by repeat (first | (with_reducible first | exact HI0.out | apply IsS70.alloc | apply IsS70.drewN | apply IsS70.drew | apply IsS70.set_1 | apply IsS70.set_2 | refine IsS70.far ?_ qD.out _ | refine IsS70.far ?_ qE.out _ | refine IsS70.far ?_ qL.out _) | exact HI0.out)) (lR qB) (by decide)) hk (fun _ h => h.2)) (fun _ h => h.1)); replace qC := aM (KeepBut.blk hk (g' := qI) (lK qC) qW.out (by simp)); replace qA := aM (KeepBut.blk hk (g' := qG) (lK qA) qT.out (by simp)); replace qK := aM (KeepBut.blk hk (g' := qF) (lK qK) qY.out (by simp)); replace HK := aM (KeepBut.trans (by have := GEc.mk qM.out; have := GEc.mk qQ.out; have := GEc.mk qZ.out; exact kS HK) hk (.inl rfl)); replace HB := aM (hb); replace HI0 := aM (hi); (try clear hb); (try clear hb2); (try clear hk); (try clear hi); have qBF := qb.out; have qBG := qP.out; have qBH := qc.out; have qBI := qH.out; have qBJ := qY.out; have qBK := qL.out; have qAB := zc5 qK.out; have qAC := fun i_ : Nat => blk_frozen qK.out i_) | ((with_reducible refine gate_callee (f := 56) rfl ?_); refine goesL_ (some 58) rfl rfl Try.func56 (by kernel_rfl) rfl #[.pointer (some ⟨g, 0, none⟩), .int .i64 qS] rfl (by (try simp only [List.map_toArray, List.map_cons, List.map_nil]); first | done | rfl | (simp only [List.length_drop, List.length_take]; rfl)) ?_; (with_reducible refine (code_reader_constant.calls g s0_0 jL jM qS q9 jA true w0 _ ?side1 ?side2 A74.out).mono ?_); (case side1 => repeat (first | (with_reducible first | exact HI0.out | apply IsS70.alloc | apply IsS70.drewN | apply IsS70.drew | apply IsS70.set_1 | apply IsS70.set_2 | refine IsS70.far ?_ qD.out _ | refine IsS70.far ?_ qE.out _ | refine IsS70.far ?_ qL.out _) | exact HI0.out)); (case side2 => exact (by have := GEc.mk (IsS70.ge HI0.out); have := GEc.mk qR.out; have := GEc.mk qU.out; have := GEc.mk qd.out; exact lS HB)); rintro e w81 ⟨rfl, hi, hb, hk⟩; refine ⟨_, rfl, ?_⟩; replace qB := aM (Kd.R_mono (Kd.R_keep (IsS70.apart (show IsS70 w0 _ g s0_0 jL jM from by repeat (first | (with_reducible first | exact HI0.out | apply IsS70.alloc | apply IsS70.drewN | apply IsS70.drew | apply IsS70.set_1 | apply IsS70.set_2 | refine IsS70.far ?_ qD.out _ | refine IsS70.far ?_ qE.out _ | refine IsS70.far ?_ qL.out _) | exact HI0.out)) (lR qB) (by decide)) hk (fun _ h => h.2)) (fun _ h => h.1)); replace qC := aM (KeepBut.blk hk (g' := qI) (lK qC) qW.out (by simp)); replace qA := aM (KeepBut.blk hk (g' := qG) (lK qA) qT.out (by simp)); replace qK := aM (KeepBut.blk hk (g' := qF) (lK qK) qY.out (by simp)); replace HK := aM (KeepBut.trans (by have := GEc.mk qM.out; have := GEc.mk qQ.out; have := GEc.mk qZ.out; exact kS HK) hk (.inl rfl)); replace HB := aM (hb); replace HI0 := aM (hi); (try clear hb); (try clear hb2); (try clear hk); (try clear hi); have qAD := zc5 qK.out; have qAE := fun i_ : Nat => blk_frozen qK.out i_; obtain ⟨ASz83_0, cSz83_0, HGz83, hgz83, HSz83_0⟩ := HI0.out; have qAF := cellS70_0 HGz83; have qAG := cellS70_1 HGz83; have qAH := cellS70_2 HGz83; have qAI := blk_frozen HGz83 1; have qAJ := blk_frozen HGz83 2; clear HGz83 hgz83))
         go_meet
         case rel => exact ⟨_, (jA), (true), (qJ), (qX), H', ⟨by have := HK1.out; have := HJ20.out; first | omega | exact Nat.le_refl _⟩, ⟨by (with_reducible repeat (first | apply Kd.R_alloc | apply Kd.R_drewN | apply Kd.R_drew)); exact Kd.R_mono (fA (Kd.R_mono qB.out (fun k_ hk => (⟨hk, hk⟩ : _ ∧ k_ ≠ qF)))) (fun _ hk => trivial)⟩, ⟨by refine lZ ?_; refine blk_far ?_ qP.out _; refine lZ ?_; exact qC.out⟩, ⟨by refine lZ ?_; refine blk_far ?_ qH.out _; refine lZ ?_; exact qA.out⟩, ⟨by repeat (first | (with_reducible first | exact HI0.out | apply IsS70.alloc | apply IsS70.drewN | apply IsS70.drew | apply IsS70.set_1 | apply IsS70.set_2 | refine IsS70.far ?_ qD.out _ | refine IsS70.far ?_ qE.out _ | refine IsS70.far ?_ qL.out _) | exact HI0.out)⟩, ⟨by repeat (first | (with_reducible first | exact HK.out | apply KeepBut.set_ | apply keep_drewN | apply keep_drew | apply keep_alloc | refine keep_far ?_ qM.out _ | refine keep_far ?_ qQ.out _ | refine keep_far ?_ qZ.out _) | exact HK.out)⟩, ⟨by repeat (first | (with_reducible first | exact HB.out | apply below_alloc | apply pw_below_drewN | apply below_drew1 | refine below_set ?_ (IsS70.ge HI0.out) | refine below_set ?_ qR.out | refine below_set ?_ qU.out | refine below_set ?_ qd.out) | exact HB.out)⟩⟩
        ·replace c75 := Bool.eq_false_iff.mpr c75
         subst c75
         have H1 : (if qJ.length < 3518437208883 then (code_reader_program.l0 kj20 (Go.bits .or .i64 (wrap64 (qg * 256)) ql) (wrap64 (qh + 1)) s0_0 jA false qN qO (qJ ++ [(⟨qS, qa, qe, 0, q9⟩ : S63)])) else (none)) = some (r1, r2, r3, r4, r5, r6) := by rw [if_neg (show ¬ (false = true) by decide)] at H; exact H
         clear H
         have H := H1
         clear H1
         by_cases c84 : qJ.length < 3518437208883
         ·rw [if_pos c84] at H
          have LMc84 := aM c84
          clear c84
          obtain ⟨y360, hy360⟩ : ∃ y_ : List (S63), y_ = (qJ ++ [(⟨qS, qa, qe, 0, q9⟩ : S63)]) := ⟨_, rfl⟩
          replace H : (code_reader_program.l0 kj20 (Go.bits .or .i64 (wrap64 (qg * 256)) ql) (wrap64 (qh + 1)) s0_0 jA false qN qO y360) = some (r1, r2, r3, r4, r5, r6) := by first | (rw [hy360]; with_reducible exact H) | (have H2_ := (Option.bind_some _ _).symm.trans H; rw [hy360]; with_reducible exact H2_) | (have H2_ := (Option.bind_some _ _).symm.trans H; with_reducible exact H2_) | with_reducible exact H | (rw [hy360]; exact H) | exact H
          have Ny360 := aM hy360
          clear hy360
          have H' := aM H
          clear H
          go_wp2_with (first | ((with_reducible refine gate_callee (f := 33) rfl ?_); refine goesL_ (some 54) rfl rfl Try.func33 (by kernel_rfl) rfl #[.pointer (some ⟨g, 0, none⟩), .int .i64 0, .int .i64 0] rfl (by (try simp only [List.map_toArray, List.map_cons, List.map_nil]); first | done | rfl | (simp only [List.length_drop, List.length_take]; rfl)) ?_; (with_reducible refine (code_reader_within.calls g s0_0 qp qq 0 0 jv jL jM w0 _ ?side1 ?side2 A73.out).mono ?_); (case side1 => repeat (first | (with_reducible first | exact HI0.out | apply IsS70.alloc | apply IsS70.drewN | apply IsS70.drew | apply IsS70.set_1 | apply IsS70.set_2 | refine IsS70.far ?_ qD.out _ | refine IsS70.far ?_ qE.out _ | refine IsS70.far ?_ qL.out _) | exact HI0.out)); (case side2 => exact (by have := GEc.mk (IsS70.ge HI0.out); have := GEc.mk qR.out; have := GEc.mk qU.out; have := GEc.mk qd.out; exact lS HB)); rintro e w85 ⟨rfl, hi, hb, hk⟩; refine ⟨_, rfl, ?_⟩; replace qB := aM (Kd.R_mono (Kd.R_keep (IsS70.apart (show IsS70 w0 _ g s0_0 qp qq from by repeat (first | (with_reducible first | exact HI0.out | apply IsS70.alloc | apply IsS70.drewN | apply IsS70.drew | apply IsS70.set_1 | apply IsS70.set_2 | refine IsS70.far ?_ qD.out _ | refine IsS70.far ?_ qE.out _ | refine IsS70.far ?_ qL.out _) | exact HI0.out)) (lR qB) (by decide)) hk (fun _ h => h.2)) (fun _ h => h.1)); replace qC := aM (KeepBut.blk hk (g' := qI) (lK qC) qW.out (by simp)); replace qA := aM (KeepBut.blk hk (g' := qG) (lK qA) qT.out (by simp)); replace qK := aM (KeepBut.blk hk (g' := qF) (lK qK) qY.out (by simp)); replace HK := aM (KeepBut.trans (by have := GEc.mk qM.out; have := GEc.mk qQ.out; have := GEc.mk qZ.out; exact kS HK) hk (.inl rfl)); replace HB := aM (hb); replace HI0 := aM (hi); (try clear hb); (try clear hb2); (try clear hk); (try clear hi); have qBL := qb.out; have qBM := qP.out; have qBN := qc.out; have qBO := qH.out; have qBP := qY.out; have qBQ := qL.out; have qAK := zc5 qK.out; have qAL := fun i_ : Nat => blk_frozen qK.out i_) | ((with_reducible refine gate_callee (f := 56) rfl ?_); refine goesL_ (some 58) rfl rfl Try.func56 (by kernel_rfl) rfl #[.pointer (some ⟨g, 0, none⟩), .int .i64 qS] rfl (by (try simp only [List.map_toArray, List.map_cons, List.map_nil]); first | done | rfl | (simp only [List.length_drop, List.length_take]; rfl)) ?_; (with_reducible refine (code_reader_constant.calls g s0_0 jL jM qS q9 jA false w0 _ ?side1 ?side2 A74.out).mono ?_); (case side1 => repeat (first | (with_reducible first | exact HI0.out | apply IsS70.alloc | apply IsS70.drewN | apply IsS70.drew | apply IsS70.set_1 | apply IsS70.set_2 | refine IsS70.far ?_ qD.out _ | refine IsS70.far ?_ qE.out _ | refine IsS70.far ?_ qL.out _) | exact HI0.out)); (case side2 => exact (by have := GEc.mk (IsS70.ge HI0.out); have := GEc.mk qR.out; have := GEc.mk qU.out; have := GEc.mk qd.out; exact lS HB)); rintro e w90 ⟨rfl, hi, hb, hk⟩; refine ⟨_, rfl, ?_⟩; replace qB := aM (Kd.R_mono (Kd.R_keep (IsS70.apart (show IsS70 w0 _ g s0_0 jL jM from by repeat (first | (with_reducible first | exact HI0.out | apply IsS70.alloc | apply IsS70.drewN | apply IsS70.drew | apply IsS70.set_1 | apply IsS70.set_2 | refine IsS70.far ?_ qD.out _ | refine IsS70.far ?_ qE.out _ | refine IsS70.far ?_ qL.out _) | exact HI0.out)) (lR qB) (by decide)) hk (fun _ h => h.2)) (fun _ h => h.1)); replace qC := aM (KeepBut.blk hk (g' := qI) (lK qC) qW.out (by simp)); replace qA := aM (KeepBut.blk hk (g' := qG) (lK qA) qT.out (by simp)); replace qK := aM (KeepBut.blk hk (g' := qF) (lK qK) qY.out (by simp)); replace HK := aM (KeepBut.trans (by have := GEc.mk qM.out; have := GEc.mk qQ.out; have := GEc.mk qZ.out; exact kS HK) hk (.inl rfl)); replace HB := aM (hb); replace HI0 := aM (hi); (try clear hb); (try clear hb2); (try clear hk); (try clear hi); have qAM := zc5 qK.out; have qAN := fun i_ : Nat => blk_frozen qK.out i_; obtain ⟨ASz92_0, cSz92_0, HGz92, hgz92, HSz92_0⟩ := HI0.out; have qAO := cellS70_0 HGz92; have qAP := cellS70_1 HGz92; have qAQ := cellS70_2 HGz92; have qAR := blk_frozen HGz92 1; have qAS := blk_frozen HGz92 2; clear HGz92 hgz92; have qBR := qm.out; have qBS := qV.out; have qBT := qT.out; have qBU := qE.out; have qAT := zc4 qA.out; have qAU := fun i_ : Nat => blk_frozen qA.out i_) | ((with_reducible refine gate_builtin (b := .append) (xs := #[.tmp 65, .tmp 67]) rfl ?_); at_builtin; refine Kd.R_append k63 w.heap.size rfl (.tmp 65) (.tmp 67) 23 63 (.agg #[(.int .i64 0), (.int .i64 0), (.int .i64 0), (.int .i64 0), (.int .i64 0)]) 40 rfl Try.underlying23 info63 rfl (by decide) (by omega) qX qJ (⟨qS, qa, qe, 0, q9⟩ : S63) [.int .i64 qS, .int .i64 qa, .int .i64 qe, .int .i64 0, .int .i64 q9] (fun k_ => k_ ≠ qF) (fun _ => False) rfl (by first | (go_simp; done) | (go_simp; rfl)) ?aP (fun _ hk => hk.elim) ?aF ?aO (Below.refl _ _) ?aS ?aL ?_; (case aP => exact k63_mkM _ _ _ (⟨qS, qa, qe, 0, q9⟩ : S63)); (case aF => exact (fun k_ hk => Kd.freshB (g := qF) (o := .cells #[.int .i64 qS, .int .i64 qa, .int .i64 qe, .int .i64 0, .int .i64 q9] 63 (0, 0)) (by refine lZ ?_; refine blk_put (cs := #[.int .i64 qS, .int .i64 qa, .int .i64 qe, .int .i64 0, .int .i64 0]) ?_ 4 _ rfl; refine lZ ?_; exact qK.out) k_ hk)); (case aO => exact (by (with_reducible repeat (first | apply Kd.R_alloc | apply Kd.R_drewN | apply Kd.R_drew)); exact Kd.R_mono (fA (Kd.R_mono qB.out (fun k_ hk => (⟨hk, hk⟩ : _ ∧ k_ ≠ qF)))) (fun _ hk => hk.1))); (case aS => exact (keep_size (w := w) (g := g) (row := none) (by have := GEc.mk qM.out; have := GEc.mk qQ.out; have := GEc.mk qZ.out; exact kS HK))); (case aL => have := LMc84.out; omega); intro v361 w96 ho hb hg hat; rw [← Ny360.out] at ho; replace qC := aM (blk_grown (g := qI) (o := .cells #[.int .i64 0, .int .i64 0, .slice none 0 0, .slice none 0 0] 26 (0, 0)) (by refine lZ ?_; refine blk_far ?_ qP.out _; refine lZ ?_; exact qC.out) hg (Kd.R_ne qB.out qC.out (by decide))); replace qA := aM (blk_grown (g := qG) (o := .cells #[.int .i64 qN, .int .i64 qO, qX, .slice none 0 0] 26 (0, 0)) (by refine lZ ?_; refine blk_far ?_ qH.out _; refine lZ ?_; exact qA.out) hg (Kd.R_ne qB.out qA.out (by decide))); replace qK := aM (blk_grown (g := qF) (o := .cells #[.int .i64 qS, .int .i64 qa, .int .i64 qe, .int .i64 0, .int .i64 q9] 63 (0, 0)) (by refine lZ ?_; refine blk_put (cs := #[.int .i64 qS, .int .i64 qa, .int .i64 qe, .int .i64 0, .int .i64 0]) ?_ 4 _ rfl; refine lZ ?_; exact qK.out) hg (Kd.R_away qB.out (fun _ hk => hk))); replace HB := aM (below_weaken (by have := GEc.mk (IsS70.ge HI0.out); have := GEc.mk qR.out; have := GEc.mk qU.out; have := GEc.mk qd.out; exact lS HB) HL.out hb); replace HI0 := aM (IsS70.grown (show IsS70 w0 _ g s0_0 jA false from by repeat (first | (with_reducible first | exact HI0.out | apply IsS70.alloc | apply IsS70.drewN | apply IsS70.drew | apply IsS70.set_1 | apply IsS70.set_2 | refine IsS70.far ?_ qD.out _ | refine IsS70.far ?_ qE.out _ | refine IsS70.far ?_ qL.out _) | exact HI0.out)) hg (IsS70.own_ne HI0.out qB.out (by decide))); replace HK := aM (KeepBut.trans (by have := GEc.mk qM.out; have := GEc.mk qQ.out; have := GEc.mk qZ.out; exact kS HK) (KeepBut.of_grown hg g) (Kd.R_base2 qB.out)); have jq := aM (ho); clear qB; clear ho hb hg hat; obtain ⟨j4, j5, eo97⟩ := Kd.R_slice jq.out; subst eo97; have qAV := zc4 qA.out; have qAW := fun i_ : Nat => blk_frozen qA.out i_))
          go_roundg kj20
          case measure => have := HK1.out; have := HJ20.out; omega
          case rel => exact ⟨(wrap64 (qh + 1)), (jA), (false), (y360), (.slice j4 y360.length j5), (by first | rfl | (simp; done) | (simp [*]; done)), H', ⟨by have := HK1.out; have := HJ20.out; omega⟩, ⟨by (with_reducible repeat (first | apply Kd.R_alloc | apply Kd.R_drewN | apply Kd.R_drew)); exact Kd.R_mono (fA (Kd.R_types jq.out qA.out (by decide))) (fun _ hk => trivial)⟩, ⟨by refine lZ ?_; refine blk_far ?_ qV.out _; refine lZ ?_; exact qC.out⟩, ⟨by refine lZ ?_; refine blk_put (cs := #[.int .i64 qN, .int .i64 qO, qX, .slice none 0 0]) ?_ 2 _ rfl; refine lZ ?_; exact qA.out⟩, ⟨by repeat (first | (with_reducible first | exact HI0.out | apply IsS70.alloc | apply IsS70.drewN | apply IsS70.drew | apply IsS70.set_1 | apply IsS70.set_2 | refine IsS70.far ?_ qD.out _ | refine IsS70.far ?_ qE.out _ | refine IsS70.far ?_ qL.out _) | exact HI0.out)⟩, ⟨by repeat (first | (with_reducible first | exact HK.out | apply KeepBut.set_ | apply keep_drewN | apply keep_drew | apply keep_alloc | refine keep_far ?_ qM.out _ | refine keep_far ?_ qQ.out _ | refine keep_far ?_ qZ.out _) | exact HK.out)⟩, ⟨by repeat (first | (with_reducible first | exact HB.out | apply below_alloc | apply pw_below_drewN | apply below_drew1 | refine below_set ?_ (IsS70.ge HI0.out) | refine below_set ?_ qR.out | refine below_set ?_ qU.out | refine below_set ?_ qd.out) | exact HB.out)⟩⟩
         ·rw [if_neg c84] at H
          exact absurd H (by simp)
    ·rw [if_neg c17] at H
     have c17b0 : decide (qh < (Go.bits .or .i64 (wrap64 (qg * 256)) ql)) = false := decide_eq_false c17
     clear c17
     (first | rw [c17b0] | (simp only [i64_w, i32_w]; rw [c17b0]) | skip)
     have H' := aM H
     clear H
     go_wp2
     repeat (go_step3; go_wp2)
     go_meet
     case rel => exact ⟨_, (qs), (qt), (qJ), (qX), H', ⟨by have := HK1.out; first | omega | exact Nat.le_refl _⟩, ⟨by (with_reducible repeat (first | apply Kd.R_alloc | apply Kd.R_drewN | apply Kd.R_drew)); exact qB.out⟩, ⟨by refine lZ ?_; exact qC.out⟩, ⟨by refine lZ ?_; exact qA.out⟩, ⟨by repeat (first | (with_reducible first | exact HI0.out | apply IsS70.alloc | apply IsS70.drewN | apply IsS70.drew | apply IsS70.set_1 | apply IsS70.set_2 | refine IsS70.far ?_ qD.out _ | refine IsS70.far ?_ qE.out _) | exact HI0.out)⟩, ⟨by repeat (first | (with_reducible first | exact HK.out | apply KeepBut.set_ | apply keep_drewN | apply keep_drew | apply keep_alloc | refine keep_far ?_ qM.out _ | refine keep_far ?_ qQ.out _) | exact HK.out)⟩, ⟨by repeat (first | (with_reducible first | exact HB.out | apply below_alloc | apply pw_below_drewN | apply below_drew1 | refine below_set ?_ (IsS70.ge HI0.out) | refine below_set ?_ qR.out | refine below_set ?_ qU.out) | exact HB.out)⟩⟩
 case rest =>
  clear HC6
  obtain ⟨kq, jB, jC, qn, qX, HA, HJ5, qB, qC, qA, HI0, HK, HB⟩ := hcut
  cases kq with
  | zero => exact absurd HA.out (by simp [code_reader_program.j2])
  | succ kj5 =>
   have H := HA.out
   clear HA
   simp only [code_reader_program.j2] at H
   replace H := Option.bind_eq_some_iff.mp H
   obtain ⟨⟨jD, jj, jk⟩, A990, H⟩ := H
   replace H : (code_reader_program.l1 kj5 jD 0 s0_0 jj jk qN qO qn ([] : List Int)) = some (r1, r2, r3, r4, r5, r6) := H
   have A99 := aM A990
   clear A990
   have H' := aM H
   clear H
   go_wp2_with (first | ((with_reducible refine gate_callee (f := 33) rfl ?_); refine goesL_ (some 72) rfl rfl Try.func33 (by kernel_rfl) rfl #[.pointer (some ⟨g, 0, none⟩), .int .i64 1, .int .i64 128] rfl (by (try simp only [List.map_toArray, List.map_cons, List.map_nil]); first | done | rfl | (simp only [List.length_drop, List.length_take]; rfl)) ?_; (with_reducible refine (code_reader_within.calls g s0_0 jB jC 1 128 jD jj jk w0 _ ?side1 ?side2 A99.out).mono ?_); (case side1 => repeat (first | (with_reducible first | exact HI0.out | apply IsS70.alloc | apply IsS70.drewN | apply IsS70.drew | apply IsS70.set_1 | apply IsS70.set_2 | refine IsS70.far ?_ qD.out _ | refine IsS70.far ?_ qE.out _) | exact HI0.out)); (case side2 => exact (by have := GEc.mk (IsS70.ge HI0.out); have := GEc.mk qR.out; have := GEc.mk qU.out; exact lS HB)); rintro e w100 ⟨rfl, hi, hb, hk⟩; refine ⟨_, rfl, ?_⟩; replace qB := aM (Kd.R_mono (Kd.R_keep (IsS70.apart (show IsS70 w0 _ g s0_0 jB jC from by repeat (first | (with_reducible first | exact HI0.out | apply IsS70.alloc | apply IsS70.drewN | apply IsS70.drew | apply IsS70.set_1 | apply IsS70.set_2 | refine IsS70.far ?_ qD.out _ | refine IsS70.far ?_ qE.out _) | exact HI0.out)) (lR qB) (by decide)) hk (fun _ h => h.2)) (fun _ h => h.1)); replace qC := aM (KeepBut.blk hk (g' := qI) (lK qC) qW.out (by simp)); replace qA := aM (KeepBut.blk hk (g' := qG) (lK qA) qT.out (by simp)); replace HK := aM (KeepBut.trans (by have := GEc.mk qM.out; have := GEc.mk qQ.out; exact kS HK) hk (.inl rfl)); replace HB := aM (hb); replace HI0 := aM (hi); (try clear hb); (try clear hb2); (try clear hk); (try clear hi)))
   go_loopg [73] kj5 (fun kq v73 w' => ∃ (q2 : Int) (q3 : Int) (q4 : Bool) (qr : List Int) (qz : Value), v73 = .int .i64 q2 ∧ Aside0 (code_reader_program.l1 kq jD q2 s0_0 q3 q4 qN qO qn qr = some (r1, r2, r3, r4, r5, r6)) ∧ Aside0 (kq ≤ kj5) ∧ Aside0 (Kd.R k63 63 w' w.heap.size (fun _ => True) qX qn) ∧ Aside0 (Kd.R (Kd.int .i64) 3 w' w.heap.size (fun _ => True) qz qr) ∧ Aside0 (w'.heap[qI]? = some (.cells #[.int .i64 0, .int .i64 0, (.slice none 0 0), (.slice none 0 0)] 26 (0, 0))) ∧ Aside0 (w'.heap[qG]? = some (.cells #[.int .i64 qN, .int .i64 qO, qX, qz] 26 (0, 0))) ∧ Aside0 (IsS70 w0 w' g s0_0 q3 q4) ∧ Aside0 (KeepBut w w' g none) ∧ Aside0 (Below w0.heap.size w0 w'))
   case atStart => exact ⟨(0), (jj), (jk), (([] : List Int)), (.slice none 0 0), (by first | rfl | (simp; done) | (simp [*]; done)), H', ⟨Nat.le_refl _⟩, ⟨by (with_reducible repeat (first | apply Kd.R_alloc | apply Kd.R_drewN | apply Kd.R_drew)); exact qB.out⟩, ⟨by first | exact Kd.R_nil _ _ _ _ _ | exact Kd.N_nil _ _ _ _ _ | exact Kd.V_nil _ _ _ _ _ | exact Kd.Q_nil _ _ _ _ _ | exact Kd.S_nil _ _ _ _ _⟩, ⟨by refine lZ ?_; exact qC.out⟩, ⟨by refine lZ ?_; exact qA.out⟩, ⟨by repeat (first | (with_reducible first | exact HI0.out | apply IsS70.alloc | apply IsS70.drewN | apply IsS70.drew | apply IsS70.set_1 | apply IsS70.set_2 | refine IsS70.far ?_ qD.out _ | refine IsS70.far ?_ qE.out _) | exact HI0.out)⟩, ⟨by repeat (first | (with_reducible first | exact HK.out | apply KeepBut.set_ | apply keep_drewN | apply keep_drew | apply keep_alloc | refine keep_far ?_ qM.out _ | refine keep_far ?_ qQ.out _) | exact HK.out)⟩, ⟨by repeat (first | (with_reducible first | exact HB.out | apply below_alloc | apply pw_below_drewN | apply below_drew1 | refine below_set ?_ (IsS70.ge HI0.out) | refine below_set ?_ qR.out | refine below_set ?_ qU.out) | exact HB.out)⟩⟩
   case round =>
    clear H'
    obtain ⟨q2, q3, q4, qr, qz, rfl, HA, HK2, qB, qf, qC, qA, HI0, HK, HB⟩ := hrel
    cases gk with
    | zero => exact absurd HA.out (by simp [code_reader_program.l1])
    | succ k2 =>
     have H := HA.out
     clear HA
     simp only [code_reader_program.l1] at H
     by_cases c101 : q2 < jD
     ·rw [if_pos c101] at H
      have c101b0 : decide (q2 < jD) = true := decide_eq_true c101
      clear c101
      replace H := Option.bind_eq_some_iff.mp H
      obtain ⟨⟨jR, jS, jT⟩, A1020, H⟩ := H
      replace H : (if qr.length < 17592186044416 then (code_reader_program.l1 k2 jD (wrap64 (q2 + 1)) s0_0 jS jT qN qO qn (qr ++ [jR])) else (none)) = some (r1, r2, r3, r4, r5, r6) := H
      have A102 := aM A1020
      clear A1020
      by_cases c103 : qr.length < 17592186044416
      ·rw [if_pos c103] at H
       have LMc103 := aM c103
       clear c103
       obtain ⟨y369, hy369⟩ : ∃ y_ : List Int, y_ = (qr ++ [jR]) := ⟨_, rfl⟩
       replace H : (code_reader_program.l1 k2 jD (wrap64 (q2 + 1)) s0_0 jS jT qN qO qn y369) = some (r1, r2, r3, r4, r5, r6) := by first | (rw [hy369]; with_reducible exact H) | (have H2_ := (Option.bind_some _ _).symm.trans H; rw [hy369]; with_reducible exact H2_) | (have H2_ := (Option.bind_some _ _).symm.trans H; with_reducible exact H2_) | with_reducible exact H | (rw [hy369]; exact H) | exact H
       have Ny369 := aM hy369
       clear hy369
       have H' := aM H
       clear H
       try go_wp2
       have n0_ := aM (Kd.R_drew qB.out)
       have n1_ := aM (Kd.R_drew qf.out)
       have n2_ := aM (blk_drew qC.out)
       have n3_ := aM (blk_drew qA.out)
       have n4_ := aM (IsS70.drew HI0.out)
       have n5_ := aM (keep_drew HK.out)
       have n6_ := aM (below_drew1 HB.out)
       clear qB
       clear qf
       clear qC
       clear qA
       clear HI0
       clear HK
       clear HB
       have qB := n0_
       have qf := n1_
       have qC := n2_
       have qA := n3_
       have HI0 := n4_
       have HK := n5_
       have HB := n6_
       clear n0_ n1_ n2_ n3_ n4_ n5_ n6_
       refine start_ (n := 11) (S := fun w' => w'.cell? ⟨qG, 0, none⟩ = some (.int .i64 qN) ∧ w'.cell? ⟨qG, 1, none⟩ = some (.int .i64 qO) ∧ w'.cell? ⟨qG, 2, none⟩ = some (qX) ∧ w'.cell? ⟨qG, 3, none⟩ = some (qz)) (ds := [10]) #[false, false, false, false, false, false, false, false, false, false, false] (by kernel_rfl) rfl rfl ⟨(blk_cell qA.out 0).trans rfl, (blk_cell qA.out 1).trans rfl, (blk_cell qA.out 2).trans rfl, (blk_cell qA.out 3).trans rfl⟩ (fun hHeld => ?_); refine with_tabW code_reader_program.tab17 code_reader_program.bits17 (fun HT_ HW_ => ?_)
       generalize wr.drew = w104 at qB qf qC qA HI0 HK HB hHeld ⊢
       refine pure_ (i := 0) (N := some 75) (v := ?_) (a' := ?_) #[true, false, false, false, false, false, false, false, false, false, false] rfl rfl (any_of HT_.out (by kernel_rfl)) (fun _ _ _ h => h) (Or.inl ⟨by rfl, ?_⟩) ?_ ?_
       rotate_left
       ·intro w'
        go_simp
        with_reducible rfl
       rotate_left
       ·simp only [Act.put, List.setIfInBounds_toArray, List.set_cons_zero, List.set_cons_succ, i64_w, i32_w]
        rfl
       refine pure_ (i := 2) (N := some 77) (v := ?_) (a' := ?_) #[true, false, true, false, false, false, false, false, false, false, false] rfl rfl (any_of HT_.out (by kernel_rfl)) (fun _ _ _ h => h) (Or.inl ⟨by rfl, ?_⟩) ?_ ?_
       rotate_left
       ·intro w'
        go_simp
        with_reducible rfl
       rotate_left
       ·simp only [Act.put, List.setIfInBounds_toArray, List.set_cons_zero, List.set_cons_succ, i64_w, i32_w]
        rfl
       refine pure_ (i := 3) (N := some 78) (v := ?_) (a' := ?_) #[true, false, true, true, false, false, false, false, false, false, false] rfl rfl (any_of HT_.out (by kernel_rfl)) (fun _ _ _ h => h) (Or.inl ⟨by rfl, ?_⟩) ?_ ?_
       rotate_left
       ·intro w'
        go_simp
        with_reducible rfl
       rotate_left
       ·simp only [Act.put, List.setIfInBounds_toArray, List.set_cons_zero, List.set_cons_succ, i64_w, i32_w]
        rfl
       refine take_ (i := 1) (N := some 76) (v := ?_) (a' := ?_) #[true, true, true, true, false, false, false, false, false, false, false] rfl rfl (take_ofW HT_.out HW_.out (by kernel_rfl)) (fun _ _ _ h => h) (Or.inl ⟨by rfl, ?_⟩) hHeld ?_ ?_
       rotate_left
       ·rintro w' ⟨s0, s1, s2, s3⟩
        go_simp
        with_reducible rfl
       rotate_left
       ·simp only [Act.put, List.setIfInBounds_toArray, List.set_cons_zero, List.set_cons_succ, i64_w, i32_w]
        rfl
       refine take_ (i := 4) (N := some 79) (v := ?_) (a' := ?_) #[true, true, true, true, true, false, false, false, false, false, false] rfl rfl (take_ofW HT_.out HW_.out (by kernel_rfl)) (fun _ _ _ h => h) (Or.inl ⟨by rfl, ?_⟩) hHeld ?_ ?_
       rotate_left
       ·rintro w' ⟨s0, s1, s2, s3⟩
        go_simp
        with_reducible rfl
       rotate_left
       ·simp only [Act.put, List.setIfInBounds_toArray, List.set_cons_zero, List.set_cons_succ, i64_w, i32_w]
        rfl
       refine pure_ (i := 5) (N := some 80) (v := ?_) (a' := ?_) #[true, true, true, true, true, true, false, false, false, false, false] rfl rfl (any_of HT_.out (by kernel_rfl)) (fun _ _ _ h => h) (Or.inl ⟨by rfl, ?_⟩) ?_ ?_
       rotate_left
       ·intro w'
        go_simp
        with_reducible rfl
       rotate_left
       ·simp only [Act.put, List.setIfInBounds_toArray, List.set_cons_zero, List.set_cons_succ, i64_w, i32_w]
        rfl
       refine one_ (i := 6) (N := some 81) #[true, true, true, true, true, true, true, false, false, false, false] rfl rfl (one_of HT_.out (by kernel_rfl)) (by decide) (fun K hK => ?_)
       refine goes_ Try.func33 (by kernel_rfl) rfl #[.pointer (some ⟨g, 0, none⟩), .int .i64 0, .int .i64 (wrap64 (qO - 1))] (by rfl) rfl rfl (by (try simp only [List.map_toArray, List.map_cons, List.map_nil]); first | done | rfl | (simp only [List.length_drop, List.length_take]; rfl)) ?_
       with_reducible refine (code_reader_within.calls g s0_0 q3 q4 0 (wrap64 (qO - 1)) jR jS jT w0 _ ?side1 ?side2 A102.out).mono ?_
       (case side1 => repeat (first | (with_reducible first | exact HI0.out | apply IsS70.alloc | apply IsS70.drewN | apply IsS70.drew | apply IsS70.set_1 | apply IsS70.set_2 | refine IsS70.far ?_ qD.out _ | refine IsS70.far ?_ qE.out _) | exact HI0.out))
       (case side2 => exact (by have := GEc.mk (IsS70.ge HI0.out); have := GEc.mk qR.out; have := GEc.mk qU.out; exact lS HB))
       rintro e w105 ⟨rfl, hi, hb, hk⟩
       refine ⟨_, rfl, ?_⟩
       have n0_ := aM (Kd.R_mono (Kd.R_keep (IsS70.apart (show IsS70 w0 _ g s0_0 q3 q4 from by repeat (first | (with_reducible first | exact HI0.out | apply IsS70.alloc | apply IsS70.drewN | apply IsS70.drew | apply IsS70.set_1 | apply IsS70.set_2 | refine IsS70.far ?_ qD.out _ | refine IsS70.far ?_ qE.out _) | exact HI0.out)) (lR qB) (by decide)) hk (fun _ h => h.2)) (fun _ h => h.1))
       have n1_ := aM (Kd.R_mono (Kd.R_keep (IsS70.apart (show IsS70 w0 _ g s0_0 q3 q4 from by repeat (first | (with_reducible first | exact HI0.out | apply IsS70.alloc | apply IsS70.drewN | apply IsS70.drew | apply IsS70.set_1 | apply IsS70.set_2 | refine IsS70.far ?_ qD.out _ | refine IsS70.far ?_ qE.out _) | exact HI0.out)) (lR qf) (by decide)) hk (fun _ h => h.2)) (fun _ h => h.1))
       have n2_ := aM (KeepBut.blk hk (g' := qI) (lK qC) qW.out (by simp))
       have n3_ := aM (KeepBut.blk hk (g' := qG) (lK qA) qT.out (by simp))
       have n4_ := aM (KeepBut.trans (by have := GEc.mk qM.out; have := GEc.mk qQ.out; exact kS HK) hk (.inl rfl))
       have n5_ := aM (hb)
       have n6_ := aM (hi)
       clear qB
       clear qf
       clear qC
       clear qA
       clear HK
       clear HB
       clear HI0
       have qB := n0_
       have qf := n1_
       have qC := n2_
       have qA := n3_
       have HK := n4_
       have HB := n5_
       have HI0 := n6_
       clear n0_ n1_ n2_ n3_ n4_ n5_ n6_
       (try clear hb)
       (try clear hb2)
       (try clear hk)
       (try clear hi)
       refine hK.out _ _ ⟨(blk_cell qA.out 0).trans rfl, (blk_cell qA.out 1).trans rfl, (blk_cell qA.out 2).trans rfl, (blk_cell qA.out 3).trans rfl⟩ (fun hHeld => ?_)
       clear hK K
       refine norm_ (a' := ?_) ?_ ?_
       rotate_left
       ·show Act.put _ (some 81) _ = _
        simp only [Act.put, List.setIfInBounds_toArray, List.set_cons_zero, List.set_cons_succ, i64_w, i32_w]
        rfl
       refine one_ (i := 7) (N := some 82) #[true, true, true, true, true, true, true, true, false, false, false] rfl rfl (one_of HT_.out (by kernel_rfl)) (by decide) (fun K hK => ?_)
       refine value_ (w1 := ?_) (v := ?_) (by rfl) rfl ?_ ?_
       rotate_left 2
       ·go_simp
        constructor
        ·rfl
        ·rfl
       refine hK.out _ _ ⟨(blk_cell (blk_alloc qA.out _) 0).trans rfl, (blk_cell (blk_alloc qA.out _) 1).trans rfl, (blk_cell (blk_alloc qA.out _) 2).trans rfl, (blk_cell (blk_alloc qA.out _) 3).trans rfl⟩ (fun hHeld => ?_)
       clear hK K
       refine norm_ (a' := ?_) ?_ ?_
       rotate_left
       ·show Act.put _ (some 82) _ = _
        simp only [Act.put, List.setIfInBounds_toArray, List.set_cons_zero, List.set_cons_succ, i64_w, i32_w]
        rfl
       refine one_ (i := 8) (N := some 83) #[true, true, true, true, true, true, true, true, true, false, false] rfl rfl (one_of HT_.out (by kernel_rfl)) (by decide) (fun K hK => ?_)
       refine Kd.R_append_step (Kd.int .i64) w.heap.size (by rfl) (.tmp 76) (.tmp 82) 24 3 (.int .i64 0) 8 rfl Try.underlying24 info3 rfl (by decide) (by omega) qz qr jR [.int .i64 jR] (fun _ => True) (fun _ => False) rfl rfl ?aP (fun _ hk => hk.elim) ?aF ?aO (Below.refl _ _) ?aS ?aL ?_
       (case aP => exact rfl)
       (case aF => exact (fun _ _ => trivial))
       (case aO => exact (lR qf))
       (case aS => exact (keep_size (w := w) (g := g) (row := none) (by have := GEc.mk qM.out; have := GEc.mk qQ.out; exact kS HK)))
       (case aL => have := LMc103.out; omega)
       intro v370 w106 ho hb hg hat
       rw [← Ny369.out] at ho
       have n0_ := aM (Kd.R_over' (lR qB) (Kd.R_typed (lR qf)) (by decide) hg)
       have n1_ := aM (blk_grown (g := qI) (lK qC) hg (Kd.R_ne qf.out qC.out (by decide)))
       have n2_ := aM (blk_grown (g := qG) (lK qA) hg (Kd.R_ne qf.out qA.out (by decide)))
       have n3_ := aM (IsS70.grown (show IsS70 w0 _ g s0_0 jS jT from by repeat (first | (with_reducible first | exact HI0.out | apply IsS70.alloc | apply IsS70.drewN | apply IsS70.drew | apply IsS70.set_1 | apply IsS70.set_2 | refine IsS70.far ?_ qD.out _ | refine IsS70.far ?_ qE.out _) | exact HI0.out)) hg (IsS70.own_ne HI0.out qf.out (by decide)))
       have n4_ := aM (below_weaken (by have := GEc.mk (IsS70.ge HI0.out); have := GEc.mk qR.out; have := GEc.mk qU.out; exact lS HB) HL.out hb)
       have n5_ := aM (KeepBut.trans (by have := GEc.mk qM.out; have := GEc.mk qQ.out; exact kS HK) (KeepBut.of_grown hg g) (Kd.R_base2 qf.out))
       have n6_ := aM (ho)
       clear qB
       clear qC
       clear qA
       clear HI0
       clear HB
       clear HK
       clear qf
       have qB := n0_
       have qC := n1_
       have qA := n2_
       have HI0 := n3_
       have HB := n4_
       have HK := n5_
       have jr := n6_
       clear n0_ n1_ n2_ n3_ n4_ n5_ n6_
       clear ho hb hg hat
       obtain ⟨jw, jx, eo107⟩ := Kd.R_slice jr.out
       (first | subst eo107 | (injection eo107 with f1_ f2_ f3_; have f4_ := f1_.symm; have f5_ := f3_.symm; clear f1_ f2_ f3_; subst f4_; subst f5_))
       refine hK.out _ _ ⟨(blk_cell qA.out 0).trans rfl, (blk_cell qA.out 1).trans rfl, (blk_cell qA.out 2).trans rfl, (blk_cell qA.out 3).trans rfl⟩ (fun hHeld => ?_)
       clear hK K
       refine norm_ (a' := ?_) ?_ ?_
       rotate_left
       ·show Act.put _ (some 83) _ = _
        simp only [Act.put, List.setIfInBounds_toArray, List.set_cons_zero, List.set_cons_succ, i64_w, i32_w]
        rfl
       refine pure_ (i := 9) (N := some 84) (v := ?_) (a' := ?_) #[true, true, true, true, true, true, true, true, true, true, false] rfl rfl (any_of HT_.out (by kernel_rfl)) (fun _ _ _ h => h) (Or.inl ⟨by rfl, ?_⟩) ?_ ?_
       rotate_left
       ·intro w'
        go_simp
        with_reducible rfl
       rotate_left
       ·simp only [Act.put, List.setIfInBounds_toArray, List.set_cons_zero, List.set_cons_succ, i64_w, i32_w]
        rfl
       refine last_ (i := 10) (N := none) #[true, true, true, true, true, true, true, true, true, true, true] rfl rfl (one_of HT_.out (by kernel_rfl)) (by decide) (fun K hK => ?_)
       have qBV : w106.cell? ⟨qG, 3, none⟩ = some (qz) := (blk_cell qA.out 3).trans rfl
       have qAX := blk_frozen qA.out 3
       have j6 := qV.out
       have j7 := qm.out
       refine skip_ (w1 := ?_) (by rfl) rfl ?_ ?_
       rotate_left
       ·go_simp
        rfl
       refine hK.out _ _ ?_
       clear hK K
       refine done_ (done_of HT_.out (by kernel_rfl)) ?_
       try go_wp2
       go_roundg k2
       case measure => have := HJ5.out; have := HK2.out; omega
       case rel => exact ⟨(wrap64 (q2 + 1)), (jS), (jT), (y369), (.slice jw y369.length jx), (by first | rfl | (simp; done) | (simp [*]; done)), H', ⟨by have := HJ5.out; have := HK2.out; omega⟩, ⟨by (with_reducible repeat (first | apply Kd.R_alloc | apply Kd.R_drewN | apply Kd.R_drew)); exact Kd.R_mono (fA (Kd.R_types qB.out qA.out (by decide))) (fun _ hk => trivial)⟩, ⟨by (with_reducible repeat (first | apply Kd.R_alloc | apply Kd.R_drewN | apply Kd.R_drew)); exact Kd.R_mono (fA (Kd.R_types jr.out qA.out (by decide))) (fun _ hk => trivial)⟩, ⟨by refine lZ ?_; refine blk_far ?_ qV.out _; refine lZ ?_; exact qC.out⟩, ⟨by refine lZ ?_; refine blk_put (cs := #[.int .i64 qN, .int .i64 qO, qX, qz]) ?_ 3 _ rfl; refine lZ ?_; exact qA.out⟩, ⟨by repeat (first | (with_reducible first | exact HI0.out | apply IsS70.alloc | apply IsS70.drewN | apply IsS70.drew | apply IsS70.set_1 | apply IsS70.set_2 | refine IsS70.far ?_ qD.out _ | refine IsS70.far ?_ qE.out _) | exact HI0.out)⟩, ⟨by repeat (first | (with_reducible first | exact HK.out | apply KeepBut.set_ | apply keep_drewN | apply keep_drew | apply keep_alloc | refine keep_far ?_ qM.out _ | refine keep_far ?_ qQ.out _) | exact HK.out)⟩, ⟨by repeat (first | (with_reducible first | exact HB.out | apply below_alloc | apply pw_below_drewN | apply below_drew1 | refine below_set ?_ (IsS70.ge HI0.out) | refine below_set ?_ qR.out | refine below_set ?_ qU.out) | exact HB.out)⟩⟩
      ·rw [if_neg c103] at H
       exact absurd H (by simp)
     ·rw [if_neg c101] at H
      have c101b0 : decide (q2 < jD) = false := decide_eq_false c101
      clear c101
      simp only [Option.some.injEq, Prod.mk.injEq] at H
      obtain ⟨rfl, rfl, rfl, rfl, rfl, rfl⟩ := H
      have qAY := qm.out
      have qAZ := qV.out
      have qAa := qT.out
      have qAb := qE.out
      have j8 := zc4 qA.out
      have j9 := fun i_ : Nat => blk_frozen qA.out i_
      have qAc := qW.out
      have qAd := qD.out
      have yA := zc4 qC.out
      have yB := fun i_ : Nat => blk_frozen qC.out i_
      obtain ⟨js, jt, eo114⟩ := Kd.R_slice qB.out
      subst eo114
      obtain ⟨jy, jz, eo115⟩ := Kd.R_slice qf.out
      subst eo115
      go_wp2
      repeat (go_step3; go_wp2)
      refine bodyPost_ret (results_cell_row rfl _ _ qI 26 #[.int .i64 qN, .int .i64 qO, .slice js qn.length jt, .slice jy qr.length jz] (0, 0) _ rfl (by refine lZ ?_; refine blk_put (cs := #[.int .i64 qN, .int .i64 qO, .slice js qn.length jt, .slice none 0 0]) ?_ 3 _ rfl; refine lZ ?_; refine blk_put (cs := #[.int .i64 qN, .int .i64 qO, .slice none 0 0, .slice none 0 0]) ?_ 2 _ rfl; refine lZ ?_; refine blk_put (cs := #[.int .i64 qN, .int .i64 0, .slice none 0 0, .slice none 0 0]) ?_ 1 _ rfl; refine lZ ?_; refine blk_put (cs := #[.int .i64 0, .int .i64 0, .slice none 0 0, .slice none 0 0]) ?_ 0 _ rfl; refine lZ ?_; exact qC.out) Try.underlying26 rfl (by kernel_rfl)) rfl ?_
      exact ⟨_, _, by first | rfl | (simp [errW_none, errW_some] <;> rfl) | (simp [*, errW_none, errW_some] <;> rfl), by (with_reducible repeat (first | apply Kd.R_alloc | apply Kd.R_drewN | apply Kd.R_drew)); exact Kd.R_mono (fA (fA (fA (fA (Kd.R_types qB.out qC.out (by decide)))))) (fun _ hk => trivial), by (with_reducible repeat (first | apply Kd.R_alloc | apply Kd.R_drewN | apply Kd.R_drew)); exact Kd.R_mono (fA (fA (fA (fA (Kd.R_types qf.out qC.out (by decide)))))) (fun _ hk => trivial), by repeat (first | (with_reducible first | exact HI0.out | apply IsS70.alloc | apply IsS70.drewN | apply IsS70.drew | apply IsS70.set_1 | apply IsS70.set_2 | refine IsS70.far ?_ qD.out _ | refine IsS70.far ?_ qE.out _) | exact HI0.out), by repeat (first | (with_reducible first | exact HB.out | apply below_alloc | apply pw_below_drewN | apply below_drew1 | refine below_set ?_ (IsS70.ge HI0.out) | refine below_set ?_ qR.out | refine below_set ?_ qU.out) | exact HB.out), by repeat (first | (with_reducible first | exact HK.out | apply KeepBut.set_ | apply keep_drewN | apply keep_drew | apply keep_alloc | refine keep_far ?_ qM.out _ | refine keep_far ?_ qQ.out _) | exact HK.out)⟩

end Go.Proofs.Ytccbdcbeinkjgaa.XA
end

section
namespace Go.Proofs.Ytccbdcbeinkjgaa.XA
open Go.Proofs.Ytccbdcbeinkjgaa.Lift Go.RowKit Go.Proofs.YtccbdcbeinkjgaaW.PrintWords Go.Proofs.YtccbdcbeinkjgaaW.PrintLast Go.Proofs.YtccbdcbeinkjgaaW.PrintMore
attribute [local go_sem] max2_int min2_int max_two min_two max_three min_three max_four min_four
set_option linter.unusedVariables false
set_option linter.unusedSimpArgs false

/-! ### code_newreader: function 86 -/
/-- A reader that was just made: the bytes, at the first one, nothing wrong. (No function of the program: what the region that makes it leaves.) -/
def code_newreader.f (l0 : List Int) : Option (List Int × Int × Bool) := some (l0, 0, false)
theorem code_newreader.is {w0 W : World} {g : Nat} {l0 t1 : List Int} {t2 : Int} {t3 : Bool} (h : code_newreader.f l0 = some (t1, t2, t3)) (hI : IsS70 w0 W g l0 0 false) : IsS70 w0 W g t1 t2 t3 := by
 simp only [code_newreader.f, Option.some.injEq, Prod.mk.injEq] at h
 obtain ⟨rfl, rfl, rfl⟩ := h
 exact hI

end Go.Proofs.Ytccbdcbeinkjgaa.XA
end
