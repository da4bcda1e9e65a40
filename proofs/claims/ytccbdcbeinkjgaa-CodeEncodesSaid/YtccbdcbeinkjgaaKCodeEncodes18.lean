/- Part 18 of the proof of the law CodeEncodes for every input: words, walks and plain laws. No condition. -/
import Derived.Test.YtccbdcbeinkjgaaKCodeEncodes17
section
namespace Go.Proofs.Ytccbdcbeinkjgaa.XA
open Go.Proofs.Ytccbdcbeinkjgaa.Lift Go.RowKit Go.Proofs.YtccbdcbeinkjgaaW.PrintWords Go.Proofs.YtccbdcbeinkjgaaW.PrintLast Go.Proofs.YtccbdcbeinkjgaaW.PrintMore
attribute [local go_sem] max2_int min2_int max_two min_two max_three min_three max_four min_four
set_option linter.unusedVariables false
set_option linter.unusedSimpArgs false

/-! ### swageref17_Encode: function 23 -/
def swageref17_Encode.l0 : Nat → List Int → Int → Int → Int → List (S48) → Int → Int → List (S63) → List Int → Int → Int → List (S63) → List Int → Int → Int → List (S63) → List Int → Option (List Int)
 | 0, _, _, _, _, _, _, _, _, _, _, _, _, _, _, _, _, _ => none
 | k + 1, x3, x4, jV, jW, qh, q1, q2, q3, q4, q5, q6, q7, q8, q9, jA, jB, jC => if x4 < (qh.length : Int) then (if 0 ≤ x4 then ((some (([(Int.tmod (wrap64 (((rd_T48 qh x4).f0) + 256)) 256) % 256, (Int.tmod (wrap64 (((rd_T48 qh x4).f1) + 256)) 256) % 256] : List Int) : List Int)).bind fun y883 => (if x3.length + y883.length < 140737488355328 then (swageref17_Encode.l0 k (x3 ++ y883) (wrap64 (x4 + 1)) jV jW qh q1 q2 q3 q4 q5 q6 q7 q8 q9 jA jB jC) else (none))) else (none)) else ((swageref17_program.f k q1 q2 q3 q4).bind fun qO => (if x3.length + qO.length < 140737488355328 then ((some (x3 ++ qO : List Int)).bind fun y892 => ((swageref17_program.f k q5 q6 q7 q8).bind fun qJ => (if y892.length + qJ.length < 140737488355328 then ((some (y892 ++ qJ : List Int)).bind fun y898 => ((swageref17_program.f k q9 jA jB jC).bind fun qG => (if y898.length + qG.length < 140737488355328 then ((some (y898 ++ qG : List Int)).bind fun y904 => ((swageref17_check.f k y904).bind fun qS => ((swageref17_two.f qS).bind fun qD => (if y904.length + qD.length < 140737488355328 then (some (y904 ++ qD)) else (none))))) else (none)))) else (none)))) else (none)))
def swageref17_Encode.f (k : Nat) (qP : Int) (qQ : Int) (qB : List (S48)) (qY : Int) (qZ : Int) (qT : List (S63)) (qU : List Int) (qW : Int) (qX : Int) (qR : List (S63)) (qK : List Int) (qL : Int) (qM : Int) (qH : List (S63)) (qI : List Int) : Option (List Int) := swageref17_Encode.l0 k (([65, 78, 86, 49, (qP) % 256, (qQ) % 256, ((qB.length : Int)) % 256] : List Int)) 0 qP qQ qB qY qZ qT qU qW qX qR qK qL qM qH qI
theorem swageref17_Encode.mono_l : ∀ k, (∀ y0 y1 y2 y3 y4 y5 y6 y7 y8 y9 y10 y11 y12 y13 y14 y15 y16, LeO (swageref17_Encode.l0 k y0 y1 y2 y3 y4 y5 y6 y7 y8 y9 y10 y11 y12 y13 y14 y15 y16) (swageref17_Encode.l0 (k + 1) y0 y1 y2 y3 y4 y5 y6 y7 y8 y9 y10 y11 y12 y13 y14 y15 y16))
 | 0 => fun _ _ _ _ _ _ _ _ _ _ _ _ _ _ _ _ _ r h => by simp [swageref17_Encode.l0] at h
 | k + 1 => by
  have ih0 := swageref17_Encode.mono_l k
  ·intro y0 y1 y2 y3 y4 y5 y6 y7 y8 y9 y10 y11 y12 y13 y14 y15 y16
   unfold swageref17_Encode.l0
   have im0 := @swageref17_check.mono; have im1 := @swageref17_program.mono; exact zM
theorem swageref17_Encode.mono : ∀ a0 a1 a2 a3 a4 a5 a6 a7 a8 a9 a10 a11 a12 a13 a14 k, LeO (swageref17_Encode.f k a0 a1 a2 a3 a4 a5 a6 a7 a8 a9 a10 a11 a12 a13 a14) (swageref17_Encode.f (k + 1) a0 a1 a2 a3 a4 a5 a6 a7 a8 a9 a10 a11 a12 a13 a14) := by
 intro a0 a1 a2 a3 a4 a5 a6 a7 a8 a9 a10 a11 a12 a13 a14 k
 have ih0 := swageref17_Encode.mono_l k
 unfold swageref17_Encode.f
 have im0 := @swageref17_check.mono; have im1 := @swageref17_program.mono; exact zM
def swageref17_Encode.T5 : Bool × List (List Nat × List Nat) := (true, [([], []), ([], []), ([1], [1]), ([], []), ([2, 3], [2, 3]), ([4], [4]), ([5], [5]), ([6], [6]), ([7], [7]), ([8], [8]), ([], []), ([10], [10]), ([], []), ([11, 12], [11, 12]), ([13], [13]), ([14], [14]), ([15], [15]), ([16], [16]), ([17], [17]), ([9, 18], [9, 18]), ([0, 19], [0, 19]), ([20, 20, 0, 1, 2, 3, 4, 5, 6, 7, 8, 9, 10, 11, 12, 13, 14, 15, 16, 17, 18, 19, 20], [0, 20])])
def swageref17_Encode.B5 : List Nat := [0, 0, 2, 0, 14, 30, 62, 126, 254, 510, 0, 1024, 0, 7168, 15360, 31744, 64512, 130048, 261120, 524286, 1048575, 2097151]
theorem swageref17_Encode.tab5 : rtab .any (opsOf Try.f23 5) = swageref17_Encode.T5 := by kernel_rfl
theorem swageref17_Encode.bits5 : waitsOk swageref17_Encode.T5.2 swageref17_Encode.B5 = true := by kernel_rfl
set_option maxHeartbeats 8000000 in
set_option maxRecDepth 100000 in
theorem swageref17_Encode.calls (k : Nat) (qP : Int) (qQ : Int) (jD : Option Addr) (q0 : Nat) (qB : List (S48)) (qY : Int) (qZ : Int) (qu : Option Addr) (qv : Nat) (qT : List (S63)) (qw : Option Addr) (qx : Nat) (qU : List Int) (qW : Int) (qX : Int) (qy : Option Addr) (qz : Nat) (qR : List (S63)) (qi : Option Addr) (qj : Nat) (qK : List Int) (qL : Int) (qM : Int) (qk : Option Addr) (ql : Nat) (qH : List (S63)) (qm : Option Addr) (qn : Nat) (qI : List Int) (r : List Int) (w : World) (jM : Kd.C k48 w jD qB.length qB) (jN : qB.length ≤ q0) (jO : Kd.C k63 w qu qT.length qT) (jP : qT.length ≤ qv) (jQ : Kd.C (Kd.int .i64) w qw qU.length qU) (jR : qU.length ≤ qx) (jS : Kd.C k63 w qy qR.length qR) (jT : qR.length ≤ qz) (jG : Kd.C (Kd.int .i64) w qi qK.length qK) (jH : qK.length ≤ qj) (jI : Kd.C k63 w qk qH.length qH) (jJ : qH.length ≤ ql) (jK : Kd.C (Kd.int .i64) w qm qI.length qI) (jL : qI.length ≤ qn) (h : swageref17_Encode.f k qP qQ qB qY qZ qT qU qW qX qR qK qL qM qH qI = some r) :
  Calls Try.prog 23 #[.agg #[.int .i64 qP, .int .i64 qQ, .slice jD qB.length q0, .int .i64 qY, .int .i64 qZ, .slice qu qT.length qv, .slice qw qU.length qx, .int .i64 qW, .int .i64 qX, .slice qy qR.length qz, .slice qi qK.length qj, .int .i64 qL, .int .i64 qM, .slice qk qH.length ql, .slice qm qI.length qn]] w fun e w' => ∃ v0_ : Value, e = .returned (v0_) ∧ Kd.R (Kd.int .u8) 5 w' w.heap.size (fun _ => True) v0_ r ∧ Below w.heap.size w w' := by
 have hu28 := Try.underlying28
 have hu26 := Try.underlying26
 have jU := aM jM
 have j0 := aM jN
 clear jM jN
 have jf := aM jO
 have jg := aM jP
 clear jO jP
 have jh := aM jQ
 have ji := aM jR
 clear jQ jR
 have jj := aM jS
 have jk := aM jT
 clear jS jT
 have jX := aM jG
 have jY := aM jH
 clear jG jH
 have jZ := aM jI
 have ja := aM jJ
 clear jI jJ
 have jb := aM jK
 have jc := aM jL
 clear jK jL
 have HB := aM (Below.refl w.heap.size w)
 have H : (swageref17_Encode.l0 k (([65, 78, 86, 49, (qP) % 256, (qQ) % 256, ((qB.length : Int)) % 256] : List Int)) 0 qP qQ qB qY qZ qT qU qW qX qR qK qL qM qH qI) = some r := h
 clear h
 obtain ⟨y878, hy878⟩ : ∃ y_ : List Int, y_ = (([65, 78, 86, 49, (qP) % 256, (qQ) % 256, ((qB.length : Int)) % 256] : List Int)) := ⟨_, rfl⟩
 replace H : (swageref17_Encode.l0 k y878 0 qP qQ qB qY qZ qT qU qW qX qR qK qL qM qH qI) = some r := zH hy878 H
 have Ny878 := aM hy878
 clear hy878
 have H' := aM H
 clear H
 go_enter Try.func23, Try.ntmps23
 go_wp2_with (first | ((with_reducible refine gate_dst (N := 1) rfl ?_); refine box_event rfl (N := 1) rfl (cs := #[.int .i64 qP, .int .i64 qQ, .slice jD qB.length q0, .int .i64 qY, .int .i64 qZ, .slice qu qT.length qv, .slice qw qU.length qx, .int .i64 qW, .int .i64 qX, .slice qy qR.length qz, .slice qi qK.length qj, .int .i64 qL, .int .i64 qM, .slice qk qH.length ql, .slice qm qI.length qn]) (t := 28) zG ?_; intro qC hg w2 hbox hb; have qA := aM (hbox); have j1 := aM ((by rw [hg]; exact (below_size (lB HB)) : w.heap.size ≤ qC)); have j2 := aM ((by rw [hg]; exact (below_size (lB HB)) : w.heap.size ≤ qC)); replace HB := aM (below_step (lB HB) hb); clear hb hbox hg; have jw := zc15 qA.out; have jx := fun i_ : Nat => blk_frozen qA.out i_) | ((with_reducible refine gate_dst (N := 15) rfl ?_); refine Kd.R_lit (Kd.int .u8) _ 5 ?hg (N := 15) ?hd (xs := ([65, 78, 86, 49, (qP) % 256, (qQ) % 256, ((qB.length : Int)) % 256] : List Int)) (inner := [.int .u8 65, .int .u8 78, .int .u8 86, .int .u8 49, .int .u8 ((qP) % 256), .int .u8 ((qQ) % 256), .int .u8 (((qB.length : Int)) % 256)]) (ok := fun _ => True) (okp := fun _ => True) ?hr ?hp (fun _ hk => hk) trivial (Below.refl _ _) (Nat.le_refl _) (by simp) ?_; (case hd => rfl); (case hg => rfl); (case hr => first | (go_simp; done) | (go_simp; rfl)); (case hp => exact (Reps.one (show Kd.M (Kd.int .u8) _ _ _ 65 [.int .u8 65] from rfl) (Reps.one (show Kd.M (Kd.int .u8) _ _ _ 78 [.int .u8 78] from rfl) (Reps.one (show Kd.M (Kd.int .u8) _ _ _ 86 [.int .u8 86] from rfl) (Reps.one (show Kd.M (Kd.int .u8) _ _ _ 49 [.int .u8 49] from rfl) (Reps.one (show Kd.M (Kd.int .u8) _ _ _ ((qP) % 256) [.int .u8 ((qP) % 256)] from rfl) (Reps.one (show Kd.M (Kd.int .u8) _ _ _ ((qQ) % 256) [.int .u8 ((qQ) % 256)] from rfl) (Reps.one (show Kd.M (Kd.int .u8) _ _ _ (((qB.length : Int)) % 256) [.int .u8 (((qB.length : Int)) % 256)] from rfl) (Reps.none _ _))))))))); intro v879 w4 ho5 hb hg_ hnew_; clear hg_ hnew_; (first | rw [← Ny878.out] at ho5 | (simp only [Int.reduceToNat] at ho5; rw [← Ny878.out] at ho5)); have jl := aM (Kd.R_lower ho5 (below_size (zB HB))); replace qA := aM (blk_below (g := qC) (lK qA) hb); replace HB := aM (below_step (zB HB) hb); clear hb ho5))
 go_loopg [3, 4] k (fun kq v3 v4 w' => ∃ (qb : List Int) (qE : Int), v4 = .int .i64 qE ∧ Aside0 (swageref17_Encode.l0 kq qb qE qP qQ qB qY qZ qT qU qW qX qR qK qL qM qH qI = some r) ∧ Aside0 (kq ≤ k) ∧ Aside0 (Kd.R (Kd.int .u8) 5 w' w.heap.size (fun _ => True) v3 qb) ∧ Aside0 (w'.heap[qC]? = some (.cells #[.int .i64 qP, .int .i64 qQ, (.slice jD qB.length q0), .int .i64 qY, .int .i64 qZ, (.slice qu qT.length qv), (.slice qw qU.length qx), .int .i64 qW, .int .i64 qX, (.slice qy qR.length qz), (.slice qi qK.length qj), .int .i64 qL, .int .i64 qM, (.slice qk qH.length ql), (.slice qm qI.length qn)] 28 (0, 0))) ∧ Aside0 (Below w.heap.size w w'))
 case atStart => exact ⟨(y878), (0), zT, H', ⟨Nat.le_refl _⟩, ⟨lR jl⟩, ⟨zb qA⟩, ⟨zB HB⟩⟩
 case round =>
  clear H'
  obtain ⟨qb, qE, rfl, HA, HK1, qV, qA, HB⟩ := hrel
  cases gk with
  | zero => exact absurd HA.out (by simp [swageref17_Encode.l0])
  | succ k1 =>
   have H := HA.out
   clear HA
   simp only [swageref17_Encode.l0] at H
   by_cases c6 : qE < (qB.length : Int)
   ·rw [if_pos c6] at H
    have c6b0 := decide_eq_true c6
    clear c6
    by_cases c7 : 0 ≤ qE
    ·rw [if_pos c7] at H
     have c7b0 := decide_eq_true c7
     clear c7
     obtain ⟨y883, hy883⟩ : ∃ y_ : List Int, y_ = (([(Int.tmod (wrap64 (((rd_T48 qB qE).f0) + 256)) 256) % 256, (Int.tmod (wrap64 (((rd_T48 qB qE).f1) + 256)) 256) % 256] : List Int)) := ⟨_, rfl⟩
     replace H : (if qb.length + y883.length < 140737488355328 then (swageref17_Encode.l0 k1 (qb ++ y883) (wrap64 (qE + 1)) qP qQ qB qY qZ qT qU qW qX qR qK qL qM qH qI) else (none)) = some r := zH hy883 H
     have Ny883 := aM hy883
     clear hy883
     by_cases c8 : qb.length + y883.length < 140737488355328
     ·rw [if_pos c8] at H
      have LMc8 := aM c8
      clear c8
      obtain ⟨y886, hy886⟩ : ∃ y_ : List Int, y_ = (qb ++ y883) := ⟨_, rfl⟩
      replace H : (swageref17_Encode.l0 k1 y886 (wrap64 (qE + 1)) qP qQ qB qY qZ qT qU qW qX qR qK qL qM qH qI) = some r := zH hy886 H
      have Ny886 := aM hy886
      clear hy886
      have H' := aM H
      clear H
      have jy := zc15 qA.out
      have jz := fun i_ : Nat => blk_frozen qA.out i_
      try go_wp2
      have n0_ := aM (Kd.R_drew qV.out)
      have n1_ := aM (blk_drew qA.out)
      have n2_ := aM (below_drew1 HB.out)
      clear qV
      clear qA
      clear HB
      have qV := n0_
      have qA := n1_
      have HB := n2_
      clear n0_ n1_ n2_
      have p881 : 0 ≤ (qE : Int) := of_decide_eq_true za
      have q881 : qE < (qB.length : Int) := of_decide_eq_true za
      obtain ⟨ad881, e881, hx881_0, hx881_1⟩ := at_T48 jU.out qE p881 q881
      have hw881_1 := hx881_1
      have hw881_0 := hx881_0
      cases e881
      replace hx881_0 := (HB.out.cell (World.block_lt_of_cell? w _ hx881_0)).trans hx881_0
      replace hx881_1 := (HB.out.cell (World.block_lt_of_cell? w _ hx881_1)).trans hx881_1
      replace p881 := eq_true p881
      replace q881 := eq_true q881
      have p882 : 0 ≤ (qE : Int) := of_decide_eq_true za
      have q882 : qE < (qB.length : Int) := of_decide_eq_true za
      obtain ⟨ad882, e882, hx882_0, hx882_1⟩ := at_T48 jU.out qE p882 q882
      have hw882_1 := hx882_1
      have hw882_0 := hx882_0
      obtain rfl : ad881 = ad882 := (by injection e882)
      replace hx882_0 := (HB.out.cell (World.block_lt_of_cell? w _ hx882_0)).trans hx882_0
      replace hx882_1 := (HB.out.cell (World.block_lt_of_cell? w _ hx882_1)).trans hx882_1
      replace p882 := eq_true p882
      replace q882 := eq_true q882
      refine start_ (n := 22) (S := fun w' => w'.cell? ⟨qC, 0, none⟩ = some (.int .i64 qP) ∧ w'.cell? ⟨qC, 1, none⟩ = some (.int .i64 qQ) ∧ w'.cell? ⟨qC, 2, none⟩ = some (.slice (some ad881) qB.length q0) ∧ w'.cell? ⟨qC, 3, none⟩ = some (.int .i64 qY) ∧ w'.cell? ⟨qC, 4, none⟩ = some (.int .i64 qZ) ∧ w'.cell? ⟨qC, 5, none⟩ = some (.slice qu qT.length qv) ∧ w'.cell? ⟨qC, 6, none⟩ = some (.slice qw qU.length qx) ∧ w'.cell? ⟨qC, 7, none⟩ = some (.int .i64 qW) ∧ w'.cell? ⟨qC, 8, none⟩ = some (.int .i64 qX) ∧ w'.cell? ⟨qC, 9, none⟩ = some (.slice qy qR.length qz) ∧ w'.cell? ⟨qC, 10, none⟩ = some (.slice qi qK.length qj) ∧ w'.cell? ⟨qC, 11, none⟩ = some (.int .i64 qL) ∧ w'.cell? ⟨qC, 12, none⟩ = some (.int .i64 qM) ∧ w'.cell? ⟨qC, 13, none⟩ = some (.slice qk qH.length ql) ∧ w'.cell? ⟨qC, 14, none⟩ = some (.slice qm qI.length qn) ∧ w'.cell? (ad881.add ((qE).toNat * 2)) = some (.int .i64 ((rd_T48 qB qE).f0)) ∧ w'.cell? ⟨(ad881.add ((qE).toNat * 2)).block, (ad881.add ((qE).toNat * 2)).off + 1, none⟩ = some (.int .i64 ((rd_T48 qB qE).f1)) ∧ w'.cell? (ad881.add ((qE).toNat * 2)) = some (.int .i64 ((rd_T48 qB qE).f0)) ∧ w'.cell? ⟨(ad881.add ((qE).toNat * 2)).block, (ad881.add ((qE).toNat * 2)).off + 1, none⟩ = some (.int .i64 ((rd_T48 qB qE).f1))) (ds := []) (bs 22 0) zk rfl rfl ⟨(blk_cell qA.out 0).trans rfl, (blk_cell qA.out 1).trans rfl, (blk_cell qA.out 2).trans rfl, (blk_cell qA.out 3).trans rfl, (blk_cell qA.out 4).trans rfl, (blk_cell qA.out 5).trans rfl, (blk_cell qA.out 6).trans rfl, (blk_cell qA.out 7).trans rfl, (blk_cell qA.out 8).trans rfl, (blk_cell qA.out 9).trans rfl, (blk_cell qA.out 10).trans rfl, (blk_cell qA.out 11).trans rfl, (blk_cell qA.out 12).trans rfl, (blk_cell qA.out 13).trans rfl, (blk_cell qA.out 14).trans rfl, ((HB.out.cell (World.block_lt_of_cell? w _ hw881_0)).trans hw881_0), ((HB.out.cell (World.block_lt_of_cell? w _ hw881_1)).trans hw881_1), ((HB.out.cell (World.block_lt_of_cell? w _ hw882_0)).trans hw882_0), ((HB.out.cell (World.block_lt_of_cell? w _ hw882_1)).trans hw882_1)⟩ (fun hHeld => ?_); refine with_tabW swageref17_Encode.tab5 swageref17_Encode.bits5 (fun HT_ HW_ => ?_)
      generalize wr.drew = w10 at qV qA HB hx881_0 hx881_1 hx882_0 hx882_1 hHeld ⊢
      refine pQ 0 23 22 1 ?_
      refine pQ 1 24 22 3 ?_
      refine pQ 3 26 22 11 ?_
      refine pQ 10 33 22 1035 ?_
      refine pQ 12 35 22 5131 ?_
      refine take_ (i := 2) (N := some 25) (v := ?_) (a' := ?_) (bs 22 5135) rfl rfl (take_ofW HT_.out HW_.out zk) (fun _ _ _ h => h) (Or.inl ⟨by rfl, ?_⟩) hHeld ?_ ?_
      rotate_left
      ·rintro w' ⟨s0, s1, s2, s3, s4, s5, s6, s7, s8, s9, s10, s11, s12, s13, s14, s15, s16, s17, s18⟩
       go_simp
       with_reducible rfl
      rotate_left
      ·simp only [Act.put, List.setIfInBounds_toArray, List.set_cons_zero, List.set_cons_succ, i64_w, i32_w]
       rfl
      refine pQ 4 27 22 5151 ?_
      refine pQ 5 28 22 5183 ?_
      refine take_ (i := 6) (N := some 29) (v := ?_) (a' := ?_) (bs 22 5247) rfl rfl (take_ofW HT_.out HW_.out zk) (fun _ _ _ h => h) (Or.inl ⟨by rfl, ?_⟩) hHeld ?_ ?_
      rotate_left
      ·rintro w' ⟨s0, s1, s2, s3, s4, s5, s6, s7, s8, s9, s10, s11, s12, s13, s14, s15, s16, s17, s18⟩
       go_simp
       with_reducible rfl
      rotate_left
      ·simp only [Act.put, List.setIfInBounds_toArray, List.set_cons_zero, List.set_cons_succ, i64_w, i32_w]
       rfl
      refine pQ 7 30 22 5375 ?_
      refine pQ 8 31 22 5631 ?_
      refine pQ 9 32 22 6143 ?_
      refine take_ (i := 11) (N := some 34) (v := ?_) (a' := ?_) (bs 22 8191) rfl rfl (take_ofW HT_.out HW_.out zk) (fun _ _ _ h => h) (Or.inl ⟨by rfl, ?_⟩) hHeld ?_ ?_
      rotate_left
      ·rintro w' ⟨s0, s1, s2, s3, s4, s5, s6, s7, s8, s9, s10, s11, s12, s13, s14, s15, s16, s17, s18⟩
       go_simp
       with_reducible rfl
      rotate_left
      ·simp only [Act.put, List.setIfInBounds_toArray, List.set_cons_zero, List.set_cons_succ, i64_w, i32_w]
       rfl
      refine pQ 13 36 22 16383 ?_
      refine pQ 14 37 22 32767 ?_
      refine take_ (i := 15) (N := some 38) (v := ?_) (a' := ?_) (bs 22 65535) rfl rfl (take_ofW HT_.out HW_.out zk) (fun _ _ _ h => h) (Or.inl ⟨by rfl, ?_⟩) hHeld ?_ ?_
      rotate_left
      ·rintro w' ⟨s0, s1, s2, s3, s4, s5, s6, s7, s8, s9, s10, s11, s12, s13, s14, s15, s16, s17, s18⟩
       go_simp
       with_reducible rfl
      rotate_left
      ·simp only [Act.put, List.setIfInBounds_toArray, List.set_cons_zero, List.set_cons_succ, i64_w, i32_w]
       rfl
      refine pQ 16 39 22 131071 ?_
      refine pQ 17 40 22 262143 ?_
      refine pQ 18 41 22 524287 ?_
      refine one_ (i := 19) (N := some 42) (bs 22 1048575) rfl rfl (one_of HT_.out zk) (by decide) (fun K hK => ?_)
      refine Kd.R_lit_step (Kd.int .u8) _ 5 ?hg (N := 42) ?hd (xs := ([(Int.tmod (wrap64 (((rd_T48 qB qE).f0) + 256)) 256) % 256, (Int.tmod (wrap64 (((rd_T48 qB qE).f1) + 256)) 256) % 256] : List Int)) (inner := [.int .u8 ((Int.tmod (wrap64 (((rd_T48 qB qE).f0) + 256)) 256) % 256), .int .u8 ((Int.tmod (wrap64 (((rd_T48 qB qE).f1) + 256)) 256) % 256)]) (ok := fun _ => True) (okp := fun _ => True) ?hr ?hp (fun _ hk => hk) trivial (Below.refl _ _) (Nat.le_refl _) (by simp) ?_; (case hd => rfl); (case hg => rfl); (case hr => first | (go_simp; done) | (go_simp; rfl)); (case hp => exact (Reps.one (show Kd.M (Kd.int .u8) _ _ _ ((Int.tmod (wrap64 (((rd_T48 qB qE).f0) + 256)) 256) % 256) [.int .u8 ((Int.tmod (wrap64 (((rd_T48 qB qE).f0) + 256)) 256) % 256)] from rfl) (Reps.one (show Kd.M (Kd.int .u8) _ _ _ ((Int.tmod (wrap64 (((rd_T48 qB qE).f1) + 256)) 256) % 256) [.int .u8 ((Int.tmod (wrap64 (((rd_T48 qB qE).f1) + 256)) 256) % 256)] from rfl) (Reps.none _ _))))
      intro v884 w11 ho12 hb hg_ hnew_
      clear hg_ hnew_
      (first | rw [← Ny883.out] at ho12 | (simp only [Int.reduceToNat] at ho12; rw [← Ny883.out] at ho12))
      have n0_ := aM (Kd.R_elder' (lR qV) (Kd.R_base ho12) hb)
      have n1_ := aM (Kd.R_lower (Kd.R_new' ho12 (Kd.R_lt (lR qV))) (below_size (zB HB)))
      have n2_ := aM (blk_below (g := qC) (lK qA) hb)
      have n3_ := aM (below_step (zB HB) hb)
      clear qV
      clear qA
      clear HB
      have qV := n0_
      have qo := n1_
      have qA := n2_
      have HB := n3_
      clear n0_ n1_ n2_ n3_
      clear hb ho12
      obtain ⟨jo, jp, eo14⟩ := Kd.R_slice qo.out
      (first | subst eo14 | (injection eo14 with f1_ f2_ f3_; have f4_ := f1_.symm; have f5_ := f3_.symm; clear f1_ f2_ f3_; subst f4_; subst f5_))
      refine hK.out _ _ ⟨(blk_cell qA.out 0).trans rfl, (blk_cell qA.out 1).trans rfl, (blk_cell qA.out 2).trans rfl, (blk_cell qA.out 3).trans rfl, (blk_cell qA.out 4).trans rfl, (blk_cell qA.out 5).trans rfl, (blk_cell qA.out 6).trans rfl, (blk_cell qA.out 7).trans rfl, (blk_cell qA.out 8).trans rfl, (blk_cell qA.out 9).trans rfl, (blk_cell qA.out 10).trans rfl, (blk_cell qA.out 11).trans rfl, (blk_cell qA.out 12).trans rfl, (blk_cell qA.out 13).trans rfl, (blk_cell qA.out 14).trans rfl, ((HB.out.cell (World.block_lt_of_cell? w _ hw881_0)).trans hw881_0), ((HB.out.cell (World.block_lt_of_cell? w _ hw881_1)).trans hw881_1), ((HB.out.cell (World.block_lt_of_cell? w _ hw882_0)).trans hw882_0), ((HB.out.cell (World.block_lt_of_cell? w _ hw882_1)).trans hw882_1)⟩ (fun hHeld => ?_)
      clear hK K
      refine norm_ (a' := ?_) ?_ ?_
      rotate_left
      ·show Act.put _ (some 42) _ = _
       simp only [Act.put, List.setIfInBounds_toArray, List.set_cons_zero, List.set_cons_succ, i64_w, i32_w]
       rfl
      refine one_ (i := 20) (N := some 43) (bs 22 2097151) rfl rfl (one_of HT_.out zk) (by decide) (fun K hK => ?_)
      refine Kd.R_append_rows_step (Kd.int .u8) (w0 := w) w.heap.size (by rfl) (.tmp 23) (.tmp 42) 31 5 (.int .u8 0) 1 rfl Try.underlying31 info5 rfl (by decide) (by omega) u3 qb y883 _ _ _ (fun k_ => some k_ ≠ (.slice jo y883.length jp : Value).ownBlock) (fun _ => False) rfl rfl ?aO ?aR (fun _ _ h => h) (fun _ h => h.elim) ?aF ?aB ?aS ?aL ?_
      (case aR => repeat (first | exact (Kd.R_reads' qo.out).2.2 | (with_reducible refine Kd.C_alloc ?_ _) | (with_reducible refine Kd.C_drewN ?_ _) | (with_reducible refine Kd.C_drew ?_)))
      (case aB => exact (zB HB))
      (case aF => exact (fun k_ hk => Kd.fresh' (Kd.R_lt (lR qo)) k_ hk))
      (case aO => exact (by apply rX; exact Kd.R_mono qV.out (fun _ hk => hk.2)))
      (case aS => exact (below_size (zB HB)))
      (case aL => have := LMc8.out; omega)
      intro v887 w13 ho hb hg hat
      rw [← Ny886.out] at ho
      have n0_ := aM (blk_grown (g := qC) (lK qA) hg (Kd.R_ne qV.out qA.out (by decide)))
      have n1_ := aM (Kd.R_after (ok := (fun _ => True)) (lR qo) hg hat)
      have n2_ := aM (hb)
      have n3_ := aM (ho)
      clear qA
      clear qo
      clear HB
      clear qV
      have qA := n0_
      have qo := n1_
      have HB := n2_
      have jm := n3_
      clear n0_ n1_ n2_ n3_
      clear ho hb hg hat
      refine hK.out _ _ ⟨(blk_cell qA.out 0).trans rfl, (blk_cell qA.out 1).trans rfl, (blk_cell qA.out 2).trans rfl, (blk_cell qA.out 3).trans rfl, (blk_cell qA.out 4).trans rfl, (blk_cell qA.out 5).trans rfl, (blk_cell qA.out 6).trans rfl, (blk_cell qA.out 7).trans rfl, (blk_cell qA.out 8).trans rfl, (blk_cell qA.out 9).trans rfl, (blk_cell qA.out 10).trans rfl, (blk_cell qA.out 11).trans rfl, (blk_cell qA.out 12).trans rfl, (blk_cell qA.out 13).trans rfl, (blk_cell qA.out 14).trans rfl, ((HB.out.cell (World.block_lt_of_cell? w _ hw881_0)).trans hw881_0), ((HB.out.cell (World.block_lt_of_cell? w _ hw881_1)).trans hw881_1), ((HB.out.cell (World.block_lt_of_cell? w _ hw882_0)).trans hw882_0), ((HB.out.cell (World.block_lt_of_cell? w _ hw882_1)).trans hw882_1)⟩ (fun hHeld => ?_)
      clear hK K
      refine norm_ (a' := ?_) ?_ ?_
      rotate_left
      ·show Act.put _ (some 43) _ = _
       simp only [Act.put, List.setIfInBounds_toArray, List.set_cons_zero, List.set_cons_succ, i64_w, i32_w]
       rfl
      refine pQ 21 3 22 4194303 ?_
      refine done_ (done_of HT_.out zk) ?_
      try go_wp2
      go_roundg k1
      case measure => have := HK1.out; omega
      case rel => exact ⟨(y886), (wrap64 (qE + 1)), zT, H', ⟨by have := HK1.out; omega⟩, ⟨by apply rX; exact Kd.R_mono jm.out (fun _ hk => trivial)⟩, ⟨zb qA⟩, ⟨zB HB⟩⟩
     ·rw [if_neg c8] at H
      exact absurd H (by simp)
    ·rw [if_neg c7] at H
     exact absurd H (by simp)
   ·rw [if_neg c6] at H
    have c6b0 := decide_eq_false c6
    clear c6
    replace H := Option.bind_eq_some_iff.mp H
    obtain ⟨qO, A150, H⟩ := H
    replace H : (if qb.length + qO.length < 140737488355328 then ((some (qb ++ qO : List Int)).bind fun y892 => ((swageref17_program.f k1 qW qX qR qK).bind fun qJ => (if y892.length + qJ.length < 140737488355328 then ((some (y892 ++ qJ : List Int)).bind fun y898 => ((swageref17_program.f k1 qL qM qH qI).bind fun qG => (if y898.length + qG.length < 140737488355328 then ((some (y898 ++ qG : List Int)).bind fun y904 => ((swageref17_check.f k1 y904).bind fun qS => ((swageref17_two.f qS).bind fun qD => (if y904.length + qD.length < 140737488355328 then (some (y904 ++ qD)) else (none))))) else (none)))) else (none)))) else (none)) = some r := H
    have A15 := aM A150
    clear A150
    by_cases c16 : qb.length + qO.length < 140737488355328
    ·rw [if_pos c16] at H
     have LMc16 := aM c16
     clear c16
     obtain ⟨y892, hy892⟩ : ∃ y_ : List Int, y_ = (qb ++ qO) := ⟨_, rfl⟩
     replace H : ((swageref17_program.f k1 qW qX qR qK).bind fun qJ => (if y892.length + qJ.length < 140737488355328 then ((some (y892 ++ qJ : List Int)).bind fun y898 => ((swageref17_program.f k1 qL qM qH qI).bind fun qG => (if y898.length + qG.length < 140737488355328 then ((some (y898 ++ qG : List Int)).bind fun y904 => ((swageref17_check.f k1 y904).bind fun qS => ((swageref17_two.f qS).bind fun qD => (if y904.length + qD.length < 140737488355328 then (some (y904 ++ qD)) else (none))))) else (none)))) else (none))) = some r := zH hy892 H
     have Ny892 := aM hy892
     clear hy892
     replace H := Option.bind_eq_some_iff.mp H
     obtain ⟨qJ, A170, H⟩ := H
     replace H : (if y892.length + qJ.length < 140737488355328 then ((some (y892 ++ qJ : List Int)).bind fun y898 => ((swageref17_program.f k1 qL qM qH qI).bind fun qG => (if y898.length + qG.length < 140737488355328 then ((some (y898 ++ qG : List Int)).bind fun y904 => ((swageref17_check.f k1 y904).bind fun qS => ((swageref17_two.f qS).bind fun qD => (if y904.length + qD.length < 140737488355328 then (some (y904 ++ qD)) else (none))))) else (none)))) else (none)) = some r := H
     have A17 := aM A170
     clear A170
     by_cases c18 : y892.length + qJ.length < 140737488355328
     ·rw [if_pos c18] at H
      have LMc18 := aM c18
      clear c18
      obtain ⟨y898, hy898⟩ : ∃ y_ : List Int, y_ = (y892 ++ qJ) := ⟨_, rfl⟩
      replace H : ((swageref17_program.f k1 qL qM qH qI).bind fun qG => (if y898.length + qG.length < 140737488355328 then ((some (y898 ++ qG : List Int)).bind fun y904 => ((swageref17_check.f k1 y904).bind fun qS => ((swageref17_two.f qS).bind fun qD => (if y904.length + qD.length < 140737488355328 then (some (y904 ++ qD)) else (none))))) else (none))) = some r := zH hy898 H
      have Ny898 := aM hy898
      clear hy898
      replace H := Option.bind_eq_some_iff.mp H
      obtain ⟨qG, A190, H⟩ := H
      replace H : (if y898.length + qG.length < 140737488355328 then ((some (y898 ++ qG : List Int)).bind fun y904 => ((swageref17_check.f k1 y904).bind fun qS => ((swageref17_two.f qS).bind fun qD => (if y904.length + qD.length < 140737488355328 then (some (y904 ++ qD)) else (none))))) else (none)) = some r := H
      have A19 := aM A190
      clear A190
      by_cases c20 : y898.length + qG.length < 140737488355328
      ·rw [if_pos c20] at H
       have LMc20 := aM c20
       clear c20
       obtain ⟨y904, hy904⟩ : ∃ y_ : List Int, y_ = (y898 ++ qG) := ⟨_, rfl⟩
       replace H : ((swageref17_check.f k1 y904).bind fun qS => ((swageref17_two.f qS).bind fun qD => (if y904.length + qD.length < 140737488355328 then (some (y904 ++ qD)) else (none)))) = some r := zH hy904 H
       have Ny904 := aM hy904
       clear hy904
       replace H := Option.bind_eq_some_iff.mp H
       obtain ⟨qS, A210, H⟩ := H
       replace H : ((swageref17_two.f qS).bind fun qD => (if y904.length + qD.length < 140737488355328 then (some (y904 ++ qD)) else (none))) = some r := H
       have A21 := aM A210
       clear A210
       replace H := Option.bind_eq_some_iff.mp H
       obtain ⟨qD, A220, H⟩ := H
       replace H : (if y904.length + qD.length < 140737488355328 then (some (y904 ++ qD)) else (none)) = some r := H
       have A22 := aM A220
       clear A220
       by_cases c23 : y904.length + qD.length < 140737488355328
       ·rw [if_pos c23] at H
        have LMc23 := aM c23
        clear c23
        obtain ⟨y911, hy911⟩ : ∃ y_ : List Int, y_ = (y904 ++ qD) := ⟨_, rfl⟩
        replace H : (some y911) = some r := zH hy911 H
        have Ny911 := aM hy911
        clear hy911
        obtain rfl := Option.some.inj H
        have jq := zc15 qA.out
        have jr := fun i_ : Nat => blk_frozen qA.out i_
        go_wp2_with (first | ((with_reducible refine gate_callee (f := 42) rfl ?_); refine goesL_ (some 47) rfl rfl Try.func42 zk rfl #[.agg #[.int .i64 qY, .int .i64 qZ, .slice qu qT.length qv, .slice qw qU.length qx]] rfl zA ?_; (with_reducible refine (swageref17_program.calls k1 qY qZ _ _ qT _ _ qU qO _ ?side1 ?side2 ?side3 ?side4 A15.out).mono ?_); (case side1 => refine lY ?_; exact (Kd.C_below jf.out HB.out)); (case side2 => exact jg.out); (case side3 => refine lY ?_; exact (Kd.C_below jh.out HB.out)); (case side4 => exact ji.out); rintro e w25 ⟨v890, rfl, ho0, hb⟩; refine ⟨_, rfl, ?_⟩; have qF := aM (Kd.R_lower (Kd.R_new' ho0 (Kd.R_lt (lR qV))) (below_size (zB HB))); replace qV := aM (Kd.R_elder' (lR qV) (Kd.R_base ho0) hb); replace qA := aM (blk_below (g := qC) (lK qA) hb); replace HB := aM (below_step (zB HB) hb); (try clear hb); (try clear ho0); obtain ⟨qd, qe, eo27⟩ := Kd.R_slice qF.out; subst eo27) | ((with_reducible refine gate_builtin (b := .append) (xs := #[.tmp 44, .tmp 47]) rfl ?_); at_builtin; refine Kd.R_append_rows (Kd.int .u8) (w0 := w) w.heap.size rfl (.tmp 44) (.tmp 47) 31 5 (.int .u8 0) 1 rfl Try.underlying31 info5 rfl (by decide) (by omega) u3 qb qO _ _ _ (fun k_ => some k_ ≠ (.slice qd qO.length qe : Value).ownBlock) (fun _ => False) rfl rfl ?aO ?aR (fun _ _ h => h) (fun _ h => h.elim) ?aF ?aB ?aS ?aL ?_; (case aR => repeat (first | exact (Kd.R_reads' qF.out).2.2 | (with_reducible refine Kd.C_alloc ?_ _) | (with_reducible refine Kd.C_drewN ?_ _) | (with_reducible refine Kd.C_drew ?_))); (case aB => exact (zB HB)); (case aF => exact (fun k_ hk => Kd.fresh' (Kd.R_lt (lR qF)) k_ hk)); (case aO => exact (by apply rX; exact Kd.R_mono qV.out (fun _ hk => hk.2))); (case aS => exact (below_size (zB HB))); (case aL => have := LMc16.out; omega); intro v893 w26 ho hb hg hat; rw [← Ny892.out] at ho; replace qA := aM (blk_grown (g := qC) (lK qA) hg (Kd.R_ne qV.out qA.out (by decide))); replace qF := aM (Kd.R_after (ok := (fun _ => True)) (lR qF) hg hat); replace HB := aM (hb); have qp := aM (ho); clear qV; clear ho hb hg hat; have js := zc15 qA.out; have jt := fun i_ : Nat => blk_frozen qA.out i_) | ((with_reducible refine gate_callee (f := 42) rfl ?_); refine goesL_ (some 52) rfl rfl Try.func42 zk rfl #[.agg #[.int .i64 qW, .int .i64 qX, .slice qy qR.length qz, .slice qi qK.length qj]] rfl zA ?_; (with_reducible refine (swageref17_program.calls k1 qW qX _ _ qR _ _ qK qJ _ ?side1 ?side2 ?side3 ?side4 A17.out).mono ?_); (case side1 => refine lY ?_; exact (Kd.C_below jj.out HB.out)); (case side2 => exact jk.out); (case side3 => refine lY ?_; exact (Kd.C_below jX.out HB.out)); (case side4 => exact jY.out); rintro e w29 ⟨v896, rfl, ho0, hb⟩; refine ⟨_, rfl, ?_⟩; have qN := aM (Kd.R_lower (Kd.R_new' (Kd.R_new' ho0 (Kd.R_lt (lR qF))) (Kd.R_lt (lR qp))) (below_size (zB HB))); replace qF := aM (Kd.R_elder' (lR qF) (Kd.R_base ho0) hb); replace qp := aM (Kd.R_elder' (lR qp) (Kd.R_base ho0) hb); replace qA := aM (blk_below (g := qC) (lK qA) hb); replace HB := aM (below_step (zB HB) hb); (try clear hb); (try clear ho0); obtain ⟨qf, qg, eo31⟩ := Kd.R_slice qN.out; subst eo31) | ((with_reducible refine gate_builtin (b := .append) (xs := #[.tmp 49, .tmp 52]) rfl ?_); at_builtin; refine Kd.R_append_rows (Kd.int .u8) (w0 := w) w.heap.size rfl (.tmp 49) (.tmp 52) 31 5 (.int .u8 0) 1 rfl Try.underlying31 info5 rfl (by decide) (by omega) v893 y892 qJ _ _ _ (fun k_ => some k_ ≠ (.slice qd qO.length qe : Value).ownBlock ∧ some k_ ≠ (.slice qf qJ.length qg : Value).ownBlock) (fun _ => False) rfl rfl ?aO ?aR (fun _ _ h => h) (fun _ h => h.elim) ?aF ?aB ?aS ?aL ?_; (case aR => repeat (first | exact (Kd.R_reads' qN.out).2.2 | (with_reducible refine Kd.C_alloc ?_ _) | (with_reducible refine Kd.C_drewN ?_ _) | (with_reducible refine Kd.C_drew ?_))); (case aB => exact (zB HB)); (case aF => exact (fun k_ hk => ⟨Kd.fresh' (Kd.R_lt (lR qF)) k_ hk, Kd.fresh' (Kd.R_lt (lR qN)) k_ hk⟩)); (case aO => exact (lR qp)); (case aS => exact (below_size (zB HB))); (case aL => have := LMc18.out; omega); intro v899 w30 ho hb hg hat; rw [← Ny898.out] at ho; replace qA := aM (blk_grown (g := qC) (lK qA) hg (Kd.R_ne qp.out qA.out (by decide))); replace qF := aM (Kd.R_after (ok := (fun k_ => some k_ ≠ (.slice qf qJ.length qg : Value).ownBlock)) (by apply rX; exact Kd.R_mono qF.out (fun _ hk => ⟨hk.2, hk.1.2⟩)) hg hat); replace qN := aM (Kd.R_after (ok := (fun k_ => some k_ ≠ (.slice qd qO.length qe : Value).ownBlock)) (by apply rX; exact Kd.R_mono qN.out (fun _ hk => ⟨hk.1.2, hk.2⟩)) hg hat); replace HB := aM (hb); have qq := aM (ho); clear qp; clear ho hb hg hat; have ju := zc15 qA.out; have jv := fun i_ : Nat => blk_frozen qA.out i_) | ((with_reducible refine gate_callee (f := 42) rfl ?_); refine goesL_ (some 57) rfl rfl Try.func42 zk rfl #[.agg #[.int .i64 qL, .int .i64 qM, .slice qk qH.length ql, .slice qm qI.length qn]] rfl zA ?_; (with_reducible refine (swageref17_program.calls k1 qL qM _ _ qH _ _ qI qG _ ?side1 ?side2 ?side3 ?side4 A19.out).mono ?_); (case side1 => refine lY ?_; exact (Kd.C_below jZ.out HB.out)); (case side2 => exact ja.out); (case side3 => refine lY ?_; exact (Kd.C_below jb.out HB.out)); (case side4 => exact jc.out); rintro e w33 ⟨v902, rfl, ho0, hb⟩; refine ⟨_, rfl, ?_⟩; have qa := aM (Kd.R_lower (Kd.R_new' (Kd.R_new' (Kd.R_new' ho0 (Kd.R_lt (lR qF))) (Kd.R_lt (lR qN))) (Kd.R_lt (lR qq))) (below_size (zB HB))); replace qF := aM (Kd.R_elder' (lR qF) (Kd.R_base ho0) hb); replace qN := aM (Kd.R_elder' (lR qN) (Kd.R_base ho0) hb); replace qq := aM (Kd.R_elder' (lR qq) (Kd.R_base ho0) hb); replace qA := aM (blk_below (g := qC) (lK qA) hb); replace HB := aM (below_step (zB HB) hb); (try clear hb); (try clear ho0); obtain ⟨qr, qs, eo35⟩ := Kd.R_slice qa.out; subst eo35) | ((with_reducible refine gate_builtin (b := .append) (xs := #[.tmp 54, .tmp 57]) rfl ?_); at_builtin; refine Kd.R_append_rows (Kd.int .u8) (w0 := w) w.heap.size rfl (.tmp 54) (.tmp 57) 31 5 (.int .u8 0) 1 rfl Try.underlying31 info5 rfl (by decide) (by omega) v899 y898 qG _ _ _ (fun k_ => some k_ ≠ (.slice qd qO.length qe : Value).ownBlock ∧ some k_ ≠ (.slice qf qJ.length qg : Value).ownBlock ∧ some k_ ≠ (.slice qr qG.length qs : Value).ownBlock) (fun _ => False) rfl rfl ?aO ?aR (fun _ _ h => h) (fun _ h => h.elim) ?aF ?aB ?aS ?aL ?_; (case aR => repeat (first | exact (Kd.R_reads' qa.out).2.2 | (with_reducible refine Kd.C_alloc ?_ _) | (with_reducible refine Kd.C_drewN ?_ _) | (with_reducible refine Kd.C_drew ?_))); (case aB => exact (zB HB)); (case aF => exact (fun k_ hk => ⟨Kd.fresh' (Kd.R_lt (lR qF)) k_ hk, Kd.fresh' (Kd.R_lt (lR qN)) k_ hk, Kd.fresh' (Kd.R_lt (lR qa)) k_ hk⟩)); (case aO => exact (by apply rX; exact Kd.R_mono qq.out (fun _ hk => ⟨hk.1.1, ⟨hk.1.2, hk.2⟩⟩))); (case aS => exact (below_size (zB HB))); (case aL => have := LMc20.out; omega); intro v905 w34 ho hb hg hat; rw [← Ny904.out] at ho; replace qA := aM (blk_grown (g := qC) (lK qA) hg (Kd.R_ne qq.out qA.out (by decide))); replace qF := aM (Kd.R_after (ok := (fun k_ => some k_ ≠ (.slice qf qJ.length qg : Value).ownBlock ∧ some k_ ≠ (.slice qr qG.length qs : Value).ownBlock)) (by apply rX; exact Kd.R_mono qF.out (fun _ hk => ⟨⟨hk.1.1, hk.2⟩, hk.1.2⟩)) hg hat); replace qN := aM (Kd.R_after (ok := (fun k_ => some k_ ≠ (.slice qd qO.length qe : Value).ownBlock ∧ some k_ ≠ (.slice qr qG.length qs : Value).ownBlock)) (by apply rX; exact Kd.R_mono qN.out (fun _ hk => ⟨⟨hk.1.1, hk.2⟩, hk.1.2⟩)) hg hat); replace qa := aM (Kd.R_after (ok := (fun k_ => some k_ ≠ (.slice qd qO.length qe : Value).ownBlock ∧ some k_ ≠ (.slice qf qJ.length qg : Value).ownBlock)) (by apply rX; exact Kd.R_mono qa.out (fun _ hk => ⟨⟨hk.1.1.2, hk.1.2⟩, hk.2⟩)) hg hat); replace HB := aM (hb); have qc := aM (ho); clear qq; clear ho hb hg hat; obtain ⟨jd, je, eo36⟩ := Kd.R_slice qc.out; subst eo36) | ((with_reducible refine gate_callee (f := 44) rfl ?_); refine goesL_ (some 61) rfl rfl Try.func44 zk rfl #[.slice jd y904.length je] rfl zA ?_; (with_reducible refine (swageref17_check.calls k1 _ _ y904 qS _ ?side1 ?side2 A21.out).mono ?_); (case side1 => refine lY ?_; exact (Kd.R_reads' qc.out).2.2); (case side2 => exact (Kd.R_reads' qc.out).2.1); rintro e w' ⟨rfl, ⟨nd, rfl⟩⟩; refine ⟨_, rfl, ?_⟩) | ((with_reducible refine gate_callee (f := 43) rfl ?_); refine goesL_ (some 62) rfl rfl Try.func43 zk rfl #[.int .i64 qS] rfl zA ?_; (with_reducible refine (swageref17_two.calls qS qD _ A22.out).mono ?_); rintro e w37 ⟨v909, rfl, ho0, hb⟩; refine ⟨_, rfl, ?_⟩; have qt := aM (Kd.R_lower (Kd.R_new' (Kd.R_new' (Kd.R_new' (Kd.R_new' ho0 (Kd.R_lt (lR qF))) (Kd.R_lt (lR qN))) (Kd.R_lt (lR qa))) (Kd.R_lt (lR qc))) (below_size (zB HB))); replace qF := aM (Kd.R_elder' (lR qF) (Kd.R_base ho0) hb); replace qN := aM (Kd.R_elder' (lR qN) (Kd.R_base ho0) hb); replace qa := aM (Kd.R_elder' (lR qa) (Kd.R_base ho0) hb); replace qc := aM (Kd.R_elder' (lR qc) (Kd.R_base ho0) hb); replace qA := aM (blk_below (g := qC) (lK qA) hb); replace HB := aM (below_step (zB HB) hb); (try clear hb); (try clear ho0); obtain ⟨jE, jF, eo39⟩ := Kd.R_slice qt.out; subst eo39) | ((with_reducible refine gate_builtin (b := .append) (xs := #[.tmp 59, .tmp 62]) rfl ?_); at_builtin; refine Kd.R_append_rows (Kd.int .u8) (w0 := w) w.heap.size rfl (.tmp 59) (.tmp 62) 31 5 (.int .u8 0) 1 rfl Try.underlying31 info5 rfl (by decide) (by omega) (.slice jd y904.length je) y904 qD _ _ _ (fun k_ => some k_ ≠ (.slice qd qO.length qe : Value).ownBlock ∧ some k_ ≠ (.slice qf qJ.length qg : Value).ownBlock ∧ some k_ ≠ (.slice qr qG.length qs : Value).ownBlock ∧ some k_ ≠ (.slice jE qD.length jF : Value).ownBlock) (fun _ => False) rfl rfl ?aO ?aR (fun _ _ h => h) (fun _ h => h.elim) ?aF ?aB ?aS ?aL ?_; (case aR => repeat (first | exact (Kd.R_reads' qt.out).2.2 | (with_reducible refine Kd.C_alloc ?_ _) | (with_reducible refine Kd.C_drewN ?_ _) | (with_reducible refine Kd.C_drew ?_))); (case aB => exact (zB HB)); (case aF => exact (fun k_ hk => ⟨Kd.fresh' (Kd.R_lt (lR qF)) k_ hk, Kd.fresh' (Kd.R_lt (lR qN)) k_ hk, Kd.fresh' (Kd.R_lt (lR qa)) k_ hk, Kd.fresh' (Kd.R_lt (lR qt)) k_ hk⟩)); (case aO => exact (by apply rX; exact Kd.R_mono qc.out (fun _ hk => ⟨hk.1.1, ⟨hk.1.2.1, ⟨hk.1.2.2, hk.2⟩⟩⟩))); (case aS => exact (below_size (zB HB))); (case aL => have := LMc23.out; omega); intro v912 w38 ho hb hg hat; rw [← Ny911.out] at ho; replace qA := aM (blk_grown (g := qC) (lK qA) hg (Kd.R_ne qc.out qA.out (by decide))); replace qF := aM (Kd.R_after (ok := (fun k_ => some k_ ≠ (.slice qf qJ.length qg : Value).ownBlock ∧ some k_ ≠ (.slice qr qG.length qs : Value).ownBlock ∧ some k_ ≠ (.slice jE qD.length jF : Value).ownBlock)) (by apply rX; exact Kd.R_mono qF.out (fun _ hk => ⟨⟨hk.1.1.1, ⟨hk.1.1.2, hk.2⟩⟩, hk.1.2⟩)) hg hat); replace qN := aM (Kd.R_after (ok := (fun k_ => some k_ ≠ (.slice qd qO.length qe : Value).ownBlock ∧ some k_ ≠ (.slice qr qG.length qs : Value).ownBlock ∧ some k_ ≠ (.slice jE qD.length jF : Value).ownBlock)) (by apply rX; exact Kd.R_mono qN.out (fun _ hk => ⟨⟨hk.1.1.1, ⟨hk.1.1.2, hk.2⟩⟩, hk.1.2⟩)) hg hat); replace qa := aM (Kd.R_after (ok := (fun k_ => some k_ ≠ (.slice qd qO.length qe : Value).ownBlock ∧ some k_ ≠ (.slice qf qJ.length qg : Value).ownBlock ∧ some k_ ≠ (.slice jE qD.length jF : Value).ownBlock)) (by apply rX; exact Kd.R_mono qa.out (fun _ hk => ⟨⟨hk.1.1.1, ⟨hk.1.1.2, hk.2⟩⟩, hk.1.2⟩)) hg hat); replace qt := aM (Kd.R_after (ok := (fun k_ => some k_ ≠ (.slice qd qO.length qe : Value).ownBlock ∧ some k_ ≠ (.slice qf qJ.length qg : Value).ownBlock ∧ some k_ ≠ (.slice qr qG.length qs : Value).ownBlock)) (by apply rX; exact Kd.R_mono qt.out (fun _ hk => ⟨⟨hk.1.1.1.2, ⟨hk.1.1.2, hk.1.2⟩⟩, hk.2⟩)) hg hat); replace HB := aM (hb); have jn := aM (ho); clear qc; clear ho hb hg hat))
        go_ret
        exact ⟨_, zE, by apply rX; exact Kd.R_mono jn.out (fun _ hk => trivial), zB HB⟩
       ·rw [if_neg c23] at H
        exact absurd H (by simp)
      ·rw [if_neg c20] at H
       exact absurd H (by simp)
     ·rw [if_neg c18] at H
      exact absurd H (by simp)
    ·rw [if_neg c16] at H
     exact absurd H (by simp)

end Go.Proofs.Ytccbdcbeinkjgaa.XA
end
