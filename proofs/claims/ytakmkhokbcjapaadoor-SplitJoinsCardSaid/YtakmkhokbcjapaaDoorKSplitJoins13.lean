/- Part 13 of the proof of the law SplitJoins for every input: words, walks and plain laws. No condition. -/
import Derived.DataReads
import Derived.ChangeArms
import Derived.SizedLaws
import Derived.WideShapes
import Derived.ChangeSlices
import Derived.RowKit
import Derived.Test.YtakmkhokbcjapaaDoorKSplitJoins12
set_option linter.unusedVariables false
set_option linter.unusedSimpArgs false
set_option maxHeartbeats 8000000
set_option maxRecDepth 100000
section
namespace Go.Proofs.YtakmkhokbcjapaaDoor.XA
open Go.Proofs.YtakmkhokbcjapaaDoor.Lift Go.RowKit Go.Proofs.YtakmkhokbcjapaaDoorW.PrintWords Go.Proofs.YtakmkhokbcjapaaDoorW.PrintLast Go.Proofs.YtakmkhokbcjapaaDoorW.PrintMore
attribute [local go_sem] max2_int min2_int max_two min_two max_three min_three max_four min_four
mutual
def swagelaw21_SplitJoins.l0 : Nat → List (List Int) → Int → Int → Int → List (List Int) → Int → Int → Option (Bool)
 | 0, _, _, _, _, _, _, _ => none
 | k + 1, x0, x1, x2, x7, x20, x21, x22 => if x22 < x21 then (if 0 ≤ x22 then (if x22 < (x20.length : Int) then (swagelaw21_SplitJoins.l0 k x0 x1 x2 (wrap64 (x7 + ((rd_L10 x20 x22).length : Int))) x20 x21 (wrap64 (x22 + 1))) else (none)) else (none)) else (if x7 > 400 then (swagelaw21_SplitJoins.j1 k x0 x1 x2 true) else (swagelaw21_SplitJoins.j1 k x0 x1 x2 (decide (100 < x0.length))))
def swagelaw21_SplitJoins.j1 : Nat → List (List Int) → Int → Int → Bool → Option (Bool)
 | 0, _, _, _, _ => none
 | k + 1, x0, x1, x2, x37 => if x37 = true then (some true) else (swagelaw21_SplitJoins.l1 k x0 x1 x2 ([] : List (List (S39))) ([] : List (List (S68))) x0 (x0.length : Int) 0)
def swagelaw21_SplitJoins.l1 : Nat → List (List Int) → Int → Int → List (List (S39)) → List (List (S68)) → List (List Int) → Int → Int → Option (Bool)
 | 0, _, _, _, _, _, _, _, _ => none
 | k + 1, x0, x1, x2, x10, x11, x38, x39, x40 => if x40 < x39 then (if 0 ≤ x40 then (if x40 < (x38.length : Int) then ((swagelaw21_list.f k (rd_L10 x38 x40)).bind fun qO => (if x10.length < 5864062014805 then ((swagelaw21_ref.f k (rd_L10 x38 x40)).bind fun qK => (if x11.length < 5864062014805 then (swagelaw21_SplitJoins.l1 k x0 x1 x2 (x10 ++ [qO]) (x11 ++ [qK]) x38 x39 (wrap64 (x40 + 1))) else (none))) else (none))) else (none)) else (none)) else ((split_Join.f k x10 x1 x2).bind fun bt547 => (if x1 < 1 then (swagelaw21_SplitJoins.j3 k x0 x1 x2 x10 x11 bt547.1 bt547.2 true) else (if x1 > 4096 then (swagelaw21_SplitJoins.j3 k x0 x1 x2 x10 x11 bt547.1 bt547.2 true) else (if x2 < 0 then (swagelaw21_SplitJoins.j3 k x0 x1 x2 x10 x11 bt547.1 bt547.2 true) else (swagelaw21_SplitJoins.j3 k x0 x1 x2 x10 x11 bt547.1 bt547.2 (decide (x2 > 8192)))))))
def swagelaw21_SplitJoins.j3 : Nat → List (List Int) → Int → Int → List (List (S39)) → List (List (S68)) → List (S39) → Int → Bool → Option (Bool)
 | 0, _, _, _, _, _, _, _, _ => none
 | k + 1, x0, x1, x2, x10, x11, x14, x15, x62 => if x62 = true then (if (x14.length : Int) = 0 then (some (x15 == 2)) else (some false)) else (if (x0.length : Int) > 15 then (if (x14.length : Int) = 0 then (some (x15 == 3)) else (some false)) else ((swageref21_Join.f k x11 x1 x2).bind fun bt551 => (if bt551.2 = true then (if x15 = 0 then ((swagelaw21_is.f k x14 bt551.1).bind fun qM => (if qM = true then (if (((x14.length : Int) == 0) == (x2 == 0)) = true then ((swageref20_Poly.f k x10 x11).bind fun qI => (some qI)) else (some false)) else (some false))) else (some false)) else (if (x14.length : Int) = 0 then (some (x15 == 5)) else (some false)))))
end
def swagelaw21_SplitJoins.f (k : Nat) (l0 : List (List Int)) (a1 : Int) (a2 : Int) : Option (Bool) := (swagelaw21_works.f k).bind fun qS => (if qS = true then (swagelaw21_SplitJoins.l0 k l0 a1 a2 0 l0 (l0.length : Int) 0) else (some false))
theorem swagelaw21_SplitJoins.calls (k : Nat) (A0 : Option Addr) (c0 : Nat) (l0 : List (List Int)) (a1 : Int) (a2 : Int) (r : Bool) (w : World) (hr0 : Kd.C (Kd.slice 2 (Kd.int .i64)) w A0 l0.length l0) (hc0 : l0.length ≤ c0) (hT : Aside0 (r = true)) (h : swagelaw21_SplitJoins.f k l0 a1 a2 = some r) :
  Calls Tryd.prog 4 #[.slice A0 l0.length c0, .int .i64 a1, .int .i64 a2] w fun e w' => e = .returned (.bool r) ∧ Below w.heap.size w w' := by
 have HR0 := aM hr0
 have HC0 := aM hc0
 clear hr0 hc0
 have HB := aM (Below.refl w.heap.size w)
 have H : ((swagelaw21_works.f k).bind fun qS => (if qS = true then (swagelaw21_SplitJoins.l0 k l0 a1 a2 0 l0 (l0.length : Int) 0) else (some false))) = some r := h
 clear h
 replace H := zbs H
 obtain ⟨qS, A40, H⟩ := H
 replace H : (if qS = true then (swagelaw21_SplitJoins.l0 k l0 a1 a2 0 l0 (l0.length : Int) 0) else (some false)) = some r := H
 have A4 := aM A40
 clear A40
 by_cases c5 : qS = true
 ·subst c5
  have H1 : (swagelaw21_SplitJoins.l0 k l0 a1 a2 0 l0 (l0.length : Int) 0) = some r := by rw [if_pos rfl] at H; exact H
  clear H
  have H := H1
  clear H1
  have H' := aM H
  clear H
  go_enter Tryd.func4, Tryd.ntmps4
  go_wp2_with (first | ((with_reducible refine gate_callee (f := 10) rfl ?_); refine z13_ (some 18) rfl rfl Tryd.func10 zk rfl #[] rfl zA ?_; (with_reducible refine (swagelaw21_works.calls k  true _ A4.out).mono ?_); rintro e w6 ⟨rfl, hb⟩; refine ⟨_, rfl, ?_⟩; replace HB := aM (z6_ (lB HB) hb); (try clear hb)))
  go_loopg [7, 22] k (fun kq v7 v22 w' => ∃ (qX : Int) (qJ : Int), v7 = .int .i64 qX ∧ v22 = .int .i64 qJ ∧ Aside0 (swagelaw21_SplitJoins.l0 kq l0 a1 a2 qX l0 (l0.length : Int) qJ = some r) ∧ Aside0 (kq ≤ k) ∧ Aside0 (Below w.heap.size w w'))
  case atStart => exact ⟨(0), (0), zT, zT, H', ⟨Nat.le_refl _⟩, ⟨zB HB⟩⟩
  case round =>
   clear H'
   try clear c5
   obtain ⟨qX, qJ, rfl, rfl, HA, HK1, HB⟩ := hrel
   cases gk with
   | zero => exact absurd HA.out (by simp [swagelaw21_SplitJoins.l0])
   | succ k1 =>
    have H := HA.out
    clear HA
    simp only [swagelaw21_SplitJoins.l0] at H
    by_cases c7 : qJ < (l0.length : Int)
    ·rw [if_pos c7] at H
     have c7b0 := decide_eq_true c7
     clear c7
     by_cases c8 : 0 ≤ qJ
     ·rw [if_pos c8] at H
      have c8b0 := decide_eq_true c8
      clear c8
      by_cases c9 : qJ < (l0.length : Int)
      ·rw [if_pos c9] at H
       have c9b0 := decide_eq_true c9
       clear c9
       have H' := aM H
       clear H
       have p533 : 0 ≤ (qJ : Int) := of_decide_eq_true za
       have q533 : qJ < (l0.length : Int) := of_decide_eq_true za
       obtain ⟨ad533, qr, qs, e533, hx533_0, hl533_0, hi533_0⟩ := at_L10 HR0.out qJ p533 q533
       cases e533
       replace hx533_0 := (HB.out.cell (World.block_lt_of_cell? w _ hx533_0)).trans hx533_0
       have qp := aM hi533_0
       have qq := aM hl533_0
       clear hi533_0 hl533_0
       replace p533 := eq_true p533
       replace q533 := eq_true q533
       go_wp2
       go_roundg k1
       case measure => have := HK1.out; omega
       case rel => exact ⟨(wrap64 (qX + ((rd_L10 l0 qJ).length : Int))), (wrap64 (qJ + 1)), zT, zT, H', ⟨by have := HK1.out; omega⟩, ⟨zB HB⟩⟩
      ·rw [if_neg c9] at H
       exact absurd H (by simp)
     ·rw [if_neg c8] at H
      exact absurd H (by simp)
    ·rw [if_neg c7] at H
     have c7b0 := decide_eq_false c7
     clear c7
     have qd := aM H
     clear H
     go_upto_region 9 with (fail)
     go_cut [37] (fun v37 wc => ∃ (kq : Nat) (qT : Bool), v37 = .bool qT ∧ Aside0 (swagelaw21_SplitJoins.j1 kq l0 a1 a2 qT = some r) ∧ Aside0 (kq ≤ k1) ∧ Aside0 (Below w.heap.size w wc))
     case first =>
      have H := qd.out
      clear qd
      by_cases c11 : qX > 400
      ·rw [if_pos c11] at H
       have c11b0 := decide_eq_true c11
       clear c11
       (first | rw [c11b0] | (simp only [i64_w, i32_w]; rw [c11b0]) | skip)
       have H' := aM H
       clear H
       go_wp2
       go_meet
       case rel => exact ⟨_, (true), zT, H', ⟨by have := HK1.out; first | omega | exact Nat.le_refl _⟩, ⟨zB HB⟩⟩
      ·rw [if_neg c11] at H
       have c11b0 := decide_eq_false c11
       clear c11
       (first | rw [c11b0] | (simp only [i64_w, i32_w]; rw [c11b0]) | skip)
       have H' := aM H
       clear H
       go_wp2
       go_meet
       case rel => exact ⟨_, (decide (100 < l0.length)), (by first | rfl | (simp; done) | (simp [*]; done) | (simp; omega)), H', ⟨by have := HK1.out; first | omega | exact Nat.le_refl _⟩, ⟨zB HB⟩⟩
     case rest =>
      clear qd
      try clear c5
      try clear c7
      obtain ⟨kq, qT, rfl, HA, HJ9, HB⟩ := hcut
      cases kq with
      | zero => exact absurd HA.out (by simp [swagelaw21_SplitJoins.j1])
      | succ kj9 =>
       have H := HA.out
       clear HA
       simp only [swagelaw21_SplitJoins.j1] at H
       by_cases c12 : qT = true
       ·subst c12
        have H1 : (some true) = some r := by rw [if_pos rfl] at H; exact H
        clear H
        have H := H1
        clear H1
        obtain rfl := Option.some.inj H
        go_wp2
        go_ret
        exact ⟨zE, zB HB⟩
       ·replace c12 := Bool.eq_false_iff.mpr c12
        subst c12
        have H1 : (swagelaw21_SplitJoins.l1 kj9 l0 a1 a2 ([] : List (List (S39))) ([] : List (List (S68))) l0 (l0.length : Int) 0) = some r := by rw [if_neg (show ¬ (false = true) by decide)] at H; exact H
        clear H
        have H := H1
        clear H1
        have H' := aM H
        clear H
        go_wp2
        go_loopg [10, 11, 40] kj9 (fun kq v10 v11 v40 w' => ∃ (qD : List (List (S39))) (qC : List (List (S68))) (qF : Int), v40 = .int .i64 qF ∧ Aside0 (swagelaw21_SplitJoins.l1 kq l0 a1 a2 qD qC l0 (l0.length : Int) qF = some r) ∧ Aside0 (kq ≤ kj9) ∧ Aside0 (Kd.N (Kd.slice 39 k39) 24 w' w.heap.size (fun k_ => some k_ ≠ (v11 : Value).ownBlock) v10 qD) ∧ Aside0 (Kd.N (Kd.slice 68 k68) 33 w' w.heap.size (fun k_ => some k_ ≠ (v10 : Value).ownBlock) v11 qC) ∧ Aside0 (Below w.heap.size w w'))
        case atStart => exact ⟨(([] : List (List (S39)))), (([] : List (List (S68)))), (0), zT, H', ⟨Nat.le_refl _⟩, ⟨zn⟩, ⟨zn⟩, ⟨zB HB⟩⟩
        case round =>
         clear H'
         try clear c5
         try clear c7
         try clear c12
         obtain ⟨qD, qC, qF, rfl, HA, HK3, qE, qB, HB⟩ := hrel
         cases gk with
         | zero => exact absurd HA.out (by simp [swagelaw21_SplitJoins.l1])
         | succ k3 =>
          have H := HA.out
          clear HA
          simp only [swagelaw21_SplitJoins.l1] at H
          by_cases c13 : qF < (l0.length : Int)
          ·rw [if_pos c13] at H
           have c13b0 := decide_eq_true c13
           clear c13
           by_cases c14 : 0 ≤ qF
           ·rw [if_pos c14] at H
            have c14b0 := decide_eq_true c14
            clear c14
            by_cases c15 : qF < (l0.length : Int)
            ·rw [if_pos c15] at H
             have c15b0 := decide_eq_true c15
             clear c15
             replace H := zbs H
             obtain ⟨qO, A160, H⟩ := H
             replace H : (if qD.length < 5864062014805 then ((swagelaw21_ref.f k3 (rd_L10 l0 qF)).bind fun qK => (if qC.length < 5864062014805 then (swagelaw21_SplitJoins.l1 k3 l0 a1 a2 (qD ++ [qO]) (qC ++ [qK]) l0 (l0.length : Int) (wrap64 (qF + 1))) else (none))) else (none)) = some r := H
             have A16 := aM A160
             clear A160
             by_cases c17 : qD.length < 5864062014805
             ·rw [if_pos c17] at H
              have LMc17 := aM c17
              clear c17
              obtain ⟨y538, hy538⟩ : ∃ y_ : List (List (S39)), y_ = (qD ++ [qO]) := ⟨_, rfl⟩
              replace H : ((swagelaw21_ref.f k3 (rd_L10 l0 qF)).bind fun qK => (if qC.length < 5864062014805 then (swagelaw21_SplitJoins.l1 k3 l0 a1 a2 y538 (qC ++ [qK]) l0 (l0.length : Int) (wrap64 (qF + 1))) else (none))) = some r := zH hy538 H
              have Ny538 := aM hy538
              clear hy538
              replace H := zbs H
              obtain ⟨qK, A180, H⟩ := H
              replace H : (if qC.length < 5864062014805 then (swagelaw21_SplitJoins.l1 k3 l0 a1 a2 y538 (qC ++ [qK]) l0 (l0.length : Int) (wrap64 (qF + 1))) else (none)) = some r := H
              have A18 := aM A180
              clear A180
              by_cases c19 : qC.length < 5864062014805
              ·rw [if_pos c19] at H
               have LMc19 := aM c19
               clear c19
               obtain ⟨y544, hy544⟩ : ∃ y_ : List (List (S68)), y_ = (qC ++ [qK]) := ⟨_, rfl⟩
               replace H : (swagelaw21_SplitJoins.l1 k3 l0 a1 a2 y538 y544 l0 (l0.length : Int) (wrap64 (qF + 1))) = some r := zH hy544 H
               have Ny544 := aM hy544
               clear hy544
               have H' := aM H
               clear H
               have p534 : 0 ≤ (qF : Int) := of_decide_eq_true za
               have q534 : qF < (l0.length : Int) := of_decide_eq_true za
               obtain ⟨ad534, qb, qc, e534, hx534_0, hl534_0, hi534_0⟩ := at_L10 HR0.out qF p534 q534
               cases e534
               replace hx534_0 := (HB.out.cell (World.block_lt_of_cell? w _ hx534_0)).trans hx534_0
               have qZ := aM hi534_0
               have qa := aM hl534_0
               clear hi534_0 hl534_0
               replace p534 := eq_true p534
               replace q534 := eq_true q534
               go_wp2_with (first | ((with_reducible refine gate_callee (f := 11) rfl ?_); refine z13_ (some 46) rfl rfl Tryd.func11 zk rfl #[.slice qb (rd_L10 l0 qF).length qc] rfl zA ?_; (with_reducible refine (swagelaw21_list.calls k3 _ _ (rd_L10 l0 qF) qO _ ?side1 ?side2 A16.out).mono ?_); (case side1 => refine lY ?_; exact (Kd.z8_ qZ.out HB.out)); (case side2 => exact qa.out); rintro e w20 ⟨v536, rfl, ho0, hb⟩; refine ⟨_, rfl, ?_⟩; have qU := aM (Kd.N_lower (Kd.N_mono (ok' := fun k_ => some k_ ≠ (u10 : Value).ownBlock ∧ some k_ ≠ (u11 : Value).ownBlock) ho0 (fun k_ hk_ => ⟨(Kd.fresh' (Kd.N_lt (lN qE)) k_ hk_), (Kd.fresh' (Kd.N_lt (lN qB)) k_ hk_)⟩)) (z4_ (lB HB))); replace qE := aM (Kd.N_elder' (lN qE) (Kd.N_base ho0) hb); replace qB := aM (Kd.N_elder' (lN qB) (Kd.N_base ho0) hb); replace HB := aM (z6_ (lB HB) hb); (try clear hb); (try clear ho0); obtain ⟨qf, qg, eo22⟩ := Kd.N_slice qU.out; subst eo22) | ((with_reducible refine gate_builtin (b := .append) (xs := #[.tmp 44, .tmp 47]) rfl ?_); (try (refine gate_guard (by rfl) ?_; dsimp only)); at_builtin; refine Kd.N_append (Kd.slice 39 k39) (w0 := w) w.heap.size rfl (.tmp 44) (.tmp 47) 26 24 (.slice none 0 0) 24 rfl Tryd.underlying26 info24 rfl (by decide) (by omega) u10 qD qO [.slice qf qO.length qg] (fun k_ => some k_ ≠ (u11 : Value).ownBlock) (fun k_ => ((fun k_ => some k_ ≠ (u11 : Value).ownBlock)) k_ ∧ some k_ ≠ (u10 : Value).ownBlock) rfl rfl ?aP (fun _ hk => hk) ?aF ?aO ?aB ?aS ?aL ?_; (case aP => exact (Kd.FK_slice_mk (Kd.N_reads' (Kd.N_mono (ok' := (fun k_ => ((fun k_ => some k_ ≠ (u11 : Value).ownBlock)) k_ ∧ some k_ ≠ (u10 : Value).ownBlock)) (qU.out) (fun k_ hk => ⟨hk.2, hk.1⟩))).2.1 (Kd.N_F (Kd.N_mono (ok' := (fun k_ => ((fun k_ => some k_ ≠ (u11 : Value).ownBlock)) k_ ∧ some k_ ≠ (u10 : Value).ownBlock)) (qU.out) (fun k_ hk => ⟨hk.2, hk.1⟩))))); (case aB => exact (lB HB)); (case aF => exact (fun k_ hk => Kd.fresh' (Kd.N_lt (lN qB)) k_ hk)); (case aO => exact (by (with_reducible repeat (first | apply Kd.N_alloc | apply Kd.N_drewN | apply Kd.N_drew)); exact Kd.N_mono qE.out (fun _ hk => hk.1))); (case aS => exact (z4_ (lB HB))); (case aL => have := LMc17.out; omega); intro v539 w21 ho hb hg hat; rw [← Ny538.out] at ho; replace qB := aM (Kd.N_afterv (ok := (fun k_ => some k_ ≠ (.slice qf qO.length qg : Value).ownBlock)) (by (with_reducible repeat (first | apply Kd.N_alloc | apply Kd.N_drewN | apply Kd.N_drew)); exact Kd.N_mono qB.out (fun _ hk => ⟨hk.2, hk.1⟩)) hg hat); replace HB := aM (hb); have qN := aM (ho); clear qE qU; clear ho hb hg hat) | ((with_reducible refine gate_callee (f := 15) rfl ?_); refine z13_ (some 51) rfl rfl Tryd.func15 zk rfl #[.slice qb (rd_L10 l0 qF).length qc] rfl zA ?_; (with_reducible refine (swagelaw21_ref.calls k3 _ _ (rd_L10 l0 qF) qK _ ?side1 ?side2 A18.out).mono ?_); (case side1 => refine lY ?_; exact (Kd.z8_ qZ.out HB.out)); (case side2 => exact qa.out); rintro e w23 ⟨v542, rfl, ho0, hb⟩; refine ⟨_, rfl, ?_⟩; have qV := aM (Kd.N_lower (Kd.N_mono (ok' := fun k_ => some k_ ≠ (u11 : Value).ownBlock ∧ some k_ ≠ (v539 : Value).ownBlock) ho0 (fun k_ hk_ => ⟨(Kd.fresh' (Kd.N_lt (lN qB)) k_ hk_), (Kd.fresh' (Kd.N_lt (lN qN)) k_ hk_)⟩)) (z4_ (lB HB))); replace qB := aM (Kd.N_elder' (lN qB) (Kd.N_base ho0) hb); replace qN := aM (Kd.N_elder' (lN qN) (Kd.N_base ho0) hb); replace HB := aM (z6_ (lB HB) hb); (try clear hb); (try clear ho0); obtain ⟨qh, qi, eo25⟩ := Kd.N_slice qV.out; subst eo25) | ((with_reducible refine gate_builtin (b := .append) (xs := #[.tmp 49, .tmp 52]) rfl ?_); (try (refine gate_guard (by rfl) ?_; dsimp only)); at_builtin; refine Kd.N_append (Kd.slice 68 k68) (w0 := w) w.heap.size rfl (.tmp 49) (.tmp 52) 31 33 (.slice none 0 0) 24 rfl Tryd.underlying31 info33 rfl (by decide) (by omega) u11 qC qK [.slice qh qK.length qi] (fun k_ => some k_ ≠ (v539 : Value).ownBlock) (fun k_ => ((fun k_ => some k_ ≠ (v539 : Value).ownBlock)) k_ ∧ some k_ ≠ (u11 : Value).ownBlock) rfl rfl ?aP (fun _ hk => hk) ?aF ?aO ?aB ?aS ?aL ?_; (case aP => exact (Kd.FK_slice_mk (Kd.N_reads' (Kd.N_mono (ok' := (fun k_ => ((fun k_ => some k_ ≠ (v539 : Value).ownBlock)) k_ ∧ some k_ ≠ (u11 : Value).ownBlock)) (qV.out) (fun k_ hk => ⟨hk.2, hk.1⟩))).2.1 (Kd.N_F (Kd.N_mono (ok' := (fun k_ => ((fun k_ => some k_ ≠ (v539 : Value).ownBlock)) k_ ∧ some k_ ≠ (u11 : Value).ownBlock)) (qV.out) (fun k_ hk => ⟨hk.2, hk.1⟩))))); (case aB => exact (lB HB)); (case aF => exact (fun k_ hk => Kd.fresh' (Kd.N_lt (lN qN)) k_ hk)); (case aO => exact (by (with_reducible repeat (first | apply Kd.N_alloc | apply Kd.N_drewN | apply Kd.N_drew)); exact Kd.N_mono qB.out (fun _ hk => hk.1.2))); (case aS => exact (z4_ (lB HB))); (case aL => have := LMc19.out; omega); intro v545 w24 ho hb hg hat; rw [← Ny544.out] at ho; replace qN := aM (Kd.N_afterv (ok := (fun k_ => some k_ ≠ (.slice qh qK.length qi : Value).ownBlock)) (by (with_reducible repeat (first | apply Kd.N_alloc | apply Kd.N_drewN | apply Kd.N_drew)); exact Kd.N_mono qN.out (fun _ hk => ⟨hk.2, hk.1⟩)) hg hat); replace HB := aM (hb); have qo := aM (ho); clear qB qV; clear ho hb hg hat))
               go_roundg k3
               case measure => have := HK1.out; have := HJ9.out; have := HK3.out; omega
               case rel => exact ⟨(y538), (y544), (wrap64 (qF + 1)), zT, H', ⟨by have := HK1.out; have := HJ9.out; have := HK3.out; omega⟩, ⟨by (with_reducible repeat (first | apply Kd.N_alloc | apply Kd.N_drewN | apply Kd.N_drew)); exact Kd.N_mono qN.out (fun _ hk => hk.2)⟩, ⟨by (with_reducible repeat (first | apply Kd.N_alloc | apply Kd.N_drewN | apply Kd.N_drew)); exact qo.out⟩, ⟨zB HB⟩⟩
              ·rw [if_neg c19] at H
               exact absurd H (by simp)
             ·rw [if_neg c17] at H
              exact absurd H (by simp)
            ·rw [if_neg c15] at H
             exact absurd H (by simp)
           ·rw [if_neg c14] at H
            exact absurd H (by simp)
          ·rw [if_neg c13] at H
           have c13b0 := decide_eq_false c13
           clear c13
           replace H := zbs H
           obtain ⟨⟨qA, qG⟩, A260, H⟩ := H
           replace H : (if a1 < 1 then (swagelaw21_SplitJoins.j3 k3 l0 a1 a2 qD qC qA qG true) else (if a1 > 4096 then (swagelaw21_SplitJoins.j3 k3 l0 a1 a2 qD qC qA qG true) else (if a2 < 0 then (swagelaw21_SplitJoins.j3 k3 l0 a1 a2 qD qC qA qG true) else (swagelaw21_SplitJoins.j3 k3 l0 a1 a2 qD qC qA qG (decide (a2 > 8192)))))) = some r := H
           have A26 := aM A260
           clear A260
           have qe := aM H
           clear H
           obtain ⟨qP, qQ, eo28⟩ := Kd.N_slice qE.out
           subst eo28
           go_upto_region 19 with (first | ((with_reducible refine gate_callee (f := 18) rfl ?_); refine z13_ (some 59) rfl rfl Tryd.func18 zk rfl #[.slice qP qD.length qQ, .int .i64 a1, .int .i64 a2] rfl zA ?_; (with_reducible refine (split_Join.calls k3 _ _ qD a1 a2 qA qG _ ?side1 ?side2 A26.out).mono ?_); (case side1 => refine lY ?_; exact (Kd.N_reads' qE.out).2.2); (case side2 => exact (Kd.N_reads' qE.out).2.1); rintro e w29 ⟨v548, rfl, ho0, hb⟩; refine ⟨_, rfl, ?_⟩; have qW := aM (Kd.V_lower (Kd.V_mono (ok' := fun k_ => some k_ ≠ (.slice qP qD.length qQ : Value).ownBlock ∧ some k_ ≠ (u11 : Value).ownBlock) ho0 (fun k_ hk_ => ⟨(Kd.fresh' (Kd.N_lt (lN qE)) k_ hk_), (Kd.fresh' (Kd.N_lt (lN qB)) k_ hk_)⟩)) (z4_ (lB HB))); replace qE := aM (Kd.N_below (lN qE) hb); replace qB := aM (Kd.N_below (lN qB) hb); replace HB := aM (z6_ (lB HB) hb); (try clear hb); (try clear ho0)))
           (try simp only [Act.put, List.setIfInBounds_toArray, List.set_cons_zero, List.set_cons_succ])
           go_cut [62] (fun v62 wc => ∃ (kq : Nat) (qR : Bool), v62 = .bool qR ∧ Aside0 (swagelaw21_SplitJoins.j3 kq l0 a1 a2 qD qC qA qG qR = some r) ∧ Aside0 (kq ≤ k3) ∧ Aside0 (Kd.N (Kd.slice 39 k39) 24 wc w.heap.size (fun k_ => some k_ ≠ (u11 : Value).ownBlock) (.slice qP qD.length qQ) qD) ∧ Aside0 (Kd.N (Kd.slice 68 k68) 33 wc w.heap.size (fun k_ => some k_ ≠ ((.slice qP qD.length qQ) : Value).ownBlock) u11 qC) ∧ Aside0 (Kd.V k39 39 wc w.heap.size (fun k_ => some k_ ≠ ((.slice qP qD.length qQ) : Value).ownBlock ∧ some k_ ≠ (u11 : Value).ownBlock) v548 qA) ∧ Aside0 (Below w.heap.size w wc))
           case first =>
            have H := qe.out
            clear qe
            by_cases c30 : a1 < 1
            ·rw [if_pos c30] at H
             have c30b0 := decide_eq_true c30
             clear c30
             (first | rw [c30b0] | (simp only [i64_w, i32_w]; rw [c30b0]) | skip)
             have H' := aM H
             clear H
             go_wp2
             go_meet
             case rel => exact ⟨_, (true), zT, H', ⟨by have := HK1.out; have := HJ9.out; have := HK3.out; first | omega | exact Nat.le_refl _⟩, ⟨by (with_reducible repeat (first | apply Kd.N_alloc | apply Kd.N_drewN | apply Kd.N_drew)); exact qE.out⟩, ⟨by (with_reducible repeat (first | apply Kd.N_alloc | apply Kd.N_drewN | apply Kd.N_drew)); exact qB.out⟩, ⟨by (with_reducible repeat (first | apply Kd.V_alloc | apply Kd.V_drewN | apply Kd.V_drew)); exact qW.out⟩, ⟨zB HB⟩⟩
            ·rw [if_neg c30] at H
             have c30b0 := decide_eq_false c30
             clear c30
             (first | rw [c30b0] | (simp only [i64_w, i32_w]; rw [c30b0]) | skip)
             by_cases c31 : a1 > 4096
             ·rw [if_pos c31] at H
              have c31b0 := decide_eq_true c31
              clear c31
              have H' := aM H
              clear H
              go_wp2
              go_meet
              case rel => exact ⟨_, (true), zT, H', ⟨by have := HK1.out; have := HJ9.out; have := HK3.out; first | omega | exact Nat.le_refl _⟩, ⟨by (with_reducible repeat (first | apply Kd.N_alloc | apply Kd.N_drewN | apply Kd.N_drew)); exact qE.out⟩, ⟨by (with_reducible repeat (first | apply Kd.N_alloc | apply Kd.N_drewN | apply Kd.N_drew)); exact qB.out⟩, ⟨by (with_reducible repeat (first | apply Kd.V_alloc | apply Kd.V_drewN | apply Kd.V_drew)); exact qW.out⟩, ⟨zB HB⟩⟩
             ·rw [if_neg c31] at H
              have c31b0 := decide_eq_false c31
              clear c31
              by_cases c32 : a2 < 0
              ·rw [if_pos c32] at H
               have c32b0 := decide_eq_true c32
               clear c32
               have H' := aM H
               clear H
               go_wp2
               go_meet
               case rel => exact ⟨_, (true), zT, H', ⟨by have := HK1.out; have := HJ9.out; have := HK3.out; first | omega | exact Nat.le_refl _⟩, ⟨by (with_reducible repeat (first | apply Kd.N_alloc | apply Kd.N_drewN | apply Kd.N_drew)); exact qE.out⟩, ⟨by (with_reducible repeat (first | apply Kd.N_alloc | apply Kd.N_drewN | apply Kd.N_drew)); exact qB.out⟩, ⟨by (with_reducible repeat (first | apply Kd.V_alloc | apply Kd.V_drewN | apply Kd.V_drew)); exact qW.out⟩, ⟨zB HB⟩⟩
              ·rw [if_neg c32] at H
               have c32b0 := decide_eq_false c32
               clear c32
               have H' := aM H
               clear H
               go_wp2
               go_meet
               case rel => exact ⟨_, (decide (a2 > 8192)), (by first | rfl | (simp; done) | (simp [*]; done) | (simp; omega)), H', ⟨by have := HK1.out; have := HJ9.out; have := HK3.out; first | omega | exact Nat.le_refl _⟩, ⟨by (with_reducible repeat (first | apply Kd.N_alloc | apply Kd.N_drewN | apply Kd.N_drew)); exact qE.out⟩, ⟨by (with_reducible repeat (first | apply Kd.N_alloc | apply Kd.N_drewN | apply Kd.N_drew)); exact qB.out⟩, ⟨by (with_reducible repeat (first | apply Kd.V_alloc | apply Kd.V_drewN | apply Kd.V_drew)); exact qW.out⟩, ⟨zB HB⟩⟩
           case rest =>
            clear qe
            try clear c5
            try clear c7
            try clear c12
            try clear c13
            obtain ⟨kq, qR, rfl, HA, HJ26, qE, qB, qH, HB⟩ := hcut
            cases kq with
            | zero => exact absurd HA.out (by simp [swagelaw21_SplitJoins.j3])
            | succ kj26 =>
             have H := HA.out
             clear HA
             simp only [swagelaw21_SplitJoins.j3] at H
             by_cases c33 : qR = true
             ·subst c33
              have H1 : (if (qA.length : Int) = 0 then (some (qG == 2)) else (some false)) = some r := by rw [if_pos rfl] at H; exact H
              clear H
              have H := H1
              clear H1
              by_cases c34 : (qA.length : Int) = 0
              ·rw [if_pos c34] at H
               have c34b0 : ((qA.length : Int) == 0) = true := beq_iff_eq.mpr c34
               have c34b1 : ((qA.length : Int) != 0) = false := bne_eq_false_iff_eq.mpr c34
               clear c34
               obtain rfl := Option.some.inj H
               obtain ⟨qt, qu, eo35⟩ := Kd.V_slice qH.out
               subst eo35
               go_wp2
               go_ret
               exact ⟨zE, zB HB⟩
              ·rw [if_neg c34] at H
               have c34b0 : ((qA.length : Int) == 0) = false := beq_eq_false_iff_ne.mpr c34
               have c34b1 : ((qA.length : Int) != 0) = true := bne_iff_ne.mpr c34
               have c34b2 : ¬ (qA = []) := fun h_ => c34 (by rw [h_]; rfl)
               obtain rfl := Option.some.inj H
               exact absurd hT.out (by simp)
             ·replace c33 := Bool.eq_false_iff.mpr c33
              subst c33
              have H1 : (if (l0.length : Int) > 15 then (if (qA.length : Int) = 0 then (some (qG == 3)) else (some false)) else ((swageref21_Join.f kj26 qC a1 a2).bind fun bt551 => (if bt551.2 = true then (if qG = 0 then ((swagelaw21_is.f kj26 qA bt551.1).bind fun qM => (if qM = true then (if (((qA.length : Int) == 0) == (a2 == 0)) = true then ((swageref20_Poly.f kj26 qD qC).bind fun qI => (some qI)) else (some false)) else (some false))) else (some false)) else (if (qA.length : Int) = 0 then (some (qG == 5)) else (some false))))) = some r := by rw [if_neg (show ¬ (false = true) by decide)] at H; exact H
              clear H
              have H := H1
              clear H1
              by_cases c36 : (l0.length : Int) > 15
              ·rw [if_pos c36] at H
               have c36b0 := decide_eq_true c36
               have c36b1 : decide (15 < l0.length) = true := decide_eq_true (by omega)
               clear c36
               by_cases c37 : (qA.length : Int) = 0
               ·rw [if_pos c37] at H
                have c37b0 : ((qA.length : Int) == 0) = true := beq_iff_eq.mpr c37
                have c37b1 : ((qA.length : Int) != 0) = false := bne_eq_false_iff_eq.mpr c37
                clear c37
                obtain rfl := Option.some.inj H
                obtain ⟨qv, qw, eo38⟩ := Kd.V_slice qH.out
                subst eo38
                go_wp2
                go_ret
                exact ⟨zE, zB HB⟩
               ·rw [if_neg c37] at H
                have c37b0 : ((qA.length : Int) == 0) = false := beq_eq_false_iff_ne.mpr c37
                have c37b1 : ((qA.length : Int) != 0) = true := bne_iff_ne.mpr c37
                have c37b2 : ¬ (qA = []) := fun h_ => c37 (by rw [h_]; rfl)
                obtain rfl := Option.some.inj H
                exact absurd hT.out (by simp)
              ·rw [if_neg c36] at H
               have c36b0 := decide_eq_false c36
               have c36b1 : decide (15 < l0.length) = false := decide_eq_false (by omega)
               clear c36
               replace H := zbs H
               obtain ⟨⟨qY, qj⟩, A390, H⟩ := H
               replace H : (if qj = true then (if qG = 0 then ((swagelaw21_is.f kj26 qA qY).bind fun qM => (if qM = true then (if (((qA.length : Int) == 0) == (a2 == 0)) = true then ((swageref20_Poly.f kj26 qD qC).bind fun qI => (some qI)) else (some false)) else (some false))) else (some false)) else (if (qA.length : Int) = 0 then (some (qG == 5)) else (some false))) = some r := H
               have A39 := aM A390
               clear A390
               by_cases c40 : qj = true
               ·subst c40
                have H1 : (if qG = 0 then ((swagelaw21_is.f kj26 qA qY).bind fun qM => (if qM = true then (if (((qA.length : Int) == 0) == (a2 == 0)) = true then ((swageref20_Poly.f kj26 qD qC).bind fun qI => (some qI)) else (some false)) else (some false))) else (some false)) = some r := by rw [if_pos rfl] at H; exact H
                clear H
                have H := H1
                clear H1
                by_cases c41 : qG = 0
                ·rw [if_pos c41] at H
                 have c41b0 : (qG == 0) = true := beq_iff_eq.mpr c41
                 have c41b1 : (qG != 0) = false := bne_eq_false_iff_eq.mpr c41
                 clear c41
                 replace H := zbs H
                 obtain ⟨qM, A420, H⟩ := H
                 replace H : (if qM = true then (if (((qA.length : Int) == 0) == (a2 == 0)) = true then ((swageref20_Poly.f kj26 qD qC).bind fun qI => (some qI)) else (some false)) else (some false)) = some r := H
                 have A42 := aM A420
                 clear A420
                 by_cases c43 : qM = true
                 ·subst c43
                  have H1 : (if (((qA.length : Int) == 0) == (a2 == 0)) = true then ((swageref20_Poly.f kj26 qD qC).bind fun qI => (some qI)) else (some false)) = some r := by rw [if_pos rfl] at H; exact H
                  clear H
                  have H := H1
                  clear H1
                  by_cases c44 : (((qA.length : Int) == 0) == (a2 == 0)) = true
                  ·rw [if_pos c44] at H
                   have c44b0 : (((qA.length : Int) == 0) == (a2 == 0)) = true := c44
                   (try (have c44b1 : decide (((qA.length : Int) == 0) = (a2 == 0)) = true := by simpa using c44))
                   (try (have c44b2 : (((qA.length : Int) == 0) == (a2 == 0)) = true := by simpa using c44))
                   clear c44
                   replace H := zbs H
                   obtain ⟨qI, A450, H⟩ := H
                   replace H : (some qI) = some r := H
                   have A45 := aM A450
                   clear A450
                   obtain rfl := Option.some.inj H
                   obtain ⟨qk, ql, eo46⟩ := Kd.N_slice qB.out
                   subst eo46
                   go_wp2_with (first | ((with_reducible refine gate_callee (f := 19) rfl ?_); refine z13_ (some 99) rfl rfl Tryd.func19 zk rfl #[.slice qk qC.length ql, .int .i64 a1, .int .i64 a2] rfl zA ?_; (with_reducible refine (swageref21_Join.calls kj26 _ _ qC a1 a2 qY true _ ?side1 ?side2 A39.out).mono ?_); (case side1 => refine lY ?_; exact (Kd.N_reads' qB.out).2.2); (case side2 => exact (Kd.N_reads' qB.out).2.1); rintro e w47 ⟨v552, rfl, ho0, hb⟩; refine ⟨_, rfl, ?_⟩; replace qH := aM (Kd.V_elder' (lV qH) (Kd.N_base ho0) hb); have qL := aM (Kd.N_lower (Kd.N_mono (ok' := fun k_ => some k_ ≠ (.slice qP qD.length qQ : Value).ownBlock ∧ some k_ ≠ (.slice qk qC.length ql : Value).ownBlock) ho0 (fun k_ hk_ => ⟨(Kd.fresh' (Kd.N_lt (lN qE)) k_ hk_), (Kd.fresh' (Kd.N_lt (lN qB)) k_ hk_)⟩)) (z4_ (lB HB))); replace qE := aM (Kd.N_elder' (lN qE) (Kd.N_base ho0) hb); replace qB := aM (Kd.N_elder' (lN qB) (Kd.N_base ho0) hb); replace HB := aM (z6_ (lB HB) hb); (try clear hb); (try clear ho0); obtain ⟨qx, qy, eo48⟩ := Kd.V_slice qH.out; subst eo48; obtain ⟨qz, q0, eo49⟩ := Kd.N_slice qL.out; subst eo49) | (go_at_call 16; (with_reducible refine (swagelaw21_is.calls kj26 _ _ qA _ _ qY true _ ?side1 ?side2 ?side3 ?side4 A42.out).mono ?_); (case side1 => refine lY ?_; exact (Kd.V_reads' qH.out).2.2); (case side2 => exact (Kd.V_reads' qH.out).2.1); (case side3 => refine lY ?_; exact (Kd.N_reads' qL.out).2.2); (case side4 => exact (Kd.N_reads' qL.out).2.1); rintro e w50 ⟨rfl, hb⟩; replace qE := aM (Kd.N_below (lN qE) hb); replace qB := aM (Kd.N_below (lN qB) hb); replace qH := aM (Kd.V_below (lV qH) hb); replace qL := aM (Kd.N_below (lN qL) hb); replace HB := aM (z6_ (lB HB) hb); (try clear hb)) | (go_at_call 13; (with_reducible refine (swageref20_Poly.calls kj26 _ _ qD _ _ qC qI _ ?side1 ?side2 ?side3 ?side4 A45.out).mono ?_); (case side1 => refine lY ?_; exact (Kd.N_reads' qE.out).2.2); (case side2 => exact (Kd.N_reads' qE.out).2.1); (case side3 => refine lY ?_; exact (Kd.N_reads' qB.out).2.2); (case side4 => exact (Kd.N_reads' qB.out).2.1); rintro e w51 ⟨rfl, hb⟩; replace qE := aM (Kd.N_below (lN qE) hb); replace qB := aM (Kd.N_below (lN qB) hb); replace qH := aM (Kd.V_below (lV qH) hb); replace qL := aM (Kd.N_below (lN qL) hb); replace HB := aM (z6_ (lB HB) hb); (try clear hb)))
                   go_ret
                   exact ⟨zE, zB HB⟩
                  ·rw [if_neg c44] at H
                   have c44b0 : (((qA.length : Int) == 0) == (a2 == 0)) = false := by simpa using c44
                   (try (have c44b1 : decide (((qA.length : Int) == 0) = (a2 == 0)) = false := by simpa using c44))
                   (try (have c44b2 : (((qA.length : Int) == 0) == (a2 == 0)) = false := by simpa using c44))
                   (try (have c44b3 : ¬ (((qA.length : Int) == 0) = (a2 == 0)) := by simpa using c44))
                   clear c44
                   obtain rfl := Option.some.inj H
                   exact absurd hT.out (by simp)
                 ·replace c43 := Bool.eq_false_iff.mpr c43
                  subst c43
                  have H1 : (some false) = some r := by rw [if_neg (show ¬ (false = true) by decide)] at H; exact H
                  clear H
                  have H := H1
                  clear H1
                  obtain rfl := Option.some.inj H
                  exact absurd hT.out (by simp)
                ·rw [if_neg c41] at H
                 have c41b0 : (qG == 0) = false := beq_eq_false_iff_ne.mpr c41
                 have c41b1 : (qG != 0) = true := bne_iff_ne.mpr c41
                 obtain rfl := Option.some.inj H
                 exact absurd hT.out (by simp)
               ·replace c40 := Bool.eq_false_iff.mpr c40
                subst c40
                have H1 : (if (qA.length : Int) = 0 then (some (qG == 5)) else (some false)) = some r := by rw [if_neg (show ¬ (false = true) by decide)] at H; exact H
                clear H
                have H := H1
                clear H1
                by_cases c52 : (qA.length : Int) = 0
                ·rw [if_pos c52] at H
                 have c52b0 : ((qA.length : Int) == 0) = true := beq_iff_eq.mpr c52
                 have c52b1 : ((qA.length : Int) != 0) = false := bne_eq_false_iff_eq.mpr c52
                 clear c52
                 obtain rfl := Option.some.inj H
                 obtain ⟨qm, qn, eo53⟩ := Kd.N_slice qB.out
                 subst eo53
                 go_wp2_with (first | ((with_reducible refine gate_callee (f := 19) rfl ?_); refine z13_ (some 99) rfl rfl Tryd.func19 zk rfl #[.slice qm qC.length qn, .int .i64 a1, .int .i64 a2] rfl zA ?_; (with_reducible refine (swageref21_Join.calls kj26 _ _ qC a1 a2 qY false _ ?side1 ?side2 A39.out).mono ?_); (case side1 => refine lY ?_; exact (Kd.N_reads' qB.out).2.2); (case side2 => exact (Kd.N_reads' qB.out).2.1); rintro e w54 ⟨v552, rfl, ho0, hb⟩; refine ⟨_, rfl, ?_⟩; replace qH := aM (Kd.V_elder' (lV qH) (Kd.N_base ho0) hb); have qL := aM (Kd.N_lower (Kd.N_mono (ok' := fun k_ => some k_ ≠ (.slice qP qD.length qQ : Value).ownBlock ∧ some k_ ≠ (.slice qm qC.length qn : Value).ownBlock) ho0 (fun k_ hk_ => ⟨(Kd.fresh' (Kd.N_lt (lN qE)) k_ hk_), (Kd.fresh' (Kd.N_lt (lN qB)) k_ hk_)⟩)) (z4_ (lB HB))); replace qE := aM (Kd.N_elder' (lN qE) (Kd.N_base ho0) hb); replace qB := aM (Kd.N_elder' (lN qB) (Kd.N_base ho0) hb); replace HB := aM (z6_ (lB HB) hb); (try clear hb); (try clear ho0); obtain ⟨q1, q2, eo55⟩ := Kd.V_slice qH.out; subst eo55))
                 go_ret
                 exact ⟨zE, zB HB⟩
                ·rw [if_neg c52] at H
                 have c52b0 : ((qA.length : Int) == 0) = false := beq_eq_false_iff_ne.mpr c52
                 have c52b1 : ((qA.length : Int) != 0) = true := bne_iff_ne.mpr c52
                 have c52b2 : ¬ (qA = []) := fun h_ => c52 (by rw [h_]; rfl)
                 obtain rfl := Option.some.inj H
                 exact absurd hT.out (by simp)
 ·replace c5 := Bool.eq_false_iff.mpr c5
  subst c5
  have H1 : (some false) = some r := by rw [if_neg (show ¬ (false = true) by decide)] at H; exact H
  clear H
  have H := H1
  clear H1
  obtain rfl := Option.some.inj H
  exact absurd hT.out (by simp)
end Go.Proofs.YtakmkhokbcjapaaDoor.XA
end
section
namespace Go.Proofs.YtakmkhokbcjapaaDoor.Opn
open Go.ChangeShapes Go.WideShapes Go.Proofs.YtakmkhokbcjapaaDoorW.PrintWords
structure Opn {α : Type} (P : Program) (t : TypeId) (d : Kd α) (wf : α → Prop) : Prop where
  get : ∀ {H : Type} {enc : TypeId × Value → H} {w : World} {base : Nat} {spare : Nat → Bool} {held : Bool} {fuel : Nat} {cs : List Value} {x : DataW H × List MemPlace},
    DataW.trod enc P w base spare held fuel t cs = some x → (∀ n ∈ DataW.weights P t x.1, n ≤ reachBytes) → ∃ a : α, d.K w a cs ∧ wf a
section
variable {P : Program} {t : TypeId}
theorem opn_int {k : IntKind} (ht : P.underlying t = some (.int k)) : Opn P t (Kd.int k) (fun n => (Lit.int k n).wf = true) :=
  ⟨fun h _ => by
    obtain ⟨n, rfl, rfl, hw⟩ := DataW.trod_int ht h
    exact ⟨n, rfl, hw⟩⟩
theorem choose_list {α : Type} {Q : Nat → α → Prop} : ∀ n : Nat, (∀ i, i < n → ∃ x, Q i x) → ∃ xs : List α, xs.length = n ∧ ∀ i x, xs[i]? = some x → Q i x := by
  intro n h
  induction n with
  | zero => exact ⟨[], rfl, fun i x hx => by simp at hx⟩
  | succ n ih =>
    obtain ⟨xs, hl, hq⟩ := ih (fun i hi => h i (by omega))
    obtain ⟨y, hy⟩ := h n (by omega)
    refine ⟨xs ++ [y], by simp [hl], fun i x hx => ?_⟩
    by_cases hi : i < n
    · rw [List.getElem?_append_left (by omega)] at hx
      exact hq i x hx
    · rw [List.getElem?_append_right (by omega)] at hx
      have : i = n := by
        have := (List.getElem?_eq_some_iff.1 hx).1
        simp at this
        omega
      subst this
      rw [hl, Nat.sub_self] at hx
      simp at hx
      subst hx
      exact hy
theorem opn_slice {α : Type} {e : TypeId} {d : Kd α} {wf : α → Prop} {B : Nat} (ht : P.underlying t = some (.slice e)) (hC : P.cellsOf e = d.sz) (hB : P.bytesOf e = B) (ho : Opn P e d wf) :
    Opn P t (Kd.slice e d) (fun xs => xs.length * B ≤ 140737488351232 ∧ xs.length ≤ 9223372036854775807 ∧ ∀ x ∈ xs, wf x) :=
  ⟨fun {H enc w base spare held fuel cs x} h hz => by
    rcases DataW.trod_slice ht h with ⟨rfl, rfl⟩ | ⟨a, len, cap, elems, rest, n, rfl, rfl, rfl, hb, hl, hm, hlen, hel, _, _⟩
    · refine ⟨[], ⟨none, 0, rfl, by simp, Kd.C_nil d w⟩, by simp⟩
    · have hw : ∀ n ∈ DataW.weightsAll P e (elems.map (·.1)), n ≤ reachBytes := fun n hn => hz n (by simp only [DataW.weights, ht]; exact List.mem_cons_of_mem _ (List.mem_append_left _ hn))
      have hwi : ∀ (i : Nat) (y : DataW H × List MemPlace), elems[i]? = some y → ∀ n ∈ DataW.weights P e y.1, n ≤ reachBytes := by
        have : ∀ (l : List (DataW H)) (d : DataW H), d ∈ l → ∀ n ∈ DataW.weights P e d, n ∈ DataW.weightsAll P e l := by
          intro l
          induction l with
          | nil => intro d hd; simp at hd
          | cons z l ih =>
            intro d hd n hn
            simp only [DataW.weightsAll, List.mem_append]
            rcases List.mem_cons.1 hd with rfl | hd
            · exact Or.inl hn
            · exact Or.inr (ih d hd n hn)
        intro i y hy n hn
        exact hw n (this _ y.1 (List.mem_map.2 ⟨y, List.mem_of_getElem? hy, rfl⟩) n hn)
      have hx : ∀ i, i < len → ∃ x : α, (∃ c, c.length = d.sz ∧ d.K w x c ∧ ∀ j u, c[j]? = some u → w.cell? (a.add (i * d.sz + j)) = some u) ∧ wf x := by
        intro i hi
        have h1 := hel i hi
        rw [List.getElem?_eq_getElem (by omega)] at h1
        obtain ⟨c, hc, hd⟩ := Option.bind_eq_some_iff.1 h1
        obtain ⟨x, hK, hwf⟩ := ho.get hd (hwi i _ (List.getElem?_eq_getElem (by omega)))
        obtain ⟨_, hcl, hcell⟩ := World.cells?_some hc
        refine ⟨x, ⟨c, by rw [hcl, hC], hK, fun j u hj => ?_⟩, hwf⟩
        have hj' : j < P.cellsOf e := by rw [← hcl]; exact (List.getElem?_eq_some_iff.1 hj).1
        rw [← hC, ← add_add, hcell j hj', hj]
      obtain ⟨xs, hxl, hq⟩ := choose_list len hx
      refine ⟨xs, ⟨some a, cap, by rw [hxl], by omega, ?_⟩, ?_, by unfold maxLen at hm; omega, fun x hx => ?_⟩
      · refine ⟨rfl, by unfold maxLen at hm; omega, fun _ => ⟨a, rfl, fun j p hj => ?_⟩⟩
        exact (hq j p hj).1
      · have := hz ((elems.map (·.1)).length + (rest.map (·.1)).length |> (· * P.bytesOf e)) (by simp only [DataW.weights, ht]; exact List.mem_cons_self)
        simp only [List.length_map, hB] at this
        rw [hxl, ← hlen]
        exact Nat.le_trans (Nat.mul_le_mul_right _ (Nat.le_add_right _ _)) this
      · obtain ⟨i, hi⟩ := List.mem_iff_getElem?.1 hx
        exact (hq i x hi).2⟩
structure OpnFs {α : Type} (P : Program) (fs : List Field) (off : Nat) (d : Kd α) (wf : α → Prop) : Prop where
  get : ∀ {H : Type} {enc : TypeId × Value → H} {w : World} {base : Nat} {spare : Nat → Bool} {held : Bool} {fuel : Nat} {cs : List Value} {xs : List (DataW H × List MemPlace)},
    cs.length = off + d.sz → xs.length = fs.length →
    (∀ (i : Nat) (f : Field), fs[i]? = some f → DataW.trod enc P w base spare held fuel f.type ((cs.drop f.offset).take (P.cellsOf f.type)) = xs[i]?) →
    (∀ n ∈ DataW.weightsEach P (fs.map (·.type)) (xs.map (·.1)), n ≤ reachBytes) → ∃ a : α, d.K w a (cs.drop off) ∧ wf a
end
section
variable {H : Type} {enc : TypeId × Value → H} {P : Program} {w : World} {base : Nat} {spare : Nat → Bool} {held : Bool} {t : TypeId}
theorem opened {α : Type} {d : Kd α} {wf : α → Prop} (ho : Opn P t d wf) {v : Value} {dd : DataW H} {ps : List MemPlace} {ts : List TypeId} {ds : List (DataW H)} {j : Nat}
    (hsz : (DataW.weightsEach P ts ds).all (· ≤ reachBytes) = true) (ht : ts[j]? = some t) (hd : ds[j]? = some dd) (h : DataW.Trod enc P w base spare held t v dd ps) : ∃ a : α, d.K w a v.cells.toList ∧ wf a := by
  obtain ⟨fuel, hf⟩ := h
  exact ho.get hf (fun n hn => by simpa using List.all_eq_true.1 hsz n (DataW.weights_mem_each ht hd n hn))
theorem trod_lt {v : Value} {d : DataW H} {ps : List MemPlace} (h : DataW.Trod enc P w base spare held t v d ps) : ∀ x ∈ ps, x.block < w.heap.size := by
  obtain ⟨m, hm⟩ := h
  exact DataW.trod_lt m _ _ _ hm
end
end Go.Proofs.YtakmkhokbcjapaaDoor.Opn
end
section
namespace Go.Proofs.YtakmkhokbcjapaaDoor.SaidSplitJoins
open Go.RowKit Go.Proofs.YtakmkhokbcjapaaDoorW.PrintWords Go.Proofs.YtakmkhokbcjapaaDoorW.PrintLast Go.Proofs.YtakmkhokbcjapaaDoor.Opn Go.Proofs.YtakmkhokbcjapaaDoor.XA
def Pure : Prop := ∀ (x0 : List (List Int)) (x1 : Int) (x2 : Int), (x0.length * 24 ≤ 140737488351232 ∧ x0.length ≤ 9223372036854775807 ∧ ∀ y ∈ x0, (y.length * 8 ≤ 140737488351232 ∧ y.length ≤ 9223372036854775807 ∧ ∀ yy ∈ y, (Lit.int .i64 yy).wf = true)) → (Lit.int .i64 x1).wf = true → (Lit.int .i64 x2).wf = true → ∃ k, swagelaw21_SplitJoins.f k x0 x1 x2 = some true
end Go.Proofs.YtakmkhokbcjapaaDoor.SaidSplitJoins
end
section
namespace Go.Proofs.YtakmkhokbcjapaaDoor.Evs
open Go.Proofs.YtakmkhokbcjapaaDoorW.PrintWords
section
variable {β : Type} {c : Prop} [Decidable c] {f g : Nat → Option β} {r : β}
theorem ev_pos (hc : c) (h : Ev f r) : Ev (fun n => if c then f n else g n) r := Ev.congr (fun _ => if_pos hc) h
theorem ev_neg (hc : ¬ c) (h : Ev g r) : Ev (fun n => if c then f n else g n) r := Ev.congr (fun _ => if_neg hc) h
end
end Go.Proofs.YtakmkhokbcjapaaDoor.Evs
end
section
namespace Go.Proofs.YtakmkhokbcjapaaDoor.Nums
open Go Go.RowKit Go.Proofs.YtakmkhokbcjapaaDoorW.PrintWords
theorem wrap64_in {x : Int} (h : -9223372036854775808 ≤ x) (h' : x ≤ 9223372036854775807) : wrap64 x = x := by unfold wrap64; omega
theorem u64_in {x : Int} (h : 0 ≤ x) (h' : x < 18446744073709551616) : IntKind.u64.wrap x = x := by
  simp [IntKind.wrap, IntKind.bits, IntKind.signed]; omega
theorem tdiv_pos {x y : Int} (h : 0 ≤ x) : Int.tdiv x y = x / y := Int.tdiv_eq_ediv_of_nonneg h
theorem tmod_pos {x y : Int} (h : 0 ≤ x) : Int.tmod x y = x % y := Int.tmod_eq_emod_of_nonneg h
def val (b : Int) : List Int → Int
  | [] => 0
  | d :: l => d + b * val b l
def dig (b : Int) (l : List Int) : Prop := ∀ d ∈ l, 0 ≤ d ∧ d < b
def strip : List Int → List Int
  | [] => []
  | d :: l => if strip l = [] then (if d = 0 then [] else [d]) else d :: strip l
def digsF (b : Nat) : Nat → Nat → List Int
  | 0, _ => []
  | f + 1, n => if n = 0 then [] else ((n % b : Nat) : Int) :: digsF b f (n / b)
def digs (b n : Nat) : List Int := digsF b n n
theorem digsF_eq {b : Nat} (hb : 2 ≤ b) : ∀ f g n, n ≤ f → n ≤ g → digsF b f n = digsF b g n
  | 0, 0, n, _, _ => rfl
  | 0, g + 1, n, h, _ => by obtain rfl : n = 0 := by omega
                            simp [digsF]
  | f + 1, 0, n, _, h => by obtain rfl : n = 0 := by omega
                            simp [digsF]
  | f + 1, g + 1, n, hf, hg => by
    simp only [digsF]
    by_cases h0 : n = 0
    · simp [h0]
    · rw [if_neg h0, if_neg h0]
      have : n / b < n := Nat.div_lt_self (by omega) hb
      rw [digsF_eq hb f g (n / b) (by omega) (by omega)]
theorem digs_zero (b : Nat) : digs b 0 = [] := rfl
theorem digs_pos {b n : Nat} (hb : 2 ≤ b) (h : 0 < n) : digs b n = ((n % b : Nat) : Int) :: digs b (n / b) := by
  obtain ⟨m, rfl⟩ : ∃ m, n = m + 1 := ⟨n - 1, by omega⟩
  have : (m + 1) / b < m + 1 := Nat.div_lt_self (by omega) hb
  show digsF b (m + 1) (m + 1) = _
  simp only [digsF]
  rw [if_neg (by omega)]
  rw [digsF_eq hb m ((m + 1) / b) ((m + 1) / b) (by omega) (Nat.le_refl _)]
  rfl
theorem digs_ind {b : Nat} (hb : 2 ≤ b) {P : Nat → Prop} (h0 : P 0) (hs : ∀ n, 0 < n → P (n / b) → P n) : ∀ n, P n := by
  intro n
  induction n using Nat.strongRecOn with
  | ind n ih =>
    by_cases h : n = 0
    · exact h ▸ h0
    · exact hs n (by omega) (ih _ (Nat.div_lt_self (by omega) hb))
theorem dig_digs {b : Nat} (hb : 2 ≤ b) (n : Nat) : dig b (digs b n) := by
  refine digs_ind hb (P := fun n => dig b (digs b n)) ?_ ?_ n
  · intro d hd; simp [digs_zero] at hd
  · intro n hn ih d hd
    rw [digs_pos hb hn] at hd
    rcases List.mem_cons.1 hd with rfl | hd
    · have := Nat.mod_lt n (show b > 0 by omega)
      omega
    · exact ih d hd
theorem val_digs {b : Nat} (hb : 2 ≤ b) (n : Nat) : val b (digs b n) = n := by
  refine digs_ind hb (P := fun n => val b (digs b n) = n) ?_ ?_ n
  · rfl
  · intro n hn ih
    rw [digs_pos hb hn]
    show ((n % b : Nat) : Int) + (b : Int) * val b (digs b (n / b)) = n
    rw [ih]
    have := Nat.mod_add_div n b
    exact_mod_cast this
theorem digs_eq_nil {b : Nat} (hb : 2 ≤ b) {n : Nat} : digs b n = [] ↔ n = 0 := by
  constructor
  · intro h
    by_cases h0 : n = 0
    · exact h0
    · rw [digs_pos hb (by omega)] at h
      simp at h
  · rintro rfl; rfl
theorem val_nonneg {b : Nat} {l : List Int} (h : dig b l) : 0 ≤ val b l := by
  induction l with
  | nil => simp [val]
  | cons d l ih =>
    have h1 := ih fun x hx => h x (List.mem_cons_of_mem _ hx)
    have h2 := h d (List.mem_cons_self ..)
    have h3 : (0 : Int) ≤ (b : Int) * val b l := Int.mul_nonneg (by omega) h1
    show (0 : Int) ≤ d + (b : Int) * val b l
    omega
theorem strip_digs {b : Nat} (hb : 2 ≤ b) {l : List Int} (h : dig b l) : digs b (val b l).toNat = strip l := by
  induction l with
  | nil => rfl
  | cons d l ih =>
    have hl : dig b l := fun x hx => h x (List.mem_cons_of_mem _ hx)
    have hd := h d (List.mem_cons_self ..)
    have ih := ih hl
    have hv := val_nonneg hl
    have e : val b (d :: l) = d + (b : Int) * val b l := rfl
    obtain ⟨v, hv'⟩ : ∃ v : Nat, val b l = v := ⟨(val b l).toNat, by omega⟩
    obtain ⟨d', hd'⟩ : ∃ d' : Nat, d = d' := ⟨d.toNat, by omega⟩
    have hdb : d' < b := by omega
    rw [hv', Int.toNat_natCast] at ih
    have en : (val b (d :: l)).toNat = d' + b * v := by
      rw [e, hv', hd']
      exact_mod_cast Int.toNat_natCast (d' + b * v)
    rw [en]
    simp only [strip]
    by_cases hs : strip l = []
    · rw [if_pos hs]
      rw [hs] at ih
      have h0 : v = 0 := (digs_eq_nil hb).1 ih
      subst h0
      by_cases h1 : d = 0
      · rw [if_pos h1]
        have : d' = 0 := by omega
        subst this
        rfl
      · rw [if_neg h1]
        rw [Nat.mul_zero, Nat.add_zero, digs_pos hb (by omega), Nat.mod_eq_of_lt hdb, Nat.div_eq_of_lt hdb, ← hd']
        rfl
    · rw [if_neg hs]
      have hv0 : v ≠ 0 := by
        rintro rfl
        exact hs (ih.symm.trans rfl)
      have : 0 < b * v := Nat.mul_pos (by omega) (by omega)
      rw [digs_pos hb (by omega)]
      rw [Nat.add_mul_mod_self_left, Nat.mod_eq_of_lt hdb, Nat.add_mul_div_left _ _ (by omega), Nat.div_eq_of_lt hdb, Nat.zero_add, ih, hd']
theorem digs_of {b : Nat} (hb : 2 ≤ b) {l : List Int} (h : dig b l) {n : Nat} (hn : val b l = n) : strip l = digs b n := by
  rw [← strip_digs hb h, hn, Int.toNat_natCast]
theorem strip_of_digs {b : Nat} (hb : 2 ≤ b) (n : Nat) : strip (digs b n) = digs b n := digs_of hb (dig_digs hb n) (val_digs hb n)
theorem strip_snoc (l : List Int) (d : Int) : strip (l ++ [d]) = if d = 0 then strip l else l ++ [d] := by
  induction l with
  | nil => by_cases h : d = 0 <;> simp [strip, h]
  | cons x l ih =>
    simp only [List.cons_append, strip, ih]
    by_cases h : d = 0
    · simp only [h, if_true]
    · simp only [h, if_false]
      rw [if_neg (by simp)]
theorem strip_len (l : List Int) : (strip l).length ≤ l.length := by
  induction l with
  | nil => simp [strip]
  | cons d l ih =>
    simp only [strip]
    split
    · split <;> simp
    · simp only [List.length_cons]; omega
theorem digs_len {b : Nat} (hb : 2 ≤ b) : ∀ m n, n < b ^ m → (digs b n).length ≤ m
  | 0, n, h => by
    have : n = 0 := by simpa using h
    subst this; simp [digs_zero]
  | m + 1, n, h => by
    by_cases h0 : n = 0
    · subst h0; simp [digs_zero]
    · rw [digs_pos hb (by omega)]
      have : n / b < b ^ m := by
        rw [Nat.div_lt_iff_lt_mul (by omega)]
        rwa [Nat.pow_succ] at h
      have := digs_len hb m (n / b) this
      simp only [List.length_cons]; omega
theorem lt_pow_len {b : Nat} (hb : 2 ≤ b) (n : Nat) : n < b ^ (digs b n).length := by
  refine digs_ind hb (P := fun n => n < b ^ (digs b n).length) (by simp [digs_zero]) ?_ n
  intro n hn ih
  rw [digs_pos hb hn, List.length_cons, Nat.pow_succ]
  have h2 : n < b * (n / b + 1) := Nat.lt_mul_div_succ n (by omega)
  calc n < b * (n / b + 1) := h2
    _ ≤ b * b ^ (digs b (n / b)).length := Nat.mul_le_mul_left _ ih
    _ = b ^ (digs b (n / b)).length * b := Nat.mul_comm _ _
theorem val_snoc (b : Int) (l : List Int) (d : Int) : val b (l ++ [d]) = val b l + d * b ^ l.length := by
  induction l with
  | nil => simp [val]
  | cons x l ih =>
    simp only [List.cons_append, val, ih, List.length_cons, Int.pow_succ, Int.mul_add]
    rw [Int.mul_comm (b ^ l.length) b, ← Int.mul_assoc b d, Int.mul_comm b d, Int.mul_assoc d b]
    omega
theorem val_replicate (b : Int) (n : Nat) : val b (List.replicate n 0) = 0 := by
  induction n with
  | zero => rfl
  | succ n ih => simp [List.replicate_succ, val, ih]
theorem dig_replicate {b : Int} (hb : 0 < b) (n : Nat) : dig b (List.replicate n 0) := by
  intro d hd
  obtain rfl := List.eq_of_mem_replicate hd
  exact ⟨Int.le_refl _, hb⟩
theorem dig_nil (b : Int) : dig b [] := by intro d hd; simp at hd
theorem dig_cons {b d : Int} {l : List Int} (h0 : 0 ≤ d) (h1 : d < b) (h : dig b l) : dig b (d :: l) := by
  intro x hx
  rcases List.mem_cons.1 hx with rfl | hx
  · exact ⟨h0, h1⟩
  · exact h x hx
theorem dig_append {b : Int} {l m : List Int} (h : dig b l) (h' : dig b m) : dig b (l ++ m) := by
  intro x hx
  rcases List.mem_append.1 hx with hx | hx
  · exact h x hx
  · exact h' x hx
theorem dig_take {b : Int} {l : List Int} (h : dig b l) (n : Nat) : dig b (l.take n) := fun x hx => h x (List.mem_of_mem_take hx)
theorem dig_set {b d : Int} {l : List Int} (h : dig b l) (h0 : 0 ≤ d) (h1 : d < b) (n : Nat) : dig b (l.set n d) := by
  intro x hx
  rcases List.mem_or_eq_of_mem_set hx with hx | rfl
  · exact h x hx
  · exact ⟨h0, h1⟩
theorem rd_nat (l : List Int) (n : Nat) : rd l (n : Int) = l.getD n 0 := rfl
theorem rd_lt {b : Int} {l : List Int} (h : dig b l) {n : Nat} (hn : n < l.length) : 0 ≤ rd l (n : Int) ∧ rd l (n : Int) < b := by
  rw [rd_nat, List.getD_eq_getElem?_getD, List.getElem?_eq_getElem hn]
  exact h _ (List.getElem_mem hn)
theorem rd_of {l : List Int} {n : Nat} (hn : n < l.length) : rd l (n : Int) = l[n] := by
  rw [rd_nat, List.getD_eq_getElem?_getD, List.getElem?_eq_getElem hn]; rfl
theorem take_snoc {l : List Int} {n : Nat} (hn : n < l.length) : l.take (n + 1) = l.take n ++ [rd l (n : Int)] := by
  rw [rd_of hn, List.take_succ_eq_append_getElem hn]
theorem val_take_succ (b : Int) {l : List Int} {n : Nat} (hn : n < l.length) : val b (l.take (n + 1)) = val b (l.take n) + rd l (n : Int) * b ^ n := by
  rw [take_snoc hn, val_snoc, List.length_take, Nat.min_eq_left (by omega)]
theorem val_set (b : Int) (d : Int) : ∀ (l : List Int) (n : Nat), n < l.length → val b (l.set n d) = val b l + (d - rd l (n : Int)) * b ^ n
  | [], n, h => by simp at h
  | x :: l, 0, h => by
    simp only [List.set_cons_zero, val, rd_nat, Int.pow_zero, Int.mul_one]
    show d + b * val b l = x + b * val b l + (d - x)
    omega
  | x :: l, n + 1, h => by
    have ih := val_set b d l n (by simpa using h)
    simp only [List.set_cons_succ, val, ih]
    rw [rd_nat, rd_nat, show (x :: l).getD (n + 1) 0 = l.getD n 0 from rfl, Int.mul_add, Int.pow_succ, Int.mul_comm (b ^ n) b]
    have e : b * ((d - l.getD n 0) * b ^ n) = (d - l.getD n 0) * (b * b ^ n) := by rw [← Int.mul_assoc, Int.mul_comm b, Int.mul_assoc]
    rw [e]
    omega
theorem rd_set_ne {l : List Int} {m n : Nat} (d : Int) (h : m ≠ n) : rd (l.set m d) (n : Int) = rd l (n : Int) := by
  rw [rd_nat, rd_nat, List.getD_eq_getElem?_getD, List.getD_eq_getElem?_getD, List.getElem?_set_ne h]
theorem rd_out {l : List Int} {n : Nat} (h : l.length ≤ n) : rd l (n : Int) = 0 := by
  rw [rd_nat, List.getD_eq_getElem?_getD, List.getElem?_eq_none h]; rfl
theorem rd_replicate (m n : Nat) : rd (List.replicate m 0) (n : Int) = 0 := by
  by_cases h : n < m
  · rw [rd_of (by simpa using h)]; simp
  · exact rd_out (by simpa using Nat.le_of_not_lt h)
theorem val_lt {b : Int} (hb : 0 < b) {l : List Int} (h : dig b l) : val b l < b ^ l.length := by
  induction l with
  | nil => simp [val]
  | cons d l ih =>
    have h1 := ih fun x hx => h x (List.mem_cons_of_mem _ hx)
    have h2 := h d (List.mem_cons_self ..)
    have h3 : b * (val b l + 1) ≤ b * b ^ l.length := Int.mul_le_mul_of_nonneg_left (by omega) (by omega)
    rw [Int.mul_add, Int.mul_one] at h3
    show d + b * val b l < b ^ (l.length + 1)
    rw [Int.pow_succ, Int.mul_comm (b ^ l.length) b]
    omega
def pw (b : Int) (n : Nat) : Int := b ^ n
theorem pw_eq (b : Int) (n : Nat) : pw b n = b ^ n := rfl
theorem pw_zero (b : Int) : pw b 0 = 1 := by simp [pw]
theorem pw_succ (b : Int) (n : Nat) : pw b (n + 1) = pw b n * b := Int.pow_succ ..
theorem pw_nonneg {b : Int} (hb : 0 ≤ b) (n : Nat) : 0 ≤ pw b n := Int.pow_nonneg hb
theorem val_setP (b : Int) (d : Int) {l : List Int} {n : Nat} (h : n < l.length) : val b (l.set n d) = val b l + (d - rd l (n : Int)) * pw b n := val_set b d l n h
theorem val_take_succP (b : Int) {l : List Int} {n : Nat} (hn : n < l.length) : val b (l.take (n + 1)) = val b (l.take n) + rd l (n : Int) * pw b n := val_take_succ b hn
theorem val_ltP {b : Int} (hb : 0 < b) {l : List Int} (h : dig b l) : val b l < pw b l.length := val_lt hb h
attribute [irreducible] pw
def neg (x : Int) : Bool := decide (x < 0)
def mag (b : Nat) (x : Int) : List Int := digs b x.natAbs
theorem mag_nil {b : Nat} (hb : 2 ≤ b) {x : Int} : mag b x = [] ↔ x = 0 := by
  rw [mag, digs_eq_nil hb]; omega
theorem mag_len_zero {b : Nat} (hb : 2 ≤ b) {x : Int} : (mag b x).length = 0 ↔ x = 0 := by
  rw [List.length_eq_zero_iff, mag_nil hb]
theorem digs_len_mono {b : Nat} (hb : 2 ≤ b) {m n : Nat} (h : m ≤ n) : (digs b m).length ≤ (digs b n).length :=
  digs_len hb _ _ (Nat.lt_of_le_of_lt h (lt_pow_len hb n))
def cmp3 (x y : Int) : Int := if x < y then -1 else if y < x then 1 else 0
theorem cmp3_lt {x y : Int} (h : x < y) : cmp3 x y = -1 := if_pos h
theorem cmp3_gt {x y : Int} (h : y < x) : cmp3 x y = 1 := by rw [cmp3, if_neg (by omega), if_pos h]
theorem cmp3_add (x y z : Int) : cmp3 (x + z) (y + z) = cmp3 x y := by
  unfold cmp3
  by_cases h : x < y
  · rw [if_pos h, if_pos (by omega)]
  · rw [if_neg h, if_neg (by omega)]
    by_cases h' : y < x
    · rw [if_pos h', if_pos (by omega)]
    · rw [if_neg h', if_neg (by omega)]
theorem cmp3_take {b : Int} (hb : 0 < b) {l m : List Int} (hl : dig b l) (hm : dig b m) {n : Nat} (h1 : n < l.length) (h2 : n < m.length) :
    cmp3 (val b (l.take (n + 1))) (val b (m.take (n + 1))) = if rd l (n : Int) < rd m (n : Int) then -1 else if rd l (n : Int) > rd m (n : Int) then 1 else cmp3 (val b (l.take n)) (val b (m.take n)) := by
  have v1 := val_ltP hb (dig_take hl n)
  have v2 := val_ltP hb (dig_take hm n)
  rw [List.length_take, Nat.min_eq_left (by omega)] at v1 v2
  have hbn : ∃ b' : Nat, b = b' := ⟨b.toNat, by omega⟩
  obtain ⟨b', rfl⟩ := hbn
  have w1 := val_nonneg (dig_take hl n)
  have w2 := val_nonneg (dig_take hm n)
  have hp : (0 : Int) ≤ pw b' n := pw_nonneg (by omega) n
  rw [val_take_succP _ h1, val_take_succP _ h2]
  generalize rd l (n : Int) = x at *
  generalize rd m (n : Int) = y at *
  generalize val (b' : Int) (l.take n) = v at *
  generalize val (b' : Int) (m.take n) = w at *
  generalize pw (b' : Int) n = p at *
  by_cases c1 : x < y
  · rw [if_pos c1]
    have := Int.mul_le_mul_of_nonneg_right (show x + 1 ≤ y by omega) hp
    rw [Int.add_mul, Int.one_mul] at this
    exact cmp3_lt (by omega)
  · rw [if_neg c1]
    by_cases c2 : x > y
    · rw [if_pos c2]
      have := Int.mul_le_mul_of_nonneg_right (show y + 1 ≤ x by omega) hp
      rw [Int.add_mul, Int.one_mul] at this
      exact cmp3_gt (by omega)
    · rw [if_neg c2]
      obtain rfl : x = y := by omega
      exact cmp3_add _ _ _
theorem mag_len_of {b : Nat} (hb : 2 ≤ b) {x : Int} {m : Nat} (h : x.natAbs < 2 ^ m) : (mag b x).length ≤ m :=
  digs_len hb m _ (Nat.lt_of_lt_of_le h (Nat.pow_le_pow_left hb m))
end Go.Proofs.YtakmkhokbcjapaaDoor.Nums
end
section
namespace Go.Proofs.YtakmkhokbcjapaaDoor.XA
open Go.Proofs.YtakmkhokbcjapaaDoor.Lift Go.RowKit Go.Proofs.YtakmkhokbcjapaaDoorW.PrintWords Go.Proofs.YtakmkhokbcjapaaDoorW.PrintLast Go.Proofs.YtakmkhokbcjapaaDoorW.PrintMore
attribute [local go_sem] max2_int min2_int max_two min_two max_three min_three max_four min_four
mutual
def limb_Mul.l0 : Nat → List Int → List Int → List Int → Int → Int → Option (List Int)
 | 0, _, _, _, _, _ => none
 | k + 1, x1, x5, x17, x18, x19 => if x19 < x18 then (if 0 ≤ x19 then (if x19 < (x17.length : Int) then (limb_Mul.l1 k x1 x5 x19 (rd x17 x19) 0 x17 x18 x19 x1 (x1.length : Int) 0) else (none)) else (none)) else ((limb_trim.f k x5).bind fun qA => (some qA))
def limb_Mul.l1 : Nat → List Int → List Int → Int → Int → Int → List Int → Int → Int → List Int → Int → Int → Option (List Int)
 | 0, _, _, _, _, _, _, _, _, _, _, _ => none
 | k + 1, x1, x5, x6, x7, x8, x17, x18, x19, x24, x25, x26 => if x26 < x25 then (if 0 ≤ x26 then (if x26 < (x24.length : Int) then (if 0 ≤ (wrap64 (x6 + x26)) then (if (wrap64 (x6 + x26)) < (x5.length : Int) then (limb_Mul.l1 k x1 (x5.set ((wrap64 (x6 + x26)) : Int).toNat ((IntKind.u64.wrap (x8 + (IntKind.u64.wrap ((IntKind.u64.wrap ((IntKind.u64.wrap (x7)) * (IntKind.u64.wrap (rd x24 x26)))) + (IntKind.u64.wrap (rd x5 (wrap64 (x6 + x26)))))))) % 4294967296)) x6 x7 ((IntKind.u64.wrap (x8 + (IntKind.u64.wrap ((IntKind.u64.wrap ((IntKind.u64.wrap (x7)) * (IntKind.u64.wrap (rd x24 x26)))) + (IntKind.u64.wrap (rd x5 (wrap64 (x6 + x26)))))))) / 4294967296) x17 x18 x19 x24 x25 (wrap64 (x26 + 1))) else (none)) else (none)) else (none)) else (none)) else (if 0 ≤ (wrap64 (x6 + (x1.length : Int))) then (if (wrap64 (x6 + (x1.length : Int))) < (x5.length : Int) then (limb_Mul.l0 k x1 (x5.set ((wrap64 (x6 + (x1.length : Int))) : Int).toNat ((x8) % 4294967296)) x17 x18 (wrap64 (x19 + 1))) else (none)) else (none))
end
def limb_Mul.f (k : Nat) (l0 : List Int) (l1 : List Int) : Option (List Int) := if 0 ≤ (wrap64 ((l0.length : Int) + (l1.length : Int))) then (if (wrap64 ((l0.length : Int) + (l1.length : Int)) : Int).toNat ≤ 70368744177664 then (limb_Mul.l0 k l1 (List.replicate (wrap64 ((l0.length : Int) + (l1.length : Int)) : Int).toNat 0) l0 (l0.length : Int) 0) else (none)) else (none)
end Go.Proofs.YtakmkhokbcjapaaDoor.XA
end
section
namespace Go.Proofs.YtakmkhokbcjapaaDoor.XA
open Go.Proofs.YtakmkhokbcjapaaDoor.Lift Go.RowKit Go.Proofs.YtakmkhokbcjapaaDoorW.PrintWords Go.Proofs.YtakmkhokbcjapaaDoorW.PrintLast Go.Proofs.YtakmkhokbcjapaaDoorW.PrintMore
attribute [local go_sem] max2_int min2_int max_two min_two max_three min_three max_four min_four
def integer_Int_Mul.f (k : Nat) (qA : Bool) (qB : List Int) (qC : Bool) (qD : List Int) : Option (Bool × List Int) := (limb_Mul.f k qB qD).bind fun qE => ((integer_made.f (qA != qC) qE).bind fun bt737 => (some (bt737.1, bt737.2)))
def integer_Int_Mul.T1 : Bool × List (List Nat × List Nat) := (true, [([], []), ([0], [0]), ([], []), ([2], [2]), ([1, 3], [1, 3]), ([], []), ([5], [5]), ([], []), ([7], [7]), ([6, 8], [6, 8]), ([4, 9, 9], [4, 9]), ([10, 10, 0, 1, 2, 3, 4, 5, 6, 7, 8, 9, 10], [10])])
def integer_Int_Mul.B1 : List Nat := [0, 1, 0, 4, 15, 0, 32, 0, 128, 480, 1023, 2047]
theorem integer_Int_Mul.bits1 : waitsOk integer_Int_Mul.T1.2 integer_Int_Mul.B1 = true := by kernel_rfl
end Go.Proofs.YtakmkhokbcjapaaDoor.XA
end
section
namespace Go.Proofs.YtakmkhokbcjapaaDoor.IntA
open Go Go.RowKit Go.Proofs.YtakmkhokbcjapaaDoorW.PrintWords Go.Proofs.YtakmkhokbcjapaaDoorW.PrintLast Go.Proofs.YtakmkhokbcjapaaDoor.XA Go.Proofs.YtakmkhokbcjapaaDoor.Nums Go.Proofs.YtakmkhokbcjapaaDoor.Evs
theorem trim_loop (l : List Int) (hl : l.length ≤ 4611686018427387904) : ∀ n : Nat, n ≤ l.length → Ev (fun k => limb_trim.l0 k l (n : Int)) (strip (l.take n))
  | 0, _ => by
    refine Ev.step (f := fun _ => some (l.take 0)) (fun k => ?_) (by simpa [strip] using Ev.now _)
    simp only [limb_trim.l0]
    rw [if_neg (by omega), if_pos (by omega), if_pos (by omega)]
    rfl
  | n + 1, h => by
    refine Ev.step (f := fun k => if rd l (n : Int) = 0 then limb_trim.l0 k l (n : Int) else some (l.take (n + 1))) (fun k => ?_) ?_
    · simp only [limb_trim.l0]
      have e : wrap64 (((n + 1 : Nat) : Int) - 1) = n := by rw [wrap64_in] <;> omega
      rw [if_pos (by omega), e, if_pos (by omega), if_pos (by omega), if_pos (show (0 : Int) ≤ ((n + 1 : Nat) : Int) by omega), if_pos (show ((n + 1 : Nat) : Int) ≤ (l.length : Int) by omega)]
      rfl
    · rw [take_snoc (show n < l.length by omega), strip_snoc]
      by_cases h0 : rd l (n : Int) = 0
      · rw [if_pos h0]; exact ev_pos h0 (trim_loop l hl n (by omega))
      · rw [if_neg h0]; exact ev_neg h0 (Ev.now _)
theorem ev_trim (l : List Int) (hl : l.length ≤ 4611686018427387904) : Ev (fun k => limb_trim.f k l) (strip l) := by
  have := trim_loop l hl l.length (Nat.le_refl _)
  rw [List.take_length] at this
  exact this
theorem ev_norm (l : List Int) (hl : l.length ≤ 70368744177664) : Ev (fun k => limb_Norm.f k l) (strip l) := by
  unfold limb_Norm.f
  refine Ev.bind (ev_trim l (by omega)) ?_
  have := strip_len l
  exact ev_pos (by omega) (ev_pos (by omega) (Ev.now _))
theorem made_at (s : Bool) (l : List Int) : integer_made.f s l = some (s && decide (l ≠ []), l) := by
  unfold integer_made.f
  cases s
  · rfl
  · cases l <;> simp
theorem ev_make (s : Bool) (l : List Int) (hl : l.length ≤ 70368744177664) : Ev (fun k => integer_Make.f k s l) (s && decide (strip l ≠ []), strip l) := by
  unfold integer_Make.f
  refine Ev.bind (ev_norm l hl) ?_
  simp only [made_at, Option.bind_some]
  exact Ev.now _
theorem two_limbs (n : Nat) (h : n < 18446744073709551616) : strip [(n : Int) % 4294967296, ((n : Int) / 4294967296) % 4294967296] = digs 4294967296 n := by
  refine digs_of (by decide) ?_ ?_
  · exact dig_cons (by omega) (by omega) (dig_cons (by omega) (by omega) (dig_nil _))
  · simp only [val]; omega
theorem ev_of (x : Int) (h : -9223372036854775808 ≤ x) (h' : x ≤ 9223372036854775807) : Ev (fun k => integer_Of.f k x) (neg x, mag 4294967296 x) := by
  unfold integer_Of.f
  by_cases hx : x < 0
  · refine ev_pos hx ?_
    have e : IntKind.u64.wrap (-(IntKind.u64.wrap x)) = (x.natAbs : Int) := by
      simp [IntKind.wrap, IntKind.bits, IntKind.signed]; omega
    rw [e]
    refine Ev.bind (ev_make true _ (by simp)) ?_
    rw [two_limbs _ (by omega)]
    have hne : digs 4294967296 x.natAbs ≠ [] := by
      intro hh
      have := (digs_eq_nil (by decide)).1 hh
      omega
    simp only [neg, hx, hne, decide_true, Bool.true_and, ne_eq, not_false_eq_true, decide_not, decide_false, Bool.not_false, mag]
    exact Ev.now _
  · refine ev_neg hx ?_
    have e : IntKind.u64.wrap x = (x.natAbs : Int) := by
      rw [u64_in] <;> omega
    rw [e]
    refine Ev.bind (ev_make false _ (by simp)) ?_
    rw [two_limbs _ (by omega)]
    simp only [neg, hx, decide_false, Bool.false_and, mag]
    exact Ev.now _
theorem neg_mul (x y : Int) : ((neg x != neg y) && decide (mag 4294967296 (x * y) ≠ [])) = neg (x * y) := by
  by_cases h0 : x * y = 0
  · rw [h0]; simp [mag, digs_zero, neg]
  · have hne : mag 4294967296 (x * y) ≠ [] := fun h => h0 ((mag_nil (by decide)).1 h)
    have hx : x ≠ 0 := by rintro rfl; simp at h0
    have hy : y ≠ 0 := by rintro rfl; simp at h0
    simp only [hne, ne_eq, not_false_eq_true, decide_true, Bool.and_true, neg]
    by_cases h1 : x < 0 <;> by_cases h2 : y < 0
    · have : 0 < x * y := Int.mul_pos_of_neg_of_neg h1 h2
      simp [h1, h2]; omega
    · have : x * y < 0 := Int.mul_neg_of_neg_of_pos h1 (by omega)
      simp [h1, h2, this]
    · have : x * y < 0 := Int.mul_neg_of_pos_of_neg (by omega) h2
      simp [h1, h2, this]
    · have : 0 < x * y := Int.mul_pos (by omega) (by omega)
      simp [h1, h2]; omega
end Go.Proofs.YtakmkhokbcjapaaDoor.IntA
end
section
namespace Go.Proofs.YtakmkhokbcjapaaDoor.XA
open Go.Proofs.YtakmkhokbcjapaaDoor.Lift Go.RowKit Go.Proofs.YtakmkhokbcjapaaDoorW.PrintWords Go.Proofs.YtakmkhokbcjapaaDoorW.PrintLast Go.Proofs.YtakmkhokbcjapaaDoorW.PrintMore
attribute [local go_sem] max2_int min2_int max_two min_two max_three min_three max_four min_four
def integer_Int_Cmp.j0 : Nat → Bool → Bool → List Int → Bool → List Int → Option (Int)
 | 0, _, _, _, _, _ => none
 | k + 1, x5, qE, qA, qF, qB => if x5 = true then ((limb_Cmp.f k qB qA).bind fun qI => (some qI)) else (if qE = true then (some (-1)) else (if qF = true then (some 1) else ((limb_Cmp.f k qA qB).bind fun qJ => (some qJ))))
def integer_Int_Cmp.f (k : Nat) (qC : Bool) (qG : List Int) (qD : Bool) (qH : List Int) : Option (Int) := if qC = true then (integer_Int_Cmp.j0 k qD qC qG qD qH) else (integer_Int_Cmp.j0 k false qC qG qD qH)
end Go.Proofs.YtakmkhokbcjapaaDoor.XA
end
section
namespace Go.Proofs.YtakmkhokbcjapaaDoor.IntB
open Go Go.RowKit Go.Proofs.YtakmkhokbcjapaaDoorW.PrintWords Go.Proofs.YtakmkhokbcjapaaDoorW.PrintLast Go.Proofs.YtakmkhokbcjapaaDoor.XA Go.Proofs.YtakmkhokbcjapaaDoor.Nums Go.Proofs.YtakmkhokbcjapaaDoor.Evs Go.Proofs.YtakmkhokbcjapaaDoor.IntA
theorem cmp_loop (l m : List Int) (hl : dig 4294967296 l) (hm : dig 4294967296 m) (hs : l.length ≤ 4611686018427387904) (he : l.length = m.length) : ∀ n : Nat, n ≤ l.length → Ev (fun k => limb_Cmp.l0 k l m ((n : Int) - 1)) (cmp3 (val 4294967296 (l.take n)) (val 4294967296 (m.take n)))
  | 0, _ => by
    refine Ev.step (f := fun _ => some 0) (fun k => ?_) (by simpa [val, cmp3] using Ev.now _)
    simp only [limb_Cmp.l0]
    rw [if_neg (by omega)]
  | n + 1, h => by
    rw [cmp3_take (by omega) hl hm (show n < l.length by omega) (show n < m.length by omega)]
    refine Ev.step (f := fun k => if rd l (n : Int) < rd m (n : Int) then some (-1) else if rd l (n : Int) > rd m (n : Int) then some 1 else limb_Cmp.l0 k l m ((n : Int) - 1)) (fun k => ?_) ?_
    · simp only [limb_Cmp.l0]
      have e : ((n + 1 : Nat) : Int) - 1 = n := by omega
      rw [e, if_pos (by omega), if_pos (by omega), if_pos (by omega), if_pos (by omega), wrap64_in (by omega) (by omega)]
    · by_cases c1 : rd l (n : Int) < rd m (n : Int)
      · rw [if_pos c1]; exact ev_pos c1 (Ev.now _)
      · rw [if_neg c1]
        refine ev_neg c1 ?_
        by_cases c2 : rd l (n : Int) > rd m (n : Int)
        · rw [if_pos c2]; exact ev_pos c2 (Ev.now _)
        · rw [if_neg c2]; exact ev_neg c2 (cmp_loop l m hl hm hs he n (by omega))
theorem ev_limbCmp (m n : Nat) (hm : (digs 4294967296 m).length ≤ 1099511627776) (hn : (digs 4294967296 n).length ≤ 1099511627776) : Ev (fun k => limb_Cmp.f k (digs 4294967296 m) (digs 4294967296 n)) (cmp3 m n) := by
  unfold limb_Cmp.f
  have t1 := ev_trim (digs 4294967296 m) (by omega)
  have t2 := ev_trim (digs 4294967296 n) (by omega)
  rw [strip_of_digs (by decide)] at t1 t2
  refine Ev.bind t1 (Ev.bind t2 ?_)
  by_cases c1 : ((digs 4294967296 m).length : Int) < (digs 4294967296 n).length
  · refine ev_pos c1 ?_
    have : m < n := by
      rcases Nat.lt_or_ge m n with h | h
      · exact h
      · have := digs_len_mono (b := 4294967296) (by decide) h
        omega
    rw [cmp3_lt (by omega)]
    exact Ev.now _
  · refine ev_neg c1 ?_
    by_cases c2 : ((digs 4294967296 m).length : Int) > (digs 4294967296 n).length
    · refine ev_pos c2 ?_
      have : n < m := by
        rcases Nat.lt_or_ge n m with h | h
        · exact h
        · have := digs_len_mono (b := 4294967296) (by decide) h
          omega
      rw [cmp3_gt (by omega)]
      exact Ev.now _
    · refine ev_neg c2 ?_
      have e : (digs 4294967296 m).length = (digs 4294967296 n).length := by omega
      have := cmp_loop _ _ (dig_digs (b := 4294967296) (by decide) m) (dig_digs (b := 4294967296) (by decide) n) (by omega) e (digs 4294967296 m).length (Nat.le_refl _)
      rw [List.take_length] at this
      rw [e, List.take_length] at this
      rw [show val (4294967296 : Int) (digs 4294967296 m) = m from val_digs (b := 4294967296) (by decide) m, show val (4294967296 : Int) (digs 4294967296 n) = n from val_digs (b := 4294967296) (by decide) n] at this
      rw [e, wrap64_in (by omega) (by omega)]
      exact this
def sgn (x : Int) : Int := if x = 0 then 0 else if x < 0 then -1 else 1
theorem sign_at (x : Int) : integer_Int_Sign.f (neg x) (mag 4294967296 x) = some (sgn x) := by
  unfold integer_Int_Sign.f sgn
  have := mag_len_zero (b := 4294967296) (by decide) (x := x)
  by_cases h : x = 0
  · rw [if_pos (by have := this.2 h; omega), if_pos h]
  · rw [if_neg (by have := fun h' => h (this.1 h'); omega), if_neg h]
    by_cases h2 : x < 0
    · rw [if_pos (by simp [neg, h2]), if_pos h2]
    · rw [if_neg (by simp [neg, h2]), if_neg h2]
end Go.Proofs.YtakmkhokbcjapaaDoor.IntB
end
section
namespace Go.Proofs.YtakmkhokbcjapaaDoor.IntC
open Go Go.RowKit Go.Proofs.YtakmkhokbcjapaaDoorW.PrintWords Go.Proofs.YtakmkhokbcjapaaDoorW.PrintLast Go.Proofs.YtakmkhokbcjapaaDoor.XA Go.Proofs.YtakmkhokbcjapaaDoor.Nums Go.Proofs.YtakmkhokbcjapaaDoor.Evs Go.Proofs.YtakmkhokbcjapaaDoor.IntA Go.Proofs.YtakmkhokbcjapaaDoor.IntB
theorem take_out {l : List Int} {i : Nat} (h : l.length ≤ i) : l.take (i + 1) = l.take i := by rw [List.take_of_length_le h, List.take_of_length_le (by omega)]
theorem val_take_next (b : Int) (l : List Int) (i : Nat) : val b (l.take (i + 1)) = val b (l.take i) + rd l (i : Int) * pw b i := by
  rcases Nat.lt_or_ge i l.length with h | h
  · exact val_take_succP b h
  · rw [take_out h, rd_out h]; omega
theorem carry {b c T P v : Int} (hT : T = (T / b) * b + T % b) : (v + (T % b - 0) * P) + (T / b) * (P * b) = v + T * P := by
  have e : (T / b) * (P * b) = ((T / b) * b) * P := by rw [Int.mul_comm P b, ← Int.mul_assoc]
  rw [e, Int.sub_zero, Int.add_assoc, ← Int.add_mul, Int.add_comm (T % b), ← hT]
theorem add_loop (x y : List Int) (hx : dig 4294967296 x) (hy : dig 4294967296 y) (lx : x.length ≤ 1099511627776) (ly : y.length ≤ x.length) (d : Nat) :
    ∀ (i : Nat) (acc : List Int) (c : Int), i + d = x.length → dig 4294967296 acc → acc.length = x.length + 1 → (∀ p : Nat, i ≤ p → rd acc (p : Int) = 0) → 0 ≤ c → c ≤ 1 → val 4294967296 acc + c * pw 4294967296 i = val 4294967296 (x.take i) + val 4294967296 (y.take i) →
      Ev (fun k => limb_Add.l0 k x y acc c x (x.length : Int) (i : Int)) (digs 4294967296 (val 4294967296 x + val 4294967296 y).toNat) := by
  induction d with
  | zero =>
    intro i acc c hi ha hl hz c0 c1 hv
    obtain rfl : i = x.length := by omega
    rw [List.take_length, List.take_of_length_le ly] at hv
    have hd : dig 4294967296 (acc.set x.length (c % 4294967296)) := dig_set ha (by omega) (by omega) _
    have e : val 4294967296 (acc.set x.length (c % 4294967296)) = ((val 4294967296 x + val 4294967296 y).toNat : Nat) := by
      rw [val_setP 4294967296 (c % 4294967296) (l := acc) (n := x.length) (by omega), hz x.length (Nat.le_refl _), Int.sub_zero, Int.emod_eq_of_lt c0 (by omega), hv]
      have p1 : (0 : Int) ≤ val 4294967296 x := val_nonneg (b := 4294967296) hx
      have p2 : (0 : Int) ≤ val 4294967296 y := val_nonneg (b := 4294967296) hy
      omega
    refine Ev.step (f := fun k => (limb_trim.f k (acc.set x.length (c % 4294967296))).bind fun t => some t) (fun k => ?_) (Ev.bind (ev_trim _ (by simp; omega)) ?_)
    · simp only [limb_Add.l0]
      rw [if_neg (by omega), if_pos (by omega), if_pos (by omega)]
      rfl
    · rw [digs_of (b := 4294967296) (by decide) hd e]
      exact Ev.now _
  | succ d ih =>
    intro i acc c hi ha hl hz c0 c1 hv
    have hil : i < x.length := by omega
    have hxi := rd_lt hx hil
    have hyi : 0 ≤ rd y (i : Int) ∧ rd y (i : Int) < 4294967296 := by
      rcases Nat.lt_or_ge i y.length with h | h
      · exact rd_lt hy h
      · rw [rd_out h]; omega
    have next := ih (i + 1) (acc.set i ((c + rd x (i : Int) + rd y (i : Int)) % 4294967296)) ((c + rd x (i : Int) + rd y (i : Int)) / 4294967296) (by omega) (dig_set ha (by omega) (by omega) _) (by simp [hl]) (fun p hp => by rw [rd_set_ne _ (by omega)]; exact hz p (by omega)) (by omega) (by omega) (by
      rw [val_setP 4294967296 _ (l := acc) (n := i) (by omega), hz i (Nat.le_refl _), pw_succ, carry (c := c) (by omega), val_take_next, val_take_next, Int.add_mul, Int.add_mul]
      omega)
    refine Ev.step (f := fun k => limb_Add.l0 k x y (acc.set i ((c + rd x (i : Int) + rd y (i : Int)) % 4294967296)) ((c + rd x (i : Int) + rd y (i : Int)) / 4294967296) x (x.length : Int) ((i + 1 : Nat) : Int)) (fun k => ?_) next
    simp only [limb_Add.l0]
    rw [if_pos (by omega), if_pos (by omega), if_pos (by omega), u64_in (x := rd x (i : Int)) (by omega) (by omega), u64_in (x := c + rd x (i : Int)) (by omega) (by omega), wrap64_in (x := (i : Int) + 1) (by omega) (by omega)]
    by_cases h : (i : Int) < (y.length : Int)
    · rw [if_pos h, if_pos (by omega), u64_in (x := rd y (i : Int)) (by omega) (by omega), u64_in (x := c + rd x (i : Int) + rd y (i : Int)) (by omega) (by omega)]
      rfl
    · rw [if_neg h, if_pos (by omega), rd_out (l := y) (n := i) (by omega), Int.add_zero]
      rfl
theorem add_g (m n : Nat) (hm : (digs 4294967296 m).length ≤ 1099511627776) (hn : (digs 4294967296 n).length ≤ (digs 4294967296 m).length) : Ev (fun k => limb_Add.g k (digs 4294967296 m) (digs 4294967296 n)) (digs 4294967296 (m + n)) := by
  have hw : wrap64 (((digs 4294967296 m).length : Int) + 1) = (((digs 4294967296 m).length + 1 : Nat) : Int) := by rw [wrap64_in] <;> omega
  unfold limb_Add.g
  rw [hw, Int.toNat_natCast]
  refine ev_pos (by omega) (ev_pos (by omega) ?_)
  have h := add_loop _ _ (dig_digs (b := 4294967296) (by decide) m) (dig_digs (b := 4294967296) (by decide) n) hm hn (digs 4294967296 m).length 0 (List.replicate ((digs 4294967296 m).length + 1) 0) 0 (by omega) (dig_replicate (by decide) _) (by simp) (fun p _ => rd_replicate _ _) (by omega) (by omega) (by rw [val_replicate]; simp [val])
  rw [show val (4294967296 : Int) (digs 4294967296 m) = m from val_digs (b := 4294967296) (by decide) m, show val (4294967296 : Int) (digs 4294967296 n) = n from val_digs (b := 4294967296) (by decide) n] at h
  rw [show ((m : Int) + n).toNat = m + n by omega] at h
  exact h
theorem ev_limbAdd (m n : Nat) (hm : (digs 4294967296 m).length ≤ 1099511627776) (hn : (digs 4294967296 n).length ≤ 1099511627776) : Ev (fun k => limb_Add.f k (digs 4294967296 m) (digs 4294967296 n)) (digs 4294967296 (m + n)) := by
  unfold limb_Add.f
  by_cases h : ((digs 4294967296 m).length : Int) < ((digs 4294967296 n).length : Int)
  · refine ev_pos h ?_
    rw [Nat.add_comm]
    exact add_g n m hn (by omega)
  · exact ev_neg h (add_g m n hm (by omega))
theorem bits0 : Go.bits .and .u64 0 1 = 0 := by decide +kernel
theorem bits1 : Go.bits .and .u64 4294967295 1 = 1 := by decide +kernel
theorem low {D : Int} (h0 : -4294967296 ≤ D) (h1 : D < 4294967296) : IntKind.u64.wrap D % 4294967296 = D % 4294967296 ∧ Go.bits .and .u64 (IntKind.u64.wrap D / 4294967296) 1 = -(D / 4294967296) := by
  rcases Int.lt_or_le D 0 with h | h
  · have e : IntKind.u64.wrap D = D + 18446744073709551616 := by
      simp [IntKind.wrap, IntKind.bits, IntKind.signed]; omega
    rw [e, show (D + 18446744073709551616) / 4294967296 = 4294967295 by omega, bits1]
    omega
  · rw [u64_in h (by omega), show D / 4294967296 = 0 by omega, bits0]
    omega
theorem sub_loop (x y : List Int) (hx : dig 4294967296 x) (hy : dig 4294967296 y) (lx : x.length ≤ 1099511627776) (hge : val 4294967296 y ≤ val 4294967296 x) (d : Nat) :
    ∀ (i : Nat) (acc : List Int) (c : Int), i + d = x.length → dig 4294967296 acc → acc.length = x.length → (∀ p : Nat, i ≤ p → rd acc (p : Int) = 0) → 0 ≤ c → c ≤ 1 → val 4294967296 acc - c * pw 4294967296 i = val 4294967296 (x.take i) - val 4294967296 (y.take i) → (i = x.length → c = 0 → val 4294967296 acc = val 4294967296 x - val 4294967296 (y.take i)) → y.length ≤ x.length →
      Ev (fun k => limb_Sub.l0 k y acc c x (x.length : Int) (i : Int)) (digs 4294967296 (val 4294967296 x - val 4294967296 y).toNat, 0) := by
  induction d with
  | zero =>
    intro i acc c hi ha hl hz c0 c1 hv _ ly
    obtain rfl : i = x.length := by omega
    rw [List.take_length, List.take_of_length_le ly] at hv
    have hlt := val_ltP (by decide) ha
    rw [hl] at hlt
    have hc : c = 0 := by
      rcases Int.lt_or_le 0 c with h | h
      · obtain rfl : c = 1 := by omega
        omega
      · omega
    subst hc
    have e : val 4294967296 acc = ((val 4294967296 x - val 4294967296 y).toNat : Nat) := by omega
    refine Ev.step (f := fun k => (limb_trim.f k acc).bind fun t => some (t, 0)) (fun k => ?_) (Ev.bind (ev_trim _ (by omega)) ?_)
    · simp only [limb_Sub.l0]
      rw [if_neg (by omega)]
    · rw [digs_of (b := 4294967296) (by decide) ha e]
      exact Ev.now _
  | succ d ih =>
    intro i acc c hi ha hl hz c0 c1 hv _ ly
    have hil : i < x.length := by omega
    have hxi := rd_lt hx hil
    have hyi : 0 ≤ rd y (i : Int) ∧ rd y (i : Int) < 4294967296 := by
      rcases Nat.lt_or_ge i y.length with h | h
      · exact rd_lt hy h
      · rw [rd_out h]; omega
    obtain ⟨D, hD⟩ : ∃ D, D = rd x (i : Int) - (c + rd y (i : Int)) := ⟨_, rfl⟩
    obtain ⟨lo1, lo2⟩ := low (D := D) (by omega) (by omega)
    have hv2 : val 4294967296 (acc.set i (D % 4294967296)) - (-(D / 4294967296)) * pw 4294967296 (i + 1) = val 4294967296 (x.take (i + 1)) - val 4294967296 (y.take (i + 1)) := by
      have hc := carry (b := 4294967296) (c := c) (T := D) (P := pw 4294967296 i) (v := val 4294967296 acc) (by omega)
      rw [val_setP 4294967296 _ (l := acc) (n := i) (by omega), hz i (Nat.le_refl _), pw_succ, Int.neg_mul, Int.sub_neg, hc, val_take_next, val_take_next, hD, Int.sub_mul, Int.add_mul]
      omega
    have next := ih (i + 1) (acc.set i (D % 4294967296)) (-(D / 4294967296)) (by omega) (dig_set ha (by omega) (by omega) _) (by simp [hl]) (fun p hp => by rw [rd_set_ne _ (by omega)]; exact hz p (by omega)) (by omega) (by omega) hv2 (fun h1 h2 => by
      rw [h2] at hv2
      rw [h1, List.take_length] at hv2
      rw [h1]
      omega) ly
    refine Ev.step (f := fun k => limb_Sub.l0 k y (acc.set i (D % 4294967296)) (-(D / 4294967296)) x (x.length : Int) ((i + 1 : Nat) : Int)) (fun k => ?_) next
    simp only [limb_Sub.l0]
    rw [if_pos (by omega), if_pos (by omega), if_pos (by omega), u64_in (x := rd x (i : Int)) (by omega) (by omega), wrap64_in (x := (i : Int) + 1) (by omega) (by omega)]
    by_cases h : (i : Int) < (y.length : Int)
    · rw [if_pos h, if_pos (by omega), u64_in (x := rd y (i : Int)) (by omega) (by omega), u64_in (x := c + rd y (i : Int)) (by omega) (by omega), ← hD, lo1, lo2]
      rfl
    · have e0 : rd y (i : Int) = 0 := rd_out (by omega)
      rw [if_neg h, if_pos (by omega), show rd x (i : Int) - c = D by omega, lo1, lo2]
      rfl
theorem ev_limbSub (m n : Nat) (hm : (digs 4294967296 m).length ≤ 1099511627776) (hn : (digs 4294967296 n).length ≤ 1099511627776) (h : n ≤ m) : Ev (fun k => limb_Sub.f k (digs 4294967296 m) (digs 4294967296 n)) (digs 4294967296 (m - n), 0) := by
  unfold limb_Sub.f
  refine Ev.bind (ev_limbCmp m n hm hn) (ev_neg (by unfold cmp3; split <;> (try split) <;> omega) (ev_pos (by omega) (ev_pos (by omega) ?_)))
  have e1 : val (4294967296 : Int) (digs 4294967296 m) = m := val_digs (b := 4294967296) (by decide) m
  have e2 : val (4294967296 : Int) (digs 4294967296 n) = n := val_digs (b := 4294967296) (by decide) n
  have hl := digs_len_mono (b := 4294967296) (by decide) h
  have g := sub_loop _ _ (dig_digs (b := 4294967296) (by decide) m) (dig_digs (b := 4294967296) (by decide) n) hm (by rw [e1, e2]; omega) (digs 4294967296 m).length 0 (List.replicate (digs 4294967296 m).length 0) 0 (by omega) (dig_replicate (by decide) _) (by simp) (fun p _ => rd_replicate _ _) (by omega) (by omega) (by rw [val_replicate]; simp [val]) (fun h0 _ => by
    rw [val_replicate, List.take_zero]
    have : digs 4294967296 m = [] := List.length_eq_zero_iff.1 h0.symm
    rw [this]; simp [val]) hl
  rw [e1, e2, show ((m : Int) - n).toNat = m - n by omega] at g
  rw [Int.toNat_natCast]
  exact g
theorem made_neg (s : Bool) (z : Int) (h : z = 0 ∨ s = neg z) : (s && decide (mag 4294967296 z ≠ [])) = neg z := by
  by_cases hz : z = 0
  · subst hz; simp [mag, digs_zero, neg]
  · have hne : mag 4294967296 z ≠ [] := fun h => hz ((mag_nil (by decide)).1 h)
    simp only [hne, ne_eq, not_false_eq_true, decide_true, Bool.and_true]
    exact h.resolve_left hz
theorem ev_add (x y : Int) (hx : (mag 4294967296 x).length ≤ 1099511627776) (hy : (mag 4294967296 y).length ≤ 1099511627776) : Ev (fun k => integer_Int_Add.f k (neg x) (mag 4294967296 x) (neg y) (mag 4294967296 y)) (neg (x + y), mag 4294967296 (x + y)) := by
  have fin : ∀ (s : Bool) (n : Nat), n = (x + y).natAbs → (x + y = 0 ∨ s = neg (x + y)) → Ev (fun k => (integer_made.f s (digs 4294967296 n)).bind fun bt => (some (bt.1, bt.2))) (neg (x + y), mag 4294967296 (x + y)) := by
    intro s n hn hs
    subst hn
    rw [made_at]
    have := made_neg s (x + y) hs
    rw [show digs 4294967296 (x + y).natAbs = mag 4294967296 (x + y) from rfl, this]
    exact Ev.now _
  unfold integer_Int_Add.f
  by_cases hs : (neg x == neg y) = true
  · refine ev_pos hs (Ev.bind (ev_limbAdd _ _ hx hy) ?_)
    have h2 : neg x = neg y := by simpa using hs
    unfold neg at h2 ⊢
    have h3 : x < 0 ↔ y < 0 := by simpa using h2
    refine fin _ _ (by omega) ?_
    unfold neg
    by_cases h0 : x + y = 0
    · exact .inl h0
    · right
      by_cases hx0 : x < 0
      · rw [decide_eq_true hx0, decide_eq_true (by have := h3.1 hx0; omega)]
      · rw [decide_eq_false hx0, decide_eq_false (by have := fun h => hx0 (h3.2 h); omega)]
  · refine ev_neg hs ?_
    have h2 : ¬ (x < 0 ↔ y < 0) := by
      intro h; apply hs; unfold neg; simpa using h
    refine Ev.bind (ev_limbCmp x.natAbs y.natAbs hx hy) ?_
    by_cases hc : x.natAbs < y.natAbs
    · rw [cmp3_lt (by omega)]
      refine ev_pos (by decide) (Ev.bind (ev_limbSub y.natAbs x.natAbs hy hx (by omega)) ?_)
      refine fin _ _ (by omega) (.inr ?_)
      unfold neg
      by_cases hy0 : y < 0
      · rw [decide_eq_true hy0, decide_eq_true (by omega)]
      · rw [decide_eq_false hy0, decide_eq_false (by omega)]
    · refine ev_neg (by unfold cmp3; split <;> (try split) <;> omega) (Ev.bind (ev_limbSub x.natAbs y.natAbs hx hy (by omega)) ?_)
      refine fin _ _ (by omega) ?_
      by_cases h0 : x + y = 0
      · exact .inl h0
      · right
        unfold neg
        by_cases hx0 : x < 0
        · rw [decide_eq_true hx0, decide_eq_true (by omega)]
        · rw [decide_eq_false hx0, decide_eq_false (by omega)]
end Go.Proofs.YtakmkhokbcjapaaDoor.IntC
end
section
namespace Go.Proofs.YtakmkhokbcjapaaDoor.XA
open Go.Proofs.YtakmkhokbcjapaaDoor.Lift Go.RowKit Go.Proofs.YtakmkhokbcjapaaDoorW.PrintWords Go.Proofs.YtakmkhokbcjapaaDoorW.PrintLast Go.Proofs.YtakmkhokbcjapaaDoorW.PrintMore
attribute [local go_sem] max2_int min2_int max_two min_two max_three min_three max_four min_four
mutual
def poly_Mul.j0 : Nat → List (S39) → List (S39) → Bool → Option ((List (S39)) × Int)
 | 0, _, _, _ => none
 | k + 1, x0, x1, x19 => if x19 = true then (some (([] : List (S39)), 0)) else (if 0 ≤ (wrap64 ((wrap64 ((x0.length : Int) + (x1.length : Int))) - 1)) then (if (wrap64 ((wrap64 ((x0.length : Int) + (x1.length : Int))) - 1) : Int).toNat ≤ 8796093022208 then (poly_Mul.l0 k x1 (List.replicate (wrap64 ((wrap64 ((x0.length : Int) + (x1.length : Int))) - 1) : Int).toNat z39) 0 x0 (x0.length : Int) 0) else (none)) else (none))
def poly_Mul.l0 : Nat → List (S39) → List (S39) → Int → List (S39) → Int → Int → Option ((List (S39)) × Int)
 | 0, _, _, _, _, _, _ => none
 | k + 1, x1, x6, x7, x27, x28, x29 => if x29 < x28 then (if 0 ≤ x29 then (if x29 < (x27.length : Int) then (poly_Mul.l1 k x1 x6 x7 x29 x27 x28 x29 x1 (x1.length : Int) 0 ((rd_T39 x27 x29).f0) ((rd_T39 x27 x29).f1)) else (none)) else (none)) else (some (x6, x7))
def poly_Mul.l1 : Nat → List (S39) → List (S39) → Int → Int → List (S39) → Int → Int → List (S39) → Int → Int → Bool → List Int → Option ((List (S39)) × Int)
 | 0, _, _, _, _, _, _, _, _, _, _, _, _ => none
 | k + 1, x1, x6, x7, x8, x27, x28, x29, x34, x35, x36, qA, qB => if x36 < x35 then (if 0 ≤ x36 then (if x36 < (x34.length : Int) then (if 0 ≤ (wrap64 (x8 + x36)) then (if (wrap64 (x8 + x36)) < (x6.length : Int) then ((integer_Int_Mul.f k qA qB ((rd_T39 x34 x36).f0) ((rd_T39 x34 x36).f1)).bind fun bt749 => ((integer_Int_Add.f k ((rd_T39 x6 (wrap64 (x8 + x36))).f0) ((rd_T39 x6 (wrap64 (x8 + x36))).f1) bt749.1 bt749.2).bind fun bt753 => (poly_Mul.l1 k x1 (x6.set ((wrap64 (x8 + x36)) : Int).toNat (⟨bt753.1, bt753.2⟩ : S39)) (wrap64 (x7 + 1)) x8 x27 x28 x29 x34 x35 (wrap64 (x36 + 1)) qA qB))) else (none)) else (none)) else (none)) else (none)) else (poly_Mul.l0 k x1 x6 x7 x27 x28 (wrap64 (x29 + 1)))
end
def poly_Mul.f (k : Nat) (l0 : List (S39)) (l1 : List (S39)) : Option ((List (S39)) × Int) := if (l0.length : Int) = 0 then (poly_Mul.j0 k l0 l1 true) else (poly_Mul.j0 k l0 l1 ((l1.length : Int) == 0))
end Go.Proofs.YtakmkhokbcjapaaDoor.XA
end
section
namespace Go.Proofs.YtakmkhokbcjapaaDoor.XA
open Go.Proofs.YtakmkhokbcjapaaDoor.Lift Go.RowKit Go.Proofs.YtakmkhokbcjapaaDoorW.PrintWords Go.Proofs.YtakmkhokbcjapaaDoorW.PrintLast Go.Proofs.YtakmkhokbcjapaaDoorW.PrintMore
attribute [local go_sem] max2_int min2_int max_two min_two max_three min_three max_four min_four
def poly_placed.l0 : Nat → List (S39) → List (S39) → List (S39) → Int → Int → Option ((List (S39)))
 | 0, _, _, _, _, _ => none
 | k + 1, x0, x1, x7, x15, x16 => if x16 < x15 then (if x16 < (x0.length : Int) then (if 0 ≤ x16 then (if x16 < (x1.length : Int) then ((integer_Int_Add.f k ((rd_T39 x0 x16).f0) ((rd_T39 x0 x16).f1) ((rd_T39 x1 x16).f0) ((rd_T39 x1 x16).f1)).bind fun bt762 => (if x7.length < 4398046511104 then (poly_placed.l0 k x0 x1 (x7 ++ [(⟨bt762.1, bt762.2⟩ : S39)]) x15 (wrap64 (x16 + 1))) else (none))) else ((integer_Int_Add.f k ((rd_T39 x0 x16).f0) ((rd_T39 x0 x16).f1) false ([] : List Int)).bind fun bt769 => (if x7.length < 4398046511104 then (poly_placed.l0 k x0 x1 (x7 ++ [(⟨bt769.1, bt769.2⟩ : S39)]) x15 (wrap64 (x16 + 1))) else (none)))) else (none)) else (if x16 < (x1.length : Int) then (if 0 ≤ x16 then ((integer_Int_Add.f k false ([] : List Int) ((rd_T39 x1 x16).f0) ((rd_T39 x1 x16).f1)).bind fun bt777 => (if x7.length < 4398046511104 then (poly_placed.l0 k x0 x1 (x7 ++ [(⟨bt777.1, bt777.2⟩ : S39)]) x15 (wrap64 (x16 + 1))) else (none))) else (none)) else ((integer_Int_Add.f k false ([] : List Int) false ([] : List Int)).bind fun bt784 => (if x7.length < 4398046511104 then (poly_placed.l0 k x0 x1 (x7 ++ [(⟨bt784.1, bt784.2⟩ : S39)]) x15 (wrap64 (x16 + 1))) else (none))))) else (some x7)
def poly_placed.f (k : Nat) (l0 : List (S39)) (l1 : List (S39)) : Option ((List (S39))) := poly_placed.l0 k l0 l1 ([] : List (S39)) (mx (l0.length : Int) (l1.length : Int)) 0
def poly_Add.f (k : Nat) (l0 : List (S39)) (l1 : List (S39)) : Option ((List (S39))) := (poly_placed.f k l0 l1).bind fun qA => (some qA)
def swagelaw21_alike_1.f (k : Nat) (qA : Bool) (qB : List Int) (qC : Bool) (qD : List Int) : Option (Bool) := (integer_Int_Cmp.f k qA qB qC qD).bind fun qE => (some (qE == 0))
def integer_Int.l0 : Nat → List (S39) → List (S39) → Int → Int → Option (Bool)
 | 0, _, _, _, _ => none
 | k + 1, x1, x15, x16, x17 => if x17 < x16 then (if 0 ≤ x17 then (if x17 < (x15.length : Int) then (if x17 < (x1.length : Int) then ((swagelaw21_alike_1.f k ((rd_T39 x15 x17).f0) ((rd_T39 x15 x17).f1) ((rd_T39 x1 x17).f0) ((rd_T39 x1 x17).f1)).bind fun qF => (if qF = true then (integer_Int.l0 k x1 x15 x16 (wrap64 (x17 + 1))) else (some false))) else (none)) else (none)) else (none)) else (some true)
def integer_Int.f (k : Nat) (l0 : List (S39)) (l1 : List (S39)) : Option (Bool) := if (l0.length : Int) = (l1.length : Int) then (integer_Int.l0 k l1 l0 (l0.length : Int) 0) else (some false)
def swagelaw21_alike.f (k : Nat) (l0 : List (S39)) (l1 : List (S39)) : Option (Bool) := (integer_Int.f k l0 l1).bind fun qG => (some qG)
end Go.Proofs.YtakmkhokbcjapaaDoor.XA
end
section
namespace Go.Proofs.YtakmkhokbcjapaaDoor.Tabs
section
variable {α β : Type}
def tab (n : Nat) (g : Nat → α) : List α := (List.range n).map g
theorem tab_length (n : Nat) (g : Nat → α) : (tab n g).length = n := by simp [tab]
theorem tab_succ (n : Nat) (g : Nat → α) : tab (n + 1) g = tab n g ++ [g n] := by simp [tab, List.range_succ]
theorem tab_getElem? {n i : Nat} (g : Nat → α) (h : i < n) : (tab n g)[i]? = some (g i) := by
  unfold tab; rw [List.getElem?_map, List.getElem?_range h]; rfl
theorem tab_getD {n i : Nat} (g : Nat → α) (d : α) (h : i < n) : (tab n g).getD i d = g i := by
  rw [List.getD_eq_getElem?_getD, tab_getElem? g h]; rfl
theorem tab_congr {n : Nat} {g h : Nat → α} (e : ∀ i, i < n → g i = h i) : tab n g = tab n h := by
  unfold tab; apply List.map_congr_left; intro i hi; exact e i (List.mem_range.1 hi)
theorem tab_ext {n : Nat} {l : List α} {g : Nat → α} (hl : l.length = n) (h : ∀ i, i < n → l[i]? = some (g i)) : l = tab n g := by
  apply List.ext_getElem?
  intro i
  by_cases hi : i < n
  · rw [h i hi, tab_getElem? g hi]
  · rw [List.getElem?_eq_none (by omega), List.getElem?_eq_none (by rw [tab_length]; omega)]
theorem tab_set (n i : Nat) (v : α) (g : Nat → α) : (tab n g).set i v = tab n (fun j => if j = i then v else g j) := by
  refine tab_ext (by rw [List.length_set, tab_length]) ?_
  intro j hj
  by_cases h : j = i
  · subst h; rw [List.getElem?_set_self (by rw [tab_length]; exact hj), if_pos rfl]
  · rw [List.getElem?_set_ne (fun h' => h h'.symm), tab_getElem? g hj, if_neg h]
theorem tab_replicate (n : Nat) (v : α) : List.replicate n v = tab n (fun _ => v) := by
  refine tab_ext (by simp) ?_
  intro i hi; rw [List.getElem?_replicate, if_pos hi]
end
end Go.Proofs.YtakmkhokbcjapaaDoor.Tabs
end
section
namespace Go.Proofs.YtakmkhokbcjapaaDoor.Sums
def sumN : Nat → (Nat → Int) → Int
  | 0, _ => 0
  | n + 1, f => sumN n f + f n
theorem sumN_congr {f g : Nat → Int} : ∀ {n : Nat}, (∀ i, i < n → f i = g i) → sumN n f = sumN n g
  | 0, _ => rfl
  | n + 1, h => by unfold sumN; rw [sumN_congr (n := n) (fun i hi => h i (by omega)), h n (by omega)]
theorem sumN_abs {f : Nat → Int} {B : Nat} : ∀ {n : Nat}, (∀ i, i < n → (f i).natAbs ≤ B) → (sumN n f).natAbs ≤ n * B
  | 0, _ => by simp [sumN]
  | n + 1, h => by
    have h1 := sumN_abs (n := n) (fun i hi => h i (by omega))
    have h2 := h n (by omega)
    unfold sumN
    rw [Nat.succ_mul]
    omega
def ext (n : Nat) (g : Nat → Int) (i : Nat) : Int := if i < n then g i else 0
theorem ext_in {n : Nat} {g : Nat → Int} {i : Nat} (h : i < n) : ext n g i = g i := if_pos h
theorem ext_out {n : Nat} {g : Nat → Int} {i : Nat} (h : n ≤ i) : ext n g i = 0 := if_neg (by omega)
theorem ext_abs {n : Nat} {g : Nat → Int} {B : Nat} (h : ∀ i, (g i).natAbs ≤ B) (i : Nat) : (ext n g i).natAbs ≤ B := by
  unfold ext; split
  · exact h i
  · simp
end Go.Proofs.YtakmkhokbcjapaaDoor.Sums
end
section
namespace Go.Proofs.YtakmkhokbcjapaaDoor.PolyA
open Go Go.RowKit Go.Proofs.YtakmkhokbcjapaaDoorW.PrintWords Go.Proofs.YtakmkhokbcjapaaDoorW.PrintLast Go.Proofs.YtakmkhokbcjapaaDoor.XA Go.Proofs.YtakmkhokbcjapaaDoor.Nums Go.Proofs.YtakmkhokbcjapaaDoor.Evs Go.Proofs.YtakmkhokbcjapaaDoor.IntA Go.Proofs.YtakmkhokbcjapaaDoor.IntB Go.Proofs.YtakmkhokbcjapaaDoor.IntC Go.Proofs.YtakmkhokbcjapaaDoor.Tabs Go.Proofs.YtakmkhokbcjapaaDoor.Sums
def R (z : Int) : S39 := ⟨neg z, mag 4294967296 z⟩
def fit (B : Nat) : Prop := B < 2 ^ 1000
theorem fit_le {a b : Nat} (h : a ≤ b) (hb : fit b) : fit a := Nat.lt_of_le_of_lt h hb
def sm (z : Int) : Prop := z.natAbs < 2 ^ 1000
theorem sm_of {z : Int} {B : Nat} (h : z.natAbs ≤ B) (hB : fit B) : sm z := Nat.lt_of_le_of_lt h hB
theorem sm_len {z : Int} (h : sm z) : (mag 4294967296 z).length ≤ 1099511627776 := Nat.le_trans (mag_len_of (by decide) h) (by decide)
theorem add_ev {x y : Int} (hx : sm x) (hy : sm y) : Ev (fun k => integer_Int_Add.f k (R x).f0 (R x).f1 (R y).f0 (R y).f1) ((R (x + y)).f0, (R (x + y)).f1) := ev_add x y (sm_len hx) (sm_len hy)
def RT (n : Nat) (g : Nat → Int) : List S39 := tab n (fun i => R (g i))
theorem RT_len (n : Nat) (g : Nat → Int) : (RT n g).length = n := tab_length _ _
theorem rd_RT {n : Nat} (g : Nat → Int) {i : Nat} (h : i < n) : rd_T39 (RT n g) (i : Int) = R (g i) := by
  unfold rd_T39 RT
  rw [Int.toNat_natCast, tab_getD _ _ h]
theorem RT_set (n i : Nat) (v : Int) (g : Nat → Int) : (RT n g).set i (R v) = RT n (fun j => if j = i then v else g j) := by
  unfold RT
  rw [tab_set]
  refine tab_congr (fun j _ => ?_)
  show (if j = i then R v else R (g j)) = R (if j = i then v else g j)
  split <;> rfl
theorem RT_congr {n : Nat} {g h : Nat → Int} (e : ∀ i, i < n → g i = h i) : RT n g = RT n h := tab_congr (fun i hi => by rw [e i hi])
theorem RT_replicate (n : Nat) : List.replicate n z39 = RT n (fun _ => 0) := tab_replicate n z39
theorem RT_succ (n : Nat) (g : Nat → Int) : RT n g ++ [R (g n)] = RT (n + 1) g := (tab_succ n _).symm
theorem RT_getElem? {n i : Nat} (g : Nat → Int) (h : i < n) : (RT n g)[i]? = some (R (g i)) := tab_getElem? _ h
theorem RT_ext {n : Nat} {l : List S39} {g : Nat → Int} (hl : l.length = n) (h : ∀ i, i < n → l[i]? = some (R (g i))) : l = RT n g := tab_ext hl h
theorem RT_take {n m : Nat} (g : Nat → Int) (h : m ≤ n) : (RT n g).take m = RT m g := by
  refine RT_ext (by rw [List.length_take, RT_len]; omega) (fun i hi => ?_)
  rw [List.getElem?_take_of_lt hi, RT_getElem? g (by omega)]
theorem next {j n : Nat} (h : j < n) (hn : n ≤ 4611686018427387904) : wrap64 ((j : Int) + 1) = ((j + 1 : Nat) : Int) := by rw [wrap64_in] <;> omega
section
variable (nx ny : Nat) (x y : Nat → Int)
end
theorem list_loop (l : List Int) (hl : l.length ≤ 100000) (hw : ∀ i, i < l.length → -9223372036854775808 ≤ l.getD i 0 ∧ l.getD i 0 ≤ 9223372036854775807) : ∀ d i, i + d = l.length → Ev (fun k => swagelaw21_list.l0 k (RT i (fun j => l.getD j 0)) l (l.length : Int) (i : Int)) (RT l.length (fun j => l.getD j 0)) := by
  intro d
  induction d with
  | zero =>
    intro i hi
    obtain rfl : i = l.length := by omega
    refine Ev.step (f := fun _ => some _) (fun k => ?_) (Ev.now _)
    simp only [swagelaw21_list.l0]
    rw [if_neg (by omega)]
  | succ d ih =>
    intro i hi
    have hlt : i < l.length := by omega
    refine Ev.step (f := fun k => (integer_Of.f k (l.getD i 0)).bind fun b => swagelaw21_list.l0 k (RT i (fun j => l.getD j 0) ++ [⟨b.1, b.2⟩]) l (l.length : Int) ((i + 1 : Nat) : Int)) (fun k => ?_) ?_
    · simp only [swagelaw21_list.l0]
      rw [if_pos (by omega), if_pos (by omega), if_pos (by omega), rd_nat, next hlt (by omega), RT_len]
      simp only [show i < 4398046511104 by omega, if_true]
    · have hb := hw i hlt
      refine Ev.bind (ev_of _ hb.1 hb.2) ?_
      show Ev (fun k => swagelaw21_list.l0 k (RT i (fun j => l.getD j 0) ++ [R (l.getD i 0)]) _ _ _) _
      rw [RT_succ i (fun j => l.getD j 0)]
      exact ih (i + 1) (by omega)
theorem list_ev (l : List Int) (hl : l.length ≤ 100000) (hw : ∀ i, i < l.length → -9223372036854775808 ≤ l.getD i 0 ∧ l.getD i 0 ≤ 9223372036854775807) : Ev (fun k => swagelaw21_list.f k l) (RT l.length (fun j => l.getD j 0)) := by
  unfold swagelaw21_list.f
  exact list_loop l hl hw l.length 0 (by omega)
end Go.Proofs.YtakmkhokbcjapaaDoor.PolyA
end
section
namespace Go.Proofs.YtakmkhokbcjapaaDoor.PolyB
open Go Go.RowKit Go.Proofs.YtakmkhokbcjapaaDoorW.PrintWords Go.Proofs.YtakmkhokbcjapaaDoorW.PrintLast Go.Proofs.YtakmkhokbcjapaaDoor.XA Go.Proofs.YtakmkhokbcjapaaDoor.Nums Go.Proofs.YtakmkhokbcjapaaDoor.Evs Go.Proofs.YtakmkhokbcjapaaDoor.IntA Go.Proofs.YtakmkhokbcjapaaDoor.IntB Go.Proofs.YtakmkhokbcjapaaDoor.IntC Go.Proofs.YtakmkhokbcjapaaDoor.Tabs Go.Proofs.YtakmkhokbcjapaaDoor.Sums Go.Proofs.YtakmkhokbcjapaaDoor.PolyA
theorem rd_tab {n : Nat} (g : Nat → List S39) {i : Nat} (h : i < n) : rd_L5 (tab n g) (i : Int) = g i := by
  unfold rd_L5
  rw [Int.toNat_natCast, tab_getD _ _ h]
def top (c : Nat → Int) : Nat → Int
  | 0 => -1
  | d + 1 => if c d = 0 then top c d else d
theorem top_small {c : Nat → Int} {n : Nat} : ∀ {d : Nat}, (∀ t, n ≤ t → t < d → c t = 0) → top c d < n
  | 0, _ => by unfold top; omega
  | d + 1, h => by
    unfold top
    by_cases h0 : c d = 0
    · rw [if_pos h0]; exact top_small (fun t h1 h2 => h t h1 (by omega))
    · rw [if_neg h0]
      rcases Nat.lt_or_ge d n with h1 | h1
      · omega
      · exact absurd (h d h1 (by omega)) h0
theorem top_great {c : Nat → Int} {n t : Nat} (h1 : n ≤ t) (h0 : c t ≠ 0) : ∀ {d : Nat}, t < d → (n : Int) ≤ top c d
  | 0, h => by omega
  | d + 1, h => by
    unfold top
    by_cases hd : c d = 0
    · rw [if_pos hd]
      have : t ≠ d := fun e => h0 (e ▸ hd)
      exact top_great h1 h0 (by omega)
    · rw [if_neg hd]; omega
theorem deg_loop (A : Nat) (c : Nat → Int) (hA : A ≤ 100000) : ∀ d, d ≤ A → Ev (fun k => poly_Degree.l0 k (RT A c) ((d : Int) - 1)) (top c d)
  | 0, _ => by
    refine Ev.step (f := fun _ => some (-1)) (fun k => ?_) (Ev.now _)
    simp only [poly_Degree.l0]
    rw [if_neg (by omega)]
    rfl
  | d + 1, h => by
    refine Ev.step (f := fun k => if c d = 0 then poly_Degree.l0 k (RT A c) ((d : Int) - 1) else some (d : Int)) (fun k => ?_) ?_
    · simp only [poly_Degree.l0]
      rw [show ((d + 1 : Nat) : Int) - 1 = (d : Int) by omega, if_pos (by omega), if_pos (by omega), if_pos (by rw [RT_len]; omega), rd_RT c (show d < A by omega)]
      rw [show integer_Int_Sign.f (R (c d)).f0 (R (c d)).f1 = some (sgn (c d)) from sign_at (c d), Option.bind_some, wrap64_in (by omega) (by omega)]
      by_cases h0 : c d = 0
      · rw [if_pos h0, h0, if_pos (by decide)]
      · rw [if_neg h0, if_neg (by unfold sgn; rw [if_neg h0]; split <;> decide)]
    · unfold top
      by_cases h0 : c d = 0
      · rw [if_pos h0]; exact ev_pos h0 (deg_loop A c hA d (by omega))
      · rw [if_neg h0]; exact ev_neg h0 (Ev.now _)
theorem deg_ev (A : Nat) (c : Nat → Int) (hA : A ≤ 100000) : Ev (fun k => poly_Degree.f k (RT A c)) (top c A) := by
  unfold poly_Degree.f
  rw [RT_len, wrap64_in (by omega) (by omega)]
  exact deg_loop A c hA A (Nat.le_refl _)
section
variable (m n : Nat) (L : Nat → Nat) (g : Nat → Nat → Int)
def blocks (nb : Nat) : List (List S39) := tab nb (fun i => RT (L i) (g i))
def reach : Nat → Nat
  | 0 => n
  | i + 1 => max (reach i) (i * m + L i)
def lay (i t : Nat) : Int := sumN i (fun s => if s * m ≤ t then ext (L s) (g s) (t - s * m) else 0)
def layTo (i j t : Nat) : Int := lay m L g i t + if i * m ≤ t ∧ t < i * m + j then g i (t - i * m) else 0
theorem reach_mono : ∀ d i, reach m n L i ≤ reach m n L (i + d)
  | 0, i => Nat.le_refl _
  | d + 1, i => by
    have := reach_mono d i
    show reach m n L i ≤ max (reach m n L (i + d)) _
    omega
theorem reach_in {i nb : Nat} (h : i < nb) : i * m + L i ≤ reach m n L nb := by
  have h1 := reach_mono m n L (nb - (i + 1)) (i + 1)
  rw [show i + 1 + (nb - (i + 1)) = nb by omega] at h1
  have : i * m + L i ≤ reach m n L (i + 1) := by
    show _ ≤ max (reach m n L i) (i * m + L i)
    omega
  omega
theorem reach_n (nb : Nat) : n ≤ reach m n L nb := by
  have h := reach_mono m n L nb 0
  rw [Nat.zero_add] at h
  exact h
theorem reach_le (hm : m ≤ 4096) (hn : n ≤ 8192) (hL : ∀ i, L i ≤ 8192) : ∀ nb, nb ≤ 15 → reach m n L nb ≤ 8192 + 15 * 4096
  | 0, _ => by show n ≤ _; omega
  | i + 1, h => by
    have h1 := reach_le hm hn hL i (by omega)
    have h2 : i * m ≤ 14 * 4096 := Nat.mul_le_mul (by omega) hm
    have h3 := hL i
    show max (reach m n L i) (i * m + L i) ≤ _
    omega
theorem layTo_zero (i t : Nat) : layTo m L g i 0 t = lay m L g i t := by unfold layTo; rw [if_neg (by omega)]; omega
theorem layTo_full (i t : Nat) : layTo m L g i (L i) t = lay m L g (i + 1) t := by
  unfold layTo
  show _ = lay m L g i t + (if i * m ≤ t then ext (L i) (g i) (t - i * m) else 0)
  by_cases h : i * m ≤ t
  · by_cases h2 : t < i * m + L i
    · rw [if_pos ⟨h, h2⟩, if_pos h, ext_in (by omega)]
    · rw [if_neg (fun h' => h2 h'.2), if_pos h, ext_out (by omega)]
  · rw [if_neg (fun h' => h h'.1), if_neg h]
theorem layTo_succ (i j t : Nat) : layTo m L g i (j + 1) t = if t = i * m + j then layTo m L g i j t + g i j else layTo m L g i j t := by
  unfold layTo
  by_cases h : t = i * m + j
  · rw [if_pos h, if_pos (by omega), if_neg (by omega), show t - i * m = j by omega]; omega
  · rw [if_neg h]
    by_cases h2 : i * m ≤ t ∧ t < i * m + j
    · rw [if_pos h2, if_pos (by omega)]
    · rw [if_neg h2, if_neg (by omega)]
theorem lay_abs {B : Nat} (hg : ∀ s u, (g s u).natAbs ≤ B) (i t : Nat) : (lay m L g i t).natAbs ≤ i * B := by
  refine sumN_abs (fun s _ => ?_)
  split
  · exact ext_abs (hg s) _
  · simp
theorem layTo_abs {B : Nat} (hg : ∀ s u, (g s u).natAbs ≤ B) (i j t : Nat) : (layTo m L g i j t).natAbs ≤ i * B + B := by
  have h1 := lay_abs m L g hg i t
  have h2 := hg i (t - i * m)
  unfold layTo
  split <;> omega
variable {m n L g}
theorem wrapN {x : Nat} (h : x ≤ 1000000) : wrap64 (x : Int) = (x : Int) := by unfold wrap64; omega
theorem join_inner {nb B : Nat} (hm : m ≤ 4096) (hn : n ≤ 8192) (hL : ∀ i, L i ≤ 8192) (hb : nb ≤ 15) (hg : ∀ s u, (g s u).natAbs ≤ B) (hB : fit (20 * B)) {i : Nat} (hi : i < nb) {Q : List S39 × Int}
    (cont : Ev (fun k => split_Join.l1 k (m : Int) (n : Int) (RT (reach m n L nb) (lay m L g (i + 1))) (blocks L g nb) (nb : Int) ((i + 1 : Nat) : Int)) Q) :
    ∀ d j, j + d = L i → Ev (fun k => split_Join.l2 k (m : Int) (n : Int) (RT (reach m n L nb) (layTo m L g i j)) (i : Int) (blocks L g nb) (nb : Int) (i : Int) (RT (L i) (g i)) (L i : Int) (j : Int)) Q := by
  have hr := reach_le m n L hm hn hL nb hb
  have hin := reach_in m n L hi
  intro d
  induction d with
  | zero =>
    intro j hj
    obtain rfl : j = L i := by omega
    refine Ev.step (f := fun k => split_Join.l1 k (m : Int) (n : Int) (RT (reach m n L nb) (lay m L g (i + 1))) (blocks L g nb) (nb : Int) ((i + 1 : Nat) : Int)) (fun k => ?_) cont
    simp only [split_Join.l2]
    rw [if_neg (by omega), next hi (by omega), RT_congr (fun t _ => layTo_full m L g i t)]
  | succ d ih =>
    intro j hj
    have hlt : j < L i := by omega
    have him : i * m ≤ 14 * 4096 := Nat.mul_le_mul (by omega) hm
    have hLi := hL i
    have c4 : i * m + j < reach m n L nb := by omega
    have b1 : i * m ≤ 1000000 := by omega
    have b2 : i * m + j ≤ 1000000 := by omega
    have c5 : ((i * m + j : Nat) : Int) < ((RT (reach m n L nb) (layTo m L g i j)).length : Int) := by rw [RT_len]; exact Int.ofNat_lt.2 c4
    have s1 : sm (layTo m L g i j (i * m + j)) := sm_of (layTo_abs m L g hg i j _) (fit_le (by have : i * B ≤ 14 * B := Nat.mul_le_mul (by omega) (Nat.le_refl _); omega) hB)
    have s2 : sm (g i j) := sm_of (hg i j) (fit_le (by omega) hB)
    refine Ev.step (f := fun k => (integer_Int_Add.f k (R (layTo m L g i j (i * m + j))).f0 (R (layTo m L g i j (i * m + j))).f1 (R (g i j)).f0 (R (g i j)).f1).bind fun b => split_Join.l2 k (m : Int) (n : Int) ((RT (reach m n L nb) (layTo m L g i j)).set (i * m + j) ⟨b.1, b.2⟩) (i : Int) (blocks L g nb) (nb : Int) (i : Int) (RT (L i) (g i)) (L i : Int) ((j + 1 : Nat) : Int)) (fun k => ?_) ?_
    · simp only [split_Join.l2]
      have e1 : wrap64 ((i : Int) * (m : Int)) = ((i * m : Nat) : Int) := by rw [← Int.natCast_mul]; exact wrapN b1
      have e2 : wrap64 (((i * m : Nat) : Int) + (j : Int)) = ((i * m + j : Nat) : Int) := by rw [← Int.natCast_add]; exact wrapN b2
      rw [e1, e2]
      rw [if_pos (show (j : Int) < (L i : Int) from Int.ofNat_lt.2 hlt)]
      rw [if_pos (Int.natCast_nonneg j)]
      rw [if_pos (show (j : Int) < ((RT (L i) (g i)).length : Int) by rw [RT_len]; exact Int.ofNat_lt.2 hlt)]
      rw [if_pos (Int.natCast_nonneg (i * m + j))]
      rw [if_pos c5]
      have r1 := rd_RT (g i) hlt
      have r2 := rd_RT (layTo m L g i j) (show i * m + j < reach m n L nb by omega)
      have r3 := next hlt (Nat.le_trans hLi (by decide))
      rw [r1]
      rw [r2]
      rw [r3]
      rw [Int.toNat_natCast]
    · refine Ev.bind (add_ev s1 s2) ?_
      show Ev (fun k => split_Join.l2 k (m : Int) (n : Int) ((RT (reach m n L nb) (layTo m L g i j)).set (i * m + j) (R (layTo m L g i j (i * m + j) + g i j))) _ _ _ _ _ _ _) _
      rw [RT_set]
      have e : RT (reach m n L nb) (fun t => if t = i * m + j then layTo m L g i j (i * m + j) + g i j else layTo m L g i j t) = RT (reach m n L nb) (layTo m L g i (j + 1)) := RT_congr (fun t _ => by
        rw [layTo_succ]
        by_cases h : t = i * m + j
        · rw [if_pos h, if_pos h, h]
        · rw [if_neg h, if_neg h])
      rw [e]
      exact ih (j + 1) (by omega)
theorem join_outer {nb B : Nat} (hm : m ≤ 4096) (hn : n ≤ 8192) (hL : ∀ i, L i ≤ 8192) (hb : nb ≤ 15) (hg : ∀ s u, (g s u).natAbs ≤ B) (hB : fit (20 * B)) :
    ∀ d i, i + d = nb → Ev (fun k => split_Join.l1 k (m : Int) (n : Int) (RT (reach m n L nb) (lay m L g i)) (blocks L g nb) (nb : Int) (i : Int)) (if (n : Int) ≤ top (lay m L g nb) (reach m n L nb) then ([], 5) else (RT n (lay m L g nb), 0)) := by
  have hr := reach_le m n L hm hn hL nb hb
  intro d
  induction d with
  | zero =>
    intro i hi
    obtain rfl : i = nb := by omega
    refine Ev.step (f := fun k => (poly_Degree.f k (RT (reach m n L i) (lay m L g i))).bind fun t => if t ≥ (n : Int) then some ([], 5) else some (RT n (lay m L g i), 0)) (fun k => ?_) ?_
    · simp only [split_Join.l1]
      rw [if_neg (by omega)]
      have hn0 := reach_n m n L i
      congr 1
      funext t
      by_cases ht : t ≥ (n : Int)
      · rw [if_pos ht, if_pos ht]
      · rw [if_neg ht, if_neg ht]
        by_cases h0 : n = 0
        · subst h0; rfl
        · rw [if_neg (by omega), if_pos (by omega), RT_len, if_pos (by omega), Int.toNat_natCast, RT_take _ hn0]
    · refine Ev.bind (deg_ev _ _ (by omega)) ?_
      by_cases ht : (n : Int) ≤ top (lay m L g i) (reach m n L i)
      · refine ev_pos ht ?_
        rw [if_pos ht]; exact Ev.now _
      · refine ev_neg ht ?_
        rw [if_neg ht]; exact Ev.now _
  | succ d ih =>
    intro i hi
    have hlt : i < nb := by omega
    have h := join_inner hm hn hL hb hg hB hlt (ih (i + 1) (by omega)) (L i) 0 (by omega)
    refine Ev.step (f := fun k => split_Join.l2 k (m : Int) (n : Int) (RT (reach m n L nb) (layTo m L g i 0)) (i : Int) (blocks L g nb) (nb : Int) (i : Int) (RT (L i) (g i)) (L i : Int) ((0 : Nat) : Int)) (fun k => ?_) h
    simp only [split_Join.l1]
    rw [if_pos (by omega), if_pos (by omega), if_pos (by unfold blocks; rw [tab_length]; omega), RT_congr (fun t _ => layTo_zero m L g i t)]
    unfold blocks
    rw [rd_tab _ hlt, RT_len]
    rfl
theorem join_reach {nb : Nat} (hm : m ≤ 4096) (hn : n ≤ 8192) (hL : ∀ i, L i ≤ 8192) (hb : nb ≤ 15) {Q : List S39 × Int}
    (cont : Ev (fun k => split_Join.l1 k (m : Int) (n : Int) (RT (reach m n L nb) (lay m L g 0)) (blocks L g nb) (nb : Int) ((0 : Nat) : Int)) Q) :
    ∀ d i, i + d = nb → Ev (fun k => split_Join.l0 k (blocks L g nb) (m : Int) (n : Int) (reach m n L i : Int) (blocks L g nb) (nb : Int) (i : Int)) Q := by
  have hr := reach_le m n L hm hn hL nb hb
  intro d
  induction d with
  | zero =>
    intro i hi
    obtain rfl : i = nb := by omega
    refine Ev.step (f := fun k => split_Join.l1 k (m : Int) (n : Int) (RT (reach m n L i) (lay m L g 0)) (blocks L g i) (i : Int) ((0 : Nat) : Int)) (fun k => ?_) cont
    simp only [split_Join.l0]
    rw [if_neg (by omega), if_pos (by omega), Int.toNat_natCast, if_pos (by omega), RT_replicate]
    unfold blocks
    rw [tab_length]
    rfl
  | succ d ih =>
    intro i hi
    have hlt : i < nb := by omega
    have him : i * m ≤ 14 * 4096 := Nat.mul_le_mul (by omega) hm
    have hLi := hL i
    refine Ev.step (f := fun k => split_Join.l0 k (blocks L g nb) (m : Int) (n : Int) (reach m n L (i + 1) : Int) (blocks L g nb) (nb : Int) ((i + 1 : Nat) : Int)) (fun k => ?_) (ih (i + 1) (by omega))
    simp only [split_Join.l0]
    have e1 : wrap64 ((i : Int) * (m : Int)) = ((i * m : Nat) : Int) := by rw [← Int.natCast_mul, wrap64_in] <;> omega
    have e2 : wrap64 (((i * m : Nat) : Int) + (L i : Int)) = ((i * m + L i : Nat) : Int) := by rw [wrap64_in] <;> omega
    have e3 : mx ((reach m n L i : Nat) : Int) ((i * m + L i : Nat) : Int) = ((reach m n L (i + 1) : Nat) : Int) := by
      show _ = ((max (reach m n L i) (i * m + L i) : Nat) : Int)
      unfold mx; split <;> omega
    have e4 : rd_L5 (blocks L g nb) (i : Int) = RT (L i) (g i) := rd_tab _ hlt
    rw [e4, RT_len, e1, e2, e3, if_pos (by omega), if_pos (by omega), if_pos (by unfold blocks; rw [tab_length]; omega), if_neg (by omega), next hlt (by omega)]
theorem join_ev {nb B : Nat} (m1 : 1 ≤ m) (hm : m ≤ 4096) (hn : n ≤ 8192) (hL : ∀ i, L i ≤ 8192) (hb : nb ≤ 15) (hg : ∀ s u, (g s u).natAbs ≤ B) (hB : fit (20 * B)) :
    Ev (fun k => split_Join.f k (blocks L g nb) (m : Int) (n : Int)) (if (n : Int) ≤ top (lay m L g nb) (reach m n L nb) then ([], 5) else (RT n (lay m L g nb), 0)) := by
  unfold split_Join.f
  refine ev_neg (by omega) (ev_neg (by omega) (ev_neg (by omega) ?_))
  rw [decide_eq_false (by omega)]
  have h := join_reach hm hn hL hb (join_outer hm hn hL hb hg hB nb 0 (by omega)) nb 0 (by omega)
  refine Ev.step (f := fun k => split_Join.l0 k (blocks L g nb) (m : Int) (n : Int) (reach m n L 0 : Int) (blocks L g nb) (nb : Int) ((0 : Nat) : Int)) (fun k => ?_) h
  simp only [split_Join.j0]
  rw [if_neg (by decide)]
  unfold blocks
  rw [tab_length, if_neg (by omega)]
  rfl
end
end Go.Proofs.YtakmkhokbcjapaaDoor.PolyB
end
section
namespace Go.Proofs.YtakmkhokbcjapaaDoor.RefA
open Go Go.RowKit Go.Proofs.YtakmkhokbcjapaaDoorW.PrintWords Go.Proofs.YtakmkhokbcjapaaDoorW.PrintLast Go.Proofs.YtakmkhokbcjapaaDoor.XA Go.Proofs.YtakmkhokbcjapaaDoor.Nums Go.Proofs.YtakmkhokbcjapaaDoor.Evs
theorem norm_loop (s : Bool) (l : List Int) (hl : l.length ≤ 4611686018427387904) : ∀ n : Nat, n ≤ l.length → Ev (fun k => swageref02_norm.l0 k s l (n : Int)) (s && decide (strip (l.take n) ≠ []), strip (l.take n))
  | 0, _ => by
    refine Ev.step (f := fun _ => some (false, [])) (fun k => ?_) (by simpa [strip] using Ev.now _)
    simp only [swageref02_norm.l0]
    rw [if_neg (by omega)]
    cases s <;> simp
  | n + 1, h => by
    refine Ev.step (f := fun k => if rd l (n : Int) = 0 then swageref02_norm.l0 k s l (n : Int) else some (s, l.take (n + 1))) (fun k => ?_) ?_
    · simp only [swageref02_norm.l0]
      have e : wrap64 (((n + 1 : Nat) : Int) - 1) = n := by rw [wrap64_in] <;> omega
      rw [if_pos (by omega), e, if_pos (by omega), if_pos (by omega)]
      cases s
      · simp only [Bool.false_eq_true, if_false]
        rw [if_pos (show (0 : Int) ≤ ((n + 1 : Nat) : Int) by omega), if_pos (show ((n + 1 : Nat) : Int) ≤ (l.length : Int) by omega)]
        rfl
      · simp only [if_true]
        rw [if_pos (show (0 : Int) ≤ ((n + 1 : Nat) : Int) by omega), if_pos (show ((n + 1 : Nat) : Int) ≤ (l.length : Int) by omega)]
        rfl
    · rw [take_snoc (show n < l.length by omega), strip_snoc]
      by_cases h0 : rd l (n : Int) = 0
      · rw [if_pos h0]; exact ev_pos h0 (norm_loop s l hl n (by omega))
      · rw [if_neg h0]
        refine ev_neg h0 ?_
        simp only [ne_eq, List.append_eq_nil_iff, List.cons_ne_self, and_false, not_false_eq_true, decide_true, Bool.and_true, reduceCtorEq]
        exact Ev.now _
theorem ev_norm (s : Bool) (l : List Int) (hl : l.length ≤ 4611686018427387904) : Ev (fun k => swageref02_norm.f k s l) (s && decide (strip l ≠ []), strip l) := by
  have := norm_loop s l hl l.length (Nat.le_refl _)
  rw [List.take_length] at this
  exact this
theorem of_loop (x : Int) (hx : x.natAbs ≤ 9223372036854775808) : ∀ n : Nat, ∀ acc, n ≤ 9223372036854775808 → dig 65536 acc → acc.length + (digs 65536 n).length ≤ 64 → val 65536 acc + pw 65536 acc.length * n = x.natAbs → Ev (fun k => swageref02_Of.l0 k x (n : Int) acc) (neg x, mag 65536 x) := by
  intro n
  refine digs_ind (b := 65536) (by decide) (P := fun n => ∀ acc, n ≤ 9223372036854775808 → dig 65536 acc → acc.length + (digs 65536 n).length ≤ 64 → val 65536 acc + pw 65536 acc.length * n = x.natAbs → Ev (fun k => swageref02_Of.l0 k x (n : Int) acc) (neg x, mag 65536 x)) ?_ ?_ n
  · intro acc _ ha hl hv
    have e : strip acc = mag 65536 x := digs_of (b := 65536) (by decide) ha (by simpa using hv)
    clear hv
    refine Ev.step (f := fun k => (swageref02_norm.f k (decide (x < 0)) acc).bind fun bt371 => (some (bt371.1, bt371.2))) (fun k => ?_) ?_
    · simp only [swageref02_Of.l0]
      rw [if_neg (by omega)]
    · have h1 := ev_norm (decide (x < 0)) acc (by omega)
      rw [e] at h1
      have h2 : (decide (x < 0) && decide (mag 65536 x ≠ [])) = neg x := by
        by_cases h : x < 0
        · have : mag 65536 x ≠ [] := fun h' => by have := (mag_nil (b := 65536) (by decide)).1 h'; omega
          simp [neg, h, this]
        · simp [neg, h]
      rw [h2] at h1
      exact Ev.bind h1 (Ev.now _)
  · intro n hn ih acc hb ha hl hv
    have HV := Aside0.mk hv
    clear hv
    rw [digs_pos (b := 65536) (by decide) hn, List.length_cons] at hl
    refine Ev.step (f := fun k => swageref02_Of.l0 k x ((n / 65536 : Nat) : Int) (acc ++ [((n % 65536 : Nat) : Int)])) (fun k => ?_) (ih _ (by omega) (dig_append ha (dig_cons (by omega) (by omega) (dig_nil _))) (by rw [List.length_append]; simp only [List.length_cons, List.length_nil]; omega) ?_)
    · simp only [swageref02_Of.l0]
      rw [if_pos (by omega), if_pos (by omega), tmod_pos (by omega), tdiv_pos (by omega), u64_in (by omega) (by omega)]
      rw [show ((n : Int) % 65536) % 4294967296 = ((n % 65536 : Nat) : Int) by omega, show (n : Int) / 65536 = ((n / 65536 : Nat) : Int) by omega]
    · rw [val_snoc, ← pw_eq, List.length_append, show [((n % 65536 : Nat) : Int)].length = 1 from rfl, pw_succ, ← HV.out]
      have := Nat.mod_add_div n 65536
      have e : (n : Int) = ((n % 65536 : Nat) : Int) + 65536 * ((n / 65536 : Nat) : Int) := by omega
      rw [show pw 65536 acc.length * (n : Int) = pw 65536 acc.length * (((n % 65536 : Nat) : Int) + 65536 * ((n / 65536 : Nat) : Int)) by rw [← e]]
      grind
theorem ev_of (x : Int) (h : -9223372036854775808 ≤ x) (h' : x ≤ 9223372036854775807) : Ev (fun k => swageref02_Of.f k x) (neg x, mag 65536 x) := by
  have hl : (digs 65536 x.natAbs).length ≤ 64 := mag_len_of (b := 65536) (by decide) (x := x) (by omega)
  have main := of_loop x (by omega) x.natAbs [] (by omega) (dig_nil _) (by simpa using hl) (by rw [show pw 65536 ([] : List Int).length = 1 from pw_zero _]; simp [val])
  unfold swageref02_Of.f
  by_cases hx : x < 0
  · refine ev_pos hx ?_
    have e : IntKind.u64.wrap (-(IntKind.u64.wrap x)) = (x.natAbs : Int) := by
      simp [IntKind.wrap, IntKind.bits, IntKind.signed]; omega
    rw [e]
    exact Ev.step (fun k => rfl) main
  · refine ev_neg hx ?_
    have e : IntKind.u64.wrap x = (x.natAbs : Int) := by
      rw [u64_in] <;> omega
    rw [e]
    exact Ev.step (fun k => rfl) main
theorem sign_at (x : Int) : swageref02_Sign.f (neg x) (mag 65536 x) = some (if x = 0 then 0 else if x < 0 then -1 else 1) := by
  unfold swageref02_Sign.f
  have := mag_len_zero (b := 65536) (by decide) (x := x)
  by_cases h : x = 0
  · rw [if_pos (by have := this.2 h; omega), if_pos h]
  · rw [if_neg (by have := fun h' => h (this.1 h'); omega), if_neg h]
    by_cases h2 : x < 0
    · rw [if_pos (by simp [neg, h2]), if_pos h2]
    · rw [if_neg (by simp [neg, h2]), if_neg h2]
end Go.Proofs.YtakmkhokbcjapaaDoor.RefA
end
section
namespace Go.Proofs.YtakmkhokbcjapaaDoor.RefAdd
open Go Go.RowKit Go.Proofs.YtakmkhokbcjapaaDoorW.PrintWords Go.Proofs.YtakmkhokbcjapaaDoorW.PrintLast Go.Proofs.YtakmkhokbcjapaaDoor.XA Go.Proofs.YtakmkhokbcjapaaDoor.Nums Go.Proofs.YtakmkhokbcjapaaDoor.Evs
theorem norm_loop (s : Bool) (l : List Int) (hl : l.length ≤ 4611686018427387904) : ∀ n : Nat, n ≤ l.length → Ev (fun k => swageref02_norm.l0 k s l (n : Int)) (s && decide (strip (l.take n) ≠ []), strip (l.take n))
  | 0, _ => by
    refine Ev.step (f := fun _ => some (false, [])) (fun k => ?_) (by simpa [strip] using Ev.now _)
    simp only [swageref02_norm.l0]
    rw [if_neg (by omega)]
    cases s <;> simp
  | n + 1, h => by
    refine Ev.step (f := fun k => if rd l (n : Int) = 0 then swageref02_norm.l0 k s l (n : Int) else some (s, l.take (n + 1))) (fun k => ?_) ?_
    · simp only [swageref02_norm.l0]
      have e : wrap64 (((n + 1 : Nat) : Int) - 1) = n := by rw [wrap64_in] <;> omega
      rw [if_pos (by omega), e, if_pos (by omega), if_pos (by omega)]
      cases s
      · simp only [Bool.false_eq_true, if_false]
        rw [if_pos (show (0 : Int) ≤ ((n + 1 : Nat) : Int) by omega), if_pos (show ((n + 1 : Nat) : Int) ≤ (l.length : Int) by omega)]
        rfl
      · simp only [if_true]
        rw [if_pos (show (0 : Int) ≤ ((n + 1 : Nat) : Int) by omega), if_pos (show ((n + 1 : Nat) : Int) ≤ (l.length : Int) by omega)]
        rfl
    · rw [take_snoc (show n < l.length by omega), strip_snoc]
      by_cases h0 : rd l (n : Int) = 0
      · rw [if_pos h0]; exact ev_pos h0 (norm_loop s l hl n (by omega))
      · rw [if_neg h0]
        refine ev_neg h0 ?_
        simp only [ne_eq, List.append_eq_nil_iff, List.cons_ne_self, and_false, not_false_eq_true, decide_true, Bool.and_true, reduceCtorEq]
        exact Ev.now _
theorem ev_norm (s : Bool) (l : List Int) (hl : l.length ≤ 4611686018427387904) : Ev (fun k => swageref02_norm.f k s l) (s && decide (strip l ≠ []), strip l) := by
  have := norm_loop s l hl l.length (Nat.le_refl _)
  rw [List.take_length] at this
  exact this
theorem size_loop (l m : List Int) (hl : dig 65536 l) (hm : dig 65536 m) (hs : l.length ≤ 4611686018427387904) (he : l.length = m.length) : ∀ n : Nat, n ≤ l.length → Ev (fun k => swageref02_size.l0 k l m ((n : Int) - 1)) (cmp3 (val 65536 (l.take n)) (val 65536 (m.take n)))
  | 0, _ => by
    refine Ev.step (f := fun _ => some 0) (fun k => ?_) (by simpa [val, cmp3] using Ev.now _)
    simp only [swageref02_size.l0]
    rw [if_neg (by omega)]
  | n + 1, h => by
    rw [cmp3_take (by omega) hl hm (show n < l.length by omega) (show n < m.length by omega)]
    refine Ev.step (f := fun k => if rd l (n : Int) < rd m (n : Int) then some (-1) else if rd l (n : Int) > rd m (n : Int) then some 1 else swageref02_size.l0 k l m ((n : Int) - 1)) (fun k => ?_) ?_
    · simp only [swageref02_size.l0]
      have e : ((n + 1 : Nat) : Int) - 1 = n := by omega
      rw [e, if_pos (by omega), if_pos (by omega), if_pos (by omega), if_pos (by omega), wrap64_in (by omega) (by omega)]
    · by_cases c1 : rd l (n : Int) < rd m (n : Int)
      · rw [if_pos c1]; exact ev_pos c1 (Ev.now _)
      · rw [if_neg c1]
        refine ev_neg c1 ?_
        by_cases c2 : rd l (n : Int) > rd m (n : Int)
        · rw [if_pos c2]; exact ev_pos c2 (Ev.now _)
        · rw [if_neg c2]; exact ev_neg c2 (size_loop l m hl hm hs he n (by omega))
theorem ev_size (m n : Nat) (hm : (digs 65536 m).length ≤ 1099511627776) (hn : (digs 65536 n).length ≤ 1099511627776) : Ev (fun k => swageref02_size.f k (digs 65536 m) (digs 65536 n)) (cmp3 m n) := by
  unfold swageref02_size.f
  by_cases c0 : ((digs 65536 m).length : Int) = (digs 65536 n).length
  · refine ev_pos c0 ?_
    have e : (digs 65536 m).length = (digs 65536 n).length := by omega
    have := size_loop _ _ (dig_digs (b := 65536) (by decide) m) (dig_digs (b := 65536) (by decide) n) (by omega) e (digs 65536 m).length (Nat.le_refl _)
    rw [List.take_length] at this
    rw [e, List.take_length] at this
    rw [show val (65536 : Int) (digs 65536 m) = m from val_digs (b := 65536) (by decide) m, show val (65536 : Int) (digs 65536 n) = n from val_digs (b := 65536) (by decide) n] at this
    rw [e, wrap64_in (by omega) (by omega)]
    exact this
  · refine ev_neg c0 ?_
    by_cases c1 : ((digs 65536 m).length : Int) < (digs 65536 n).length
    · refine ev_pos c1 ?_
      have : m < n := by
        rcases Nat.lt_or_ge m n with h | h
        · exact h
        · have := digs_len_mono (b := 65536) (by decide) h
          omega
      rw [cmp3_lt (by omega)]
      exact Ev.now _
    · refine ev_neg c1 ?_
      have : n < m := by
        rcases Nat.lt_or_ge n m with h | h
        · exact h
        · have := digs_len_mono (b := 65536) (by decide) h
          omega
      rw [cmp3_gt (by omega)]
      exact Ev.now _
theorem take_out {l : List Int} {i : Nat} (h : l.length ≤ i) : l.take (i + 1) = l.take i := by rw [List.take_of_length_le h, List.take_of_length_le (by omega)]
theorem val_take_next (b : Int) (l : List Int) (i : Nat) : val b (l.take (i + 1)) = val b (l.take i) + rd l (i : Int) * pw b i := by
  rcases Nat.lt_or_ge i l.length with h | h
  · exact val_take_succP b h
  · rw [take_out h, rd_out h]; omega
theorem rd_dig {b : Int} (hb : 0 < b) {l : List Int} (h : dig b l) (i : Nat) : 0 ≤ rd l (i : Int) ∧ rd l (i : Int) < b := by
  rcases Nat.lt_or_ge i l.length with hi | hi
  · exact rd_lt h hi
  · rw [rd_out hi]; omega
theorem carryS (b P v s : Int) : (v + s % b * P) + (s / b) * (P * b) = v + s * P := by
  have e : (s / b) * (P * b) = ((s / b) * b) * P := by rw [Int.mul_comm P b, ← Int.mul_assoc]
  have hT := Int.mul_ediv_add_emod s b
  rw [e, Int.add_assoc, ← Int.add_mul, Int.add_comm (s % b), Int.mul_comm (s / b) b, hT]
theorem plus_loop (x y : List Int) (hx : dig 65536 x) (hy : dig 65536 y) (lx : x.length ≤ 1099511627776) (ly : y.length ≤ 1099511627776) : ∀ d i : Nat, i + d = max x.length y.length + 1 → ∀ (out : List Int) (c : Int), out.length = i → dig 65536 out → 0 ≤ c → c ≤ 1 →
    val 65536 out + c * pw 65536 i = val 65536 (x.take i) + val 65536 (y.take i) → (c = 0 ∨ i ≤ max x.length y.length) →
    ∃ Q, Ev (fun k => swageref02_plus.l0 k x y out c (i : Int)) Q ∧ dig 65536 Q ∧ val 65536 Q = val 65536 x + val 65536 y ∧ Q.length ≤ 1099511627800 := by
  intro d
  induction d with
  | zero =>
    intro i hi out c ho hd c0 c1 hv hc
    obtain rfl : c = 0 := by omega
    refine ⟨out, ?_, hd, ?_, by omega⟩
    · refine Ev.step (f := fun k => swageref02_plus.j1 k x y out 0 (i : Int) false) (fun k => ?_) (Ev.step (f := fun _ => some out) (fun k => ?_) (Ev.now _))
      · simp only [swageref02_plus.l0]
        rw [if_neg (by omega), if_neg (by omega)]
        rfl
      · simp only [swageref02_plus.j1]
        rw [if_neg (by simp)]
    · rw [List.take_of_length_le (by omega), List.take_of_length_le (by omega)] at hv
      omega
  | succ d ih =>
    intro i hi out c ho hd c0 c1 hv hc
    by_cases hend : x.length ≤ i ∧ y.length ≤ i ∧ c = 0
    · obtain ⟨h1, h2, rfl⟩ := hend
      refine ⟨out, ?_, hd, ?_, by omega⟩
      · refine Ev.step (f := fun k => swageref02_plus.j1 k x y out 0 (i : Int) false) (fun k => ?_) (Ev.step (f := fun _ => some out) (fun k => ?_) (Ev.now _))
        · simp only [swageref02_plus.l0]
          rw [if_neg (by omega), if_neg (by omega)]
          rfl
        · simp only [swageref02_plus.j1]
          rw [if_neg (by simp)]
      · rw [List.take_of_length_le h1, List.take_of_length_le h2] at hv
        omega
    · have dx := rd_dig (by decide) hx i
      have dy := rd_dig (by decide) hy i
      obtain ⟨s, hs⟩ : ∃ s, c + rd x (i : Int) + rd y (i : Int) = s := ⟨_, rfl⟩
      have hw : Unit → wrap64 ((i : Int) + 1) = ((i + 1 : Nat) : Int) := fun _ => by rw [wrap64_in (by omega) (by omega)]; omega
      have hs1 : s / 65536 = 0 ∨ i + 1 ≤ max x.length y.length := by
        rcases Nat.lt_or_ge i (max x.length y.length) with h | h
        · exact .inr h
        · left
          rw [rd_out (by omega), rd_out (by omega)] at hs
          omega
      obtain ⟨Q, e1, e2, e3, e4⟩ := ih (i + 1) (by omega) (out ++ [s % 65536]) (s / 65536) (by simp [ho]) (dig_append hd (dig_cons (by omega) (by omega) (dig_nil _))) (by omega) (by omega)
        (by
          rw [val_snoc, ho, pw_succ, val_take_next, val_take_next, ← pw_eq, carryS, ← hs, Int.add_mul, Int.add_mul]
          omega) hs1
      refine ⟨Q, ?_, e2, e3, e4⟩
      have hgo : Ev (fun k => swageref02_plus.j1 k x y out c (i : Int) true) Q := by
        refine Ev.step (f := fun k => swageref02_plus.l0 k x y (out ++ [s % 65536]) (s / 65536) ((i + 1 : Nat) : Int)) (fun k => ?_) e1
        simp only [swageref02_plus.j1]
        rw [if_pos trivial]
        by_cases h1 : i < x.length
        · rw [if_pos (show (i : Int) < x.length by omega), if_pos (show (0 : Int) ≤ i by omega)]
          by_cases h2 : i < y.length
          · rw [if_pos (show (i : Int) < y.length by omega), if_pos (by omega), hs, hw (), Int.emod_eq_of_lt (a := s) (b := 4294967296) (by omega) (by omega)]
          · have hy0 := rd_out (l := y) (n := i) (by omega)
            rw [hy0, Int.add_zero] at hs
            rw [if_neg (show ¬ (i : Int) < y.length by omega), if_pos (by omega), hs, hw (), Int.emod_eq_of_lt (a := s) (b := 4294967296) (by omega) (by omega)]
        · have hx0 := rd_out (l := x) (n := i) (by omega)
          rw [hx0, Int.add_zero] at hs
          rw [if_neg (show ¬ (i : Int) < x.length by omega)]
          by_cases h2 : i < y.length
          · rw [if_pos (show (i : Int) < y.length by omega), if_pos (show (0 : Int) ≤ i by omega), if_pos (by omega), hs, hw (), Int.emod_eq_of_lt (a := s) (b := 4294967296) (by omega) (by omega)]
          · have hy0 := rd_out (l := y) (n := i) (by omega)
            rw [hy0, Int.add_zero] at hs
            rw [if_neg (show ¬ (i : Int) < y.length by omega), if_pos (by omega), hs, hw (), tdiv_pos (by omega), tmod_pos (by omega), Int.emod_eq_of_lt (a := s / 65536) (b := 4294967296) (by omega) (by omega)]
      by_cases h1 : i < x.length
      · refine Ev.step (f := fun k => swageref02_plus.j1 k x y out c (i : Int) true) (fun k => ?_) hgo
        simp only [swageref02_plus.l0]
        rw [if_pos (by omega)]
      · by_cases h2 : i < y.length
        · refine Ev.step (f := fun k => swageref02_plus.j1 k x y out c (i : Int) true) (fun k => ?_) hgo
          simp only [swageref02_plus.l0]
          rw [if_neg (by omega), if_pos (by omega)]
        · refine Ev.step (f := fun k => swageref02_plus.j1 k x y out c (i : Int) true) (fun k => ?_) hgo
          simp only [swageref02_plus.l0]
          rw [if_neg (by omega), if_neg (by omega), decide_eq_true (show c > 0 by omega)]
theorem ev_plus (m n : Nat) (hm : (digs 65536 m).length ≤ 1099511627776) (hn : (digs 65536 n).length ≤ 1099511627776) : ∃ Q, Ev (fun k => swageref02_plus.f k (digs 65536 m) (digs 65536 n)) Q ∧ strip Q = digs 65536 (m + n) ∧ Q.length ≤ 1099511627800 := by
  obtain ⟨Q, e1, e2, e3, e4⟩ := plus_loop (digs 65536 m) (digs 65536 n) (dig_digs (by decide) m) (dig_digs (by decide) n) hm hn _ 0 (Nat.zero_add _) [] 0 rfl (dig_nil _) (by omega) (by omega) (by simp [val]) (.inl rfl)
  have v1 := val_digs (b := 65536) (by decide) m
  have v2 := val_digs (b := 65536) (by decide) n
  rw [show ((65536 : Nat) : Int) = 65536 from rfl] at v1 v2
  refine ⟨Q, e1, digs_of (b := 65536) (by decide) e2 ?_, e4⟩
  show val 65536 Q = _
  rw [e3, v1, v2]
  omega
theorem borrow {D P v c' g : Int} (hg : g = D + c' * 65536) : v + g * P = (v + D * P) + c' * (P * 65536) := by
  subst hg
  rw [Int.add_mul, Int.mul_assoc, Int.mul_comm 65536 P]
  omega
theorem minus_loop (x y : List Int) (hx : dig 65536 x) (hy : dig 65536 y) (lx : x.length ≤ 1099511627776) (ly : y.length ≤ x.length) (hge : val 65536 y ≤ val 65536 x) : ∀ d i : Nat, i + d = x.length → ∀ (out : List Int) (c : Int), out.length = i → dig 65536 out → 0 ≤ c → c ≤ 1 →
    val 65536 out = val 65536 (x.take i) - val 65536 (y.take i) + c * pw 65536 i →
    ∃ Q, Ev (fun k => swageref02_minus.l0 k x y out c (i : Int)) Q ∧ dig 65536 Q ∧ val 65536 Q = val 65536 x - val 65536 y ∧ Q.length ≤ 1099511627800 := by
  intro d
  induction d with
  | zero =>
    intro i hi out c ho hd c0 c1 hv
    obtain rfl : i = x.length := by omega
    rw [List.take_length, List.take_of_length_le ly] at hv
    have hlt := val_ltP (b := 65536) (by decide) hd
    rw [ho] at hlt
    have h0 : c = 0 := by
      rcases (show c = 0 ∨ c = 1 by omega) with h | h
      · exact h
      · subst h; rw [Int.one_mul] at hv; omega
    subst h0
    refine ⟨out, ?_, hd, by omega, by omega⟩
    refine Ev.step (f := fun _ => some out) (fun k => ?_) (Ev.now _)
    simp only [swageref02_minus.l0]
    rw [if_neg (by omega)]
  | succ d ih =>
    intro i hi out c ho hd c0 c1 hv
    have dx := rd_dig (by decide) hx i
    have dy := rd_dig (by decide) hy i
    have hw : Unit → wrap64 ((i : Int) + 1) = ((i + 1 : Nat) : Int) := fun _ => by rw [wrap64_in (by omega) (by omega)]; omega
    obtain ⟨t, ht⟩ : ∃ t, c + rd y (i : Int) = t := ⟨_, rfl⟩
    have key : ∀ c' g : Int, g = rd x (i : Int) - t + c' * 65536 → 0 ≤ g → g < 65536 → 0 ≤ c' → c' ≤ 1 →
        ∃ Q, Ev (fun k => swageref02_minus.l0 k x y (out ++ [g]) c' ((i + 1 : Nat) : Int)) Q ∧ dig 65536 Q ∧ val 65536 Q = val 65536 x - val 65536 y ∧ Q.length ≤ 1099511627800 := by
      intro c' g hg g0 g1 a0 a1
      refine ih (i + 1) (by omega) (out ++ [g]) c' (by simp [ho]) (dig_append hd (dig_cons g0 g1 (dig_nil _))) a0 a1 ?_
      rw [val_snoc, ho, pw_succ, val_take_next, val_take_next, ← pw_eq, borrow hg, hv, ← ht, Int.sub_mul, Int.add_mul]
      omega
    by_cases hb : rd x (i : Int) < t
    · obtain ⟨Q, e1, e2, e3, e4⟩ := key 1 (rd x (i : Int) + 65536 - t) (by omega) (by omega) (by omega) (by omega) (by omega)
      refine ⟨Q, Ev.step (f := fun k => swageref02_minus.l0 k x y (out ++ [rd x (i : Int) + 65536 - t]) 1 ((i + 1 : Nat) : Int)) (fun k => ?_) e1, e2, e3, e4⟩
      simp only [swageref02_minus.l0]
      rw [if_pos (show (i : Int) < x.length by omega)]
      by_cases h2 : i < y.length
      · rw [if_pos (show (i : Int) < y.length by omega), if_pos (show (0 : Int) ≤ i by omega), ht, Int.emod_eq_of_lt (a := t) (b := 4294967296) (by omega) (by omega), if_pos hb, if_pos (by omega), hw (), Int.emod_eq_of_lt (b := 4294967296) (by omega) (by omega)]
      · have hy0 := rd_out (l := y) (n := i) (by omega)
        rw [hy0, Int.add_zero] at ht
        subst ht
        rw [if_neg (show ¬ (i : Int) < y.length by omega), if_pos (show (0 : Int) ≤ i by omega), if_pos hb, if_pos (by omega), hw (), Int.emod_eq_of_lt (b := 4294967296) (by omega) (by omega)]
    · obtain ⟨Q, e1, e2, e3, e4⟩ := key 0 (rd x (i : Int) - t) (by omega) (by omega) (by omega) (by omega) (by omega)
      refine ⟨Q, Ev.step (f := fun k => swageref02_minus.l0 k x y (out ++ [rd x (i : Int) - t]) 0 ((i + 1 : Nat) : Int)) (fun k => ?_) e1, e2, e3, e4⟩
      simp only [swageref02_minus.l0]
      rw [if_pos (show (i : Int) < x.length by omega)]
      by_cases h2 : i < y.length
      · rw [if_pos (show (i : Int) < y.length by omega), if_pos (show (0 : Int) ≤ i by omega), ht, Int.emod_eq_of_lt (a := t) (b := 4294967296) (by omega) (by omega), if_neg hb, if_pos (by omega), hw (), Int.emod_eq_of_lt (b := 4294967296) (by omega) (by omega)]
      · have hy0 := rd_out (l := y) (n := i) (by omega)
        rw [hy0, Int.add_zero] at ht
        subst ht
        rw [if_neg (show ¬ (i : Int) < y.length by omega), if_pos (show (0 : Int) ≤ i by omega), if_neg hb, if_pos (by omega), hw (), Int.emod_eq_of_lt (b := 4294967296) (by omega) (by omega)]
theorem ev_minus (m n : Nat) (hm : (digs 65536 m).length ≤ 1099511627776) (h : n ≤ m) : ∃ Q, Ev (fun k => swageref02_minus.f k (digs 65536 m) (digs 65536 n)) Q ∧ strip Q = digs 65536 (m - n) ∧ Q.length ≤ 1099511627800 := by
  have v1 := val_digs (b := 65536) (by decide) m
  have v2 := val_digs (b := 65536) (by decide) n
  rw [show ((65536 : Nat) : Int) = 65536 from rfl] at v1 v2
  obtain ⟨Q, e1, e2, e3, e4⟩ := minus_loop (digs 65536 m) (digs 65536 n) (dig_digs (by decide) m) (dig_digs (by decide) n) hm (digs_len_mono (by decide) h) (by omega) _ 0 (Nat.zero_add _) [] 0 rfl (dig_nil _) (by omega) (by omega) (by simp [val])
  refine ⟨Q, e1, digs_of (b := 65536) (by decide) e2 ?_, e4⟩
  show val 65536 Q = _
  rw [e3, v1, v2]
  omega
theorem made_neg (s : Bool) (z : Int) (h : z = 0 ∨ s = neg z) : (s && decide (mag 65536 z ≠ [])) = neg z := by
  by_cases hz : z = 0
  · subst hz; simp [mag, digs_zero, neg]
  · have hne : mag 65536 z ≠ [] := fun h => hz ((mag_nil (by decide)).1 h)
    simp only [hne, ne_eq, not_false_eq_true, decide_true, Bool.and_true]
    exact h.resolve_left hz
theorem ev_add (x y : Int) (hx : (mag 65536 x).length ≤ 1099511627776) (hy : (mag 65536 y).length ≤ 1099511627776) : Ev (fun k => swageref02_Add.f k (neg x) (mag 65536 x) (neg y) (mag 65536 y)) (neg (x + y), mag 65536 (x + y)) := by
  have fin : ∀ (s : Bool) (Q : List Int) (n : Nat), strip Q = digs 65536 n → Q.length ≤ 1099511627800 → n = (x + y).natAbs → (x + y = 0 ∨ s = neg (x + y)) → Ev (fun k => (swageref02_norm.f k s Q).bind fun bt => (some (bt.1, bt.2))) (neg (x + y), mag 65536 (x + y)) := by
    intro s Q n hQ hl hn hs
    subst hn
    refine Ev.bind (ev_norm s Q (by omega)) ?_
    have := made_neg s (x + y) hs
    rw [hQ, show digs 65536 (x + y).natAbs = mag 65536 (x + y) from rfl, this]
    exact Ev.now _
  unfold swageref02_Add.f
  by_cases hs : (neg x == neg y) = true
  · obtain ⟨Q, e1, e2, e3⟩ := ev_plus x.natAbs y.natAbs hx hy
    refine ev_pos hs (Ev.bind e1 ?_)
    have h2 : neg x = neg y := by simpa using hs
    unfold neg at h2
    have h3 : x < 0 ↔ y < 0 := by simpa using h2
    refine fin _ Q _ e2 e3 (by omega) ?_
    unfold neg
    by_cases h0 : x + y = 0
    · exact .inl h0
    · right
      by_cases hx0 : x < 0
      · rw [decide_eq_true hx0, decide_eq_true (by have := h3.1 hx0; omega)]
      · rw [decide_eq_false hx0, decide_eq_false (by have := fun h => hx0 (h3.2 h); omega)]
  · refine ev_neg hs ?_
    have h2 : ¬ (x < 0 ↔ y < 0) := by
      intro h; apply hs; unfold neg; simpa using h
    refine Ev.bind (ev_size x.natAbs y.natAbs hx hy) ?_
    by_cases hc : x.natAbs < y.natAbs
    · rw [cmp3_lt (by omega)]
      obtain ⟨Q, e1, e2, e3⟩ := ev_minus y.natAbs x.natAbs hy (by omega)
      refine ev_neg (by decide) (Ev.bind e1 ?_)
      refine fin _ Q _ e2 e3 (by omega) (.inr ?_)
      unfold neg
      by_cases hy0 : y < 0
      · rw [decide_eq_true hy0, decide_eq_true (by omega)]
      · rw [decide_eq_false hy0, decide_eq_false (by omega)]
    · obtain ⟨Q, e1, e2, e3⟩ := ev_minus x.natAbs y.natAbs hx (by omega)
      refine ev_pos (by unfold cmp3; split <;> (try split) <;> omega) (Ev.bind e1 ?_)
      refine fin _ Q _ e2 e3 (by omega) ?_
      by_cases h0 : x + y = 0
      · exact .inl h0
      · right
        unfold neg
        by_cases hx0 : x < 0
        · rw [decide_eq_true hx0, decide_eq_true (by omega)]
        · rw [decide_eq_false hx0, decide_eq_false (by omega)]
end Go.Proofs.YtakmkhokbcjapaaDoor.RefAdd
end
