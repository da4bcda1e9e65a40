/- Part 8 of the proof of the law SplitJoins for every input: words, walks and plain laws. No condition. -/
import Derived.Test.YtakmkhokbcjapaaDoorKSplitJoins7
set_option linter.unusedVariables false
set_option linter.unusedSimpArgs false
set_option maxHeartbeats 8000000
set_option maxRecDepth 100000
section
namespace Go.Proofs.YtakmkhokbcjapaaDoor.XA
open Go.Proofs.YtakmkhokbcjapaaDoor.Lift Go.RowKit Go.Proofs.YtakmkhokbcjapaaDoorW.PrintWords Go.Proofs.YtakmkhokbcjapaaDoorW.PrintLast Go.Proofs.YtakmkhokbcjapaaDoorW.PrintMore
attribute [local go_sem] max2_int min2_int max_two min_two max_three min_three max_four min_four
def limb_Cmp.l0 : Nat → List Int → List Int → Int → Option (Int)
 | 0, _, _, _ => none
 | k + 1, x0, x1, x5 => if x5 ≥ 0 then (if 0 ≤ x5 then (if x5 < (x0.length : Int) then (if x5 < (x1.length : Int) then (if (rd x0 x5) < (rd x1 x5) then (some (-1)) else (if (rd x0 x5) > (rd x1 x5) then (some 1) else (limb_Cmp.l0 k x0 x1 (wrap64 (x5 - 1))))) else (none)) else (none)) else (none)) else (some 0)
def limb_Cmp.f (k : Nat) (l0 : List Int) (l1 : List Int) : Option (Int) := (limb_trim.f k l0).bind fun qB => ((limb_trim.f k l1).bind fun qD => (if (qB.length : Int) < (qD.length : Int) then (some (-1)) else (if (qB.length : Int) > (qD.length : Int) then (some 1) else (limb_Cmp.l0 k qB qD (wrap64 ((qB.length : Int) - 1))))))
theorem limb_Cmp.mono_l : ∀ k, (∀ y0 y1 y2, LeO (limb_Cmp.l0 k y0 y1 y2) (limb_Cmp.l0 (k + 1) y0 y1 y2))
 | 0 => fun _ _ _ r h => by simp [limb_Cmp.l0] at h
 | k + 1 => by
  have ih0 := limb_Cmp.mono_l k
  ·intro y0 y1 y2
   unfold limb_Cmp.l0
   have im0 := @limb_trim.mono; exact zM
theorem limb_Cmp.mono : ∀ a0 a1 k, LeO (limb_Cmp.f k a0 a1) (limb_Cmp.f (k + 1) a0 a1) := by
 intro a0 a1 k
 have ih0 := limb_Cmp.mono_l k
 unfold limb_Cmp.f
 have im0 := @limb_trim.mono; exact zM
theorem limb_Cmp.calls (k : Nat) (A0 : Option Addr) (c0 : Nat) (l0 : List Int) (A1 : Option Addr) (c1 : Nat) (l1 : List Int) (r : Int) (w : World) (hr0 : Kd.C (Kd.int .u32) w A0 l0.length l0) (hc0 : l0.length ≤ c0) (hr1 : Kd.C (Kd.int .u32) w A1 l1.length l1) (hc1 : l1.length ≤ c1) (h : limb_Cmp.f k l0 l1 = some r) :
  Calls Tryd.prog 54 #[.slice A0 l0.length c0, .slice A1 l1.length c1] w fun e w' => e = .returned (.int .i64 r) ∧ Below w.heap.size w w' := by
 have HR0 := aM hr0
 have HC0 := aM hc0
 clear hr0 hc0
 have HR1 := aM hr1
 have HC1 := aM hc1
 clear hr1 hc1
 have HB := aM (Below.refl w.heap.size w)
 have H : ((limb_trim.f k l0).bind fun qB => ((limb_trim.f k l1).bind fun qD => (if (qB.length : Int) < (qD.length : Int) then (some (-1)) else (if (qB.length : Int) > (qD.length : Int) then (some 1) else (limb_Cmp.l0 k qB qD (wrap64 ((qB.length : Int) - 1))))))) = some r := h
 clear h
 replace H := zbs H
 obtain ⟨qB, A30, H⟩ := H
 replace H : ((limb_trim.f k l1).bind fun qD => (if (qB.length : Int) < (qD.length : Int) then (some (-1)) else (if (qB.length : Int) > (qD.length : Int) then (some 1) else (limb_Cmp.l0 k qB qD (wrap64 ((qB.length : Int) - 1)))))) = some r := H
 have A3 := aM A30
 clear A30
 replace H := zbs H
 obtain ⟨qD, A40, H⟩ := H
 replace H : (if (qB.length : Int) < (qD.length : Int) then (some (-1)) else (if (qB.length : Int) > (qD.length : Int) then (some 1) else (limb_Cmp.l0 k qB qD (wrap64 ((qB.length : Int) - 1))))) = some r := H
 have A4 := aM A40
 clear A40
 by_cases c5 : (qB.length : Int) < (qD.length : Int)
 ·rw [if_pos c5] at H
  have c5b0 := decide_eq_true c5
  have c5b1 : decide (qB.length < qD.length) = true := decide_eq_true (Int.ofNat_lt.mp c5)
  clear c5
  obtain rfl := Option.some.inj H
  go_enter Tryd.func54, Tryd.ntmps54
  go_wp2_with (first | (go_at_call 65; (with_reducible refine (limb_trim.calls k (fun k_ => k_ < w.heap.size) _ _ l0 qB _ ?side1 A3.out).mono ?_); (case side1 => exact Kd.V_mk HC0.out (Kd.F_below (Kd.C_F (Kd.heap_int .u32) HR0.out) (lB HB))); rintro e w6 ⟨v306, rfl, ho0, hb⟩; have qA := aM (Kd.V_lower (Kd.V_mono (ok' := fun k_ => True) ho0 (fun k_ hk_ => trivial)) (z4_ (lB HB))); replace HB := aM (z6_ (lB HB) hb); (try clear hb); (try clear ho0)) | (go_at_call 65; (with_reducible refine (limb_trim.calls k (fun k_ => k_ < w.heap.size) _ _ l1 qD _ ?side1 A4.out).mono ?_); (case side1 => exact Kd.V_mk HC1.out (Kd.F_below (Kd.C_F (Kd.heap_int .u32) HR1.out) (lB HB))); rintro e w7 ⟨v309, rfl, ho0, hb⟩; replace qA := aM (Kd.V_below (lV qA) hb); have qE := aM (Kd.V_lower (Kd.V_mono (ok' := fun k_ => True) ho0 (fun k_ hk_ => trivial)) (z4_ (lB HB))); replace HB := aM (z6_ (lB HB) hb); (try clear hb); (try clear ho0); obtain ⟨Ao8, co8, eo8⟩ := Kd.V_slice qA.out; subst eo8; obtain ⟨Ao9, co9, eo9⟩ := Kd.V_slice qE.out; subst eo9))
  repeat (go_quiet (first | (go_at_call 65; (with_reducible refine (limb_trim.calls k (fun k_ => k_ < w.heap.size) _ _ l0 qB _ ?side1 A3.out).mono ?_); (case side1 => exact Kd.V_mk HC0.out (Kd.F_below (Kd.C_F (Kd.heap_int .u32) HR0.out) (lB HB))); rintro e w6 ⟨v306, rfl, ho0, hb⟩; have qA := aM (Kd.V_lower (Kd.V_mono (ok' := fun k_ => True) ho0 (fun k_ hk_ => trivial)) (z4_ (lB HB))); replace HB := aM (z6_ (lB HB) hb); (try clear hb); (try clear ho0)) | (go_at_call 65; (with_reducible refine (limb_trim.calls k (fun k_ => k_ < w.heap.size) _ _ l1 qD _ ?side1 A4.out).mono ?_); (case side1 => exact Kd.V_mk HC1.out (Kd.F_below (Kd.C_F (Kd.heap_int .u32) HR1.out) (lB HB))); rintro e w7 ⟨v309, rfl, ho0, hb⟩; replace qA := aM (Kd.V_below (lV qA) hb); have qE := aM (Kd.V_lower (Kd.V_mono (ok' := fun k_ => True) ho0 (fun k_ hk_ => trivial)) (z4_ (lB HB))); replace HB := aM (z6_ (lB HB) hb); (try clear hb); (try clear ho0); obtain ⟨Ao8, co8, eo8⟩ := Kd.V_slice qA.out; subst eo8; obtain ⟨Ao9, co9, eo9⟩ := Kd.V_slice qE.out; subst eo9)); try go_wp2_with (first | (go_at_call 65; (with_reducible refine (limb_trim.calls k (fun k_ => k_ < w.heap.size) _ _ l0 qB _ ?side1 A3.out).mono ?_); (case side1 => exact Kd.V_mk HC0.out (Kd.F_below (Kd.C_F (Kd.heap_int .u32) HR0.out) (lB HB))); rintro e w6 ⟨v306, rfl, ho0, hb⟩; have qA := aM (Kd.V_lower (Kd.V_mono (ok' := fun k_ => True) ho0 (fun k_ hk_ => trivial)) (z4_ (lB HB))); replace HB := aM (z6_ (lB HB) hb); (try clear hb); (try clear ho0)) | (go_at_call 65; (with_reducible refine (limb_trim.calls k (fun k_ => k_ < w.heap.size) _ _ l1 qD _ ?side1 A4.out).mono ?_); (case side1 => exact Kd.V_mk HC1.out (Kd.F_below (Kd.C_F (Kd.heap_int .u32) HR1.out) (lB HB))); rintro e w7 ⟨v309, rfl, ho0, hb⟩; replace qA := aM (Kd.V_below (lV qA) hb); have qE := aM (Kd.V_lower (Kd.V_mono (ok' := fun k_ => True) ho0 (fun k_ hk_ => trivial)) (z4_ (lB HB))); replace HB := aM (z6_ (lB HB) hb); (try clear hb); (try clear ho0); obtain ⟨Ao8, co8, eo8⟩ := Kd.V_slice qA.out; subst eo8; obtain ⟨Ao9, co9, eo9⟩ := Kd.V_slice qE.out; subst eo9)))
  go_ret
  exact ⟨zE, zB HB⟩
 ·rw [if_neg c5] at H
  have c5b0 := decide_eq_false c5
  have c5b1 : decide (qB.length < qD.length) = false := decide_eq_false (fun h => c5 (Int.ofNat_lt.mpr h))
  clear c5
  by_cases c10 : (qB.length : Int) > (qD.length : Int)
  ·rw [if_pos c10] at H
   have c10b0 := decide_eq_true c10
   have c10b1 : decide (qD.length < qB.length) = true := decide_eq_true (Int.ofNat_lt.mp c10)
   clear c10
   obtain rfl := Option.some.inj H
   go_enter Tryd.func54, Tryd.ntmps54
   go_wp2_with (first | (go_at_call 65; (with_reducible refine (limb_trim.calls k (fun k_ => k_ < w.heap.size) _ _ l0 qB _ ?side1 A3.out).mono ?_); (case side1 => exact Kd.V_mk HC0.out (Kd.F_below (Kd.C_F (Kd.heap_int .u32) HR0.out) (lB HB))); rintro e w11 ⟨v306, rfl, ho0, hb⟩; have qA := aM (Kd.V_lower (Kd.V_mono (ok' := fun k_ => True) ho0 (fun k_ hk_ => trivial)) (z4_ (lB HB))); replace HB := aM (z6_ (lB HB) hb); (try clear hb); (try clear ho0)) | (go_at_call 65; (with_reducible refine (limb_trim.calls k (fun k_ => k_ < w.heap.size) _ _ l1 qD _ ?side1 A4.out).mono ?_); (case side1 => exact Kd.V_mk HC1.out (Kd.F_below (Kd.C_F (Kd.heap_int .u32) HR1.out) (lB HB))); rintro e w12 ⟨v309, rfl, ho0, hb⟩; replace qA := aM (Kd.V_below (lV qA) hb); have qE := aM (Kd.V_lower (Kd.V_mono (ok' := fun k_ => True) ho0 (fun k_ hk_ => trivial)) (z4_ (lB HB))); replace HB := aM (z6_ (lB HB) hb); (try clear hb); (try clear ho0); obtain ⟨qL, qM, eo13⟩ := Kd.V_slice qA.out; subst eo13; obtain ⟨qN, qO, eo14⟩ := Kd.V_slice qE.out; subst eo14))
   repeat (go_quiet (first | (go_at_call 65; (with_reducible refine (limb_trim.calls k (fun k_ => k_ < w.heap.size) _ _ l0 qB _ ?side1 A3.out).mono ?_); (case side1 => exact Kd.V_mk HC0.out (Kd.F_below (Kd.C_F (Kd.heap_int .u32) HR0.out) (lB HB))); rintro e w11 ⟨v306, rfl, ho0, hb⟩; have qA := aM (Kd.V_lower (Kd.V_mono (ok' := fun k_ => True) ho0 (fun k_ hk_ => trivial)) (z4_ (lB HB))); replace HB := aM (z6_ (lB HB) hb); (try clear hb); (try clear ho0)) | (go_at_call 65; (with_reducible refine (limb_trim.calls k (fun k_ => k_ < w.heap.size) _ _ l1 qD _ ?side1 A4.out).mono ?_); (case side1 => exact Kd.V_mk HC1.out (Kd.F_below (Kd.C_F (Kd.heap_int .u32) HR1.out) (lB HB))); rintro e w12 ⟨v309, rfl, ho0, hb⟩; replace qA := aM (Kd.V_below (lV qA) hb); have qE := aM (Kd.V_lower (Kd.V_mono (ok' := fun k_ => True) ho0 (fun k_ hk_ => trivial)) (z4_ (lB HB))); replace HB := aM (z6_ (lB HB) hb); (try clear hb); (try clear ho0); obtain ⟨qL, qM, eo13⟩ := Kd.V_slice qA.out; subst eo13; obtain ⟨qN, qO, eo14⟩ := Kd.V_slice qE.out; subst eo14)); try go_wp2_with (first | (go_at_call 65; (with_reducible refine (limb_trim.calls k (fun k_ => k_ < w.heap.size) _ _ l0 qB _ ?side1 A3.out).mono ?_); (case side1 => exact Kd.V_mk HC0.out (Kd.F_below (Kd.C_F (Kd.heap_int .u32) HR0.out) (lB HB))); rintro e w11 ⟨v306, rfl, ho0, hb⟩; have qA := aM (Kd.V_lower (Kd.V_mono (ok' := fun k_ => True) ho0 (fun k_ hk_ => trivial)) (z4_ (lB HB))); replace HB := aM (z6_ (lB HB) hb); (try clear hb); (try clear ho0)) | (go_at_call 65; (with_reducible refine (limb_trim.calls k (fun k_ => k_ < w.heap.size) _ _ l1 qD _ ?side1 A4.out).mono ?_); (case side1 => exact Kd.V_mk HC1.out (Kd.F_below (Kd.C_F (Kd.heap_int .u32) HR1.out) (lB HB))); rintro e w12 ⟨v309, rfl, ho0, hb⟩; replace qA := aM (Kd.V_below (lV qA) hb); have qE := aM (Kd.V_lower (Kd.V_mono (ok' := fun k_ => True) ho0 (fun k_ hk_ => trivial)) (z4_ (lB HB))); replace HB := aM (z6_ (lB HB) hb); (try clear hb); (try clear ho0); obtain ⟨qL, qM, eo13⟩ := Kd.V_slice qA.out; subst eo13; obtain ⟨qN, qO, eo14⟩ := Kd.V_slice qE.out; subst eo14)))
   go_ret
   exact ⟨zE, zB HB⟩
  ·rw [if_neg c10] at H
   have c10b0 := decide_eq_false c10
   have c10b1 : decide (qD.length < qB.length) = false := decide_eq_false (fun h => c10 (Int.ofNat_lt.mpr h))
   clear c10
   have H' := aM H
   clear H
   go_enter Tryd.func54, Tryd.ntmps54
   go_wp2_with (first | (go_at_call 65; (with_reducible refine (limb_trim.calls k (fun k_ => k_ < w.heap.size) _ _ l0 qB _ ?side1 A3.out).mono ?_); (case side1 => exact Kd.V_mk HC0.out (Kd.F_below (Kd.C_F (Kd.heap_int .u32) HR0.out) (lB HB))); rintro e w15 ⟨v306, rfl, ho0, hb⟩; have qA := aM (Kd.V_lower (Kd.V_mono (ok' := fun k_ => True) ho0 (fun k_ hk_ => trivial)) (z4_ (lB HB))); replace HB := aM (z6_ (lB HB) hb); (try clear hb); (try clear ho0)) | (go_at_call 65; (with_reducible refine (limb_trim.calls k (fun k_ => k_ < w.heap.size) _ _ l1 qD _ ?side1 A4.out).mono ?_); (case side1 => exact Kd.V_mk HC1.out (Kd.F_below (Kd.C_F (Kd.heap_int .u32) HR1.out) (lB HB))); rintro e w16 ⟨v309, rfl, ho0, hb⟩; replace qA := aM (Kd.V_below (lV qA) hb); have qE := aM (Kd.V_lower (Kd.V_mono (ok' := fun k_ => True) ho0 (fun k_ hk_ => trivial)) (z4_ (lB HB))); replace HB := aM (z6_ (lB HB) hb); (try clear hb); (try clear ho0); obtain ⟨qH, qI, eo17⟩ := Kd.V_slice qA.out; subst eo17; obtain ⟨qJ, qK, eo18⟩ := Kd.V_slice qE.out; subst eo18))
   repeat (go_quiet (first | (go_at_call 65; (with_reducible refine (limb_trim.calls k (fun k_ => k_ < w.heap.size) _ _ l0 qB _ ?side1 A3.out).mono ?_); (case side1 => exact Kd.V_mk HC0.out (Kd.F_below (Kd.C_F (Kd.heap_int .u32) HR0.out) (lB HB))); rintro e w15 ⟨v306, rfl, ho0, hb⟩; have qA := aM (Kd.V_lower (Kd.V_mono (ok' := fun k_ => True) ho0 (fun k_ hk_ => trivial)) (z4_ (lB HB))); replace HB := aM (z6_ (lB HB) hb); (try clear hb); (try clear ho0)) | (go_at_call 65; (with_reducible refine (limb_trim.calls k (fun k_ => k_ < w.heap.size) _ _ l1 qD _ ?side1 A4.out).mono ?_); (case side1 => exact Kd.V_mk HC1.out (Kd.F_below (Kd.C_F (Kd.heap_int .u32) HR1.out) (lB HB))); rintro e w16 ⟨v309, rfl, ho0, hb⟩; replace qA := aM (Kd.V_below (lV qA) hb); have qE := aM (Kd.V_lower (Kd.V_mono (ok' := fun k_ => True) ho0 (fun k_ hk_ => trivial)) (z4_ (lB HB))); replace HB := aM (z6_ (lB HB) hb); (try clear hb); (try clear ho0); obtain ⟨qH, qI, eo17⟩ := Kd.V_slice qA.out; subst eo17; obtain ⟨qJ, qK, eo18⟩ := Kd.V_slice qE.out; subst eo18)); try go_wp2_with (first | (go_at_call 65; (with_reducible refine (limb_trim.calls k (fun k_ => k_ < w.heap.size) _ _ l0 qB _ ?side1 A3.out).mono ?_); (case side1 => exact Kd.V_mk HC0.out (Kd.F_below (Kd.C_F (Kd.heap_int .u32) HR0.out) (lB HB))); rintro e w15 ⟨v306, rfl, ho0, hb⟩; have qA := aM (Kd.V_lower (Kd.V_mono (ok' := fun k_ => True) ho0 (fun k_ hk_ => trivial)) (z4_ (lB HB))); replace HB := aM (z6_ (lB HB) hb); (try clear hb); (try clear ho0)) | (go_at_call 65; (with_reducible refine (limb_trim.calls k (fun k_ => k_ < w.heap.size) _ _ l1 qD _ ?side1 A4.out).mono ?_); (case side1 => exact Kd.V_mk HC1.out (Kd.F_below (Kd.C_F (Kd.heap_int .u32) HR1.out) (lB HB))); rintro e w16 ⟨v309, rfl, ho0, hb⟩; replace qA := aM (Kd.V_below (lV qA) hb); have qE := aM (Kd.V_lower (Kd.V_mono (ok' := fun k_ => True) ho0 (fun k_ hk_ => trivial)) (z4_ (lB HB))); replace HB := aM (z6_ (lB HB) hb); (try clear hb); (try clear ho0); obtain ⟨qH, qI, eo17⟩ := Kd.V_slice qA.out; subst eo17; obtain ⟨qJ, qK, eo18⟩ := Kd.V_slice qE.out; subst eo18)))
   go_loopg [5] k (fun kq v5 w' => ∃ (qC : Int), v5 = .int .i64 qC ∧ Aside0 (limb_Cmp.l0 kq qB qD qC = some r) ∧ Aside0 (kq ≤ k) ∧ Aside0 (Kd.V (Kd.int .u32) 76 w' w.heap.size (fun _ => True) (.slice qH qB.length qI) qB) ∧ Aside0 (Kd.V (Kd.int .u32) 76 w' w.heap.size (fun _ => True) (.slice qJ qD.length qK) qD) ∧ Aside0 (Below w.heap.size w w'))
   case atStart => exact ⟨(wrap64 ((qB.length : Int) - 1)), zT, H', ⟨Nat.le_refl _⟩, ⟨by (with_reducible repeat (first | apply Kd.V_alloc | apply Kd.V_drewN | apply Kd.V_drew)); exact qA.out⟩, ⟨by (with_reducible repeat (first | apply Kd.V_alloc | apply Kd.V_drewN | apply Kd.V_drew)); exact qE.out⟩, ⟨zB HB⟩⟩
   case round =>
    clear H'
    try clear c1
    try clear c5
    try clear c10
    obtain ⟨qC, rfl, HA, HK1, qF, qG, HB⟩ := hrel
    cases gk with
    | zero => exact absurd HA.out (by simp [limb_Cmp.l0])
    | succ k1 =>
     have H := HA.out
     clear HA
     simp only [limb_Cmp.l0] at H
     by_cases c19 : qC ≥ 0
     ·rw [if_pos c19] at H
      have c19b0 := decide_eq_true c19
      clear c19
      by_cases c20 : 0 ≤ qC
      ·rw [if_pos c20] at H
       have c20b0 := decide_eq_true c20
       clear c20
       by_cases c21 : qC < (qB.length : Int)
       ·rw [if_pos c21] at H
        have c21b0 := decide_eq_true c21
        clear c21
        by_cases c22 : qC < (qD.length : Int)
        ·rw [if_pos c22] at H
         have c22b0 := decide_eq_true c22
         clear c22
         by_cases c23 : (rd qB qC) < (rd qD qC)
         ·rw [if_pos c23] at H
          have c23b0 := decide_eq_true c23
          clear c23
          obtain rfl := Option.some.inj H
          have p311 : 0 ≤ (qC : Int) := of_decide_eq_true za
          have q311 : qC < (qB.length : Int) := of_decide_eq_true za
          obtain ⟨ad311, e311, hx311_0⟩ := Kd.at_int (Kd.V_reads' qF.out).2.2 qC p311 q311
          cases e311
          replace p311 := eq_true p311
          replace q311 := eq_true q311
          have p312 : 0 ≤ (qC : Int) := of_decide_eq_true za
          have q312 : qC < (qD.length : Int) := of_decide_eq_true za
          obtain ⟨ad312, e312, hx312_0⟩ := Kd.at_int (Kd.V_reads' qG.out).2.2 qC p312 q312
          cases e312
          replace p312 := eq_true p312
          replace q312 := eq_true q312
          go_wp2
          repeat (go_quiet (fail); try go_wp2)
          go_ret
          exact ⟨zE, zB HB⟩
         ·rw [if_neg c23] at H
          have c23b0 := decide_eq_false c23
          clear c23
          by_cases c24 : (rd qB qC) > (rd qD qC)
          ·rw [if_pos c24] at H
           have c24b0 := decide_eq_true c24
           clear c24
           obtain rfl := Option.some.inj H
           have p311 : 0 ≤ (qC : Int) := of_decide_eq_true za
           have q311 : qC < (qB.length : Int) := of_decide_eq_true za
           obtain ⟨ad311, e311, hx311_0⟩ := Kd.at_int (Kd.V_reads' qF.out).2.2 qC p311 q311
           cases e311
           replace p311 := eq_true p311
           replace q311 := eq_true q311
           have p312 : 0 ≤ (qC : Int) := of_decide_eq_true za
           have q312 : qC < (qD.length : Int) := of_decide_eq_true za
           obtain ⟨ad312, e312, hx312_0⟩ := Kd.at_int (Kd.V_reads' qG.out).2.2 qC p312 q312
           cases e312
           replace p312 := eq_true p312
           replace q312 := eq_true q312
           have p313 : 0 ≤ (qC : Int) := of_decide_eq_true za
           have q313 : qC < (qB.length : Int) := of_decide_eq_true za
           obtain ⟨ad313, e313, hx313_0⟩ := Kd.at_int (Kd.V_reads' qF.out).2.2 qC p313 q313
           obtain rfl : ad311 = ad313 := (by injection e313)
           replace p313 := eq_true p313
           replace q313 := eq_true q313
           have p314 : 0 ≤ (qC : Int) := of_decide_eq_true za
           have q314 : qC < (qD.length : Int) := of_decide_eq_true za
           obtain ⟨ad314, e314, hx314_0⟩ := Kd.at_int (Kd.V_reads' qG.out).2.2 qC p314 q314
           obtain rfl : ad312 = ad314 := (by injection e314)
           replace p314 := eq_true p314
           replace q314 := eq_true q314
           go_wp2
           repeat (go_quiet (fail); try go_wp2)
           go_ret
           exact ⟨zE, zB HB⟩
          ·rw [if_neg c24] at H
           have c24b0 := decide_eq_false c24
           clear c24
           have H' := aM H
           clear H
           have p311 : 0 ≤ (qC : Int) := of_decide_eq_true za
           have q311 : qC < (qB.length : Int) := of_decide_eq_true za
           obtain ⟨ad311, e311, hx311_0⟩ := Kd.at_int (Kd.V_reads' qF.out).2.2 qC p311 q311
           cases e311
           replace p311 := eq_true p311
           replace q311 := eq_true q311
           have p312 : 0 ≤ (qC : Int) := of_decide_eq_true za
           have q312 : qC < (qD.length : Int) := of_decide_eq_true za
           obtain ⟨ad312, e312, hx312_0⟩ := Kd.at_int (Kd.V_reads' qG.out).2.2 qC p312 q312
           cases e312
           replace p312 := eq_true p312
           replace q312 := eq_true q312
           have p313 : 0 ≤ (qC : Int) := of_decide_eq_true za
           have q313 : qC < (qB.length : Int) := of_decide_eq_true za
           obtain ⟨ad313, e313, hx313_0⟩ := Kd.at_int (Kd.V_reads' qF.out).2.2 qC p313 q313
           obtain rfl : ad311 = ad313 := (by injection e313)
           replace p313 := eq_true p313
           replace q313 := eq_true q313
           have p314 : 0 ≤ (qC : Int) := of_decide_eq_true za
           have q314 : qC < (qD.length : Int) := of_decide_eq_true za
           obtain ⟨ad314, e314, hx314_0⟩ := Kd.at_int (Kd.V_reads' qG.out).2.2 qC p314 q314
           obtain rfl : ad312 = ad314 := (by injection e314)
           replace p314 := eq_true p314
           replace q314 := eq_true q314
           go_wp2
           repeat (go_quiet (fail); try go_wp2)
           go_roundg k1
           case measure => have := HK1.out; omega
           case rel => exact ⟨(wrap64 (qC - 1)), zT, H', ⟨by have := HK1.out; omega⟩, ⟨by (with_reducible repeat (first | apply Kd.V_alloc | apply Kd.V_drewN | apply Kd.V_drew)); exact qF.out⟩, ⟨by (with_reducible repeat (first | apply Kd.V_alloc | apply Kd.V_drewN | apply Kd.V_drew)); exact qG.out⟩, ⟨zB HB⟩⟩
        ·rw [if_neg c22] at H
         exact absurd H (by simp)
       ·rw [if_neg c21] at H
        exact absurd H (by simp)
      ·rw [if_neg c20] at H
       exact absurd H (by simp)
     ·rw [if_neg c19] at H
      have c19b0 := decide_eq_false c19
      clear c19
      obtain rfl := Option.some.inj H
      go_wp2
      repeat (go_quiet (fail); try go_wp2)
      go_ret
      exact ⟨zE, zB HB⟩
def limb_Sub.l0 : Nat → List Int → List Int → Int → List Int → Int → Int → Option (List Int × Int)
 | 0, _, _, _, _, _, _ => none
 | k + 1, x1, x6, x7, x19, x20, x21 => if x21 < x20 then (if 0 ≤ x21 then (if x21 < (x19.length : Int) then (if x21 < (x1.length : Int) then (if x21 < (x6.length : Int) then (limb_Sub.l0 k x1 (x6.set (x21 : Int).toNat ((IntKind.u64.wrap ((IntKind.u64.wrap (rd x19 x21)) - (IntKind.u64.wrap (x7 + (IntKind.u64.wrap (rd x1 x21)))))) % 4294967296)) (Go.bits .and .u64 ((IntKind.u64.wrap ((IntKind.u64.wrap (rd x19 x21)) - (IntKind.u64.wrap (x7 + (IntKind.u64.wrap (rd x1 x21)))))) / 4294967296) 1) x19 x20 (wrap64 (x21 + 1))) else (none)) else (if x21 < (x6.length : Int) then (limb_Sub.l0 k x1 (x6.set (x21 : Int).toNat ((IntKind.u64.wrap ((IntKind.u64.wrap (rd x19 x21)) - x7)) % 4294967296)) (Go.bits .and .u64 ((IntKind.u64.wrap ((IntKind.u64.wrap (rd x19 x21)) - x7)) / 4294967296) 1) x19 x20 (wrap64 (x21 + 1))) else (none))) else (none)) else (none)) else ((limb_trim.f k x6).bind fun qF => (some (qF, 0)))
def limb_Sub.f (k : Nat) (l0 : List Int) (l1 : List Int) : Option (List Int × Int) := (limb_Cmp.f k l0 l1).bind fun qE => (if qE < 0 then (some (([] : List Int), 5)) else (if 0 ≤ (l0.length : Int) then (if ((l0.length : Int) : Int).toNat ≤ 70368744177664 then (limb_Sub.l0 k l1 (List.replicate ((l0.length : Int) : Int).toNat 0) 0 l0 (l0.length : Int) 0) else (none)) else (none)))
theorem limb_Sub.mono_l : ∀ k, (∀ y0 y1 y2 y3 y4 y5, LeO (limb_Sub.l0 k y0 y1 y2 y3 y4 y5) (limb_Sub.l0 (k + 1) y0 y1 y2 y3 y4 y5))
 | 0 => fun _ _ _ _ _ _ r h => by simp [limb_Sub.l0] at h
 | k + 1 => by
  have ih0 := limb_Sub.mono_l k
  ·intro y0 y1 y2 y3 y4 y5
   unfold limb_Sub.l0
   have im0 := @limb_Cmp.mono; have im1 := @limb_trim.mono; exact zM
theorem limb_Sub.mono : ∀ a0 a1 k, LeO (limb_Sub.f k a0 a1) (limb_Sub.f (k + 1) a0 a1) := by
 intro a0 a1 k
 have ih0 := limb_Sub.mono_l k
 unfold limb_Sub.f
 have im0 := @limb_Cmp.mono; have im1 := @limb_trim.mono; exact zM
theorem limb_Sub.calls (k : Nat) (A0 : Option Addr) (c0 : Nat) (l0 : List Int) (A1 : Option Addr) (c1 : Nat) (l1 : List Int) (r1 : List Int) (r2 : Int) (w : World) (hr0 : Kd.C (Kd.int .u32) w A0 l0.length l0) (hc0 : l0.length ≤ c0) (hr1 : Kd.C (Kd.int .u32) w A1 l1.length l1) (hc1 : l1.length ≤ c1) (h : limb_Sub.f k l0 l1 = some (r1, r2)) :
  Calls Tryd.prog 55 #[.slice A0 l0.length c0, .slice A1 l1.length c1] w fun e w' => ∃ v0_ : Value, e = .returned (.tuple #[v0_, .int .i64 r2]) ∧ Kd.V (Kd.int .u32) 76 w' w.heap.size (fun k_ => (w.heap.size ≤ k_)) v0_ r1 ∧ Below w.heap.size w w' := by
 have HR0 := aM hr0
 have HC0 := aM hc0
 clear hr0 hc0
 have HR1 := aM hr1
 have HC1 := aM hc1
 clear hr1 hc1
 have HB := aM (Below.refl w.heap.size w)
 have H : ((limb_Cmp.f k l0 l1).bind fun qE => (if qE < 0 then (some (([] : List Int), 5)) else (if 0 ≤ (l0.length : Int) then (if ((l0.length : Int) : Int).toNat ≤ 70368744177664 then (limb_Sub.l0 k l1 (List.replicate ((l0.length : Int) : Int).toNat 0) 0 l0 (l0.length : Int) 0) else (none)) else (none)))) = some (r1, r2) := h
 clear h
 replace H := zbs H
 obtain ⟨qE, A30, H⟩ := H
 replace H : (if qE < 0 then (some (([] : List Int), 5)) else (if 0 ≤ (l0.length : Int) then (if ((l0.length : Int) : Int).toNat ≤ 70368744177664 then (limb_Sub.l0 k l1 (List.replicate ((l0.length : Int) : Int).toNat 0) 0 l0 (l0.length : Int) 0) else (none)) else (none))) = some (r1, r2) := H
 have A3 := aM A30
 clear A30
 by_cases c4 : qE < 0
 ·rw [if_pos c4] at H
  have c4b0 := decide_eq_true c4
  clear c4
  simp only [Option.some.injEq, Prod.mk.injEq] at H
  obtain ⟨rfl, rfl⟩ := H
  go_enter Tryd.func55, Tryd.ntmps55
  go_wp2_with (first | ((with_reducible refine gate_callee (f := 54) rfl ?_); refine z13_ (some 14) rfl rfl Tryd.func54 zk rfl #[.slice A0 l0.length c0, .slice A1 l1.length c1] rfl zA ?_; (with_reducible refine (limb_Cmp.calls k _ _ l0 _ _ l1 qE _ ?side1 ?side2 ?side3 ?side4 A3.out).mono ?_); (case side1 => refine lY ?_; exact HR0.out); (case side2 => exact HC0.out); (case side3 => refine lY ?_; exact HR1.out); (case side4 => exact HC1.out); rintro e w5 ⟨rfl, hb⟩; refine ⟨_, rfl, ?_⟩; replace HB := aM (z6_ (lB HB) hb); (try clear hb)))
  go_ret2
  exact ⟨_, zE, Kd.V_nil _ _ _ _ _, zB HB⟩
 ·rw [if_neg c4] at H
  have c4b0 := decide_eq_false c4
  clear c4
  by_cases c6 : 0 ≤ (l0.length : Int)
  ·rw [if_pos c6] at H
   have c6b0 := eq_true c6
   have c6b1 := decide_eq_true c6
   clear c6
   by_cases c7 : ((l0.length : Int) : Int).toNat ≤ 70368744177664
   ·rw [if_pos c7] at H
    have c7b0 := eq_true c7
    have c7b1 := decide_eq_true c7
    clear c7
    obtain ⟨y316, hy316⟩ : ∃ y_ : List Int, y_ = (List.replicate ((l0.length : Int) : Int).toNat 0) := ⟨_, rfl⟩
    replace H : (limb_Sub.l0 k l1 y316 0 l0 (l0.length : Int) 0) = some (r1, r2) := zH hy316 H
    have Ny316 := aM hy316
    clear hy316
    have H' := aM H
    clear H
    go_enter Tryd.func55, Tryd.ntmps55
    go_wp2_with (first | ((with_reducible refine gate_callee (f := 54) rfl ?_); refine z13_ (some 14) rfl rfl Tryd.func54 zk rfl #[.slice A0 l0.length c0, .slice A1 l1.length c1] rfl zA ?_; (with_reducible refine (limb_Cmp.calls k _ _ l0 _ _ l1 qE _ ?side1 ?side2 ?side3 ?side4 A3.out).mono ?_); (case side1 => refine lY ?_; exact HR0.out); (case side2 => exact HC0.out); (case side3 => refine lY ?_; exact HR1.out); (case side4 => exact HC1.out); rintro e w8 ⟨rfl, hb⟩; refine ⟨_, rfl, ?_⟩; replace HB := aM (z6_ (lB HB) hb); (try clear hb)) | ((with_reducible refine gate_dst (N := 18) rfl ?_); refine Kd.R_make (Kd.int .u32) _ 76 rfl (N := 18) rfl 37 _ _ rfl (l0.length : Int) rfl rfl Tryd.underlying37 (.int .u32 0) 4 info76 rfl (by decide) (by omega) 0 (ok := fun _ => True) (okp := fun _ => True) rfl (fun _ hk => hk) trivial (of_decide_eq_true za) (Nat.le_trans (Nat.mul_le_mul_right _ (of_decide_eq_true za : (l0.length : Int).toNat ≤ 70368744177664)) (by omega)) (Below.refl _ _) (Nat.le_refl _) ?_; intro v317 w9 ho10 hb hg_ hnew_; clear hg_ hnew_; (first | rw [← Ny316.out] at ho10 | (simp only [Int.reduceToNat] at ho10; rw [← Ny316.out] at ho10)); have qK := aM (Kd.z20_ (Kd.R_newM (M := fun k_ => (w.heap.size ≤ k_)) ho10 (z4_ (lB HB)) (fun k_ h_ => h_)) (z4_ (lB HB))); replace HB := aM (z6_ (lB HB) hb); clear hb ho10))
    go_loopg [7, 21] k (fun kq v7 v21 w' => ∃ (qC : List Int) (qD : Int) (qA : Int), v7 = .int .u64 qD ∧ v21 = .int .i64 qA ∧ Aside0 (limb_Sub.l0 kq l1 qC qD l0 (l0.length : Int) qA = some (r1, r2)) ∧ Aside0 (kq ≤ k) ∧ Aside0 (Kd.R (Kd.int .u32) 76 w' w.heap.size (fun k_ => (w.heap.size ≤ k_)) v317 qC) ∧ Aside0 (Below w.heap.size w w'))
    case atStart => exact ⟨(y316), (0), (0), zT, zT, H', ⟨Nat.le_refl _⟩, ⟨by apply rX; exact Kd.z0_ qK.out (fun _ hk => hk.1)⟩, ⟨zB HB⟩⟩
    case round =>
     clear H'
     try clear c1
     try clear c4
     try clear c6
     try clear c7
     obtain ⟨qC, qD, qA, rfl, rfl, HA, HK1, qB, HB⟩ := hrel
     cases gk with
     | zero => exact absurd HA.out (by simp [limb_Sub.l0])
     | succ k1 =>
      have H := HA.out
      clear HA
      simp only [limb_Sub.l0] at H
      by_cases c11 : qA < (l0.length : Int)
      ·rw [if_pos c11] at H
       have c11b0 := decide_eq_true c11
       clear c11
       by_cases c12 : 0 ≤ qA
       ·rw [if_pos c12] at H
        have c12b0 := decide_eq_true c12
        clear c12
        by_cases c13 : qA < (l0.length : Int)
        ·rw [if_pos c13] at H
         have c13b0 := decide_eq_true c13
         clear c13
         by_cases c14 : qA < (l1.length : Int)
         ·rw [if_pos c14] at H
          have c14b0 := decide_eq_true c14
          clear c14
          by_cases c15 : qA < (qC.length : Int)
          ·rw [if_pos c15] at H
           have c15b0 := decide_eq_true c15
           clear c15
           obtain ⟨y321, hy321⟩ : ∃ y_ : List Int, y_ = (qC.set (qA : Int).toNat ((IntKind.u64.wrap ((IntKind.u64.wrap (rd l0 qA)) - (IntKind.u64.wrap (qD + (IntKind.u64.wrap (rd l1 qA)))))) % 4294967296)) := ⟨_, rfl⟩
           replace H : (limb_Sub.l0 k1 l1 y321 (Go.bits .and .u64 ((IntKind.u64.wrap ((IntKind.u64.wrap (rd l0 qA)) - (IntKind.u64.wrap (qD + (IntKind.u64.wrap (rd l1 qA)))))) / 4294967296) 1) l0 (l0.length : Int) (wrap64 (qA + 1))) = some (r1, r2) := zH hy321 H
           have Ny321 := aM hy321
           clear hy321
           have H' := aM H
           clear H
           have p319 : 0 ≤ (qA : Int) := of_decide_eq_true za
           have q319 : qA < (l0.length : Int) := of_decide_eq_true za
           obtain ⟨ad319, e319, hx319_0⟩ := Kd.at_int HR0.out qA p319 q319
           cases e319
           replace hx319_0 := (HB.out.cell (World.block_lt_of_cell? w _ hx319_0)).trans hx319_0
           replace p319 := eq_true p319
           replace q319 := eq_true q319
           have p320 : 0 ≤ (qA : Int) := of_decide_eq_true za
           have q320 : qA < (l1.length : Int) := of_decide_eq_true za
           obtain ⟨ad320, e320, hx320_0⟩ := Kd.at_int HR1.out qA p320 q320
           cases e320
           replace hx320_0 := (HB.out.cell (World.block_lt_of_cell? w _ hx320_0)).trans hx320_0
           replace p320 := eq_true p320
           replace q320 := eq_true q320
           have p16 : 0 ≤ (qA : Int) := of_decide_eq_true za
           have q16 : (qA : Int) < ((qC.length : Int) : Int) := of_decide_eq_true za
           obtain ⟨go16, qM, eo16, qG, gl16, cl16, HG16⟩ := Kd.R_form qB.out (by omega)
           (first | cases eo16 | (injection eo16 with ea_ en_ ec_; (first | subst ea_ | (injection ea_ with ea_; subst ea_)); subst ec_; clear en_))
           have GB16 := aM qG
           have GG16 := aM HG16
           clear qG gl16 HG16
           obtain ⟨hx16_0, hf16_0⟩ := Kd.R_celln 0 qB.out (qA : Int) p16 q16
           replace p16 := eq_true p16
           replace q16 := eq_true q16
           have HP17 := Kd.R_putg qB.out (qA : Int) ((IntKind.u64.wrap ((IntKind.u64.wrap (rd l0 qA)) - (IntKind.u64.wrap (qD + (IntKind.u64.wrap (rd l1 qA)))))) % 4294967296)
           go_wp2_with (first | ((with_reducible refine gate_store (t := 76) (p := 46) rfl ?_); refine store_event (t := 76) (p := 46) (v := ?vo_w18) (w1 := (wr.setCell ⟨go16, (qA : Int).toNat, none⟩ (.int .u32 ((IntKind.u64.wrap ((IntKind.u64.wrap (rd l0 qA)) - (IntKind.u64.wrap (qD + (IntKind.u64.wrap (rd l1 qA)))))) % 4294967296)))) ?hg ?ho ?hn ?hr ?_; (case ho => rfl); (case hg => rfl); (case hn => rfl); (case hr => first | (go_simp; done) | (go_simp; rfl)); intro w18 hw; have hg : wr.grownBy w18 (some go16) := (by rw [hw]; exact HP17.2); have hp_ : Kd.R (Kd.int .u32) 76 w18 w.heap.size (fun k_ => (w.heap.size ≤ k_)) (.slice (some ⟨go16, 0, none⟩) qC.length qM) y321 := (by rw [hw, Ny321.out]; exact HP17.1); clear HP17; replace qB := aM (hp_); replace HB := aM ((by rw [hw]; exact below_set (HB.out) GB16.out : Below w.heap.size w w18)); clear hg hw hp_))
           go_roundg k1
           case measure => have := HK1.out; omega
           case rel => exact ⟨(y321), (Go.bits .and .u64 ((IntKind.u64.wrap ((IntKind.u64.wrap (rd l0 qA)) - (IntKind.u64.wrap (qD + (IntKind.u64.wrap (rd l1 qA)))))) / 4294967296) 1), (wrap64 (qA + 1)), zT, zT, H', ⟨by have := HK1.out; omega⟩, ⟨lR qB⟩, ⟨zB HB⟩⟩
          ·rw [if_neg c15] at H
           exact absurd H (by simp)
         ·rw [if_neg c14] at H
          have c14b0 := decide_eq_false c14
          clear c14
          by_cases c19 : qA < (qC.length : Int)
          ·rw [if_pos c19] at H
           have c19b0 := decide_eq_true c19
           clear c19
           obtain ⟨y322, hy322⟩ : ∃ y_ : List Int, y_ = (qC.set (qA : Int).toNat ((IntKind.u64.wrap ((IntKind.u64.wrap (rd l0 qA)) - qD)) % 4294967296)) := ⟨_, rfl⟩
           replace H : (limb_Sub.l0 k1 l1 y322 (Go.bits .and .u64 ((IntKind.u64.wrap ((IntKind.u64.wrap (rd l0 qA)) - qD)) / 4294967296) 1) l0 (l0.length : Int) (wrap64 (qA + 1))) = some (r1, r2) := zH hy322 H
           have Ny322 := aM hy322
           clear hy322
           have H' := aM H
           clear H
           have p319 : 0 ≤ (qA : Int) := of_decide_eq_true za
           have q319 : qA < (l0.length : Int) := of_decide_eq_true za
           obtain ⟨ad319, e319, hx319_0⟩ := Kd.at_int HR0.out qA p319 q319
           cases e319
           replace hx319_0 := (HB.out.cell (World.block_lt_of_cell? w _ hx319_0)).trans hx319_0
           replace p319 := eq_true p319
           replace q319 := eq_true q319
           have p20 : 0 ≤ (qA : Int) := of_decide_eq_true za
           have q20 : (qA : Int) < ((qC.length : Int) : Int) := of_decide_eq_true za
           obtain ⟨go20, qN, eo20, qH, gl20, cl20, HG20⟩ := Kd.R_form qB.out (by omega)
           (first | cases eo20 | (injection eo20 with ea_ en_ ec_; (first | subst ea_ | (injection ea_ with ea_; subst ea_)); subst ec_; clear en_))
           have GB20 := aM qH
           have GG20 := aM HG20
           clear qH gl20 HG20
           obtain ⟨hx20_0, hf20_0⟩ := Kd.R_celln 0 qB.out (qA : Int) p20 q20
           replace p20 := eq_true p20
           replace q20 := eq_true q20
           have HP21 := Kd.R_putg qB.out (qA : Int) ((IntKind.u64.wrap ((IntKind.u64.wrap (rd l0 qA)) - qD)) % 4294967296)
           go_wp2_with (first | ((with_reducible refine gate_store (t := 76) (p := 46) rfl ?_); refine store_event (t := 76) (p := 46) (v := ?vo_w22) (w1 := (wr.setCell ⟨go20, (qA : Int).toNat, none⟩ (.int .u32 ((IntKind.u64.wrap ((IntKind.u64.wrap (rd l0 qA)) - qD)) % 4294967296)))) ?hg ?ho ?hn ?hr ?_; (case ho => rfl); (case hg => rfl); (case hn => rfl); (case hr => first | (go_simp; done) | (go_simp; rfl)); intro w22 hw; have hg : wr.grownBy w22 (some go20) := (by rw [hw]; exact HP21.2); have hp_ : Kd.R (Kd.int .u32) 76 w22 w.heap.size (fun k_ => (w.heap.size ≤ k_)) (.slice (some ⟨go20, 0, none⟩) qC.length qN) y322 := (by rw [hw, Ny322.out]; exact HP21.1); clear HP21; replace qB := aM (hp_); replace HB := aM ((by rw [hw]; exact below_set (HB.out) GB20.out : Below w.heap.size w w22)); clear hg hw hp_))
           go_roundg k1
           case measure => have := HK1.out; omega
           case rel => exact ⟨(y322), (Go.bits .and .u64 ((IntKind.u64.wrap ((IntKind.u64.wrap (rd l0 qA)) - qD)) / 4294967296) 1), (wrap64 (qA + 1)), zT, zT, H', ⟨by have := HK1.out; omega⟩, ⟨lR qB⟩, ⟨zB HB⟩⟩
          ·rw [if_neg c19] at H
           exact absurd H (by simp)
        ·rw [if_neg c13] at H
         exact absurd H (by simp)
       ·rw [if_neg c12] at H
        exact absurd H (by simp)
      ·rw [if_neg c11] at H
       have c11b0 := decide_eq_false c11
       clear c11
       replace H := zbs H
       obtain ⟨qF, A230, H⟩ := H
       replace H : (some (qF, 0)) = some (r1, r2) := H
       have A23 := aM A230
       clear A230
       simp only [Option.some.injEq, Prod.mk.injEq] at H
       obtain ⟨rfl, rfl⟩ := H
       obtain ⟨qI, qJ, eo24⟩ := Kd.R_slice qB.out
       subst eo24
       go_wp2_with (first | ((with_reducible refine gate_callee (f := 65) rfl ?_); refine z13_ (some 52) rfl rfl Tryd.func65 zk rfl #[.slice qI qC.length qJ] rfl zA ?_; (with_reducible refine (limb_trim.calls k1 (fun k_ => some k_ = (.slice qI qC.length qJ : Value).ownBlock) _ _ qC qF _ ?side1 A23.out).mono ?_); (case side1 => exact Kd.R_V (Kd.R_tight rfl (qB.out))); rintro e w25 ⟨v324, rfl, ho0, hb⟩; refine ⟨_, rfl, ?_⟩; have qL := aM (Kd.V_lower (Kd.V_mono (ok' := fun k_ => (w.heap.size ≤ k_)) ho0 (fun k_ hk_ => Or.elim hk_ (fun hs_ => ((qB.out).1 k_ hs_.symm)) (fun hn_ => (Nat.le_trans (z4_ (lB HB)) hn_)))) (z4_ (lB HB))); replace qB := aM (Kd.z7_ (lR qB) hb); replace HB := aM (z6_ (lB HB) hb); (try clear hb); (try clear ho0)))
       go_ret2
       exact ⟨_, zE, by (with_reducible repeat (first | apply Kd.V_alloc | apply Kd.V_drewN | apply Kd.V_drew)); exact qL.out, zB HB⟩
   ·rw [if_neg c7] at H
    exact absurd H (by simp)
  ·rw [if_neg c6] at H
   exact absurd H (by simp)
def integer_Int_Add.f (k : Nat) (qI : Bool) (qG : List Int) (qJ : Bool) (qH : List Int) : Option (Bool × List Int) := if (qI == qJ) = true then ((limb_Add.f k qG qH).bind fun qU => ((integer_made.f qI qU).bind fun bt332 => (some (bt332.1, bt332.2)))) else ((limb_Cmp.f k qG qH).bind fun qV => (if qV < 0 then ((limb_Sub.f k qH qG).bind fun bt337 => ((integer_made.f qJ bt337.1).bind fun bt341 => (some (bt341.1, bt341.2)))) else ((limb_Sub.f k qG qH).bind fun bt345 => ((integer_made.f qI bt345.1).bind fun bt349 => (some (bt349.1, bt349.2))))))
theorem integer_Int_Add.mono : ∀ a0 a1 a2 a3 k, LeO (integer_Int_Add.f k a0 a1 a2 a3) (integer_Int_Add.f (k + 1) a0 a1 a2 a3) := by
 intro a0 a1 a2 a3 k
 unfold integer_Int_Add.f
 have im0 := @limb_Add.mono; have im1 := @limb_Cmp.mono; have im2 := @limb_Sub.mono; exact zM
def integer_Int_Add.T2 : Bool × List (List Nat × List Nat) := (true, [([], []), ([0], [0]), ([], []), ([2], [2]), ([], []), ([4], [4]), ([3, 5], [3, 5]), ([1, 6, 6], [1, 6]), ([7, 7, 0, 1, 2, 3, 4, 5, 6, 7], [7])])
def integer_Int_Add.B2 : List Nat := [0, 1, 0, 4, 0, 16, 60, 127, 255]
theorem integer_Int_Add.tab2 : rtab .any (opsOf Tryd.f36 2) = integer_Int_Add.T2 := by kernel_rfl
theorem integer_Int_Add.bits2 : waitsOk integer_Int_Add.T2.2 integer_Int_Add.B2 = true := by kernel_rfl
theorem integer_Int_Add.calls (k : Nat) (qI : Bool) (qM : Option Addr) (qN : Nat) (qG : List Int) (qJ : Bool) (qO : Option Addr) (qP : Nat) (qH : List Int) (r1 : Bool) (r2 : List Int) (w : World) (ql : Kd.C (Kd.int .u32) w qM qG.length qG) (qm : qG.length ≤ qN) (qn : Kd.C (Kd.int .u32) w qO qH.length qH) (qo : qH.length ≤ qP) (h : integer_Int_Add.f k qI qG qJ qH = some (r1, r2)) :
  Calls Tryd.prog 36 #[.agg #[.bool qI, .slice qM qG.length qN], .agg #[.bool qJ, .slice qO qH.length qP]] w fun e w' => ∃ v1_ : Value, e = .returned (.agg #[.bool r1, v1_]) ∧ Kd.V (Kd.int .u32) 76 w' w.heap.size (fun k_ => (w.heap.size ≤ k_)) v1_ r2 ∧ Below w.heap.size w w' := by
 have hu39 := Tryd.underlying39
 have qW := aM ql
 have qX := aM qm
 clear ql qm
 have qY := aM qn
 have qZ := aM qo
 clear qn qo
 have HB := aM (Below.refl w.heap.size w)
 have H : (if (qI == qJ) = true then ((limb_Add.f k qG qH).bind fun qU => ((integer_made.f qI qU).bind fun bt332 => (some (bt332.1, bt332.2)))) else ((limb_Cmp.f k qG qH).bind fun qV => (if qV < 0 then ((limb_Sub.f k qH qG).bind fun bt337 => ((integer_made.f qJ bt337.1).bind fun bt341 => (some (bt341.1, bt341.2)))) else ((limb_Sub.f k qG qH).bind fun bt345 => ((integer_made.f qI bt345.1).bind fun bt349 => (some (bt349.1, bt349.2))))))) = some (r1, r2) := h
 clear h
 by_cases c3 : (qI == qJ) = true
 ·rw [if_pos c3] at H
  have c3b0 : (qI == qJ) = true := c3
  (try (have c3b1 : decide (qI = qJ) = true := by simpa using c3))
  (try (have c3b2 : (qI == qJ) = true := by simpa using c3))
  clear c3
  replace H := zbs H
  obtain ⟨qU, A40, H⟩ := H
  replace H : ((integer_made.f qI qU).bind fun bt332 => (some (bt332.1, bt332.2))) = some (r1, r2) := H
  have A4 := aM A40
  clear A40
  replace H := zbs H
  obtain ⟨⟨qd, qg⟩, A50, H⟩ := H
  replace H : (some (qd, qg)) = some (r1, r2) := H
  have A5 := aM A50
  clear A50
  simp only [Option.some.injEq, Prod.mk.injEq] at H
  obtain ⟨rfl, rfl⟩ := H
  go_enter Tryd.func36, Tryd.ntmps36
  try go_wp2_with (first | ((with_reducible refine gate_dst (N := 2) rfl ?_); refine z16_ rfl (N := 2) rfl (cs := #[.bool qI, .slice qM qG.length qN]) (t := 39) zG ?_; intro qC hg w6 hbox hb; have qA := aM (hbox); have qp := aM ((by rw [hg]; exact (z4_ (lB HB)) : w.heap.size ≤ qC)); have qq := aM ((by rw [hg]; exact (z4_ (lB HB)) : w.heap.size ≤ qC)); replace HB := aM (z6_ (lB HB) hb); clear hb hbox hg) | ((with_reducible refine gate_dst (N := 3) rfl ?_); refine z16_ rfl (N := 3) rfl (cs := #[.bool qJ, .slice qO qH.length qP]) (t := 39) zG ?_; intro qE hg w7 hbox hb; have qD := aM (hbox); have qr := aM ((by rw [hg]; exact (z4_ (zB HB)) : w.heap.size ≤ qE)); have qs := aM ((by rw [hg]; exact (z4_ (zB HB)) : w.heap.size ≤ qE)); replace HB := aM (z6_ (zB HB) hb); have qQ := aM ((by rw [hg]; exact Nat.ne_of_lt (z19_ (g := qC) (lK qA)) : qC ≠ qE)); have qR := aM ((by rw [hg]; exact Nat.ne_of_gt (z19_ (g := qC) (lK qA)) : qE ≠ qC)); replace qA := aM (z5_ (g := qC) (lK qA) hb); clear hb hbox hg) | ((with_reducible refine gate_dst (N := 4) rfl ?_); refine z16_ rfl (N := 4) rfl (cs := #[.bool false, .slice none 0 0]) (t := 39) zG ?_; intro qB hg w8 hbox hb; have qF := aM (hbox); have qt := aM ((by rw [hg]; exact (z4_ (zB HB)) : w.heap.size ≤ qB)); have qu := aM ((by rw [hg]; exact (z4_ (zB HB)) : w.heap.size ≤ qB)); replace HB := aM (z6_ (zB HB) hb); have qK := aM ((by rw [hg]; exact Nat.ne_of_lt (z19_ (g := qC) (lK qA)) : qC ≠ qB)); have qS := aM ((by rw [hg]; exact Nat.ne_of_gt (z19_ (g := qC) (lK qA)) : qB ≠ qC)); replace qA := aM (z5_ (g := qC) (lK qA) hb); have qL := aM ((by rw [hg]; exact Nat.ne_of_lt (z19_ (g := qE) (lK qD)) : qE ≠ qB)); have qT := aM ((by rw [hg]; exact Nat.ne_of_gt (z19_ (g := qE) (lK qD)) : qB ≠ qE)); replace qD := aM (z5_ (g := qE) (lK qD) hb); clear hb hbox hg; have j4 := qQ.out; have j5 := qR.out; have jm := qK.out; have jn := qS.out; have jC := zc2 qA.out; have jD := fun i_ : Nat => z1_ qA.out i_; have jo := qL.out; have jp := qT.out; have jE := zc2 qD.out; have jF := fun i_ : Nat => z1_ qD.out i_))
  replace qA := aM (blk_drew qA.out)
  replace qD := aM (blk_drew qD.out)
  replace qF := aM (blk_drew qF.out)
  replace HB := aM (below_drew1 HB.out)
  refine start_ (n := 9) (S := fun w' => w'.cell? ⟨qC, 0, none⟩ = some (.bool qI) ∧ w'.cell? ⟨qC, 1, none⟩ = some (.slice qM qG.length qN) ∧ w'.cell? ⟨qE, 0, none⟩ = some (.bool qJ) ∧ w'.cell? ⟨qE, 1, none⟩ = some (.slice qO qH.length qP)) (ds := []) (bs 9 0) zk rfl rfl ⟨(z2_ qA.out 0).trans rfl, (z2_ qA.out 1).trans rfl, (z2_ qD.out 0).trans rfl, (z2_ qD.out 1).trans rfl⟩ (fun hHeld => ?_); refine with_tabW integer_Int_Add.tab2 integer_Int_Add.bits2 (fun HT_ HW_ => ?_)
  generalize w8.drew = w14 at qA qD qF HB hHeld ⊢
  refine pQ 0 12 9 1 ?_
  refine pQ 2 14 9 5 ?_
  refine pQ 4 16 9 21 ?_
  refine take_ (i := 1) (N := some 13) (v := ?_) (a' := ?_) (bs 9 23) rfl rfl (take_ofW HT_.out HW_.out zk) (fun _ _ _ h => h) (Or.inl ⟨by rfl, ?_⟩) hHeld ?_ ?_
  rotate_left
  ·rintro w' ⟨s0, s1, s2, s3⟩
   go_simp
   with_reducible rfl
  rotate_left
  ·simp only [Act.put, List.setIfInBounds_toArray, List.set_cons_zero, List.set_cons_succ, i64_w, i32_w]
   rfl
  refine take_ (i := 3) (N := some 15) (v := ?_) (a' := ?_) (bs 9 31) rfl rfl (take_ofW HT_.out HW_.out zk) (fun _ _ _ h => h) (Or.inl ⟨by rfl, ?_⟩) hHeld ?_ ?_
  rotate_left
  ·rintro w' ⟨s0, s1, s2, s3⟩
   go_simp
   with_reducible rfl
  rotate_left
  ·simp only [Act.put, List.setIfInBounds_toArray, List.set_cons_zero, List.set_cons_succ, i64_w, i32_w]
   rfl
  refine take_ (i := 5) (N := some 17) (v := ?_) (a' := ?_) (bs 9 63) rfl rfl (take_ofW HT_.out HW_.out zk) (fun _ _ _ h => h) (Or.inl ⟨by rfl, ?_⟩) hHeld ?_ ?_
  rotate_left
  ·rintro w' ⟨s0, s1, s2, s3⟩
   go_simp
   with_reducible rfl
  rotate_left
  ·simp only [Act.put, List.setIfInBounds_toArray, List.set_cons_zero, List.set_cons_succ, i64_w, i32_w]
   rfl
  refine one_ (i := 6) (N := some 18) (bs 9 127) rfl rfl (one_of HT_.out zk) (by decide) (fun K hK => ?_)
  refine goes_ Tryd.func53 zk rfl #[.slice qM qG.length qN, .slice qO qH.length qP] (by rfl) rfl rfl zA ?_
  with_reducible refine (limb_Add.calls k _ _ qG _ _ qH qU _ ?side1 ?side2 ?side3 ?side4 A4.out).mono ?_
  (case side1 => refine lY ?_; exact (Kd.z8_ qW.out HB.out))
  (case side2 => exact qX.out)
  (case side3 => refine lY ?_; exact (Kd.z8_ qY.out HB.out))
  (case side4 => exact qZ.out)
  rintro e w15 ⟨v330, rfl, ho0, hb⟩
  refine ⟨_, rfl, ?_⟩
  have qa := aM (Kd.V_lower (Kd.V_mono (ok' := fun k_ => (w.heap.size ≤ k_) ∧ k_ ≠ qC ∧ k_ ≠ qE ∧ k_ ≠ qB) ho0 (fun k_ hk_ => ⟨(Nat.le_trans (z4_ (zB HB)) hk_), (Kd.freshB (g := qC) (o := .cells #[.bool qI, .slice qM qG.length qN] 39 (0, 0)) (lK qA) k_ hk_), (Kd.freshB (g := qE) (o := .cells #[.bool qJ, .slice qO qH.length qP] 39 (0, 0)) (lK qD) k_ hk_), (Kd.freshB (g := qB) (o := .cells #[.bool false, .slice none 0 0] 39 (0, 0)) (lK qF) k_ hk_)⟩)) (z4_ (zB HB)))
  replace qA := aM (z5_ (g := qC) (lK qA) hb)
  replace qD := aM (z5_ (g := qE) (lK qD) hb)
  replace qF := aM (z5_ (g := qB) (lK qF) hb)
  replace HB := aM (z6_ (zB HB) hb)
  (try clear hb)
  (try clear hb2)
  (try clear hk)
  (try clear hi)
  (try clear ho0)
  obtain ⟨q4, q5, eo16⟩ := Kd.V_slice qa.out
  (first | subst eo16 | (injection eo16 with f1_ f2_ f3_; have f4_ := f1_.symm; have f5_ := f3_.symm; clear f1_ f2_ f3_; subst f4_; subst f5_))
  refine hK.out _ _ ⟨(z2_ qA.out 0).trans rfl, (z2_ qA.out 1).trans rfl, (z2_ qD.out 0).trans rfl, (z2_ qD.out 1).trans rfl⟩ (fun hHeld => ?_)
  clear hK K
  refine norm_ (a' := ?_) ?_ ?_
  rotate_left
  ·show Act.put _ (some 18) _ = _
   simp only [Act.put, List.setIfInBounds_toArray, List.set_cons_zero, List.set_cons_succ, i64_w, i32_w]
   rfl
  refine one_ (i := 7) (N := some 19) (bs 9 255) rfl rfl (one_of HT_.out zk) (by decide) (fun K hK => ?_)
  refine goes_ Tryd.func51 zk rfl #[.bool qI, .slice q4 qU.length q5] (by rfl) rfl rfl zA ?_
  with_reducible refine (integer_made.calls qI (fun k_ => ((w.heap.size ≤ k_) ∧ (k_ ≠ qC ∧ (k_ ≠ qE ∧ k_ ≠ qB)))) _ _ qU qd qg _ ?side1 A5.out).mono ?_
  (case side1 => exact qa.out)
  rintro e w17 ⟨v334, rfl, ho0, hb⟩
  refine ⟨_, rfl, ?_⟩
  replace qa := aM (Kd.V_below (lV qa) hb)
  have qv := aM (Kd.V_lower (Kd.V_mono (ok' := fun k_ => (w.heap.size ≤ k_) ∧ k_ ≠ qC ∧ k_ ≠ qE ∧ k_ ≠ qB) ho0 (fun k_ hk_ => ⟨Or.elim hk_ (fun hs_ => hs_.1) (fun hn_ => (Nat.le_trans (z4_ (zB HB)) hn_)), Or.elim hk_ (fun hs_ => hs_.2.1) (fun hn_ => (Kd.freshB (g := qC) (o := .cells #[.bool qI, .slice qM qG.length qN] 39 (0, 0)) (lK qA) k_ hn_)), Or.elim hk_ (fun hs_ => hs_.2.2.1) (fun hn_ => (Kd.freshB (g := qE) (o := .cells #[.bool qJ, .slice qO qH.length qP] 39 (0, 0)) (lK qD) k_ hn_)), Or.elim hk_ (fun hs_ => hs_.2.2.2) (fun hn_ => (Kd.freshB (g := qB) (o := .cells #[.bool false, .slice none 0 0] 39 (0, 0)) (lK qF) k_ hn_))⟩)) (z4_ (zB HB)))
  replace qA := aM (z5_ (g := qC) (lK qA) hb)
  replace qD := aM (z5_ (g := qE) (lK qD) hb)
  replace qF := aM (z5_ (g := qB) (lK qF) hb)
  replace HB := aM (z6_ (zB HB) hb)
  (try clear hb)
  (try clear hb2)
  (try clear hk)
  (try clear hi)
  (try clear ho0)
  obtain ⟨qy, qz, eo19⟩ := Kd.V_slice qv.out
  (first | subst eo19 | (injection eo19 with f1_ f2_ f3_; have f4_ := f1_.symm; have f5_ := f3_.symm; clear f1_ f2_ f3_; subst f4_; subst f5_))
  refine hK.out _ _ ⟨(z2_ qA.out 0).trans rfl, (z2_ qA.out 1).trans rfl, (z2_ qD.out 0).trans rfl, (z2_ qD.out 1).trans rfl⟩ (fun hHeld => ?_)
  clear hK K
  refine norm_ (a' := ?_) ?_ ?_
  rotate_left
  ·show Act.put _ (some 19) _ = _
   simp only [Act.put, List.setIfInBounds_toArray, List.set_cons_zero, List.set_cons_succ, i64_w, i32_w]
   rfl
  refine one_ (i := 8) (N := none) (bs 9 511) rfl rfl (one_of HT_.out zk) (by decide) (fun K hK => ?_)
  have j6 : w17.cell? ⟨qB, 0, none⟩ = some (.bool false) := (z2_ qF.out 0).trans rfl
  have jq := z1_ qF.out 0
  have jG := qK.out
  have jH := qL.out
  have jI := qS.out
  have jJ := qT.out
  have j7 : w17.cell? ⟨qB, 1, none⟩ = some (.slice none 0 0) := (z2_ qF.out 1).trans rfl
  have jr := z1_ qF.out 1
  have jK := qK.out
  have jL := qL.out
  have jM := qS.out
  have jN := qT.out
  refine skip_ (w1 := ?_) (by rfl) rfl ?_ ?_
  rotate_left
  ·go_simp
   rfl
  refine hK.out _ _ ⟨((z14_ (p := ⟨qB, _, none⟩) qK.out _).trans (((z14_ (p := ⟨qB, _, none⟩) qK.out _).trans (hHeld.1)))), ((z14_ (p := ⟨qB, _, none⟩) qK.out _).trans (((z14_ (p := ⟨qB, _, none⟩) qK.out _).trans (hHeld.2.1)))), ((z14_ (p := ⟨qB, _, none⟩) qL.out _).trans (((z14_ (p := ⟨qB, _, none⟩) qL.out _).trans (hHeld.2.2.1)))), ((z14_ (p := ⟨qB, _, none⟩) qL.out _).trans (((z14_ (p := ⟨qB, _, none⟩) qL.out _).trans (hHeld.2.2.2))))⟩ (fun hHeld => ?_)
  clear hK K
  refine done_ (done_of HT_.out zk) ?_
  try go_wp2
  refine bodyPost_ret (results_cell_row rfl _ _ qB 39 #[.bool qd, .slice qy qg.length qz] (0, 0) _ rfl (by refine lZ ?_; refine blk_put (cs := #[.bool qd, .slice none 0 0]) ?_ 1 _ rfl; refine lZ ?_; refine blk_put (cs := #[.bool false, .slice none 0 0]) ?_ 0 _ rfl; refine lZ ?_; exact qF.out) Tryd.underlying39 rfl zk) rfl ?_
  exact ⟨_, zE, by (with_reducible repeat (first | apply Kd.V_alloc | apply Kd.V_drewN | apply Kd.V_drew)); exact Kd.V_mono (Kd.V_far (p := ⟨qB, 1, none⟩) (Kd.V_far (p := ⟨qB, 0, none⟩) (Kd.V_mono qv.out (fun k_ hk => (⟨hk, hk.2.2.2⟩ : _ ∧ k_ ≠ qB))) (fun _ hk => hk.2) (.bool qd)) (fun _ hk => hk.2) (.slice qy qg.length qz)) (fun _ hk => hk.1.1), zB HB⟩
 ·rw [if_neg c3] at H
  have c3b0 : (qI == qJ) = false := by simpa using c3
  (try (have c3b1 : decide (qI = qJ) = false := by simpa using c3))
  (try (have c3b2 : (qI == qJ) = false := by simpa using c3))
  (try (have c3b3 : ¬ (qI = qJ) := by simpa using c3))
  clear c3
  replace H := zbs H
  obtain ⟨qV, A210, H⟩ := H
  replace H : (if qV < 0 then ((limb_Sub.f k qH qG).bind fun bt337 => ((integer_made.f qJ bt337.1).bind fun bt341 => (some (bt341.1, bt341.2)))) else ((limb_Sub.f k qG qH).bind fun bt345 => ((integer_made.f qI bt345.1).bind fun bt349 => (some (bt349.1, bt349.2))))) = some (r1, r2) := H
  have A21 := aM A210
  clear A210
  by_cases c22 : qV < 0
  ·rw [if_pos c22] at H
   have c22b0 := decide_eq_true c22
   clear c22
   replace H := zbs H
   obtain ⟨⟨qh, q6⟩, A230, H⟩ := H
   replace H : ((integer_made.f qJ qh).bind fun bt341 => (some (bt341.1, bt341.2))) = some (r1, r2) := H
   have A23 := aM A230
   clear A230
   replace H := zbs H
   obtain ⟨⟨qe, qi⟩, A240, H⟩ := H
   replace H : (some (qe, qi)) = some (r1, r2) := H
   have A24 := aM A240
   clear A240
   simp only [Option.some.injEq, Prod.mk.injEq] at H
   obtain ⟨rfl, rfl⟩ := H
   go_enter Tryd.func36, Tryd.ntmps36
   go_wp2_with (first | ((with_reducible refine gate_dst (N := 2) rfl ?_); refine z16_ rfl (N := 2) rfl (cs := #[.bool qI, .slice qM qG.length qN]) (t := 39) zG ?_; intro qC hg w25 hbox hb; have qA := aM (hbox); have qp := aM ((by rw [hg]; exact (z4_ (lB HB)) : w.heap.size ≤ qC)); have qq := aM ((by rw [hg]; exact (z4_ (lB HB)) : w.heap.size ≤ qC)); replace HB := aM (z6_ (lB HB) hb); clear hb hbox hg) | ((with_reducible refine gate_dst (N := 3) rfl ?_); refine z16_ rfl (N := 3) rfl (cs := #[.bool qJ, .slice qO qH.length qP]) (t := 39) zG ?_; intro qE hg w26 hbox hb; have qD := aM (hbox); have qr := aM ((by rw [hg]; exact (z4_ (zB HB)) : w.heap.size ≤ qE)); have qs := aM ((by rw [hg]; exact (z4_ (zB HB)) : w.heap.size ≤ qE)); replace HB := aM (z6_ (zB HB) hb); have qQ := aM ((by rw [hg]; exact Nat.ne_of_lt (z19_ (g := qC) (lK qA)) : qC ≠ qE)); have qR := aM ((by rw [hg]; exact Nat.ne_of_gt (z19_ (g := qC) (lK qA)) : qE ≠ qC)); replace qA := aM (z5_ (g := qC) (lK qA) hb); clear hb hbox hg) | ((with_reducible refine gate_dst (N := 4) rfl ?_); refine z16_ rfl (N := 4) rfl (cs := #[.bool false, .slice none 0 0]) (t := 39) zG ?_; intro qB hg w27 hbox hb; have qF := aM (hbox); have qt := aM ((by rw [hg]; exact (z4_ (zB HB)) : w.heap.size ≤ qB)); have qu := aM ((by rw [hg]; exact (z4_ (zB HB)) : w.heap.size ≤ qB)); replace HB := aM (z6_ (zB HB) hb); have qK := aM ((by rw [hg]; exact Nat.ne_of_lt (z19_ (g := qC) (lK qA)) : qC ≠ qB)); have qS := aM ((by rw [hg]; exact Nat.ne_of_gt (z19_ (g := qC) (lK qA)) : qB ≠ qC)); replace qA := aM (z5_ (g := qC) (lK qA) hb); have qL := aM ((by rw [hg]; exact Nat.ne_of_lt (z19_ (g := qE) (lK qD)) : qE ≠ qB)); have qT := aM ((by rw [hg]; exact Nat.ne_of_gt (z19_ (g := qE) (lK qD)) : qB ≠ qE)); replace qD := aM (z5_ (g := qE) (lK qD) hb); clear hb hbox hg; have js := qQ.out; have jt := qR.out; have ju := qK.out; have jv := qS.out; have jO := zc2 qA.out; have jP := fun i_ : Nat => z1_ qA.out i_; have jw := qL.out; have jx := qT.out; have jQ := zc2 qD.out; have jR := fun i_ : Nat => z1_ qD.out i_) | ((with_reducible refine gate_callee (f := 54) rfl ?_); refine z13_ (some 24) rfl rfl Tryd.func54 zk rfl #[.slice qM qG.length qN, .slice qO qH.length qP] rfl zA ?_; (with_reducible refine (limb_Cmp.calls k _ _ qG _ _ qH qV _ ?side1 ?side2 ?side3 ?side4 A21.out).mono ?_); (case side1 => refine lY ?_; exact (Kd.z8_ qW.out HB.out)); (case side2 => exact qX.out); (case side3 => refine lY ?_; exact (Kd.z8_ qY.out HB.out)); (case side4 => exact qZ.out); rintro e w33 ⟨rfl, hb⟩; refine ⟨_, rfl, ?_⟩; replace qA := aM (z5_ (g := qC) (lK qA) hb); replace qD := aM (z5_ (g := qE) (lK qD) hb); replace qF := aM (z5_ (g := qB) (lK qF) hb); replace HB := aM (z6_ (zB HB) hb); (try clear hb); have jS := zc2 qD.out; have jT := fun i_ : Nat => z1_ qD.out i_; have jU := zc2 qA.out; have jV := fun i_ : Nat => z1_ qA.out i_) | ((with_reducible refine gate_callee (f := 55) rfl ?_); refine z13_ (some 33) rfl rfl Tryd.func55 zk rfl #[.slice qO qH.length qP, .slice qM qG.length qN] rfl zA ?_; (with_reducible refine (limb_Sub.calls k _ _ qH _ _ qG qh q6 _ ?side1 ?side2 ?side3 ?side4 A23.out).mono ?_); (case side1 => exact Kd.z8_ qY.out (zB HB)); (case side2 => exact qZ.out); (case side3 => exact Kd.z8_ qW.out (zB HB)); (case side4 => exact qX.out); rintro e w36 ⟨v338, rfl, ho0, hb⟩; refine ⟨_, rfl, ?_⟩; have qb := aM (Kd.V_lower (Kd.V_mono (ok' := fun k_ => (w.heap.size ≤ k_) ∧ k_ ≠ qC ∧ k_ ≠ qE ∧ k_ ≠ qB) ho0 (fun k_ hk_ => ⟨(Nat.le_trans (z4_ (zB HB)) hk_), (Kd.freshB (g := qC) (o := .cells #[.bool qJ, .slice qO qH.length qP] 39 (0, 0)) (by refine lZ ?_; refine z18_ ?_ qQ.out _; refine lZ ?_; refine z18_ ?_ qQ.out _; refine lZ ?_; refine blk_put (cs := #[.bool qJ, .slice qM qG.length qN]) ?_ 1 _ rfl; refine lZ ?_; refine blk_put (cs := #[.bool qI, .slice qM qG.length qN]) ?_ 0 _ rfl; refine lZ ?_; exact qA.out) k_ hk_), (Kd.freshB (g := qE) (o := .cells #[.bool qI, .slice qM qG.length qN] 39 (0, 0)) (by refine lZ ?_; refine blk_put (cs := #[.bool qI, .slice qO qH.length qP]) ?_ 1 _ rfl; refine lZ ?_; refine blk_put (cs := #[.bool qJ, .slice qO qH.length qP]) ?_ 0 _ rfl; refine lZ ?_; refine z18_ ?_ qR.out _; refine lZ ?_; refine z18_ ?_ qR.out _; refine lZ ?_; exact qD.out) k_ hk_), (Kd.freshB (g := qB) (zb qF) k_ hk_)⟩)) (z4_ (zB HB))); replace qA := aM (z5_ (g := qC) (o := .cells #[.bool qJ, .slice qO qH.length qP] 39 (0, 0)) (by refine lZ ?_; refine z18_ ?_ qQ.out _; refine lZ ?_; refine z18_ ?_ qQ.out _; refine lZ ?_; refine blk_put (cs := #[.bool qJ, .slice qM qG.length qN]) ?_ 1 _ rfl; refine lZ ?_; refine blk_put (cs := #[.bool qI, .slice qM qG.length qN]) ?_ 0 _ rfl; refine lZ ?_; exact qA.out) hb); replace qD := aM (z5_ (g := qE) (o := .cells #[.bool qI, .slice qM qG.length qN] 39 (0, 0)) (by refine lZ ?_; refine blk_put (cs := #[.bool qI, .slice qO qH.length qP]) ?_ 1 _ rfl; refine lZ ?_; refine blk_put (cs := #[.bool qJ, .slice qO qH.length qP]) ?_ 0 _ rfl; refine lZ ?_; refine z18_ ?_ qR.out _; refine lZ ?_; refine z18_ ?_ qR.out _; refine lZ ?_; exact qD.out) hb); replace qF := aM (z5_ (g := qB) (zb qF) hb); replace HB := aM (z6_ (zB HB) hb); (try clear hb); (try clear ho0); have jW := zc2 qA.out; have jX := fun i_ : Nat => z1_ qA.out i_; obtain ⟨q7, q8, eo38⟩ := Kd.V_slice qb.out; subst eo38) | ((with_reducible refine gate_callee (f := 51) rfl ?_); refine z13_ (some 39) rfl rfl Tryd.func51 zk rfl #[.bool qJ, .slice q7 qh.length q8] rfl zA ?_; (with_reducible refine (integer_made.calls qJ (fun k_ => ((w.heap.size ≤ k_) ∧ (k_ ≠ qC ∧ (k_ ≠ qE ∧ k_ ≠ qB)))) _ _ qh qe qi _ ?side1 A24.out).mono ?_); (case side1 => exact qb.out); rintro e w39 ⟨v343, rfl, ho0, hb⟩; refine ⟨_, rfl, ?_⟩; replace qb := aM (Kd.V_below (lV qb) hb); have qw := aM (Kd.V_lower (Kd.V_mono (ok' := fun k_ => (w.heap.size ≤ k_) ∧ k_ ≠ qC ∧ k_ ≠ qE ∧ k_ ≠ qB) ho0 (fun k_ hk_ => ⟨Or.elim hk_ (fun hs_ => hs_.1) (fun hn_ => (Nat.le_trans (z4_ (zB HB)) hn_)), Or.elim hk_ (fun hs_ => hs_.2.1) (fun hn_ => (Kd.freshB (g := qC) (o := .cells #[.bool qJ, .slice qO qH.length qP] 39 (0, 0)) (lK qA) k_ hn_)), Or.elim hk_ (fun hs_ => hs_.2.2.1) (fun hn_ => (Kd.freshB (g := qE) (o := .cells #[.bool qI, .slice qM qG.length qN] 39 (0, 0)) (lK qD) k_ hn_)), Or.elim hk_ (fun hs_ => hs_.2.2.2) (fun hn_ => (Kd.freshB (g := qB) (o := .cells #[.bool false, .slice none 0 0] 39 (0, 0)) (lK qF) k_ hn_))⟩)) (z4_ (zB HB))); replace qA := aM (z5_ (g := qC) (lK qA) hb); replace qD := aM (z5_ (g := qE) (lK qD) hb); replace qF := aM (z5_ (g := qB) (lK qF) hb); replace HB := aM (z6_ (zB HB) hb); (try clear hb); (try clear ho0); have jY := zc2 qF.out; have jZ := fun i_ : Nat => z1_ qF.out i_; obtain ⟨q0, q1, eo41⟩ := Kd.V_slice qw.out; subst eo41))
   refine bodyPost_ret (results_cell_row rfl _ _ qB 39 #[.bool qe, .slice q0 qi.length q1] (0, 0) _ rfl (by refine lZ ?_; refine blk_put (cs := #[.bool qe, .slice none 0 0]) ?_ 1 _ rfl; refine lZ ?_; refine blk_put (cs := #[.bool false, .slice none 0 0]) ?_ 0 _ rfl; refine lZ ?_; exact qF.out) Tryd.underlying39 rfl zk) rfl ?_
   exact ⟨_, zE, by (with_reducible repeat (first | apply Kd.V_alloc | apply Kd.V_drewN | apply Kd.V_drew)); exact Kd.V_mono (Kd.V_far (p := ⟨qB, 1, none⟩) (Kd.V_far (p := ⟨qB, 0, none⟩) (Kd.V_mono qw.out (fun k_ hk => (⟨hk, hk.2.2.2⟩ : _ ∧ k_ ≠ qB))) (fun _ hk => hk.2) (.bool qe)) (fun _ hk => hk.2) (.slice q0 qi.length q1)) (fun _ hk => hk.1.1), zB HB⟩
  ·rw [if_neg c22] at H
   have c22b0 := decide_eq_false c22
   clear c22
   replace H := zbs H
   obtain ⟨⟨qj, q9⟩, A420, H⟩ := H
   replace H : ((integer_made.f qI qj).bind fun bt349 => (some (bt349.1, bt349.2))) = some (r1, r2) := H
   have A42 := aM A420
   clear A420
   replace H := zbs H
   obtain ⟨⟨qf, qk⟩, A430, H⟩ := H
   replace H : (some (qf, qk)) = some (r1, r2) := H
   have A43 := aM A430
   clear A430
   simp only [Option.some.injEq, Prod.mk.injEq] at H
   obtain ⟨rfl, rfl⟩ := H
   go_enter Tryd.func36, Tryd.ntmps36
   go_wp2_with (first | ((with_reducible refine gate_dst (N := 2) rfl ?_); refine z16_ rfl (N := 2) rfl (cs := #[.bool qI, .slice qM qG.length qN]) (t := 39) zG ?_; intro qC hg w44 hbox hb; have qA := aM (hbox); have qp := aM ((by rw [hg]; exact (z4_ (lB HB)) : w.heap.size ≤ qC)); have qq := aM ((by rw [hg]; exact (z4_ (lB HB)) : w.heap.size ≤ qC)); replace HB := aM (z6_ (lB HB) hb); clear hb hbox hg) | ((with_reducible refine gate_dst (N := 3) rfl ?_); refine z16_ rfl (N := 3) rfl (cs := #[.bool qJ, .slice qO qH.length qP]) (t := 39) zG ?_; intro qE hg w45 hbox hb; have qD := aM (hbox); have qr := aM ((by rw [hg]; exact (z4_ (zB HB)) : w.heap.size ≤ qE)); have qs := aM ((by rw [hg]; exact (z4_ (zB HB)) : w.heap.size ≤ qE)); replace HB := aM (z6_ (zB HB) hb); have qQ := aM ((by rw [hg]; exact Nat.ne_of_lt (z19_ (g := qC) (lK qA)) : qC ≠ qE)); have qR := aM ((by rw [hg]; exact Nat.ne_of_gt (z19_ (g := qC) (lK qA)) : qE ≠ qC)); replace qA := aM (z5_ (g := qC) (lK qA) hb); clear hb hbox hg) | ((with_reducible refine gate_dst (N := 4) rfl ?_); refine z16_ rfl (N := 4) rfl (cs := #[.bool false, .slice none 0 0]) (t := 39) zG ?_; intro qB hg w46 hbox hb; have qF := aM (hbox); have qt := aM ((by rw [hg]; exact (z4_ (zB HB)) : w.heap.size ≤ qB)); have qu := aM ((by rw [hg]; exact (z4_ (zB HB)) : w.heap.size ≤ qB)); replace HB := aM (z6_ (zB HB) hb); have qK := aM ((by rw [hg]; exact Nat.ne_of_lt (z19_ (g := qC) (lK qA)) : qC ≠ qB)); have qS := aM ((by rw [hg]; exact Nat.ne_of_gt (z19_ (g := qC) (lK qA)) : qB ≠ qC)); replace qA := aM (z5_ (g := qC) (lK qA) hb); have qL := aM ((by rw [hg]; exact Nat.ne_of_lt (z19_ (g := qE) (lK qD)) : qE ≠ qB)); have qT := aM ((by rw [hg]; exact Nat.ne_of_gt (z19_ (g := qE) (lK qD)) : qB ≠ qE)); replace qD := aM (z5_ (g := qE) (lK qD) hb); clear hb hbox hg; have jy := qQ.out; have jz := qR.out; have j0 := qK.out; have j1 := qS.out; have ja := zc2 qA.out; have jb := fun i_ : Nat => z1_ qA.out i_; have j2 := qL.out; have j3 := qT.out; have jc := zc2 qD.out; have jd := fun i_ : Nat => z1_ qD.out i_) | ((with_reducible refine gate_callee (f := 54) rfl ?_); refine z13_ (some 24) rfl rfl Tryd.func54 zk rfl #[.slice qM qG.length qN, .slice qO qH.length qP] rfl zA ?_; (with_reducible refine (limb_Cmp.calls k _ _ qG _ _ qH qV _ ?side1 ?side2 ?side3 ?side4 A21.out).mono ?_); (case side1 => refine lY ?_; exact (Kd.z8_ qW.out HB.out)); (case side2 => exact qX.out); (case side3 => refine lY ?_; exact (Kd.z8_ qY.out HB.out)); (case side4 => exact qZ.out); rintro e w52 ⟨rfl, hb⟩; refine ⟨_, rfl, ?_⟩; replace qA := aM (z5_ (g := qC) (lK qA) hb); replace qD := aM (z5_ (g := qE) (lK qD) hb); replace qF := aM (z5_ (g := qB) (lK qF) hb); replace HB := aM (z6_ (zB HB) hb); (try clear hb); have je := zc2 qA.out; have jf := fun i_ : Nat => z1_ qA.out i_; have jg := zc2 qD.out; have jh := fun i_ : Nat => z1_ qD.out i_) | ((with_reducible refine gate_callee (f := 55) rfl ?_); refine z13_ (some 33) rfl rfl Tryd.func55 zk rfl #[.slice qM qG.length qN, .slice qO qH.length qP] rfl zA ?_; (with_reducible refine (limb_Sub.calls k _ _ qG _ _ qH qj q9 _ ?side1 ?side2 ?side3 ?side4 A42.out).mono ?_); (case side1 => refine lY ?_; exact (Kd.z8_ qW.out HB.out)); (case side2 => exact qX.out); (case side3 => refine lY ?_; exact (Kd.z8_ qY.out HB.out)); (case side4 => exact qZ.out); rintro e w55 ⟨v346, rfl, ho0, hb⟩; refine ⟨_, rfl, ?_⟩; have qc := aM (Kd.V_lower (Kd.V_mono (ok' := fun k_ => (w.heap.size ≤ k_) ∧ k_ ≠ qC ∧ k_ ≠ qE ∧ k_ ≠ qB) ho0 (fun k_ hk_ => ⟨(Nat.le_trans (z4_ (zB HB)) hk_), (Kd.freshB (g := qC) (o := .cells #[.bool qI, .slice qM qG.length qN] 39 (0, 0)) (lK qA) k_ hk_), (Kd.freshB (g := qE) (o := .cells #[.bool qJ, .slice qO qH.length qP] 39 (0, 0)) (lK qD) k_ hk_), (Kd.freshB (g := qB) (o := .cells #[.bool false, .slice none 0 0] 39 (0, 0)) (lK qF) k_ hk_)⟩)) (z4_ (zB HB))); replace qA := aM (z5_ (g := qC) (lK qA) hb); replace qD := aM (z5_ (g := qE) (lK qD) hb); replace qF := aM (z5_ (g := qB) (lK qF) hb); replace HB := aM (z6_ (zB HB) hb); (try clear hb); (try clear ho0); have ji := zc2 qA.out; have jj := fun i_ : Nat => z1_ qA.out i_; obtain ⟨jA, jB, eo57⟩ := Kd.V_slice qc.out; subst eo57) | ((with_reducible refine gate_callee (f := 51) rfl ?_); refine z13_ (some 39) rfl rfl Tryd.func51 zk rfl #[.bool qI, .slice jA qj.length jB] rfl zA ?_; (with_reducible refine (integer_made.calls qI (fun k_ => ((w.heap.size ≤ k_) ∧ (k_ ≠ qC ∧ (k_ ≠ qE ∧ k_ ≠ qB)))) _ _ qj qf qk _ ?side1 A43.out).mono ?_); (case side1 => exact qc.out); rintro e w58 ⟨v351, rfl, ho0, hb⟩; refine ⟨_, rfl, ?_⟩; replace qc := aM (Kd.V_below (lV qc) hb); have qx := aM (Kd.V_lower (Kd.V_mono (ok' := fun k_ => (w.heap.size ≤ k_) ∧ k_ ≠ qC ∧ k_ ≠ qE ∧ k_ ≠ qB) ho0 (fun k_ hk_ => ⟨Or.elim hk_ (fun hs_ => hs_.1) (fun hn_ => (Nat.le_trans (z4_ (zB HB)) hn_)), Or.elim hk_ (fun hs_ => hs_.2.1) (fun hn_ => (Kd.freshB (g := qC) (o := .cells #[.bool qI, .slice qM qG.length qN] 39 (0, 0)) (lK qA) k_ hn_)), Or.elim hk_ (fun hs_ => hs_.2.2.1) (fun hn_ => (Kd.freshB (g := qE) (o := .cells #[.bool qJ, .slice qO qH.length qP] 39 (0, 0)) (lK qD) k_ hn_)), Or.elim hk_ (fun hs_ => hs_.2.2.2) (fun hn_ => (Kd.freshB (g := qB) (o := .cells #[.bool false, .slice none 0 0] 39 (0, 0)) (lK qF) k_ hn_))⟩)) (z4_ (zB HB))); replace qA := aM (z5_ (g := qC) (lK qA) hb); replace qD := aM (z5_ (g := qE) (lK qD) hb); replace qF := aM (z5_ (g := qB) (lK qF) hb); replace HB := aM (z6_ (zB HB) hb); (try clear hb); (try clear ho0); have jk := zc2 qF.out; have jl := fun i_ : Nat => z1_ qF.out i_; obtain ⟨q2, q3, eo60⟩ := Kd.V_slice qx.out; subst eo60))
   refine bodyPost_ret (results_cell_row rfl _ _ qB 39 #[.bool qf, .slice q2 qk.length q3] (0, 0) _ rfl (by refine lZ ?_; refine blk_put (cs := #[.bool qf, .slice none 0 0]) ?_ 1 _ rfl; refine lZ ?_; refine blk_put (cs := #[.bool false, .slice none 0 0]) ?_ 0 _ rfl; refine lZ ?_; exact qF.out) Tryd.underlying39 rfl zk) rfl ?_
   exact ⟨_, zE, by (with_reducible repeat (first | apply Kd.V_alloc | apply Kd.V_drewN | apply Kd.V_drew)); exact Kd.V_mono (Kd.V_far (p := ⟨qB, 1, none⟩) (Kd.V_far (p := ⟨qB, 0, none⟩) (Kd.V_mono qx.out (fun k_ hk => (⟨hk, hk.2.2.2⟩ : _ ∧ k_ ≠ qB))) (fun _ hk => hk.2) (.bool qf)) (fun _ hk => hk.2) (.slice q2 qk.length q3)) (fun _ hk => hk.1.1), zB HB⟩
def integer_Int_Sign.f (qF : Bool) (qB : List Int) : Option (Int) := if (qB.length : Int) = 0 then (some 0) else (if qF = true then (some (-1)) else (some 1))
theorem integer_Int_Sign.calls (qF : Bool) (qI : Option Addr) (qJ : Nat) (qB : List Int) (r : Int) (w : World) (qM : Kd.C (Kd.int .u32) w qI qB.length qB) (qN : qB.length ≤ qJ) (h : integer_Int_Sign.f qF qB = some r) :
  Calls Tryd.prog 56 #[.agg #[.bool qF, .slice qI qB.length qJ]] w fun e w' => e = .returned (.int .i64 r) ∧ Below w.heap.size w w' := by
 have hu39 := Tryd.underlying39
 have qW := aM qM
 have qX := aM qN
 clear qM qN
 have HB := aM (Below.refl w.heap.size w)
 have H : (if (qB.length : Int) = 0 then (some 0) else (if qF = true then (some (-1)) else (some 1))) = some r := h
 clear h
 by_cases c2 : (qB.length : Int) = 0
 ·rw [if_pos c2] at H
  have c2b0 : ((qB.length : Int) == 0) = true := beq_iff_eq.mpr c2
  have c2b1 : ((qB.length : Int) != 0) = false := bne_eq_false_iff_eq.mpr c2
  clear c2
  obtain rfl := Option.some.inj H
  go_enter Tryd.func56, Tryd.ntmps56
  go_wp2_with (first | ((with_reducible refine gate_dst (N := 1) rfl ?_); refine z16_ rfl (N := 1) rfl (cs := #[.bool qF, .slice qI qB.length qJ]) (t := 39) zG ?_; intro qC hg w3 hbox hb; have qD := aM (hbox); have qO := aM ((by rw [hg]; exact (z4_ (lB HB)) : w.heap.size ≤ qC)); have qP := aM ((by rw [hg]; exact (z4_ (lB HB)) : w.heap.size ≤ qC)); replace HB := aM (z6_ (lB HB) hb); clear hb hbox hg; have qQ := zc2 qD.out; have qR := fun i_ : Nat => z1_ qD.out i_))
  go_ret
  exact ⟨zE, zB HB⟩
 ·rw [if_neg c2] at H
  have c2b0 : ((qB.length : Int) == 0) = false := beq_eq_false_iff_ne.mpr c2
  have c2b1 : ((qB.length : Int) != 0) = true := bne_iff_ne.mpr c2
  have c2b2 : ¬ (qB = []) := fun h_ => c2 (by rw [h_]; rfl)
  by_cases c5 : qF = true
  ·subst c5
   have H1 : (some (-1)) = some r := by rw [if_pos rfl] at H; exact H
   clear H
   have H := H1
   clear H1
   obtain rfl := Option.some.inj H
   go_enter Tryd.func56, Tryd.ntmps56
   go_wp2_with (first | ((with_reducible refine gate_dst (N := 1) rfl ?_); refine z16_ rfl (N := 1) rfl (cs := #[.bool true, .slice qI qB.length qJ]) (t := 39) zG ?_; intro qC hg w6 hbox hb; have qD := aM (hbox); have qO := aM ((by rw [hg]; exact (z4_ (lB HB)) : w.heap.size ≤ qC)); have qP := aM ((by rw [hg]; exact (z4_ (lB HB)) : w.heap.size ≤ qC)); replace HB := aM (z6_ (lB HB) hb); clear hb hbox hg; have qS := zc2 qD.out; have qT := fun i_ : Nat => z1_ qD.out i_))
   go_ret
   exact ⟨zE, zB HB⟩
  ·replace c5 := Bool.eq_false_iff.mpr c5
   subst c5
   have H1 : (some 1) = some r := by rw [if_neg (show ¬ (false = true) by decide)] at H; exact H
   clear H
   have H := H1
   clear H1
   obtain rfl := Option.some.inj H
   go_enter Tryd.func56, Tryd.ntmps56
   go_wp2_with (first | ((with_reducible refine gate_dst (N := 1) rfl ?_); refine z16_ rfl (N := 1) rfl (cs := #[.bool false, .slice qI qB.length qJ]) (t := 39) zG ?_; intro qC hg w8 hbox hb; have qD := aM (hbox); have qO := aM ((by rw [hg]; exact (z4_ (lB HB)) : w.heap.size ≤ qC)); have qP := aM ((by rw [hg]; exact (z4_ (lB HB)) : w.heap.size ≤ qC)); replace HB := aM (z6_ (lB HB) hb); clear hb hbox hg; have qU := zc2 qD.out; have qV := fun i_ : Nat => z1_ qD.out i_))
   go_ret
   exact ⟨zE, zB HB⟩
def poly_Degree.l0 : Nat → List (S39) → Int → Option (Int)
 | 0, _, _ => none
 | k + 1, x0, x3 => if x3 ≥ 0 then (if 0 ≤ x3 then (if x3 < (x0.length : Int) then ((integer_Int_Sign.f ((rd_T39 x0 x3).f0) ((rd_T39 x0 x3).f1)).bind fun qE => (if qE = 0 then (poly_Degree.l0 k x0 (wrap64 (x3 - 1))) else (some x3))) else (none)) else (none)) else (some x3)
def poly_Degree.f (k : Nat) (l0 : List (S39)) : Option (Int) := poly_Degree.l0 k l0 (wrap64 ((l0.length : Int) - 1))
theorem poly_Degree.mono_l : ∀ k, (∀ y0 y1, LeO (poly_Degree.l0 k y0 y1) (poly_Degree.l0 (k + 1) y0 y1))
 | 0 => fun _ _ r h => by simp [poly_Degree.l0] at h
 | k + 1 => by
  have ih0 := poly_Degree.mono_l k
  ·intro y0 y1
   unfold poly_Degree.l0
   exact zM
theorem poly_Degree.mono : ∀ a0 k, LeO (poly_Degree.f k a0) (poly_Degree.f (k + 1) a0) := by
 intro a0 k
 have ih0 := poly_Degree.mono_l k
 unfold poly_Degree.f
 exact zM
theorem poly_Degree.calls (k : Nat) (A0 : Option Addr) (c0 : Nat) (l0 : List (S39)) (r : Int) (w : World) (hr0 : Kd.C k39 w A0 l0.length l0) (hc0 : l0.length ≤ c0) (h : poly_Degree.f k l0 = some r) :
  Calls Tryd.prog 37 #[.slice A0 l0.length c0] w fun e w' => e = .returned (.int .i64 r) ∧ Below w.heap.size w w' := by
 have hu39 := Tryd.underlying39
 have HR0 := aM hr0
 have HC0 := aM hc0
 clear hr0 hc0
 have HB := aM (Below.refl w.heap.size w)
 have H : (poly_Degree.l0 k l0 (wrap64 ((l0.length : Int) - 1))) = some r := h
 clear h
 have H' := aM H
 clear H
 go_enter Tryd.func37, Tryd.ntmps37
 try go_step3
 go_wp2
 repeat (go_step3; go_wp2)
 go_loopg [3] k (fun kq v3 w' => ∃ (qA : Int), v3 = .int .i64 qA ∧ Aside0 (poly_Degree.l0 kq l0 qA = some r) ∧ Aside0 (kq ≤ k) ∧ Aside0 (Below w.heap.size w w'))
 case atStart => exact ⟨(wrap64 ((l0.length : Int) - 1)), zT, H', ⟨Nat.le_refl _⟩, ⟨zB HB⟩⟩
 case round =>
  clear H'
  obtain ⟨qA, rfl, HA, HK1, HB⟩ := hrel
  cases gk with
  | zero => exact absurd HA.out (by simp [poly_Degree.l0])
  | succ k1 =>
   have H := HA.out
   clear HA
   simp only [poly_Degree.l0] at H
   by_cases c2 : qA ≥ 0
   ·rw [if_pos c2] at H
    have c2b0 := decide_eq_true c2
    clear c2
    by_cases c3 : 0 ≤ qA
    ·rw [if_pos c3] at H
     have c3b0 := decide_eq_true c3
     clear c3
     by_cases c4 : qA < (l0.length : Int)
     ·rw [if_pos c4] at H
      have c4b0 := decide_eq_true c4
      clear c4
      replace H := zbs H
      obtain ⟨qE, A50, H⟩ := H
      replace H : (if qE = 0 then (poly_Degree.l0 k1 l0 (wrap64 (qA - 1))) else (some qA)) = some r := H
      have A5 := aM A50
      clear A50
      by_cases c6 : qE = 0
      ·rw [if_pos c6] at H
       have c6b0 : (qE == 0) = true := beq_iff_eq.mpr c6
       have c6b1 : (qE != 0) = false := bne_eq_false_iff_eq.mpr c6
       clear c6
       have H' := aM H
       clear H
       have p354 : 0 ≤ (qA : Int) := of_decide_eq_true za
       have q354 : qA < (l0.length : Int) := of_decide_eq_true za
       obtain ⟨ad354, qK, qL, e354, hx354_0, hx354_1, hl354_1, hi354_1⟩ := at_T39 HR0.out qA p354 q354
       cases e354
       replace hx354_0 := (HB.out.cell (World.block_lt_of_cell? w _ hx354_0)).trans hx354_0
       replace hx354_1 := (HB.out.cell (World.block_lt_of_cell? w _ hx354_1)).trans hx354_1
       have qG := aM hi354_1
       have qH := aM hl354_1
       clear hi354_1 hl354_1
       replace p354 := eq_true p354
       replace q354 := eq_true q354
       go_wp2_with (first | ((with_reducible refine gate_callee (f := 56) rfl ?_); refine z13_ (some 15) rfl rfl Tryd.func56 zk rfl #[.agg #[.bool ((rd_T39 l0 qA).f0), .slice qK ((rd_T39 l0 qA).f1).length qL]] rfl zA ?_; (with_reducible refine (integer_Int_Sign.calls ((rd_T39 l0 qA).f0) _ _ ((rd_T39 l0 qA).f1) qE _ ?side1 ?side2 A5.out).mono ?_); (case side1 => refine lY ?_; exact (Kd.z8_ qG.out HB.out)); (case side2 => exact qH.out); rintro e w7 ⟨rfl, hb⟩; refine ⟨_, rfl, ?_⟩; replace HB := aM (z6_ (lB HB) hb); (try clear hb)))
       go_roundg k1
       case measure => have := HK1.out; omega
       case rel => exact ⟨(wrap64 (qA - 1)), zT, H', ⟨by have := HK1.out; omega⟩, ⟨zB HB⟩⟩
      ·rw [if_neg c6] at H
       have c6b0 : (qE == 0) = false := beq_eq_false_iff_ne.mpr c6
       have c6b1 : (qE != 0) = true := bne_iff_ne.mpr c6
       obtain rfl := Option.some.inj H
       have p354 : 0 ≤ (qA : Int) := of_decide_eq_true za
       have q354 : qA < (l0.length : Int) := of_decide_eq_true za
       obtain ⟨ad354, qK, qL, e354, hx354_0, hx354_1, hl354_1, hi354_1⟩ := at_T39 HR0.out qA p354 q354
       cases e354
       replace hx354_0 := (HB.out.cell (World.block_lt_of_cell? w _ hx354_0)).trans hx354_0
       replace hx354_1 := (HB.out.cell (World.block_lt_of_cell? w _ hx354_1)).trans hx354_1
       have qG := aM hi354_1
       have qH := aM hl354_1
       clear hi354_1 hl354_1
       replace p354 := eq_true p354
       replace q354 := eq_true q354
       go_wp2_with (first | ((with_reducible refine gate_callee (f := 56) rfl ?_); refine z13_ (some 15) rfl rfl Tryd.func56 zk rfl #[.agg #[.bool ((rd_T39 l0 qA).f0), .slice qK ((rd_T39 l0 qA).f1).length qL]] rfl zA ?_; (with_reducible refine (integer_Int_Sign.calls ((rd_T39 l0 qA).f0) _ _ ((rd_T39 l0 qA).f1) qE _ ?side1 ?side2 A5.out).mono ?_); (case side1 => refine lY ?_; exact (Kd.z8_ qG.out HB.out)); (case side2 => exact qH.out); rintro e w8 ⟨rfl, hb⟩; refine ⟨_, rfl, ?_⟩; replace HB := aM (z6_ (lB HB) hb); (try clear hb)))
       go_ret
       exact ⟨zE, zB HB⟩
     ·rw [if_neg c4] at H
      exact absurd H (by simp)
    ·rw [if_neg c3] at H
     exact absurd H (by simp)
   ·rw [if_neg c2] at H
    have c2b0 := decide_eq_false c2
    clear c2
    obtain rfl := Option.some.inj H
    go_wp2
    repeat (go_step3; go_wp2)
    go_ret
    exact ⟨zE, zB HB⟩
end Go.Proofs.YtakmkhokbcjapaaDoor.XA
end
