/- Part 10 of the proof of the law SplitJoins for every input: words, walks and plain laws. No condition. -/
import Derived.Test.YtakmkhokbcjapaaDoorKSplitJoins9
set_option linter.unusedVariables false
set_option linter.unusedSimpArgs false
set_option maxHeartbeats 8000000
set_option maxRecDepth 100000
section
namespace Go.Proofs.YtakmkhokbcjapaaDoor.XA
open Go.Proofs.YtakmkhokbcjapaaDoor.Lift Go.RowKit Go.Proofs.YtakmkhokbcjapaaDoorW.PrintWords Go.Proofs.YtakmkhokbcjapaaDoorW.PrintLast Go.Proofs.YtakmkhokbcjapaaDoorW.PrintMore
attribute [local go_sem] max2_int min2_int max_two min_two max_three min_three max_four min_four
mutual
def split_Parts.j0 : Nat → List (S39) → Int → Int → Bool → Option ((List (List (S39))) × Int)
 | 0, _, _, _, _ => none
 | k + 1, x0, x1, x2, x11 => if x11 = true then (some (([] : List (List (S39))), 2)) else (if (x0.length : Int) > 4096 then (some (([] : List (List (S39))), 3)) else (if (wrap64 (x1 * x2)) < (x0.length : Int) then (some (([] : List (List (S39))), 5)) else (split_Parts.l0 k x0 x2 ([] : List (List (S39))) x1 0)))
def split_Parts.l0 : Nat → List (S39) → Int → List (List (S39)) → Int → Int → Option ((List (List (S39))) × Int)
 | 0, _, _, _, _, _ => none
 | k + 1, x0, x2, x8, x37, x38 => if x38 < x37 then (if 0 ≤ x2 then (if (x2 : Int).toNat ≤ 8796093022208 then ((some (List.replicate (x2 : Int).toNat z39 : List (S39))).bind fun y150 => (if y150.length + x0.length < 4398046511104 then (if 0 ≤ ((min x0.length y150.length : Nat) : Int) then (if ((min x0.length y150.length : Nat) : Int) ≤ (x0.length : Int) then (if x8.length < 5864062014805 then (split_Parts.l0 k (x0.drop (((min x0.length y150.length : Nat) : Int) : Int).toNat) x2 (x8 ++ [(x0.take y150.length ++ y150.drop x0.length)]) x37 (wrap64 (x38 + 1))) else (none)) else (none)) else (none)) else (none))) else (none)) else (none)) else (some (x8, 0))
end
def split_Parts.f (k : Nat) (l0 : List (S39)) (a1 : Int) (a2 : Int) : Option ((List (List (S39))) × Int) := if a1 < 1 then (split_Parts.j0 k l0 a1 a2 true) else (if a1 > 8 then (split_Parts.j0 k l0 a1 a2 true) else (if a2 < 1 then (split_Parts.j0 k l0 a1 a2 true) else (split_Parts.j0 k l0 a1 a2 (decide (a2 > 4096)))))
theorem split_Parts.mono_l : ∀ k, (∀ y0 y1 y2 y3, LeO (split_Parts.j0 k y0 y1 y2 y3) (split_Parts.j0 (k + 1) y0 y1 y2 y3)) ∧ (∀ y0 y1 y2 y3 y4, LeO (split_Parts.l0 k y0 y1 y2 y3 y4) (split_Parts.l0 (k + 1) y0 y1 y2 y3 y4))
 | 0 => ⟨fun _ _ _ _ r h => by simp [split_Parts.j0] at h, fun _ _ _ _ _ r h => by simp [split_Parts.l0] at h⟩
 | k + 1 => by
  obtain ⟨ih0, ih1⟩ := split_Parts.mono_l k
  refine ⟨?_, ?_⟩
  ·intro y0 y1 y2 y3
   unfold split_Parts.j0
   exact zM
  ·intro y0 y1 y2 y3 y4
   unfold split_Parts.l0
   exact zM
theorem split_Parts.mono : ∀ a0 a1 a2 k, LeO (split_Parts.f k a0 a1 a2) (split_Parts.f (k + 1) a0 a1 a2) := by
 intro a0 a1 a2 k
 obtain ⟨ih0, ih1⟩ := split_Parts.mono_l k
 unfold split_Parts.f
 exact zM
theorem split_Parts.calls (k : Nat) (P0_ : Nat → Prop) (A0 : Option Addr) (c0 : Nat) (l0 : List (S39)) (a1 : Int) (a2 : Int) (r1 : List (List (S39))) (r2 : Int) (w : World) (hs0 : Kd.V k39 39 w w.heap.size (fun k_ => P0_ k_) (.slice A0 l0.length c0) l0) (h : split_Parts.f k l0 a1 a2 = some (r1, r2)) :
  Calls Tryd.prog 12 #[.slice A0 l0.length c0, .int .i64 a1, .int .i64 a2] w fun e w' => ∃ v0_ : Value, e = .returned (.tuple #[v0_, .int .i64 r2]) ∧ Kd.N (Kd.slice 39 k39) 24 w' w.heap.size (fun k_ => (P0_ k_ ∨ w.heap.size ≤ k_)) v0_ r1 ∧ Below w.heap.size w w' := by
 have HO0 := aM (show Kd.V k39 39 w w.heap.size (fun k_ => (P0_ k_ ∨ w.heap.size ≤ k_)) (.slice A0 l0.length c0) l0 from Kd.V_mono hs0 (fun k_ hk => .inl hk))
 have HB := aM (Below.refl w.heap.size w)
 have H : (if a1 < 1 then (split_Parts.j0 k l0 a1 a2 true) else (if a1 > 8 then (split_Parts.j0 k l0 a1 a2 true) else (if a2 < 1 then (split_Parts.j0 k l0 a1 a2 true) else (split_Parts.j0 k l0 a1 a2 (decide (a2 > 4096)))))) = some (r1, r2) := h
 clear h
 have HC4 := aM H
 clear H
 go_enter Tryd.func12, Tryd.ntmps12
 go_upto_region 1 with (fail)
 go_cut [11] (fun v11 wc => ∃ (kq : Nat) (qF : Bool), v11 = .bool qF ∧ Aside0 (split_Parts.j0 kq l0 a1 a2 qF = some (r1, r2)) ∧ Aside0 (kq ≤ k) ∧ Aside0 (Kd.V k39 39 wc w.heap.size (fun k_ => (P0_ k_ ∨ w.heap.size ≤ k_)) (.slice A0 l0.length c0) l0) ∧ Aside0 (Below w.heap.size w wc))
 case first =>
  have H := HC4.out
  clear HC4
  by_cases c5 : a1 < 1
  ·rw [if_pos c5] at H
   have c5b0 := decide_eq_true c5
   clear c5
   (first | rw [c5b0] | (simp only [i64_w, i32_w]; rw [c5b0]) | skip)
   have H' := aM H
   clear H
   go_wp2
   go_meet
   case rel => exact ⟨_, (true), zT, H', ⟨zO⟩, ⟨by (with_reducible repeat (first | apply Kd.V_alloc | apply Kd.V_drewN | apply Kd.V_drew)); exact HO0.out⟩, ⟨zB HB⟩⟩
  ·rw [if_neg c5] at H
   have c5b0 := decide_eq_false c5
   clear c5
   (first | rw [c5b0] | (simp only [i64_w, i32_w]; rw [c5b0]) | skip)
   by_cases c6 : a1 > 8
   ·rw [if_pos c6] at H
    have c6b0 := decide_eq_true c6
    clear c6
    have H' := aM H
    clear H
    go_wp2
    go_meet
    case rel => exact ⟨_, (true), zT, H', ⟨zO⟩, ⟨by (with_reducible repeat (first | apply Kd.V_alloc | apply Kd.V_drewN | apply Kd.V_drew)); exact HO0.out⟩, ⟨zB HB⟩⟩
   ·rw [if_neg c6] at H
    have c6b0 := decide_eq_false c6
    clear c6
    by_cases c7 : a2 < 1
    ·rw [if_pos c7] at H
     have c7b0 := decide_eq_true c7
     clear c7
     have H' := aM H
     clear H
     go_wp2
     go_meet
     case rel => exact ⟨_, (true), zT, H', ⟨zO⟩, ⟨by (with_reducible repeat (first | apply Kd.V_alloc | apply Kd.V_drewN | apply Kd.V_drew)); exact HO0.out⟩, ⟨zB HB⟩⟩
    ·rw [if_neg c7] at H
     have c7b0 := decide_eq_false c7
     clear c7
     have H' := aM H
     clear H
     go_wp2
     go_meet
     case rel => exact ⟨_, (decide (a2 > 4096)), (by first | rfl | (simp; done) | (simp [*]; done) | (simp; omega)), H', ⟨zO⟩, ⟨by (with_reducible repeat (first | apply Kd.V_alloc | apply Kd.V_drewN | apply Kd.V_drew)); exact HO0.out⟩, ⟨zB HB⟩⟩
 case rest =>
  clear HC4
  obtain ⟨kq, qF, rfl, HA, HJ3, qB, HB⟩ := hcut
  cases kq with
  | zero => exact absurd HA.out (by simp [split_Parts.j0])
  | succ kj3 =>
   have H := HA.out
   clear HA
   simp only [split_Parts.j0] at H
   by_cases c8 : qF = true
   ·subst c8
    have H1 : (some (([] : List (List (S39))), 2)) = some (r1, r2) := by rw [if_pos rfl] at H; exact H
    clear H
    have H := H1
    clear H1
    simp only [Option.some.injEq, Prod.mk.injEq] at H
    obtain ⟨rfl, rfl⟩ := H
    go_wp2
    go_ret2
    exact ⟨_, zE, by first | exact Kd.R_nil _ _ _ _ _ | exact Kd.N_nil _ _ _ _ _ | exact Kd.V_nil _ _ _ _ _ | exact Kd.Q_nil _ _ _ _ _ | exact Kd.S_nil _ _ _ _ _, zB HB⟩
   ·replace c8 := Bool.eq_false_iff.mpr c8
    subst c8
    have H1 : (if (l0.length : Int) > 4096 then (some (([] : List (List (S39))), 3)) else (if (wrap64 (a1 * a2)) < (l0.length : Int) then (some (([] : List (List (S39))), 5)) else (split_Parts.l0 kj3 l0 a2 ([] : List (List (S39))) a1 0))) = some (r1, r2) := by rw [if_neg (show ¬ (false = true) by decide)] at H; exact H
    clear H
    have H := H1
    clear H1
    by_cases c9 : (l0.length : Int) > 4096
    ·rw [if_pos c9] at H
     have c9b0 := decide_eq_true c9
     have c9b1 : decide (4096 < l0.length) = true := decide_eq_true (by omega)
     clear c9
     simp only [Option.some.injEq, Prod.mk.injEq] at H
     obtain ⟨rfl, rfl⟩ := H
     go_wp2
     go_ret2
     exact ⟨_, zE, by first | exact Kd.R_nil _ _ _ _ _ | exact Kd.N_nil _ _ _ _ _ | exact Kd.V_nil _ _ _ _ _ | exact Kd.Q_nil _ _ _ _ _ | exact Kd.S_nil _ _ _ _ _, zB HB⟩
    ·rw [if_neg c9] at H
     have c9b0 := decide_eq_false c9
     have c9b1 : decide (4096 < l0.length) = false := decide_eq_false (by omega)
     clear c9
     by_cases c10 : (wrap64 (a1 * a2)) < (l0.length : Int)
     ·rw [if_pos c10] at H
      have c10b0 := decide_eq_true c10
      clear c10
      simp only [Option.some.injEq, Prod.mk.injEq] at H
      obtain ⟨rfl, rfl⟩ := H
      go_wp2
      go_ret2
      exact ⟨_, zE, by first | exact Kd.R_nil _ _ _ _ _ | exact Kd.N_nil _ _ _ _ _ | exact Kd.V_nil _ _ _ _ _ | exact Kd.Q_nil _ _ _ _ _ | exact Kd.S_nil _ _ _ _ _, zB HB⟩
     ·rw [if_neg c10] at H
      have c10b0 := decide_eq_false c10
      clear c10
      have H' := aM H
      clear H
      go_wp2
      go_loopg [0, 8, 38] kj3 (fun kq v0 v8 v38 w' => ∃ (qA : List (S39)) (qC : List (List (S39))) (qD : Int), v38 = .int .i64 qD ∧ Aside0 (split_Parts.l0 kq qA a2 qC a1 qD = some (r1, r2)) ∧ Aside0 (kq ≤ kj3) ∧ Aside0 (Kd.V k39 39 w' w.heap.size (fun k_ => (P0_ k_ ∨ w.heap.size ≤ k_) ∧ some k_ ≠ (v8 : Value).ownBlock) v0 qA) ∧ Aside0 (Kd.N (Kd.slice 39 k39) 24 w' w.heap.size (fun k_ => (P0_ k_ ∨ w.heap.size ≤ k_)) v8 qC) ∧ Aside0 (Below w.heap.size w w'))
      case atStart => exact ⟨(l0), (([] : List (List (S39)))), (0), zT, H', ⟨Nat.le_refl _⟩, ⟨by (with_reducible repeat (first | apply Kd.V_alloc | apply Kd.V_drewN | apply Kd.V_drew)); exact Kd.V_mono qB.out (fun _ hk => ⟨hk, (by simp [Value.ownBlock])⟩)⟩, ⟨zn⟩, ⟨zB HB⟩⟩
      case round =>
       clear H'
       try clear c8
       try clear c9
       try clear c10
       obtain ⟨qA, qC, qD, rfl, HA, HK2, qB, qE, HB⟩ := hrel
       cases gk with
       | zero => exact absurd HA.out (by simp [split_Parts.l0])
       | succ k2 =>
        have H := HA.out
        clear HA
        simp only [split_Parts.l0] at H
        by_cases c11 : qD < a1
        ·rw [if_pos c11] at H
         have c11b0 := decide_eq_true c11
         clear c11
         by_cases c12 : 0 ≤ a2
         ·rw [if_pos c12] at H
          have c12b0 := eq_true c12
          have c12b1 := decide_eq_true c12
          clear c12
          by_cases c13 : (a2 : Int).toNat ≤ 8796093022208
          ·rw [if_pos c13] at H
           have c13b0 := eq_true c13
           have c13b1 := decide_eq_true c13
           clear c13
           obtain ⟨y150, hy150⟩ : ∃ y_ : List (S39), y_ = (List.replicate (a2 : Int).toNat z39) := ⟨_, rfl⟩
           replace H : (if y150.length + qA.length < 4398046511104 then (if 0 ≤ ((min qA.length y150.length : Nat) : Int) then (if ((min qA.length y150.length : Nat) : Int) ≤ (qA.length : Int) then (if qC.length < 5864062014805 then (split_Parts.l0 k2 (qA.drop (((min qA.length y150.length : Nat) : Int) : Int).toNat) a2 (qC ++ [(qA.take y150.length ++ y150.drop qA.length)]) a1 (wrap64 (qD + 1))) else (none)) else (none)) else (none)) else (none)) = some (r1, r2) := zH hy150 H
           have Ny150 := aM hy150
           clear hy150
           by_cases c14 : y150.length + qA.length < 4398046511104
           ·rw [if_pos c14] at H
            have LMc14 := aM c14
            clear c14
            obtain ⟨y153, hy153⟩ : ∃ y_ : List (S39), y_ = (qA.take y150.length ++ y150.drop qA.length) := ⟨_, rfl⟩
            replace H : (if 0 ≤ ((min qA.length y150.length : Nat) : Int) then (if ((min qA.length y150.length : Nat) : Int) ≤ (qA.length : Int) then (if qC.length < 5864062014805 then (split_Parts.l0 k2 (qA.drop (((min qA.length y150.length : Nat) : Int) : Int).toNat) a2 (qC ++ [y153]) a1 (wrap64 (qD + 1))) else (none)) else (none)) else (none)) = some (r1, r2) := zH hy153 H
            have Ny153 := aM hy153
            clear hy153
            by_cases c15 : 0 ≤ ((min qA.length y150.length : Nat) : Int)
            ·rw [if_pos c15] at H
             have c15b0 := eq_true c15
             have c15b1 := decide_eq_true c15
             clear c15
             by_cases c16 : ((min qA.length y150.length : Nat) : Int) ≤ (qA.length : Int)
             ·rw [if_pos c16] at H
              have c16b0 := eq_true c16
              have c16b1 := decide_eq_true c16
              clear c16
              obtain ⟨y156, hy156⟩ : ∃ y_ : List (S39), y_ = (qA.drop (((min qA.length y150.length : Nat) : Int) : Int).toNat) := ⟨_, rfl⟩
              replace H : (if qC.length < 5864062014805 then (split_Parts.l0 k2 y156 a2 (qC ++ [y153]) a1 (wrap64 (qD + 1))) else (none)) = some (r1, r2) := zH hy156 H
              have Ny156 := aM hy156
              clear hy156
              by_cases c17 : qC.length < 5864062014805
              ·rw [if_pos c17] at H
               have LMc17 := aM c17
               clear c17
               obtain ⟨y161, hy161⟩ : ∃ y_ : List (List (S39)), y_ = (qC ++ [y153]) := ⟨_, rfl⟩
               replace H : (split_Parts.l0 k2 y156 a2 y161 a1 (wrap64 (qD + 1))) = some (r1, r2) := zH hy161 H
               have Ny161 := aM hy161
               clear hy161
               have H' := aM H
               clear H
               go_wp2_with (first | ((with_reducible refine gate_dst (N := 41) rfl ?_); refine Kd.N_make k39 _ 39 rfl (N' := 41) rfl 24 _ _ rfl a2 rfl rfl Tryd.underlying24 (.agg #[(.bool false), (.slice none 0 0)]) 32 info39 rfl (by decide) (by omega) z39 (ok := fun k_ => wr.heap.size ≤ k_) (okp := fun _ => False) (k39_mkF _ _ z39 (Nat.le_refl _) (Kd.F_nil _ _ _)) (fun _ hk => hk.elim) (Nat.le_refl _) (of_decide_eq_true za) (Nat.le_trans (Nat.mul_le_mul_right _ (of_decide_eq_true za : a2.toNat ≤ 8796093022208)) (by omega)) (Below.refl _ _) (Nat.le_refl _) ?_; intro v151 w18 ho19 hb hg_ hnew_; clear hg_ hnew_; (first | rw [← Ny150.out] at ho19 | (simp only [Int.reduceToNat] at ho19; rw [← Ny150.out] at ho19)); replace qB := aM (Kd.V_elder' (lV qB) (Kd.N_base ho19) hb); have qM := aM (Kd.N_lower (Kd.N_mono (ok' := fun k_ => (P0_ k_ ∨ w.heap.size ≤ k_) ∧ some k_ ≠ (u8 : Value).ownBlock) ho19 (fun k_ hk_ => ⟨(.inr (Nat.le_trans (z4_ (lB HB)) hk_)), (Kd.fresh' (Kd.N_lt (lN qE)) k_ hk_)⟩)) (z4_ (lB HB))); replace qE := aM (Kd.N_elder' (lN qE) (Kd.N_base ho19) hb); replace HB := aM (z6_ (lB HB) hb); clear hb ho19; obtain ⟨qI, qH, eo21⟩ := Kd.V_slice qB.out; subst eo21) | ((with_reducible refine gate_builtin (b := .copy) (xs := #[.tmp 42, .tmp 43]) rfl ?_); skip; refine Kd.N_copy_rows k39 (w0 := w) w.heap.size rfl (.tmp 42) (.tmp 43) 24 39 (.agg #[(.bool false), (.slice none 0 0)]) 32 rfl Tryd.underlying24 info39 (by decide) v151 y150 qA _ _ _ (fun k_ => (P0_ k_ ∨ w.heap.size ≤ k_) ∧ some k_ ≠ (u8 : Value).ownBlock) (fun k_ => ((fun k_ => (P0_ k_ ∨ w.heap.size ≤ k_) ∧ some k_ ≠ (u8 : Value).ownBlock)) k_ ∧ some k_ ≠ (v151 : Value).ownBlock) rfl rfl ?aO ?aR (fun _ hk => hk) ?aB ?aS ?_; (case aR => exact (by skip; exact Kd.V_F (Kd.V_mono (ok' := (fun k_ => ((fun k_ => (P0_ k_ ∨ w.heap.size ≤ k_) ∧ some k_ ≠ (u8 : Value).ownBlock)) k_ ∧ some k_ ≠ (v151 : Value).ownBlock)) (qB.out) (fun k_ hk => ⟨⟨hk.1.1, hk.1.2⟩, hk.2⟩)))); (case aB => exact (lB HB)); (case aO => exact (lN qM)); (case aS => exact (z4_ (lB HB))); intro v154 w20 ho hb hg hat; have hatE := hat; have hat : (v154 : Value).ownBlock = (v151 : Value).ownBlock ∨ ∃ b, (v154 : Value).ownBlock = some b ∧ w18.heap.size ≤ b := Or.inl (by rw [hatE]); rw [← Ny153.out] at ho; replace qB := aM (Kd.V_afterv (ok := (fun k_ => (P0_ k_ ∨ w.heap.size ≤ k_) ∧ some k_ ≠ (u8 : Value).ownBlock)) (lV qB) hg hat); replace qE := aM (Kd.N_afterv (ok := (fun k_ => (P0_ k_ ∨ w.heap.size ≤ k_))) (lN qE) hg hat); replace HB := aM (hb); have qG := aM (ho); clear qM; clear ho hb hg hat; subst hatE; have q22 : (((min qA.length y150.length : Nat) : Int) : Int) ≤ ((qA.length : Int) : Int) := of_decide_eq_true za; obtain ⟨i022, hi022, _, hsz22, _⟩ := info_parts info39; have hroom22 : qA.length ≤ qH := (Kd.V_reads' qB.out).2.1; have hC22 : Kd.F k39 _ _ qI qA.length qA := (Kd.V_at (base := w.heap.size) qB.out).2.2; have q022 : (0 : Int) ≤ (((min qA.length y150.length : Nat) : Int) : Int) := of_decide_eq_true za; have hcut22 := cut_from (P := Tryd.prog) 24 39 .i64 Tryd.underlying24 hi022 2 hsz22 qI qA.length qH ((min qA.length y150.length : Nat) : Int) q022 q22; have hr22 := Kd.F_cut (m := (((min qA.length y150.length : Nat) : Int) : Int).toNat) (c := qH) hC22 (by omega) hroom22; obtain ⟨A22, hA22⟩ : ∃ A1, A1 = (if qH = (((min qA.length y150.length : Nat) : Int) : Int).toNat then qI else (qI : Option Addr).map (·.add ((((min qA.length y150.length : Nat) : Int) : Int).toNat * 2))) := ⟨_, rfl⟩; obtain ⟨c22, hc22⟩ : ∃ c1, c1 = qH - (((min qA.length y150.length : Nat) : Int) : Int).toNat := ⟨_, rfl⟩; have hy22 : y156.length = qA.length - (((min qA.length y150.length : Nat) : Int) : Int).toNat := (by rw [Ny156.out, List.length_drop] <;> omega); rw [show (qA).drop (((min qA.length y150.length : Nat) : Int) : Int).toNat = y156 from Ny156.out.symm] at hr22; replace hr22 : Kd.F k39 _ _ A22 y156.length y156 := (by rw [hA22]; exact hr22); rw [← hy22, ← hA22, ← hc22] at hcut22; have qJ := aM (show Kd.V k39 39 _ w.heap.size _ (.slice A22 y156.length c22) y156 from Kd.V_mk (by rw [hy22, hc22]; exact Nat.sub_le_sub_right hroom22 _) hr22); have qO := aM (show y156.length ≤ c22 from by rw [hy22, hc22]; exact Nat.sub_le_sub_right hroom22 _); clear hr22 hC22 hroom22 hi022 hsz22 hc22; have KY22 := aM hy22; have KA22 := aM hA22; clear hy22 hA22; replace q22 := eq_true q22; obtain ⟨qK, qL, eo24⟩ := Kd.N_slice qG.out; subst eo24) | ((with_reducible refine gate_builtin (b := .append) (xs := #[.tmp 48, .tmp 50]) rfl ?_); at_builtin; refine Kd.N_append (Kd.slice 39 k39) (w0 := w) w.heap.size rfl (.tmp 48) (.tmp 50) 26 24 (.slice none 0 0) 24 rfl Tryd.underlying26 info24 rfl (by decide) (by omega) u8 qC y153 [.slice qK y153.length qL] (fun k_ => (P0_ k_ ∨ w.heap.size ≤ k_)) (fun k_ => ((fun k_ => (P0_ k_ ∨ w.heap.size ≤ k_))) k_ ∧ some k_ ≠ (u8 : Value).ownBlock) rfl rfl ?aP (fun _ hk => hk) ?aF ?aO ?aB ?aS ?aL ?_; (case aP => exact (Kd.FK_slice_mk (Kd.N_reads' (Kd.N_mono (ok' := (fun k_ => ((fun k_ => (P0_ k_ ∨ w.heap.size ≤ k_))) k_ ∧ some k_ ≠ (u8 : Value).ownBlock)) (qG.out) (fun k_ hk => ⟨hk.1, hk.2⟩))).2.1 (Kd.N_F (Kd.N_mono (ok' := (fun k_ => ((fun k_ => (P0_ k_ ∨ w.heap.size ≤ k_))) k_ ∧ some k_ ≠ (u8 : Value).ownBlock)) (qG.out) (fun k_ hk => ⟨hk.1, hk.2⟩))))); (case aB => exact (lB HB)); (case aF => exact (fun k_ hk => (.inr (Nat.le_trans (z4_ (lB HB)) hk)))); (case aO => exact (by (with_reducible repeat (first | apply Kd.N_alloc | apply Kd.N_drewN | apply Kd.N_drew)); exact Kd.N_mono qE.out (fun _ hk => hk.1))); (case aS => exact (z4_ (lB HB))); (case aL => have := LMc17.out; omega); intro v162 w23 ho hb hg hat; rw [← Ny161.out] at ho; replace qB := aM (Kd.V_afterv (ok := (fun k_ => (P0_ k_ ∨ w.heap.size ≤ k_) ∧ some k_ ≠ (.slice qK y153.length qL : Value).ownBlock)) (by (with_reducible repeat (first | apply Kd.V_alloc | apply Kd.V_drewN | apply Kd.V_drew)); exact Kd.V_mono qB.out (fun _ hk => ⟨⟨hk.1.1, hk.2⟩, hk.1.2⟩)) hg hat); replace qJ := aM (Kd.V_afterv (ok := (fun k_ => (P0_ k_ ∨ w.heap.size ≤ k_) ∧ some k_ ≠ (.slice qK y153.length qL : Value).ownBlock)) (by (with_reducible repeat (first | apply Kd.V_alloc | apply Kd.V_drewN | apply Kd.V_drew)); exact Kd.V_mono qJ.out (fun _ hk => ⟨⟨hk.1.1, hk.2⟩, hk.1.2⟩)) hg hat); replace HB := aM (hb); have qN := aM (ho); clear qE qG; clear ho hb hg hat))
               go_roundg k2
               case measure => have := HJ3.out; have := HK2.out; omega
               case rel => exact ⟨(y156), (y161), (wrap64 (qD + 1)), zT, H', ⟨by have := HJ3.out; have := HK2.out; omega⟩, ⟨by (with_reducible repeat (first | apply Kd.V_alloc | apply Kd.V_drewN | apply Kd.V_drew)); exact Kd.V_mono qJ.out (fun _ hk => ⟨hk.1.1, hk.2⟩)⟩, ⟨by (with_reducible repeat (first | apply Kd.N_alloc | apply Kd.N_drewN | apply Kd.N_drew)); exact qN.out⟩, ⟨zB HB⟩⟩
              ·rw [if_neg c17] at H
               exact absurd H (by simp)
             ·rw [if_neg c16] at H
              exact absurd H (by simp)
            ·rw [if_neg c15] at H
             exact absurd H (by simp)
           ·rw [if_neg c14] at H
            exact absurd H (by simp)
          ·rw [if_neg c13] at H
           exact absurd H (by simp)
         ·rw [if_neg c12] at H
          exact absurd H (by simp)
        ·rw [if_neg c11] at H
         have c11b0 := decide_eq_false c11
         clear c11
         simp only [Option.some.injEq, Prod.mk.injEq] at H
         obtain ⟨rfl, rfl⟩ := H
         go_wp2
         go_ret2
         exact ⟨_, zE, by (with_reducible repeat (first | apply Kd.N_alloc | apply Kd.N_drewN | apply Kd.N_drew)); exact qE.out, zB HB⟩
end Go.Proofs.YtakmkhokbcjapaaDoor.XA
end
section
namespace Go.Proofs.YtakmkhokbcjapaaDoor.XA
open Go.Proofs.YtakmkhokbcjapaaDoor.Lift Go.RowKit Go.Proofs.YtakmkhokbcjapaaDoorW.PrintWords Go.Proofs.YtakmkhokbcjapaaDoorW.PrintLast Go.Proofs.YtakmkhokbcjapaaDoorW.PrintMore
attribute [local go_sem] max2_int min2_int max_two min_two max_three min_three max_four min_four
mutual
def split_right.l0 : Nat → Int → Int → Int → Int → Int → Option (Bool)
 | 0, _, _, _, _, _ => none
 | k + 1, x2, x3, x16, qA, qB => if x16 < 2 then (if x16 = 0 then (if qA < 0 then (some false) else (if qA > 4096 then (some false) else (split_right.l0 k x2 x3 (0 + 1) qA qB))) else (if x16 = 1 then (if qB < 0 then (some false) else (if qB > 4096 then (some false) else (split_right.l0 k x2 x3 (1 + 1) qA qB))) else (none))) else (split_right.l1 k 0 x2 x3)
def split_right.l1 : Nat → Int → Int → Int → Option (Bool)
 | 0, _, _, _ => none
 | k + 1, x29, qC, qD => if x29 < 2 then (if x29 = 0 then (if qC < 1 then (some false) else (if qC > 8 then (some false) else (split_right.l1 k (0 + 1) qC qD))) else (if x29 = 1 then (if qD < 1 then (some false) else (if qD > 8 then (some false) else (split_right.l1 k (1 + 1) qC qD))) else (none))) else (some true)
end
def split_right.f (k : Nat) (a0 : Int) (a1 : Int) (a2 : Int) (a3 : Int) : Option (Bool) := split_right.l0 k a2 a3 0 a0 a1
theorem split_right.mono_l : ∀ k, (∀ y0 y1 y2 y3 y4, LeO (split_right.l0 k y0 y1 y2 y3 y4) (split_right.l0 (k + 1) y0 y1 y2 y3 y4)) ∧ (∀ y0 y1 y2, LeO (split_right.l1 k y0 y1 y2) (split_right.l1 (k + 1) y0 y1 y2))
 | 0 => ⟨fun _ _ _ _ _ r h => by simp [split_right.l0] at h, fun _ _ _ r h => by simp [split_right.l1] at h⟩
 | k + 1 => by
  obtain ⟨ih0, ih1⟩ := split_right.mono_l k
  refine ⟨?_, ?_⟩
  ·intro y0 y1 y2 y3 y4
   unfold split_right.l0
   exact zM
  ·intro y0 y1 y2
   unfold split_right.l1
   exact zM
theorem split_right.mono : ∀ a0 a1 a2 a3 k, LeO (split_right.f k a0 a1 a2 a3) (split_right.f (k + 1) a0 a1 a2 a3) := by
 intro a0 a1 a2 a3 k
 obtain ⟨ih0, ih1⟩ := split_right.mono_l k
 unfold split_right.f
 exact zM
theorem split_right.calls (k : Nat) (a0 : Int) (a1 : Int) (a2 : Int) (a3 : Int) (r : Bool) (w : World) (h : split_right.f k a0 a1 a2 a3 = some r) :
  Calls Tryd.prog 40 #[.int .i64 a0, .int .i64 a1, .int .i64 a2, .int .i64 a3] w fun e w' => e = .returned (.bool r) ∧ Drawn0 w w' := by
 have hu101 := Tryd.underlying101
 have H : (split_right.l0 k a2 a3 0 a0 a1) = some r := h
 clear h
 have H' := aM H
 clear H
 have qG : ∀ (p0 p1 : Int) (W : World), Sem.run Tryd.prog (Instr.index 101 (.agg #[.int .i64 p0, .int .i64 p1]) (.int .i64 0)) W = .ok (.int .i64 p0) W := fun _ _ _ => by kernel_rfl
 have qH : ∀ (p0 p1 : Int) (W : World), Sem.run Tryd.prog (Instr.index 101 (.agg #[.int .i64 p0, .int .i64 p1]) (.int .i64 1)) W = .ok (.int .i64 p1) W := fun _ _ _ => by kernel_rfl
 go_enter Tryd.func40, Tryd.ntmps40
 go_wp2
 go_loopg [16] k (fun kq v16 w' => ∃ (qE : Int), v16 = .int .i64 qE ∧ Aside0 (split_right.l0 kq a2 a3 qE a0 a1 = some r) ∧ Aside0 (kq ≤ k) ∧ Drawn0 w w')
 case atStart => exact ⟨(0), zT, H', ⟨Nat.le_refl _⟩, by repeat (first | exact Drawn0.refl _ | apply Drawn0.step)⟩
 case round =>
  clear H'
  obtain ⟨qE, rfl, HA, HK1, ⟨m1, rfl⟩⟩ := hrel
  cases gk with
  | zero => exact absurd HA.out (by simp [split_right.l0])
  | succ k1 =>
   have H := HA.out
   clear HA
   simp only [split_right.l0] at H
   by_cases c5 : qE < 2
   ·rw [if_pos c5] at H
    have c5b0 := decide_eq_true c5
    clear c5
    by_cases c6 : qE = 0
    ·rw [if_pos c6] at H
     (first | rw [c6] | skip)
     by_cases c7 : a0 < 0
     ·rw [if_pos c7] at H
      have c7b0 := decide_eq_true c7
      clear c7
      obtain rfl := Option.some.inj H
      go_wp2
      go_ret
      exact ⟨zT, by repeat (first | exact Drawn0.refl _ | apply Drawn0.step)⟩
     ·rw [if_neg c7] at H
      have c7b0 := decide_eq_false c7
      clear c7
      by_cases c8 : a0 > 4096
      ·rw [if_pos c8] at H
       have c8b0 := decide_eq_true c8
       clear c8
       obtain rfl := Option.some.inj H
       go_wp2
       go_ret
       exact ⟨zT, by repeat (first | exact Drawn0.refl _ | apply Drawn0.step)⟩
      ·rw [if_neg c8] at H
       have c8b0 := decide_eq_false c8
       clear c8
       have H' := aM H
       clear H
       go_wp2
       go_roundg k1
       case measure => have := HK1.out; omega
       case rel => exact ⟨(0 + 1), zT, H', ⟨by have := HK1.out; omega⟩, by repeat (first | exact Drawn0.refl _ | apply Drawn0.step)⟩
    ·rw [if_neg c6] at H
     by_cases c9 : qE = 1
     ·rw [if_pos c9] at H
      (first | rw [c9] | skip)
      by_cases c10 : a1 < 0
      ·rw [if_pos c10] at H
       have c10b0 := decide_eq_true c10
       clear c10
       obtain rfl := Option.some.inj H
       go_wp2
       go_ret
       exact ⟨zT, by repeat (first | exact Drawn0.refl _ | apply Drawn0.step)⟩
      ·rw [if_neg c10] at H
       have c10b0 := decide_eq_false c10
       clear c10
       by_cases c11 : a1 > 4096
       ·rw [if_pos c11] at H
        have c11b0 := decide_eq_true c11
        clear c11
        obtain rfl := Option.some.inj H
        go_wp2
        go_ret
        exact ⟨zT, by repeat (first | exact Drawn0.refl _ | apply Drawn0.step)⟩
       ·rw [if_neg c11] at H
        have c11b0 := decide_eq_false c11
        clear c11
        have H' := aM H
        clear H
        go_wp2
        go_roundg k1
        case measure => have := HK1.out; omega
        case rel => exact ⟨(1 + 1), zT, H', ⟨by have := HK1.out; omega⟩, by repeat (first | exact Drawn0.refl _ | apply Drawn0.step)⟩
     ·rw [if_neg c9] at H
      exact absurd H (by simp)
   ·rw [if_neg c5] at H
    have c5b0 := decide_eq_false c5
    clear c5
    have H' := aM H
    clear H
    go_wp2
    go_loopg [29] k1 (fun kq v29 w' => ∃ (qF : Int), v29 = .int .i64 qF ∧ Aside0 (split_right.l1 kq qF a2 a3 = some r) ∧ Aside0 (kq ≤ k1) ∧ Drawn0 w w')
    case atStart => exact ⟨(0), zT, H', ⟨Nat.le_refl _⟩, by repeat (first | exact Drawn0.refl _ | apply Drawn0.step)⟩
    case round =>
     clear H'
     try clear c5
     obtain ⟨qF, rfl, HA, HK2, ⟨m2, rfl⟩⟩ := hrel
     cases gk with
     | zero => exact absurd HA.out (by simp [split_right.l1])
     | succ k2 =>
      have H := HA.out
      clear HA
      simp only [split_right.l1] at H
      by_cases c12 : qF < 2
      ·rw [if_pos c12] at H
       have c12b0 := decide_eq_true c12
       clear c12
       by_cases c13 : qF = 0
       ·rw [if_pos c13] at H
        (first | rw [c13] | skip)
        by_cases c14 : a2 < 1
        ·rw [if_pos c14] at H
         have c14b0 := decide_eq_true c14
         clear c14
         obtain rfl := Option.some.inj H
         go_wp2
         go_ret
         exact ⟨zT, by repeat (first | exact Drawn0.refl _ | apply Drawn0.step)⟩
        ·rw [if_neg c14] at H
         have c14b0 := decide_eq_false c14
         clear c14
         by_cases c15 : a2 > 8
         ·rw [if_pos c15] at H
          have c15b0 := decide_eq_true c15
          clear c15
          obtain rfl := Option.some.inj H
          go_wp2
          go_ret
          exact ⟨zT, by repeat (first | exact Drawn0.refl _ | apply Drawn0.step)⟩
         ·rw [if_neg c15] at H
          have c15b0 := decide_eq_false c15
          clear c15
          have H' := aM H
          clear H
          go_wp2
          go_roundg k2
          case measure => have := HK1.out; have := HK2.out; omega
          case rel => exact ⟨(0 + 1), zT, H', ⟨by have := HK1.out; have := HK2.out; omega⟩, by repeat (first | exact Drawn0.refl _ | apply Drawn0.step)⟩
       ·rw [if_neg c13] at H
        by_cases c16 : qF = 1
        ·rw [if_pos c16] at H
         (first | rw [c16] | skip)
         by_cases c17 : a3 < 1
         ·rw [if_pos c17] at H
          have c17b0 := decide_eq_true c17
          clear c17
          obtain rfl := Option.some.inj H
          go_wp2
          go_ret
          exact ⟨zT, by repeat (first | exact Drawn0.refl _ | apply Drawn0.step)⟩
         ·rw [if_neg c17] at H
          have c17b0 := decide_eq_false c17
          clear c17
          by_cases c18 : a3 > 8
          ·rw [if_pos c18] at H
           have c18b0 := decide_eq_true c18
           clear c18
           obtain rfl := Option.some.inj H
           go_wp2
           go_ret
           exact ⟨zT, by repeat (first | exact Drawn0.refl _ | apply Drawn0.step)⟩
          ·rw [if_neg c18] at H
           have c18b0 := decide_eq_false c18
           clear c18
           have H' := aM H
           clear H
           go_wp2
           go_roundg k2
           case measure => have := HK1.out; have := HK2.out; omega
           case rel => exact ⟨(1 + 1), zT, H', ⟨by have := HK1.out; have := HK2.out; omega⟩, by repeat (first | exact Drawn0.refl _ | apply Drawn0.step)⟩
        ·rw [if_neg c16] at H
         exact absurd H (by simp)
      ·rw [if_neg c12] at H
       have c12b0 := decide_eq_false c12
       clear c12
       obtain rfl := Option.some.inj H
       go_wp2
       go_ret
       exact ⟨zT, by repeat (first | exact Drawn0.refl _ | apply Drawn0.step)⟩
end Go.Proofs.YtakmkhokbcjapaaDoor.XA
end
section
namespace Go.Proofs.YtakmkhokbcjapaaDoor.XA
open Go.Proofs.YtakmkhokbcjapaaDoor.Lift Go.RowKit Go.Proofs.YtakmkhokbcjapaaDoorW.PrintWords Go.Proofs.YtakmkhokbcjapaaDoorW.PrintLast Go.Proofs.YtakmkhokbcjapaaDoorW.PrintMore
attribute [local go_sem] max2_int min2_int max_two min_two max_three min_three max_four min_four
def split_up.f (a0 : Int) (a1 : Int) : Option (Int) := if a1 = 0 then (none) else (some (wrap64 (Int.tdiv (wrap64 ((wrap64 (a0 + a1)) - 1)) a1)))
theorem split_up.calls (a0 : Int) (a1 : Int) (r : Int) (w : World) (h : split_up.f a0 a1 = some r) :
  Calls Tryd.prog 41 #[.int .i64 a0, .int .i64 a1] w fun e w' => e = .returned (.int .i64 r) ∧ Drawn0 w w' := by
 have H : (if a1 = 0 then (none) else (some (wrap64 (Int.tdiv (wrap64 ((wrap64 (a0 + a1)) - 1)) a1)))) = some r := h
 clear h
 by_cases c3 : a1 = 0
 ·rw [if_pos c3] at H
  exact absurd H (by simp)
 ·rw [if_neg c3] at H
  have c3b0 : (a1 == 0) = false := beq_eq_false_iff_ne.mpr c3
  have c3b1 : (a1 != 0) = true := bne_iff_ne.mpr c3
  obtain rfl := Option.some.inj H
  go_enter Tryd.func41, Tryd.ntmps41
  go_wp2
  go_ret
  exact ⟨zT, by repeat (first | exact Drawn0.refl _ | apply Drawn0.step)⟩
def split_Block.f (k : Nat) (a0 : Int) (a1 : Int) (a2 : Int) (a3 : Int) : Option (Int × Int) := (split_right.f k a0 a1 a2 a3).bind fun qC => (if qC = true then ((split_up.f a0 a2).bind fun qB => ((split_up.f a1 a3).bind fun qA => (some (mx qB qA, 0)))) else (some (0, 2)))
theorem split_Block.mono : ∀ a0 a1 a2 a3 k, LeO (split_Block.f k a0 a1 a2 a3) (split_Block.f (k + 1) a0 a1 a2 a3) := by
 intro a0 a1 a2 a3 k
 unfold split_Block.f
 have im0 := @split_right.mono; exact zM
theorem split_Block.calls (k : Nat) (a0 : Int) (a1 : Int) (a2 : Int) (a3 : Int) (r1 : Int) (r2 : Int) (w : World) (h : split_Block.f k a0 a1 a2 a3 = some (r1, r2)) :
  Calls Tryd.prog 20 #[.int .i64 a0, .int .i64 a1, .int .i64 a2, .int .i64 a3] w fun e w' => e = .returned (.tuple #[.int .i64 r1, .int .i64 r2]) ∧ Below w.heap.size w w' := by
 have HB := aM (Below.refl w.heap.size w)
 have H : ((split_right.f k a0 a1 a2 a3).bind fun qC => (if qC = true then ((split_up.f a0 a2).bind fun qB => ((split_up.f a1 a3).bind fun qA => (some (mx qB qA, 0)))) else (some (0, 2)))) = some (r1, r2) := h
 clear h
 replace H := zbs H
 obtain ⟨qC, A50, H⟩ := H
 replace H : (if qC = true then ((split_up.f a0 a2).bind fun qB => ((split_up.f a1 a3).bind fun qA => (some (mx qB qA, 0)))) else (some (0, 2))) = some (r1, r2) := H
 have A5 := aM A50
 clear A50
 by_cases c6 : qC = true
 ·subst c6
  have H1 : ((split_up.f a0 a2).bind fun qB => ((split_up.f a1 a3).bind fun qA => (some (mx qB qA, 0)))) = some (r1, r2) := by rw [if_pos rfl] at H; exact H
  clear H
  have H := H1
  clear H1
  replace H := zbs H
  obtain ⟨qB, A70, H⟩ := H
  replace H : ((split_up.f a1 a3).bind fun qA => (some (mx qB qA, 0))) = some (r1, r2) := H
  have A7 := aM A70
  clear A70
  replace H := zbs H
  obtain ⟨qA, A80, H⟩ := H
  replace H : (some (mx qB qA, 0)) = some (r1, r2) := H
  have A8 := aM A80
  clear A80
  obtain ⟨ji9, hji9⟩ : ∃ j_ : Int, (mx qB qA) = j_ := ⟨_, rfl⟩
  replace H : (some (ji9, 0)) = some (r1, r2) := by first | (rw [hji9] at H; exact H) | (simp only [hji9] at H ⊢; exact H)
  (try rw [hji9] at A5)
  (try rw [hji9] at A7)
  (try rw [hji9] at A8)
  have hji9_ : (if qB < qA then qA else qB) = ji9 := hji9
  simp only [Option.some.injEq, Prod.mk.injEq] at H
  obtain ⟨rfl, rfl⟩ := H
  go_enter Tryd.func20, Tryd.ntmps20
  go_wp2_with (first | ((with_reducible refine gate_callee (f := 40) rfl ?_); refine z13_ (some 14) rfl rfl Tryd.func40 zk rfl #[.int .i64 a0, .int .i64 a1, .int .i64 a2, .int .i64 a3] rfl zA ?_; (with_reducible refine (split_right.calls k a0 a1 a2 a3 true _ A5.out).mono ?_); rintro e w' ⟨rfl, ⟨nd, rfl⟩⟩; refine ⟨_, rfl, ?_⟩) | ((with_reducible refine gate_callee (f := 41) rfl ?_); refine z13_ (some 18) rfl rfl Tryd.func41 zk rfl #[.int .i64 a0, .int .i64 a2] rfl zA ?_; (with_reducible refine (split_up.calls a0 a2 qB _ A7.out).mono ?_); rintro e w' ⟨rfl, ⟨nd, rfl⟩⟩; refine ⟨_, rfl, ?_⟩) | ((with_reducible refine gate_callee (f := 41) rfl ?_); refine z13_ (some 21) rfl rfl Tryd.func41 zk rfl #[.int .i64 a1, .int .i64 a3] rfl zA ?_; (with_reducible refine (split_up.calls a1 a3 qA _ A8.out).mono ?_); rintro e w' ⟨rfl, ⟨nd, rfl⟩⟩; refine ⟨_, rfl, ?_⟩))
  go_ret2
  exact ⟨by first | rfl | (simp [errW_none, errW_some] <;> rfl) | (simp only [← hji9]; first | rfl | (simp [errW_none, errW_some] <;> rfl)) | (simp [*, errW_none, errW_some] <;> rfl), zB HB⟩
 ·replace c6 := Bool.eq_false_iff.mpr c6
  subst c6
  have H1 : (some (0, 2)) = some (r1, r2) := by rw [if_neg (show ¬ (false = true) by decide)] at H; exact H
  clear H
  have H := H1
  clear H1
  simp only [Option.some.injEq, Prod.mk.injEq] at H
  obtain ⟨rfl, rfl⟩ := H
  go_enter Tryd.func20, Tryd.ntmps20
  go_wp2_with (first | ((with_reducible refine gate_callee (f := 40) rfl ?_); refine z13_ (some 14) rfl rfl Tryd.func40 zk rfl #[.int .i64 a0, .int .i64 a1, .int .i64 a2, .int .i64 a3] rfl zA ?_; (with_reducible refine (split_right.calls k a0 a1 a2 a3 false _ A5.out).mono ?_); rintro e w' ⟨rfl, ⟨nd, rfl⟩⟩; refine ⟨_, rfl, ?_⟩))
  go_ret2
  exact ⟨zE, zB HB⟩
end Go.Proofs.YtakmkhokbcjapaaDoor.XA
end
