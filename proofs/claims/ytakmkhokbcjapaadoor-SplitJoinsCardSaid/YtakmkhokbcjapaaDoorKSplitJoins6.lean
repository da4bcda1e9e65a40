/- Part 6 of the proof of the law SplitJoins for every input: words, walks and plain laws. No condition. -/
import Derived.Test.YtakmkhokbcjapaaDoorProg
import Derived.Below
import Derived.Deep.Draws
import Derived.Deep.AppendLies
import Derived.Maps.AppendAt
import Derived.OwnWalk
import Derived.Laws.BytesArg
import Derived.Laws.MakeOwn
import Derived.Laws.OwnMore
import Derived.Deep.OwnRows
import Derived.Tactics
import Derived.Lib.ConvBytes
import Derived.Laws.Slices
import Derived.WalkKit
import Derived.KernelRfl
import Derived.RowKit3
import Derived.Deep.LoopGhost
import Derived.Deep.QuietTactic
import Derived.BigQuiet
import Derived.WideLaws
import Derived.Deep.DeepCutAuto
import Derived.Deep.CutBlock
import Derived.Deep.RegionHeld3
import Derived.Laws.Rows
import Derived.Lib.AppendStr
import Derived.ArgAppend
import Derived.Laws.IdiomCopy
import Derived.OrdersHeld
import Derived.Laws.BitsLemmas
import Derived.RowKit
import Derived.WalkSpells
import Derived.Shelf.Strings.Builder1
import Derived.Shelf.Strings.Trim
import Derived.Test.YtakmkhokbcjapaaDoorKSplitJoins5
set_option linter.unusedVariables false
set_option linter.unusedSimpArgs false
set_option maxHeartbeats 8000000
set_option maxRecDepth 100000
section
namespace Go.Proofs.YtakmkhokbcjapaaDoor.XA
open Go.Proofs.YtakmkhokbcjapaaDoor.Lift Go.RowKit Go.Proofs.YtakmkhokbcjapaaDoorW.PrintWords Go.Proofs.YtakmkhokbcjapaaDoorW.PrintLast Go.Proofs.YtakmkhokbcjapaaDoorW.PrintMore
attribute [local go_sem] max2_int min2_int max_two min_two max_three min_three max_four min_four
def errW : Option Int → Value
 | none => .nilIface
 | some c => .iface 0 (.int .i64 c)
theorem errW_none : errW none = .nilIface := rfl
theorem errW_some (c : Int) : errW (some c) = .iface 0 (.int .i64 c) := rfl
theorem info5 : (Tryd.prog.info? 5).map (fun i => (i.zero, i.size, i.bytes)) = some (some (.int .u8 0), 1, 1) := by kernel_rfl
theorem info24 : (Tryd.prog.info? 24).map (fun i => (i.zero, i.size, i.bytes)) = some (some (.slice none 0 0), 1, 24) := by kernel_rfl
theorem info33 : (Tryd.prog.info? 33).map (fun i => (i.zero, i.size, i.bytes)) = some (some (.slice none 0 0), 1, 24) := by kernel_rfl
theorem info39 : (Tryd.prog.info? 39).map (fun i => (i.zero, i.size, i.bytes)) = some (some (.agg #[(.bool false), (.slice none 0 0)]), 2, 32) := by kernel_rfl
theorem info68 : (Tryd.prog.info? 68).map (fun i => (i.zero, i.size, i.bytes)) = some (some (.agg #[(.bool false), (.slice none 0 0)]), 2, 32) := by kernel_rfl
theorem info76 : (Tryd.prog.info? 76).map (fun i => (i.zero, i.size, i.bytes)) = some (some (.int .u32 0), 1, 4) := by kernel_rfl
structure S39 where
 f0 : Bool
 f1 : (List Int)
def z39 : S39 := ⟨false, ([] : List Int)⟩
def k39 : Kd S39 := Kd.iso (Kd.pair Kd.bool (Kd.slice 76 (Kd.int .u32))) (fun x : S39 => (x.f0, x.f1))
theorem k39_open {w : World} {x : S39} {cs : List Value} (h : k39.K w x cs) : ∃ A1 c1, cs = [.bool x.f0, .slice A1 x.f1.length c1] ∧ x.f1.length ≤ c1 ∧ (Kd.int .u32).C w A1 x.f1.length x.f1 := by
 obtain ⟨_, _, rfl, rfl, ⟨A1, c1, rfl, l1, g1⟩⟩ := h
 exact ⟨A1, c1, rfl, l1, g1⟩
theorem k39_mk (w : World) (x : S39) {A1 : Option Addr} {c1 : Nat} (l1 : x.f1.length ≤ c1) (g1 : (Kd.int .u32).C w A1 x.f1.length x.f1) : k39.K w x [.bool x.f0, .slice A1 x.f1.length c1] := ⟨[.bool x.f0], [.slice A1 x.f1.length c1], rfl, rfl, ⟨A1, c1, rfl, l1, g1⟩⟩
theorem k39_openF {W : World} {ok : Nat → Prop} {x : S39} {cs : List Value} (h : Kd.FK k39 W ok x cs) : ∃ A1 c1, cs = [.bool x.f0, .slice A1 x.f1.length c1] ∧ x.f1.length ≤ c1 ∧ Kd.F (Kd.int .u32) W ok A1 x.f1.length x.f1 := by
 obtain ⟨A1, c1, rfl, l1, _⟩ := k39_open (Kd.FK_now h)
 exact ⟨A1, c1, rfl, l1, (fun W' hW => by obtain ⟨A1_, c1_, he, l1_, g1_⟩ := k39_open (h W' hW); injection (Option.some.inj (show some (Value.slice A1 x.f1.length c1) = some (Value.slice A1_ x.f1.length c1_) from congrArg (fun l => l[1]?) he)) with ha_ _ _; rw [ha_]; exact g1_)⟩
theorem k39_mkF (W : World) (ok : Nat → Prop) (x : S39) {A1 : Option Addr} {c1 : Nat} (l1 : x.f1.length ≤ c1) (g1 : Kd.F (Kd.int .u32) W ok A1 x.f1.length x.f1) : Kd.FK k39 W ok x [.bool x.f0, .slice A1 x.f1.length c1] := fun W2 hW => k39_mk W2 x l1 (g1 W2 hW)
def rd_T39 (xs : List S39) (i : Int) : S39 := xs.getD i.toNat z39
theorem at_T39 {w : World} {A : Option Addr} {n : Nat} {xs : List S39} (h : Kd.C k39 w A n xs) (i : Int) (h0 : 0 ≤ i) (h1 : i < n) : ∃ ad A1 c1, A = some ad ∧ w.cell? (ad.add (i.toNat * 2)) = some (.bool (rd_T39 xs i).f0) ∧ w.cell? ⟨(ad.add (i.toNat * 2)).block, (ad.add (i.toNat * 2)).off + 1, none⟩ = some (.slice A1 (rd_T39 xs i).f1.length c1) ∧ (rd_T39 xs i).f1.length ≤ c1 ∧ (Kd.int .u32).C w A1 (rd_T39 xs i).f1.length (rd_T39 xs i).f1 := by
 obtain ⟨ad, c, e, _, hK, hc0⟩ := Kd.C_get h z39 i h0 h1
 have hc : ∀ j u, c[j]? = some u → w.cell? (ad.add (i.toNat * 2 + j)) = some u := hc0
 obtain ⟨A1, c1, rfl, l1, g1⟩ := k39_open hK
 exact ⟨ad, A1, c1, e, hc 0 _ rfl, by rw [← add_field _ _ 1 (by omega)]; exact hc 1 _ rfl, l1, g1⟩
def rd_L5 (xs : List (List S39)) (i : Int) : (List S39) := xs.getD i.toNat ([] : List S39)
theorem at_L5 {w : World} {A : Option Addr} {n : Nat} {xs : List (List S39)} (h : Kd.C (Kd.slice 39 k39) w A n xs) (i : Int) (h0 : 0 ≤ i) (h1 : i < n) : ∃ ad A0 c0, A = some ad ∧ w.cell? (ad.add i.toNat) = some (.slice A0 (rd_L5 xs i).length c0) ∧ (rd_L5 xs i).length ≤ c0 ∧ k39.C w A0 (rd_L5 xs i).length (rd_L5 xs i) := by
 obtain ⟨ad, c, e, _, hK, hc0⟩ := Kd.C_get h ([] : List S39) i h0 h1
 have hc : ∀ j u, c[j]? = some u → w.cell? (ad.add (i.toNat * 1 + j)) = some u := hc0
 obtain ⟨A0, c0, rfl, l0, g0⟩ := hK
 exact ⟨ad, A0, c0, e, by have hq := hc 0 _ rfl; rwa [Nat.mul_one, Nat.add_zero] at hq, l0, g0⟩
structure S68 where
 f0 : Bool
 f1 : (List Int)
def z68 : S68 := ⟨false, ([] : List Int)⟩
def k68 : Kd S68 := Kd.iso (Kd.pair Kd.bool (Kd.slice 76 (Kd.int .u32))) (fun x : S68 => (x.f0, x.f1))
theorem k68_open {w : World} {x : S68} {cs : List Value} (h : k68.K w x cs) : ∃ A1 c1, cs = [.bool x.f0, .slice A1 x.f1.length c1] ∧ x.f1.length ≤ c1 ∧ (Kd.int .u32).C w A1 x.f1.length x.f1 := by
 obtain ⟨_, _, rfl, rfl, ⟨A1, c1, rfl, l1, g1⟩⟩ := h
 exact ⟨A1, c1, rfl, l1, g1⟩
theorem k68_mk (w : World) (x : S68) {A1 : Option Addr} {c1 : Nat} (l1 : x.f1.length ≤ c1) (g1 : (Kd.int .u32).C w A1 x.f1.length x.f1) : k68.K w x [.bool x.f0, .slice A1 x.f1.length c1] := ⟨[.bool x.f0], [.slice A1 x.f1.length c1], rfl, rfl, ⟨A1, c1, rfl, l1, g1⟩⟩
theorem k68_openF {W : World} {ok : Nat → Prop} {x : S68} {cs : List Value} (h : Kd.FK k68 W ok x cs) : ∃ A1 c1, cs = [.bool x.f0, .slice A1 x.f1.length c1] ∧ x.f1.length ≤ c1 ∧ Kd.F (Kd.int .u32) W ok A1 x.f1.length x.f1 := by
 obtain ⟨A1, c1, rfl, l1, _⟩ := k68_open (Kd.FK_now h)
 exact ⟨A1, c1, rfl, l1, (fun W' hW => by obtain ⟨A1_, c1_, he, l1_, g1_⟩ := k68_open (h W' hW); injection (Option.some.inj (show some (Value.slice A1 x.f1.length c1) = some (Value.slice A1_ x.f1.length c1_) from congrArg (fun l => l[1]?) he)) with ha_ _ _; rw [ha_]; exact g1_)⟩
theorem k68_mkF (W : World) (ok : Nat → Prop) (x : S68) {A1 : Option Addr} {c1 : Nat} (l1 : x.f1.length ≤ c1) (g1 : Kd.F (Kd.int .u32) W ok A1 x.f1.length x.f1) : Kd.FK k68 W ok x [.bool x.f0, .slice A1 x.f1.length c1] := fun W2 hW => k68_mk W2 x l1 (g1 W2 hW)
def rd_T68 (xs : List S68) (i : Int) : S68 := xs.getD i.toNat z68
theorem at_T68 {w : World} {A : Option Addr} {n : Nat} {xs : List S68} (h : Kd.C k68 w A n xs) (i : Int) (h0 : 0 ≤ i) (h1 : i < n) : ∃ ad A1 c1, A = some ad ∧ w.cell? (ad.add (i.toNat * 2)) = some (.bool (rd_T68 xs i).f0) ∧ w.cell? ⟨(ad.add (i.toNat * 2)).block, (ad.add (i.toNat * 2)).off + 1, none⟩ = some (.slice A1 (rd_T68 xs i).f1.length c1) ∧ (rd_T68 xs i).f1.length ≤ c1 ∧ (Kd.int .u32).C w A1 (rd_T68 xs i).f1.length (rd_T68 xs i).f1 := by
 obtain ⟨ad, c, e, _, hK, hc0⟩ := Kd.C_get h z68 i h0 h1
 have hc : ∀ j u, c[j]? = some u → w.cell? (ad.add (i.toNat * 2 + j)) = some u := hc0
 obtain ⟨A1, c1, rfl, l1, g1⟩ := k68_open hK
 exact ⟨ad, A1, c1, e, hc 0 _ rfl, by rw [← add_field _ _ 1 (by omega)]; exact hc 1 _ rfl, l1, g1⟩
def rd_L9 (xs : List (List S68)) (i : Int) : (List S68) := xs.getD i.toNat ([] : List S68)
theorem at_L9 {w : World} {A : Option Addr} {n : Nat} {xs : List (List S68)} (h : Kd.C (Kd.slice 68 k68) w A n xs) (i : Int) (h0 : 0 ≤ i) (h1 : i < n) : ∃ ad A0 c0, A = some ad ∧ w.cell? (ad.add i.toNat) = some (.slice A0 (rd_L9 xs i).length c0) ∧ (rd_L9 xs i).length ≤ c0 ∧ k68.C w A0 (rd_L9 xs i).length (rd_L9 xs i) := by
 obtain ⟨ad, c, e, _, hK, hc0⟩ := Kd.C_get h ([] : List S68) i h0 h1
 have hc : ∀ j u, c[j]? = some u → w.cell? (ad.add (i.toNat * 1 + j)) = some u := hc0
 obtain ⟨A0, c0, rfl, l0, g0⟩ := hK
 exact ⟨ad, A0, c0, e, by have hq := hc 0 _ rfl; rwa [Nat.mul_one, Nat.add_zero] at hq, l0, g0⟩
def rd_L10 (xs : List (List Int)) (i : Int) : (List Int) := xs.getD i.toNat ([] : List Int)
theorem at_L10 {w : World} {A : Option Addr} {n : Nat} {xs : List (List Int)} (h : Kd.C (Kd.slice 2 (Kd.int .i64)) w A n xs) (i : Int) (h0 : 0 ≤ i) (h1 : i < n) : ∃ ad A0 c0, A = some ad ∧ w.cell? (ad.add i.toNat) = some (.slice A0 (rd_L10 xs i).length c0) ∧ (rd_L10 xs i).length ≤ c0 ∧ (Kd.int .i64).C w A0 (rd_L10 xs i).length (rd_L10 xs i) := by
 obtain ⟨ad, c, e, _, hK, hc0⟩ := Kd.C_get h ([] : List Int) i h0 h1
 have hc : ∀ j u, c[j]? = some u → w.cell? (ad.add (i.toNat * 1 + j)) = some u := hc0
 obtain ⟨A0, c0, rfl, l0, g0⟩ := hK
 exact ⟨ad, A0, c0, e, by have hq := hc 0 _ rfl; rwa [Nat.mul_one, Nat.add_zero] at hq, l0, g0⟩
structure S51 where
 f0 : Int
 f1 : Int
 f2 : Int
 f3 : Int
 f4 : Int
 f5 : Int
structure S53 where
 f0 : Int
 f1 : Int
 f2 : Int
 f3 : Int
 f4 : Int
 f5 : Bool
 f6 : Int
def integer_made.f (a0 : Bool) (l1 : List Int) : Option (Bool × List Int) := if a0 = true then (some (decide (0 < l1.length), l1)) else (some (false, l1))
theorem integer_made.calls (a0 : Bool) (P1_ : Nat → Prop) (A1 : Option Addr) (c1 : Nat) (l1 : List Int) (r1 : Bool) (r2 : List Int) (w : World) (hs1 : Kd.V (Kd.int .u32) 76 w w.heap.size (fun k_ => P1_ k_) (.slice A1 l1.length c1) l1) (h : integer_made.f a0 l1 = some (r1, r2)) :
  Calls Tryd.prog 51 #[.bool a0, .slice A1 l1.length c1] w fun e w' => ∃ v1_ : Value, e = .returned (.agg #[.bool r1, v1_]) ∧ Kd.V (Kd.int .u32) 76 w' w.heap.size (fun k_ => (P1_ k_ ∨ w.heap.size ≤ k_)) v1_ r2 ∧ Below w.heap.size w w' := by
 have hu39 := Tryd.underlying39
 have HO1 := aM (show Kd.V (Kd.int .u32) 76 w w.heap.size (fun k_ => (P1_ k_ ∨ w.heap.size ≤ k_)) (.slice A1 l1.length c1) l1 from Kd.V_mono hs1 (fun k_ hk => .inl hk))
 have HB := aM (Below.refl w.heap.size w)
 have H : (if a0 = true then (some (decide (0 < l1.length), l1)) else (some (false, l1))) = some (r1, r2) := h
 clear h
 by_cases c3 : a0 = true
 ·subst c3
  have H1 : (some (decide (0 < l1.length), l1)) = some (r1, r2) := by rw [if_pos rfl] at H; exact H
  clear H
  have H := H1
  clear H1
  simp only [Option.some.injEq, Prod.mk.injEq] at H
  obtain ⟨rfl, rfl⟩ := H
  go_enter Tryd.func51, Tryd.ntmps51
  go_wp2_with (first | ((with_reducible refine gate_dst (N := 4) rfl ?_); (try (refine gate_guard (by rfl) ?_; dsimp only)); refine z16_ rfl (N := 4) rfl (cs := #[.bool false, .slice none 0 0]) (t := 39) zG ?_; intro qB hg w4 hbox hb; replace HO1 := aM (Kd.V_below (Kd.V_elderB (lV HO1) qB (Nat.le_of_eq hg.symm)) hb); have qC := aM (hbox); have qE := aM ((by rw [hg]; exact (z4_ (lB HB)) : w.heap.size ≤ qB)); have qF := aM ((by rw [hg]; exact (z4_ (lB HB)) : w.heap.size ≤ qB)); replace HB := aM (z6_ (lB HB) hb); clear hb hbox hg; have qK := zc2 qC.out; have qL := fun i_ : Nat => z1_ qC.out i_))
  refine bodyPost_ret (results_cell_row rfl _ _ qB 39 #[.bool (decide (0 < l1.length)), .slice A1 l1.length c1] (0, 0) _ rfl (by refine lZ ?_; refine blk_put (cs := #[.bool (decide (0 < l1.length)), .slice none 0 0]) ?_ 1 _ rfl; refine lZ ?_; refine blk_put (cs := #[.bool false, .slice none 0 0]) ?_ 0 _ rfl; refine lZ ?_; exact qC.out) Tryd.underlying39 rfl zk) rfl ?_
  exact ⟨_, zE, by (with_reducible repeat (first | apply Kd.V_alloc | apply Kd.V_drewN | apply Kd.V_drew)); exact Kd.V_mono (Kd.V_far (p := ⟨qB, 1, none⟩) (Kd.V_far (p := ⟨qB, 0, none⟩) (Kd.V_mono HO1.out (fun k_ hk => (⟨hk, hk.2⟩ : _ ∧ k_ ≠ qB))) (fun _ hk => hk.2) (.bool (decide (0 < l1.length)))) (fun _ hk => hk.2) (.slice A1 l1.length c1)) (fun _ hk => hk.1.1), zB HB⟩
 ·replace c3 := Bool.eq_false_iff.mpr c3
  subst c3
  have H1 : (some (false, l1)) = some (r1, r2) := by rw [if_neg (show ¬ (false = true) by decide)] at H; exact H
  clear H
  have H := H1
  clear H1
  simp only [Option.some.injEq, Prod.mk.injEq] at H
  obtain ⟨rfl, rfl⟩ := H
  go_enter Tryd.func51, Tryd.ntmps51
  go_wp2_with (first | ((with_reducible refine gate_dst (N := 4) rfl ?_); (try (refine gate_guard (by rfl) ?_; dsimp only)); refine z16_ rfl (N := 4) rfl (cs := #[.bool false, .slice none 0 0]) (t := 39) zG ?_; intro qB hg w6 hbox hb; replace HO1 := aM (Kd.V_below (Kd.V_elderB (lV HO1) qB (Nat.le_of_eq hg.symm)) hb); have qC := aM (hbox); have qE := aM ((by rw [hg]; exact (z4_ (lB HB)) : w.heap.size ≤ qB)); have qF := aM ((by rw [hg]; exact (z4_ (lB HB)) : w.heap.size ≤ qB)); replace HB := aM (z6_ (lB HB) hb); clear hb hbox hg; have qM := zc2 qC.out; have qN := fun i_ : Nat => z1_ qC.out i_))
  refine bodyPost_ret (results_cell_row rfl _ _ qB 39 #[.bool false, .slice A1 l1.length c1] (0, 0) _ rfl (by refine lZ ?_; refine blk_put (cs := #[.bool false, .slice none 0 0]) ?_ 1 _ rfl; refine lZ ?_; refine blk_put (cs := #[.bool false, .slice none 0 0]) ?_ 0 _ rfl; refine lZ ?_; exact qC.out) Tryd.underlying39 rfl zk) rfl ?_
  exact ⟨_, zE, by (with_reducible repeat (first | apply Kd.V_alloc | apply Kd.V_drewN | apply Kd.V_drew)); exact Kd.V_mono (Kd.V_far (p := ⟨qB, 1, none⟩) (Kd.V_far (p := ⟨qB, 0, none⟩) (Kd.V_mono HO1.out (fun k_ hk => (⟨hk, hk.2⟩ : _ ∧ k_ ≠ qB))) (fun _ hk => hk.2) (.bool false)) (fun _ hk => hk.2) (.slice A1 l1.length c1)) (fun _ hk => hk.1.1), zB HB⟩
def limb_trim.l0 : Nat → List Int → Int → Option (List Int)
 | 0, _, _ => none
 | k + 1, x0, x3 => if x3 > 0 then (if 0 ≤ (wrap64 (x3 - 1)) then (if (wrap64 (x3 - 1)) < (x0.length : Int) then (if (rd x0 (wrap64 (x3 - 1))) = 0 then (limb_trim.l0 k x0 (wrap64 (x3 - 1))) else (if 0 ≤ x3 then (if x3 ≤ (x0.length : Int) then (some (x0.take (x3 : Int).toNat)) else (none)) else (none))) else (none)) else (none)) else (if 0 ≤ x3 then (if x3 ≤ (x0.length : Int) then (some (x0.take (x3 : Int).toNat)) else (none)) else (none))
def limb_trim.f (k : Nat) (l0 : List Int) : Option (List Int) := limb_trim.l0 k l0 (l0.length : Int)
theorem limb_trim.mono_l : ∀ k, (∀ y0 y1, LeO (limb_trim.l0 k y0 y1) (limb_trim.l0 (k + 1) y0 y1))
 | 0 => fun _ _ r h => by simp [limb_trim.l0] at h
 | k + 1 => by
  have ih0 := limb_trim.mono_l k
  ·intro y0 y1
   unfold limb_trim.l0
   exact zM
theorem limb_trim.mono : ∀ a0 k, LeO (limb_trim.f k a0) (limb_trim.f (k + 1) a0) := by
 intro a0 k
 have ih0 := limb_trim.mono_l k
 unfold limb_trim.f
 exact zM
theorem limb_trim.calls (k : Nat) (P0_ : Nat → Prop) (A0 : Option Addr) (c0 : Nat) (l0 : List Int) (r : List Int) (w : World) (hs0 : Kd.V (Kd.int .u32) 76 w w.heap.size (fun k_ => P0_ k_) (.slice A0 l0.length c0) l0) (h : limb_trim.f k l0 = some r) :
  Calls Tryd.prog 65 #[.slice A0 l0.length c0] w fun e w' => ∃ v0_ : Value, e = .returned (v0_) ∧ Kd.V (Kd.int .u32) 76 w' w.heap.size (fun k_ => (P0_ k_ ∨ w.heap.size ≤ k_)) v0_ r ∧ Below w.heap.size w w' := by
 have HO0 := aM (show Kd.V (Kd.int .u32) 76 w w.heap.size (fun k_ => (P0_ k_ ∨ w.heap.size ≤ k_)) (.slice A0 l0.length c0) l0 from Kd.V_mono hs0 (fun k_ hk => .inl hk))
 have HB := aM (Below.refl w.heap.size w)
 have H : (limb_trim.l0 k l0 (l0.length : Int)) = some r := h
 clear h
 have H' := aM H
 clear H
 go_enter Tryd.func65, Tryd.ntmps65
 go_wp2
 go_loopg [3] k (fun kq v3 w' => ∃ (qA : Int), v3 = .int .i64 qA ∧ Aside0 (limb_trim.l0 kq l0 qA = some r) ∧ Aside0 (kq ≤ k) ∧ Aside0 (Kd.V (Kd.int .u32) 76 w' w.heap.size (fun k_ => (P0_ k_ ∨ w.heap.size ≤ k_)) (.slice A0 l0.length c0) l0) ∧ Aside0 (Below w.heap.size w w'))
 case atStart => exact ⟨((l0.length : Int)), zT, H', ⟨Nat.le_refl _⟩, ⟨by (with_reducible repeat (first | apply Kd.V_alloc | apply Kd.V_drewN | apply Kd.V_drew)); exact HO0.out⟩, ⟨zB HB⟩⟩
 case round =>
  clear H'
  obtain ⟨qA, rfl, HA, HK1, qD, HB⟩ := hrel
  cases gk with
  | zero => exact absurd HA.out (by simp [limb_trim.l0])
  | succ k1 =>
   have H := HA.out
   clear HA
   simp only [limb_trim.l0] at H
   by_cases c2 : qA > 0
   ·rw [if_pos c2] at H
    have c2b0 := decide_eq_true c2
    clear c2
    obtain ⟨ji3, hji3⟩ : ∃ j_ : Int, (wrap64 (qA - 1)) = j_ := ⟨_, rfl⟩
    replace H : (if 0 ≤ (ji3) then (if (ji3) < (l0.length : Int) then (if (rd l0 (ji3)) = 0 then (limb_trim.l0 k1 l0 ji3) else (if 0 ≤ qA then (if qA ≤ (l0.length : Int) then (some (l0.take (qA : Int).toNat)) else (none)) else (none))) else (none)) else (none)) = some r := by first | (rw [hji3] at H; exact H) | (simp only [hji3] at H ⊢; exact H)
    have hji3w : (IntKind.i64.wrap (qA - 1)) = ji3 := (i64_w _).trans hji3
    by_cases c4 : 0 ≤ (ji3)
    ·rw [if_pos c4] at H
     have c4b0 := decide_eq_true c4
     clear c4
     by_cases c5 : (ji3) < (l0.length : Int)
     ·rw [if_pos c5] at H
      have c5b0 := decide_eq_true c5
      clear c5
      by_cases c6 : (rd l0 (ji3)) = 0
      ·rw [if_pos c6] at H
       have c6b0 : ((rd l0 (ji3)) == 0) = true := beq_iff_eq.mpr c6
       have c6b1 : ((rd l0 (ji3)) != 0) = false := bne_eq_false_iff_eq.mpr c6
       clear c6
       have H' := aM H
       clear H
       have p102 : 0 ≤ ((ji3) : Int) := of_decide_eq_true za
       have q102 : (ji3) < (l0.length : Int) := of_decide_eq_true za
       obtain ⟨ad102, e102, hx102_0⟩ := Kd.at_int (Kd.V_reads' qD.out).2.2 (ji3) p102 q102
       cases e102
       replace p102 := eq_true p102
       replace q102 := eq_true q102
       go_wp2
       go_roundg k1
       case measure => have := HK1.out; omega
       case rel => exact ⟨(ji3), (by first | rfl | (simp; done) | (simp only [← hji3] <;> (first | rfl | simp)) | (simp [*]; done)), H', ⟨by have := HK1.out; omega⟩, ⟨by (with_reducible repeat (first | apply Kd.V_alloc | apply Kd.V_drewN | apply Kd.V_drew)); exact qD.out⟩, ⟨zB HB⟩⟩
      ·rw [if_neg c6] at H
       have c6b0 : ((rd l0 (ji3)) == 0) = false := beq_eq_false_iff_ne.mpr c6
       have c6b1 : ((rd l0 (ji3)) != 0) = true := bne_iff_ne.mpr c6
       by_cases c7 : 0 ≤ qA
       ·rw [if_pos c7] at H
        have c7b0 := eq_true c7
        have c7b1 := decide_eq_true c7
        clear c7
        by_cases c8 : qA ≤ (l0.length : Int)
        ·rw [if_pos c8] at H
         have c8b0 := eq_true c8
         have c8b1 := decide_eq_true c8
         clear c8
         obtain ⟨y103, hy103⟩ : ∃ y_ : List Int, y_ = (l0.take (qA : Int).toNat) := ⟨_, rfl⟩
         replace H : (some y103) = some r := zH hy103 H
         have Ny103 := aM hy103
         clear hy103
         obtain rfl := Option.some.inj H
         have p102 : 0 ≤ ((ji3) : Int) := of_decide_eq_true za
         have q102 : (ji3) < (l0.length : Int) := of_decide_eq_true za
         obtain ⟨ad102, e102, hx102_0⟩ := Kd.at_int (Kd.V_reads' qD.out).2.2 (ji3) p102 q102
         cases e102
         replace p102 := eq_true p102
         replace q102 := eq_true q102
         have q9 : (qA : Int) ≤ ((l0.length : Int) : Int) := of_decide_eq_true za
         obtain ⟨i09, hi09, _, hsz9, _⟩ := info_parts info76
         have hroom9 : l0.length ≤ c0 := (Kd.V_reads' qD.out).2.1
         have hC9 : Kd.F (Kd.int .u32) _ _ (some ad102) l0.length l0 := (Kd.V_at (base := w.heap.size) qD.out).2.2
         have hcut9 := cut_to (P := Tryd.prog) 37 76 .i64 Tryd.underlying37 hi09 (some ad102) l0.length c0 qA (of_decide_eq_true za) q9 hroom9
         have hr9 := Kd.F_take (m := (qA : Int).toNat) hC9 (by omega)
         have hy9 : y103.length = (qA : Int).toNat := (by rw [Ny103.out, List.length_take]; omega)
         rw [← Ny103.out] at hr9
         rw [← hy9] at hcut9
         have qG := aM (show Kd.V (Kd.int .u32) 76 _ w.heap.size _ (.slice (some ad102) y103.length c0) y103 from Kd.V_mk (by omega) hr9)
         have qH := aM (show y103.length ≤ c0 from by omega)
         clear hr9 hC9 hroom9 hi09 hsz9
         have KY9 := aM hy9
         clear hy9
         replace q9 := eq_true q9
         have hcapq : (qA ≤ (c0 : Int)) = True := eq_true (by have := qH.out; have := KY9.out; omega)
         go_wp2
         go_ret
         exact ⟨_, by first | rfl | (simp [errW_none, errW_some] <;> rfl) | (simp only [← hji3]; first | rfl | (simp [errW_none, errW_some] <;> rfl)) | (simp [*, errW_none, errW_some] <;> rfl), by (with_reducible repeat (first | apply Kd.V_alloc | apply Kd.V_drewN | apply Kd.V_drew)); exact Go.Proofs.YtakmkhokbcjapaaDoor.Own.V_of_cap qG.out (by rw [KY9.out]; rfl), zB HB⟩
        ·rw [if_neg c8] at H
         exact absurd H (by simp)
       ·rw [if_neg c7] at H
        exact absurd H (by simp)
     ·rw [if_neg c5] at H
      exact absurd H (by simp)
    ·rw [if_neg c4] at H
     exact absurd H (by simp)
   ·rw [if_neg c2] at H
    have c2b0 := decide_eq_false c2
    clear c2
    by_cases c10 : 0 ≤ qA
    ·rw [if_pos c10] at H
     have c10b0 := eq_true c10
     have c10b1 := decide_eq_true c10
     clear c10
     by_cases c11 : qA ≤ (l0.length : Int)
     ·rw [if_pos c11] at H
      have c11b0 := eq_true c11
      have c11b1 := decide_eq_true c11
      clear c11
      obtain ⟨y108, hy108⟩ : ∃ y_ : List Int, y_ = (l0.take (qA : Int).toNat) := ⟨_, rfl⟩
      replace H : (some y108) = some r := zH hy108 H
      have Ny108 := aM hy108
      clear hy108
      obtain rfl := Option.some.inj H
      have q12 : (qA : Int) ≤ ((l0.length : Int) : Int) := of_decide_eq_true za
      obtain ⟨i012, hi012, _, hsz12, _⟩ := info_parts info76
      have hroom12 : l0.length ≤ c0 := (Kd.V_reads' qD.out).2.1
      have hC12 : Kd.F (Kd.int .u32) _ _ A0 l0.length l0 := (Kd.V_at (base := w.heap.size) qD.out).2.2
      have hcut12 := cut_to (P := Tryd.prog) 37 76 .i64 Tryd.underlying37 hi012 A0 l0.length c0 qA (of_decide_eq_true za) q12 hroom12
      have hr12 := Kd.F_take (m := (qA : Int).toNat) hC12 (by omega)
      have hy12 : y108.length = (qA : Int).toNat := (by rw [Ny108.out, List.length_take]; omega)
      rw [← Ny108.out] at hr12
      rw [← hy12] at hcut12
      have qI := aM (show Kd.V (Kd.int .u32) 76 _ w.heap.size _ (.slice A0 y108.length c0) y108 from Kd.V_mk (by omega) hr12)
      have qJ := aM (show y108.length ≤ c0 from by omega)
      clear hr12 hC12 hroom12 hi012 hsz12
      have KY12 := aM hy12
      clear hy12
      replace q12 := eq_true q12
      have hcapq : (qA ≤ (c0 : Int)) = True := eq_true (by have := qJ.out; have := KY12.out; omega)
      go_wp2
      go_ret
      exact ⟨_, zE, by (with_reducible repeat (first | apply Kd.V_alloc | apply Kd.V_drewN | apply Kd.V_drew)); exact Go.Proofs.YtakmkhokbcjapaaDoor.Own.V_of_cap qI.out (by rw [KY12.out]; rfl), zB HB⟩
     ·rw [if_neg c11] at H
      exact absurd H (by simp)
    ·rw [if_neg c10] at H
     exact absurd H (by simp)
def limb_Norm.f (k : Nat) (l0 : List Int) : Option (List Int) := (limb_trim.f k l0).bind fun qC => (if 0 ≤ (qC.length : Int) then (if ((qC.length : Int) : Int).toNat ≤ 70368744177664 then (some qC) else (none)) else (none))
theorem limb_Norm.mono : ∀ a0 k, LeO (limb_Norm.f k a0) (limb_Norm.f (k + 1) a0) := by
 intro a0 k
 unfold limb_Norm.f
 have im0 := @limb_trim.mono; exact zM
theorem limb_Norm.calls (k : Nat) (A0 : Option Addr) (c0 : Nat) (l0 : List Int) (r : List Int) (w : World) (hr0 : Kd.C (Kd.int .u32) w A0 l0.length l0) (hc0 : l0.length ≤ c0) (h : limb_Norm.f k l0 = some r) :
  Calls Tryd.prog 52 #[.slice A0 l0.length c0] w fun e w' => ∃ v0_ : Value, e = .returned (v0_) ∧ Kd.R (Kd.int .u32) 76 w' w.heap.size (fun _ => True) v0_ r ∧ Below w.heap.size w w' := by
 have HR0 := aM hr0
 have HC0 := aM hc0
 clear hr0 hc0
 have HB := aM (Below.refl w.heap.size w)
 have H : ((limb_trim.f k l0).bind fun qC => (if 0 ≤ (qC.length : Int) then (if ((qC.length : Int) : Int).toNat ≤ 70368744177664 then (some qC) else (none)) else (none))) = some r := h
 clear h
 replace H := zbs H
 obtain ⟨qC, A20, H⟩ := H
 replace H : (if 0 ≤ (qC.length : Int) then (if ((qC.length : Int) : Int).toNat ≤ 70368744177664 then (some qC) else (none)) else (none)) = some r := H
 have A2 := aM A20
 clear A20
 by_cases c3 : 0 ≤ (qC.length : Int)
 ·rw [if_pos c3] at H
  have c3b0 := eq_true c3
  have c3b1 := decide_eq_true c3
  clear c3
  by_cases c4 : ((qC.length : Int) : Int).toNat ≤ 70368744177664
  ·rw [if_pos c4] at H
   have c4b0 := eq_true c4
   have c4b1 := decide_eq_true c4
   clear c4
   obtain ⟨y116, hy116⟩ : ∃ y_ : List Int, y_ = (List.replicate ((qC.length : Int) : Int).toNat 0) := ⟨_, rfl⟩
   have Ny116 := aM hy116
   clear hy116
   obtain rfl := Option.some.inj H
   go_enter Tryd.func52, Tryd.ntmps52
   go_wp2_with (first | ((with_reducible refine gate_callee (f := 65) rfl ?_); refine z13_ (some 5) rfl rfl Tryd.func65 zk rfl #[.slice A0 l0.length c0] rfl zA ?_; (with_reducible refine (limb_trim.calls k (fun k_ => k_ < w.heap.size) _ _ l0 qC _ ?side1 A2.out).mono ?_); (case side1 => exact Kd.V_mk HC0.out (Kd.F_below (Kd.C_F (Kd.heap_int .u32) HR0.out) (lB HB))); rintro e w5 ⟨v114, rfl, ho0, hb⟩; refine ⟨_, rfl, ?_⟩; have qJ := aM (Kd.V_lower (Kd.V_mono (ok' := fun k_ => True) ho0 (fun k_ hk_ => trivial)) (z4_ (lB HB))); replace HB := aM (z6_ (lB HB) hb); (try clear hb); (try clear ho0); obtain ⟨Ao6, co6, eo6⟩ := Kd.V_slice qJ.out; subst eo6) | ((with_reducible refine gate_dst (N := 8) rfl ?_); refine Kd.R_make (Kd.int .u32) _ 76 rfl (N := 8) rfl 37 _ _ rfl (qC.length : Int) rfl rfl Tryd.underlying37 (.int .u32 0) 4 info76 rfl (by decide) (by omega) 0 (ok := fun _ => True) (okp := fun _ => True) rfl (fun _ hk => hk) trivial (of_decide_eq_true za) (Nat.le_trans (Nat.mul_le_mul_right _ (of_decide_eq_true za : (qC.length : Int).toNat ≤ 70368744177664)) (by omega)) (Below.refl _ _) (Nat.le_refl _) ?_; intro v117 w7 ho8 hb hg_ hnew_; clear hg_ hnew_; (first | rw [← Ny116.out] at ho8 | (simp only [Int.reduceToNat] at ho8; rw [← Ny116.out] at ho8)); replace qJ := aM (Kd.V_elder' (lV qJ) (Kd.R_base ho8) hb); have qK := aM (Kd.z20_ ho8 (z4_ (lB HB))); replace HB := aM (z6_ (lB HB) hb); clear hb ho8) | ((with_reducible refine gate_builtin (b := .copy) (xs := #[.tmp 9, .tmp 10]) rfl ?_); refine Kd.R_copy (enc := Value.int .u32) (h1 := fun _ => rfl) (0 : Int) (w0 := w) w.heap.size rfl (.tmp 9) (.tmp 10) 37 37 76 rfl Tryd.underlying37 zk _ y116 qC _ _ _ (fun _ => True) rfl rfl qK.out (Kd.V_reads' qJ.out).2.2 HB.out HB.out.size ?_; intro wq hoq hbq hgq; clear hgq; have hlq : y116.length = qC.length := (by rw [Ny116.out, List.length_replicate]; simp); rw [hlq, Nat.min_self, List.take_of_length_le (Nat.le_refl _), ← hlq, List.drop_of_length_le (Nat.le_refl _), List.append_nil] at hoq; clear hlq; clear qJ qK HB; have qK := aM hoq; have HB := aM hbq; clear hoq hbq))
   go_ret
   exact ⟨_, zE, by apply rX; exact qK.out, zB HB⟩
  ·rw [if_neg c4] at H
   exact absurd H (by simp)
 ·rw [if_neg c3] at H
  exact absurd H (by simp)
def integer_Make.f (k : Nat) (a0 : Bool) (l1 : List Int) : Option (Bool × List Int) := (limb_Norm.f k l1).bind fun qF => ((integer_made.f a0 qF).bind fun bt123 => (some (bt123.1, bt123.2)))
theorem integer_Make.mono : ∀ a0 a1 k, LeO (integer_Make.f k a0 a1) (integer_Make.f (k + 1) a0 a1) := by
 intro a0 a1 k
 unfold integer_Make.f
 have im0 := @limb_Norm.mono; exact zM
theorem integer_Make.calls (k : Nat) (a0 : Bool) (A1 : Option Addr) (c1 : Nat) (l1 : List Int) (r1 : Bool) (r2 : List Int) (w : World) (hr1 : Kd.C (Kd.int .u32) w A1 l1.length l1) (hc1 : l1.length ≤ c1) (h : integer_Make.f k a0 l1 = some (r1, r2)) :
  Calls Tryd.prog 35 #[.bool a0, .slice A1 l1.length c1] w fun e w' => ∃ v1_ : Value, e = .returned (.agg #[.bool r1, v1_]) ∧ Kd.V (Kd.int .u32) 76 w' w.heap.size (fun k_ => (w.heap.size ≤ k_)) v1_ r2 ∧ Below w.heap.size w w' := by
 have hu39 := Tryd.underlying39
 have HR1 := aM hr1
 have HC1 := aM hc1
 clear hr1 hc1
 have HB := aM (Below.refl w.heap.size w)
 have H : ((limb_Norm.f k l1).bind fun qF => ((integer_made.f a0 qF).bind fun bt123 => (some (bt123.1, bt123.2)))) = some (r1, r2) := h
 clear h
 replace H := zbs H
 obtain ⟨qF, A30, H⟩ := H
 replace H : ((integer_made.f a0 qF).bind fun bt123 => (some (bt123.1, bt123.2))) = some (r1, r2) := H
 have A3 := aM A30
 clear A30
 replace H := zbs H
 obtain ⟨⟨qL, qQ⟩, A40, H⟩ := H
 replace H : (some (qL, qQ)) = some (r1, r2) := H
 have A4 := aM A40
 clear A40
 simp only [Option.some.injEq, Prod.mk.injEq] at H
 obtain ⟨rfl, rfl⟩ := H
 go_enter Tryd.func35, Tryd.ntmps35
 go_wp2_with (first | ((with_reducible refine gate_dst (N := 4) rfl ?_); refine z16_ rfl (N := 4) rfl (cs := #[.bool false, .slice none 0 0]) (t := 39) zG ?_; intro qE hg w5 hbox hb; have qD := aM (hbox); have qh := aM ((by rw [hg]; exact (z4_ (lB HB)) : w.heap.size ≤ qE)); have qi := aM ((by rw [hg]; exact (z4_ (lB HB)) : w.heap.size ≤ qE)); replace HB := aM (z6_ (lB HB) hb); clear hb hbox hg) | ((with_reducible refine gate_callee (f := 52) rfl ?_); refine z13_ (some 7) rfl rfl Tryd.func52 zk rfl #[.slice A1 l1.length c1] rfl zA ?_; (with_reducible refine (limb_Norm.calls k _ _ l1 qF _ ?side1 ?side2 A3.out).mono ?_); (case side1 => refine lY ?_; exact (Kd.z8_ HR1.out HB.out)); (case side2 => exact HC1.out); rintro e w6 ⟨v121, rfl, ho0, hb⟩; refine ⟨_, rfl, ?_⟩; have qG := aM (Kd.z20_ (Kd.R_newM (M := fun k_ => (w.heap.size ≤ k_)) ho0 (z4_ (zB HB)) (fun k_ h_ => h_)) (z4_ (zB HB))); replace qD := aM (z5_ (g := qE) (lK qD) hb); replace HB := aM (z6_ (zB HB) hb); (try clear hb); (try clear ho0); obtain ⟨Ao7, co7, eo7⟩ := Kd.R_slice qG.out; subst eo7) | ((with_reducible refine gate_callee (f := 51) rfl ?_); refine z13_ (some 8) rfl rfl Tryd.func51 zk rfl #[.bool a0, .slice Ao7 qF.length co7] rfl zA ?_; (with_reducible refine (integer_made.calls a0 (fun k_ => some k_ = (.slice Ao7 qF.length co7 : Value).ownBlock) _ _ qF qL qQ _ ?side1 A4.out).mono ?_); (case side1 => exact Kd.R_V (Kd.R_tight rfl (Kd.z3_ (qG.out) qD.out (by decide)))); rintro e w8 ⟨v125, rfl, ho0, hb⟩; refine ⟨_, rfl, ?_⟩; have qT := aM (Kd.V_lower (Kd.V_mono (ok' := fun k_ => (w.heap.size ≤ k_) ∧ k_ ≠ qE) ho0 (fun k_ hk_ => ⟨Or.elim hk_ (fun hs_ => ((Kd.z3_ (qG.out) qD.out (by decide)).1 k_ hs_.symm).1.1) (fun hn_ => (Nat.le_trans (z4_ (zB HB)) hn_)), Or.elim hk_ (fun hs_ => ((Kd.z3_ (qG.out) qD.out (by decide)).1 k_ hs_.symm).2) (fun hn_ => (Kd.freshB (g := qE) (o := .cells #[.bool false, .slice none 0 0] 39 (0, 0)) (lK qD) k_ hn_))⟩)) (z4_ (zB HB))); replace qG := aM (Kd.z7_ (lR qG) hb); replace qD := aM (z5_ (g := qE) (lK qD) hb); replace HB := aM (z6_ (zB HB) hb); (try clear hb); (try clear ho0); obtain ⟨qW, qX⟩ := zc2 qD.out; have qY := fun i_ : Nat => z1_ qD.out i_; obtain ⟨qM, qN, eo10⟩ := Kd.V_slice qT.out; subst eo10))
 refine bodyPost_ret (results_cell_row rfl _ _ qE 39 #[.bool qL, .slice qM qQ.length qN] (0, 0) _ rfl (by refine lZ ?_; refine blk_put (cs := #[.bool qL, .slice none 0 0]) ?_ 1 _ rfl; refine lZ ?_; refine blk_put (cs := #[.bool false, .slice none 0 0]) ?_ 0 _ rfl; refine lZ ?_; exact qD.out) Tryd.underlying39 rfl zk) rfl ?_
 exact ⟨_, zE, by (with_reducible repeat (first | apply Kd.V_alloc | apply Kd.V_drewN | apply Kd.V_drew)); exact Kd.V_mono (Kd.V_far (p := ⟨qE, 1, none⟩) (Kd.V_far (p := ⟨qE, 0, none⟩) (Kd.V_mono qT.out (fun k_ hk => (⟨hk, hk.2⟩ : _ ∧ k_ ≠ qE))) (fun _ hk => hk.2) (.bool qL)) (fun _ hk => hk.2) (.slice qM qQ.length qN)) (fun _ hk => hk.1.1), zB HB⟩
def integer_Of.f (k : Nat) (a0 : Int) : Option (Bool × List Int) := if a0 < 0 then ((integer_Make.f k true (([(IntKind.u64.wrap (-(IntKind.u64.wrap (a0)))) % 4294967296, ((IntKind.u64.wrap (-(IntKind.u64.wrap (a0)))) / 4294967296) % 4294967296] : List Int))).bind fun bt131 => (some (bt131.1, bt131.2))) else ((integer_Make.f k false (([(IntKind.u64.wrap (a0)) % 4294967296, ((IntKind.u64.wrap (a0)) / 4294967296) % 4294967296] : List Int))).bind fun bt138 => (some (bt138.1, bt138.2)))
theorem integer_Of.mono : ∀ a0 k, LeO (integer_Of.f k a0) (integer_Of.f (k + 1) a0) := by
 intro a0 k
 unfold integer_Of.f
 have im0 := @integer_Make.mono; exact zM
theorem integer_Of.calls (k : Nat) (a0 : Int) (r1 : Bool) (r2 : List Int) (w : World) (h : integer_Of.f k a0 = some (r1, r2)) :
  Calls Tryd.prog 17 #[.int .i64 a0] w fun e w' => ∃ v1_ : Value, e = .returned (.agg #[.bool r1, v1_]) ∧ Kd.V (Kd.int .u32) 76 w' w.heap.size (fun k_ => (w.heap.size ≤ k_)) v1_ r2 ∧ Below w.heap.size w w' := by
 have hu39 := Tryd.underlying39
 have HB := aM (Below.refl w.heap.size w)
 have H : (if a0 < 0 then ((integer_Make.f k true (([(IntKind.u64.wrap (-(IntKind.u64.wrap (a0)))) % 4294967296, ((IntKind.u64.wrap (-(IntKind.u64.wrap (a0)))) / 4294967296) % 4294967296] : List Int))).bind fun bt131 => (some (bt131.1, bt131.2))) else ((integer_Make.f k false (([(IntKind.u64.wrap (a0)) % 4294967296, ((IntKind.u64.wrap (a0)) / 4294967296) % 4294967296] : List Int))).bind fun bt138 => (some (bt138.1, bt138.2)))) = some (r1, r2) := h
 clear h
 by_cases c2 : a0 < 0
 ·rw [if_pos c2] at H
  have c2b0 := decide_eq_true c2
  clear c2
  obtain ⟨y128, hy128⟩ : ∃ y_ : List Int, y_ = (([(IntKind.u64.wrap (-(IntKind.u64.wrap (a0)))) % 4294967296, ((IntKind.u64.wrap (-(IntKind.u64.wrap (a0)))) / 4294967296) % 4294967296] : List Int)) := ⟨_, rfl⟩
  replace H : ((integer_Make.f k true y128).bind fun bt131 => (some (bt131.1, bt131.2))) = some (r1, r2) := zH hy128 H
  have Ny128 := aM hy128
  clear hy128
  replace H := zbs H
  obtain ⟨⟨qO, qR⟩, A30, H⟩ := H
  replace H : (some (qO, qR)) = some (r1, r2) := H
  have A3 := aM A30
  clear A30
  simp only [Option.some.injEq, Prod.mk.injEq] at H
  obtain ⟨rfl, rfl⟩ := H
  go_enter Tryd.func17, Tryd.ntmps17
  go_wp2_with (first | ((with_reducible refine gate_dst (N := 2) rfl ?_); refine z16_ rfl (N := 2) rfl (cs := #[.bool false, .slice none 0 0]) (t := 39) zG ?_; intro qA hg w4 hbox hb; have qB := aM (hbox); have qd := aM ((by rw [hg]; exact (z4_ (lB HB)) : w.heap.size ≤ qA)); have qe := aM ((by rw [hg]; exact (z4_ (lB HB)) : w.heap.size ≤ qA)); replace HB := aM (z6_ (lB HB) hb); clear hb hbox hg) | ((with_reducible refine gate_dst (N := 17) rfl ?_); refine Kd.R_lit (Kd.int .u32) _ 76 ?hg (N := 17) ?hd (xs := ([(IntKind.u64.wrap (-(IntKind.u64.wrap (a0)))) % 4294967296, ((IntKind.u64.wrap (-(IntKind.u64.wrap (a0)))) / 4294967296) % 4294967296] : List Int)) (inner := [.int .u32 ((IntKind.u64.wrap (-(IntKind.u64.wrap (a0)))) % 4294967296), .int .u32 (((IntKind.u64.wrap (-(IntKind.u64.wrap (a0)))) / 4294967296) % 4294967296)]) (ok := fun _ => True) (okp := fun _ => True) ?hr ?hp (fun _ hk => hk) trivial (Below.refl _ _) (Nat.le_refl _) (by simp) ?_; (case hd => rfl); (case hg => rfl); (case hr => first | (go_simp; done) | (go_simp; rfl)); (case hp => exact (Reps.one (show Kd.M (Kd.int .u32) _ _ _ ((IntKind.u64.wrap (-(IntKind.u64.wrap (a0)))) % 4294967296) [.int .u32 ((IntKind.u64.wrap (-(IntKind.u64.wrap (a0)))) % 4294967296)] from rfl) (Reps.one (show Kd.M (Kd.int .u32) _ _ _ (((IntKind.u64.wrap (-(IntKind.u64.wrap (a0)))) / 4294967296) % 4294967296) [.int .u32 (((IntKind.u64.wrap (-(IntKind.u64.wrap (a0)))) / 4294967296) % 4294967296)] from rfl) (Reps.none _ _)))); intro v129 w5 ho6 hb hg_ hnew_; clear hg_ hnew_; (first | rw [← Ny128.out] at ho6 | (simp only [Int.reduceToNat] at ho6; rw [← Ny128.out] at ho6)); have qH := aM (Kd.z20_ (Kd.R_newM (M := fun k_ => (w.heap.size ≤ k_)) ho6 (z4_ (zB HB)) (fun k_ h_ => h_)) (z4_ (zB HB))); replace qB := aM (z5_ (g := qA) (lK qB) hb); replace HB := aM (z6_ (zB HB) hb); clear hb ho6; obtain ⟨Ao7, co7, eo7⟩ := Kd.R_slice qH.out; subst eo7) | ((with_reducible refine gate_callee (f := 35) rfl ?_); refine z13_ (some 18) rfl rfl Tryd.func35 zk rfl #[.bool true, .slice Ao7 y128.length co7] rfl zA ?_; (with_reducible refine (integer_Make.calls k true _ _ y128 qO qR _ ?side1 ?side2 A3.out).mono ?_); (case side1 => refine lY ?_; exact (Kd.z9_ qH.out).2.2); (case side2 => exact (Kd.z9_ qH.out).2.1); rintro e w8 ⟨v133, rfl, ho0, hb⟩; refine ⟨_, rfl, ?_⟩; have qU := aM (Kd.V_lower (Kd.V_mono (ok' := fun k_ => (w.heap.size ≤ k_) ∧ some k_ ≠ (.slice Ao7 y128.length co7 : Value).ownBlock ∧ k_ ≠ qA) ho0 (fun k_ hk_ => ⟨(Nat.le_trans (z4_ (zB HB)) hk_), (Kd.fresh' (Kd.R_lt (lR qH)) k_ hk_), (Kd.freshB (g := qA) (o := .cells #[.bool false, .slice none 0 0] 39 (0, 0)) (lK qB) k_ hk_)⟩)) (z4_ (zB HB))); replace qH := aM (Kd.z7_ (lR qH) hb); replace qB := aM (z5_ (g := qA) (lK qB) hb); replace HB := aM (z6_ (zB HB) hb); (try clear hb); (try clear ho0); obtain ⟨qW, qX⟩ := zc2 qB.out; have qY := fun i_ : Nat => z1_ qB.out i_; obtain ⟨qM, qN, eo10⟩ := Kd.V_slice qU.out; subst eo10))
  refine bodyPost_ret (results_cell_row rfl _ _ qA 39 #[.bool qO, .slice qM qR.length qN] (0, 0) _ rfl (by refine lZ ?_; refine blk_put (cs := #[.bool qO, .slice none 0 0]) ?_ 1 _ rfl; refine lZ ?_; refine blk_put (cs := #[.bool false, .slice none 0 0]) ?_ 0 _ rfl; refine lZ ?_; exact qB.out) Tryd.underlying39 rfl zk) rfl ?_
  exact ⟨_, zE, by (with_reducible repeat (first | apply Kd.V_alloc | apply Kd.V_drewN | apply Kd.V_drew)); exact Kd.V_mono (Kd.V_far (p := ⟨qA, 1, none⟩) (Kd.V_far (p := ⟨qA, 0, none⟩) (Kd.V_mono qU.out (fun k_ hk => (⟨hk, hk.2.2⟩ : _ ∧ k_ ≠ qA))) (fun _ hk => hk.2) (.bool qO)) (fun _ hk => hk.2) (.slice qM qR.length qN)) (fun _ hk => hk.1.1), zB HB⟩
 ·rw [if_neg c2] at H
  have c2b0 := decide_eq_false c2
  clear c2
  obtain ⟨y135, hy135⟩ : ∃ y_ : List Int, y_ = (([(IntKind.u64.wrap (a0)) % 4294967296, ((IntKind.u64.wrap (a0)) / 4294967296) % 4294967296] : List Int)) := ⟨_, rfl⟩
  replace H : ((integer_Make.f k false y135).bind fun bt138 => (some (bt138.1, bt138.2))) = some (r1, r2) := zH hy135 H
  have Ny135 := aM hy135
  clear hy135
  replace H := zbs H
  obtain ⟨⟨qP, qS⟩, A110, H⟩ := H
  replace H : (some (qP, qS)) = some (r1, r2) := H
  have A11 := aM A110
  clear A110
  simp only [Option.some.injEq, Prod.mk.injEq] at H
  obtain ⟨rfl, rfl⟩ := H
  go_enter Tryd.func17, Tryd.ntmps17
  go_wp2_with (first | ((with_reducible refine gate_dst (N := 2) rfl ?_); refine z16_ rfl (N := 2) rfl (cs := #[.bool false, .slice none 0 0]) (t := 39) zG ?_; intro qA hg w12 hbox hb; have qB := aM (hbox); have qd := aM ((by rw [hg]; exact (z4_ (lB HB)) : w.heap.size ≤ qA)); have qe := aM ((by rw [hg]; exact (z4_ (lB HB)) : w.heap.size ≤ qA)); replace HB := aM (z6_ (lB HB) hb); clear hb hbox hg) | ((with_reducible refine gate_dst (N := 17) rfl ?_); refine Kd.R_lit (Kd.int .u32) _ 76 ?hg (N := 17) ?hd (xs := ([(IntKind.u64.wrap (a0)) % 4294967296, ((IntKind.u64.wrap (a0)) / 4294967296) % 4294967296] : List Int)) (inner := [.int .u32 ((IntKind.u64.wrap (a0)) % 4294967296), .int .u32 (((IntKind.u64.wrap (a0)) / 4294967296) % 4294967296)]) (ok := fun _ => True) (okp := fun _ => True) ?hr ?hp (fun _ hk => hk) trivial (Below.refl _ _) (Nat.le_refl _) (by simp) ?_; (case hd => rfl); (case hg => rfl); (case hr => first | (go_simp; done) | (go_simp; rfl)); (case hp => exact (Reps.one (show Kd.M (Kd.int .u32) _ _ _ ((IntKind.u64.wrap (a0)) % 4294967296) [.int .u32 ((IntKind.u64.wrap (a0)) % 4294967296)] from rfl) (Reps.one (show Kd.M (Kd.int .u32) _ _ _ (((IntKind.u64.wrap (a0)) / 4294967296) % 4294967296) [.int .u32 (((IntKind.u64.wrap (a0)) / 4294967296) % 4294967296)] from rfl) (Reps.none _ _)))); intro v136 w13 ho14 hb hg_ hnew_; clear hg_ hnew_; (first | rw [← Ny135.out] at ho14 | (simp only [Int.reduceToNat] at ho14; rw [← Ny135.out] at ho14)); have qI := aM (Kd.z20_ (Kd.R_newM (M := fun k_ => (w.heap.size ≤ k_)) ho14 (z4_ (zB HB)) (fun k_ h_ => h_)) (z4_ (zB HB))); replace qB := aM (z5_ (g := qA) (lK qB) hb); replace HB := aM (z6_ (zB HB) hb); clear hb ho14; obtain ⟨qZ, qa, eo15⟩ := Kd.R_slice qI.out; subst eo15) | ((with_reducible refine gate_callee (f := 35) rfl ?_); refine z13_ (some 18) rfl rfl Tryd.func35 zk rfl #[.bool false, .slice qZ y135.length qa] rfl zA ?_; (with_reducible refine (integer_Make.calls k false _ _ y135 qP qS _ ?side1 ?side2 A11.out).mono ?_); (case side1 => refine lY ?_; exact (Kd.z9_ qI.out).2.2); (case side2 => exact (Kd.z9_ qI.out).2.1); rintro e w16 ⟨v140, rfl, ho0, hb⟩; refine ⟨_, rfl, ?_⟩; have qV := aM (Kd.V_lower (Kd.V_mono (ok' := fun k_ => (w.heap.size ≤ k_) ∧ some k_ ≠ (.slice qZ y135.length qa : Value).ownBlock ∧ k_ ≠ qA) ho0 (fun k_ hk_ => ⟨(Nat.le_trans (z4_ (zB HB)) hk_), (Kd.fresh' (Kd.R_lt (lR qI)) k_ hk_), (Kd.freshB (g := qA) (o := .cells #[.bool false, .slice none 0 0] 39 (0, 0)) (lK qB) k_ hk_)⟩)) (z4_ (zB HB))); replace qI := aM (Kd.z7_ (lR qI) hb); replace qB := aM (z5_ (g := qA) (lK qB) hb); replace HB := aM (z6_ (zB HB) hb); (try clear hb); (try clear ho0); have qf := zc2 qB.out; have qg := fun i_ : Nat => z1_ qB.out i_; obtain ⟨qb, qc, eo18⟩ := Kd.V_slice qV.out; subst eo18))
  refine bodyPost_ret (results_cell_row rfl _ _ qA 39 #[.bool qP, .slice qb qS.length qc] (0, 0) _ rfl (by refine lZ ?_; refine blk_put (cs := #[.bool qP, .slice none 0 0]) ?_ 1 _ rfl; refine lZ ?_; refine blk_put (cs := #[.bool false, .slice none 0 0]) ?_ 0 _ rfl; refine lZ ?_; exact qB.out) Tryd.underlying39 rfl zk) rfl ?_
  exact ⟨_, zE, by (with_reducible repeat (first | apply Kd.V_alloc | apply Kd.V_drewN | apply Kd.V_drew)); exact Kd.V_mono (Kd.V_far (p := ⟨qA, 1, none⟩) (Kd.V_far (p := ⟨qA, 0, none⟩) (Kd.V_mono qV.out (fun k_ hk => (⟨hk, hk.2.2⟩ : _ ∧ k_ ≠ qA))) (fun _ hk => hk.2) (.bool qP)) (fun _ hk => hk.2) (.slice qb qS.length qc)) (fun _ hk => hk.1.1), zB HB⟩
def swagelaw21_list.l0 : Nat → List (S39) → List Int → Int → Int → Option ((List (S39)))
 | 0, _, _, _, _ => none
 | k + 1, x3, x6, x7, x8 => if x8 < x7 then (if 0 ≤ x8 then (if x8 < (x6.length : Int) then ((integer_Of.f k (rd x6 x8)).bind fun bt143 => (if x3.length < 4398046511104 then (swagelaw21_list.l0 k (x3 ++ [(⟨bt143.1, bt143.2⟩ : S39)]) x6 x7 (wrap64 (x8 + 1))) else (none))) else (none)) else (none)) else (some x3)
def swagelaw21_list.f (k : Nat) (l0 : List Int) : Option ((List (S39))) := swagelaw21_list.l0 k ([] : List (S39)) l0 (l0.length : Int) 0
theorem swagelaw21_list.mono_l : ∀ k, (∀ y0 y1 y2 y3, LeO (swagelaw21_list.l0 k y0 y1 y2 y3) (swagelaw21_list.l0 (k + 1) y0 y1 y2 y3))
 | 0 => fun _ _ _ _ r h => by simp [swagelaw21_list.l0] at h
 | k + 1 => by
  have ih0 := swagelaw21_list.mono_l k
  ·intro y0 y1 y2 y3
   unfold swagelaw21_list.l0
   have im0 := @integer_Of.mono; exact zM
theorem swagelaw21_list.mono : ∀ a0 k, LeO (swagelaw21_list.f k a0) (swagelaw21_list.f (k + 1) a0) := by
 intro a0 k
 have ih0 := swagelaw21_list.mono_l k
 unfold swagelaw21_list.f
 have im0 := @integer_Of.mono; exact zM
theorem swagelaw21_list.calls (k : Nat) (A0 : Option Addr) (c0 : Nat) (l0 : List Int) (r : List (S39)) (w : World) (hr0 : Kd.C (Kd.int .i64) w A0 l0.length l0) (hc0 : l0.length ≤ c0) (h : swagelaw21_list.f k l0 = some r) :
  Calls Tryd.prog 11 #[.slice A0 l0.length c0] w fun e w' => ∃ v0_ : Value, e = .returned (v0_) ∧ Kd.N k39 39 w' w.heap.size (fun k_ => (w.heap.size ≤ k_)) v0_ r ∧ Below w.heap.size w w' := by
 have HR0 := aM hr0
 have HC0 := aM hc0
 clear hr0 hc0
 have HB := aM (Below.refl w.heap.size w)
 have H : (swagelaw21_list.l0 k ([] : List (S39)) l0 (l0.length : Int) 0) = some r := h
 clear h
 have H' := aM H
 clear H
 go_enter Tryd.func11, Tryd.ntmps11
 go_wp2
 go_loopg [3, 8] k (fun kq v3 v8 w' => ∃ (qB : List (S39)) (qA : Int), v8 = .int .i64 qA ∧ Aside0 (swagelaw21_list.l0 kq qB l0 (l0.length : Int) qA = some r) ∧ Aside0 (kq ≤ k) ∧ Aside0 (Kd.N k39 39 w' w.heap.size (fun k_ => (w.heap.size ≤ k_)) v3 qB) ∧ Aside0 (Below w.heap.size w w'))
 case atStart => exact ⟨(([] : List (S39))), (0), zT, H', ⟨Nat.le_refl _⟩, ⟨by first | exact Kd.S_nil _ _ _ _ _ | exact Kd.N_nil _ _ _ _ _ | exact Kd.V_nil _ _ _ _ _ | exact Kd.Q_nil _ _ _ _ _ | exact Kd.R_nil _ _ _ _ _⟩, ⟨zB HB⟩⟩
 case round =>
  clear H'
  obtain ⟨qB, qA, rfl, HA, HK1, qD, HB⟩ := hrel
  cases gk with
  | zero => exact absurd HA.out (by simp [swagelaw21_list.l0])
  | succ k1 =>
   have H := HA.out
   clear HA
   simp only [swagelaw21_list.l0] at H
   by_cases c2 : qA < (l0.length : Int)
   ·rw [if_pos c2] at H
    have c2b0 := decide_eq_true c2
    clear c2
    by_cases c3 : 0 ≤ qA
    ·rw [if_pos c3] at H
     have c3b0 := decide_eq_true c3
     clear c3
     by_cases c4 : qA < (l0.length : Int)
     ·rw [if_pos c4] at H
      have c4b0 := decide_eq_true c4
      clear c4
      replace H := zbs H
      obtain ⟨⟨qE, qF⟩, A50, H⟩ := H
      replace H : (if qB.length < 4398046511104 then (swagelaw21_list.l0 k1 (qB ++ [(⟨qE, qF⟩ : S39)]) l0 (l0.length : Int) (wrap64 (qA + 1))) else (none)) = some r := H
      have A5 := aM A50
      clear A50
      by_cases c6 : qB.length < 4398046511104
      ·rw [if_pos c6] at H
       have LMc6 := aM c6
       clear c6
       obtain ⟨y147, hy147⟩ : ∃ y_ : List (S39), y_ = (qB ++ [(⟨qE, qF⟩ : S39)]) := ⟨_, rfl⟩
       replace H : (swagelaw21_list.l0 k1 y147 l0 (l0.length : Int) (wrap64 (qA + 1))) = some r := zH hy147 H
       have Ny147 := aM hy147
       clear hy147
       have H' := aM H
       clear H
       have p142 : 0 ≤ (qA : Int) := of_decide_eq_true za
       have q142 : qA < (l0.length : Int) := of_decide_eq_true za
       obtain ⟨ad142, e142, hx142_0⟩ := Kd.at_int HR0.out qA p142 q142
       cases e142
       replace hx142_0 := (HB.out.cell (World.block_lt_of_cell? w _ hx142_0)).trans hx142_0
       replace p142 := eq_true p142
       replace q142 := eq_true q142
       go_wp2_with (first | ((with_reducible refine gate_callee (f := 17) rfl ?_); refine z13_ (some 14) rfl rfl Tryd.func17 zk rfl #[.int .i64 (rd l0 qA)] rfl zA ?_; (with_reducible refine (integer_Of.calls k1 (rd l0 qA) qE qF _ A5.out).mono ?_); rintro e w7 ⟨v145, rfl, ho0, hb⟩; refine ⟨_, rfl, ?_⟩; have qC := aM (Kd.V_lower (Kd.V_mono (ok' := fun k_ => (w.heap.size ≤ k_) ∧ some k_ ≠ (u3 : Value).ownBlock) ho0 (fun k_ hk_ => ⟨(Nat.le_trans (z4_ (lB HB)) hk_), (Kd.fresh' (Kd.N_lt (lN qD)) k_ hk_)⟩)) (z4_ (lB HB))); replace qD := aM (Kd.N_below (lN qD) hb); replace HB := aM (z6_ (lB HB) hb); (try clear hb); (try clear ho0); obtain ⟨Ao9, co9, eo9⟩ := Kd.V_slice qC.out; subst eo9) | ((with_reducible refine gate_builtin (b := .append) (xs := #[.tmp 12, .tmp 15]) rfl ?_); at_builtin; refine Kd.N_append k39 (w0 := w) w.heap.size rfl (.tmp 12) (.tmp 15) 24 39 (.agg #[(.bool false), (.slice none 0 0)]) 32 rfl Tryd.underlying24 info39 rfl (by decide) (by omega) u3 qB (⟨qE, qF⟩ : S39) [.bool qE, .slice Ao9 qF.length co9] (fun k_ => (w.heap.size ≤ k_)) (fun k_ => ((fun k_ => (w.heap.size ≤ k_))) k_ ∧ some k_ ≠ (u3 : Value).ownBlock) rfl rfl ?aP (fun _ hk => hk) ?aF ?aO ?aB ?aS ?aL ?_; (case aP => exact (k39_mkF _ _ (⟨qE, qF⟩ : S39) (Kd.V_reads' (Kd.V_mono (ok' := (fun k_ => ((fun k_ => (w.heap.size ≤ k_))) k_ ∧ some k_ ≠ (u3 : Value).ownBlock)) (qC.out) (fun k_ hk => ⟨hk.1, hk.2⟩))).2.1 (Kd.V_F (Kd.V_mono (ok' := (fun k_ => ((fun k_ => (w.heap.size ≤ k_))) k_ ∧ some k_ ≠ (u3 : Value).ownBlock)) (qC.out) (fun k_ hk => ⟨hk.1, hk.2⟩))))); (case aB => exact (lB HB)); (case aF => exact (fun k_ hk => (Nat.le_trans (z4_ (lB HB)) hk))); (case aO => exact (lN qD)); (case aS => exact (z4_ (lB HB))); (case aL => have := LMc6.out; omega); intro v148 w8 ho hb hg hat; rw [← Ny147.out] at ho; replace qC := aM (Kd.V_afterv (ok := (fun k_ => (w.heap.size ≤ k_))) (lV qC) hg hat); replace HB := aM (hb); have qG := aM (ho); clear qD; clear ho hb hg hat))
       go_roundg k1
       case measure => have := HK1.out; omega
       case rel => exact ⟨(y147), (wrap64 (qA + 1)), zT, H', ⟨by have := HK1.out; omega⟩, ⟨by (with_reducible repeat (first | apply Kd.N_alloc | apply Kd.N_drewN | apply Kd.N_drew)); exact qG.out⟩, ⟨zB HB⟩⟩
      ·rw [if_neg c6] at H
       exact absurd H (by simp)
     ·rw [if_neg c4] at H
      exact absurd H (by simp)
    ·rw [if_neg c3] at H
     exact absurd H (by simp)
   ·rw [if_neg c2] at H
    have c2b0 := decide_eq_false c2
    clear c2
    obtain rfl := Option.some.inj H
    go_wp2
    go_ret
    exact ⟨_, zE, by (with_reducible repeat (first | apply Kd.N_alloc | apply Kd.N_drewN | apply Kd.N_drew)); exact qD.out, zB HB⟩
def swageref02_norm.l0 : Nat → Bool → List Int → Int → Option (Bool × List Int)
 | 0, _, _, _ => none
 | k + 1, x0, x1, x5 => if x5 > 0 then (if 0 ≤ (wrap64 (x5 - 1)) then (if (wrap64 (x5 - 1)) < (x1.length : Int) then (if (rd x1 (wrap64 (x5 - 1))) = 0 then (swageref02_norm.l0 k x0 x1 (wrap64 (x5 - 1))) else (if x0 = true then (if 0 ≤ x5 then (if x5 ≤ (x1.length : Int) then (some (true, (x1.take (x5 : Int).toNat))) else (none)) else (none)) else (if 0 ≤ x5 then (if x5 ≤ (x1.length : Int) then (some (false, (x1.take (x5 : Int).toNat))) else (none)) else (none)))) else (none)) else (none)) else (if x0 = true then (if 0 ≤ x5 then (if x5 ≤ (x1.length : Int) then (some (false, (x1.take (x5 : Int).toNat))) else (none)) else (none)) else (if 0 ≤ x5 then (if x5 ≤ (x1.length : Int) then (some (false, (x1.take (x5 : Int).toNat))) else (none)) else (none)))
def swageref02_norm.f (k : Nat) (a0 : Bool) (l1 : List Int) : Option (Bool × List Int) := swageref02_norm.l0 k a0 l1 (l1.length : Int)
theorem swageref02_norm.mono_l : ∀ k, (∀ y0 y1 y2, LeO (swageref02_norm.l0 k y0 y1 y2) (swageref02_norm.l0 (k + 1) y0 y1 y2))
 | 0 => fun _ _ _ r h => by simp [swageref02_norm.l0] at h
 | k + 1 => by
  have ih0 := swageref02_norm.mono_l k
  ·intro y0 y1 y2
   unfold swageref02_norm.l0
   exact zM
theorem swageref02_norm.mono : ∀ a0 a1 k, LeO (swageref02_norm.f k a0 a1) (swageref02_norm.f (k + 1) a0 a1) := by
 intro a0 a1 k
 have ih0 := swageref02_norm.mono_l k
 unfold swageref02_norm.f
 exact zM
theorem swageref02_norm.calls (k : Nat) (a0 : Bool) (P1_ : Nat → Prop) (A1 : Option Addr) (c1 : Nat) (l1 : List Int) (r1 : Bool) (r2 : List Int) (w : World) (hs1 : Kd.V (Kd.int .u32) 76 w w.heap.size (fun k_ => P1_ k_) (.slice A1 l1.length c1) l1) (h : swageref02_norm.f k a0 l1 = some (r1, r2)) :
  Calls Tryd.prog 48 #[.bool a0, .slice A1 l1.length c1] w fun e w' => ∃ v1_ : Value, e = .returned (.agg #[.bool r1, v1_]) ∧ Kd.V (Kd.int .u32) 76 w' w.heap.size (fun k_ => (P1_ k_ ∨ w.heap.size ≤ k_)) v1_ r2 ∧ Below w.heap.size w w' := by
 have hu68 := Tryd.underlying68
 have HO1 := aM (show Kd.V (Kd.int .u32) 76 w w.heap.size (fun k_ => (P1_ k_ ∨ w.heap.size ≤ k_)) (.slice A1 l1.length c1) l1 from Kd.V_mono hs1 (fun k_ hk => .inl hk))
 have HB := aM (Below.refl w.heap.size w)
 have H : (swageref02_norm.l0 k a0 l1 (l1.length : Int)) = some (r1, r2) := h
 clear h
 have H' := aM H
 clear H
 go_enter Tryd.func48, Tryd.ntmps48
 go_wp2_with (first | ((with_reducible refine gate_dst (N := 4) rfl ?_); refine z16_ rfl (N := 4) rfl (cs := #[.bool false, .slice none 0 0]) (t := 68) zG ?_; intro qB hg w3 hbox hb; replace HO1 := aM (Kd.V_below (Kd.V_elderB (lV HO1) qB (Nat.le_of_eq hg.symm)) hb); have qC := aM (hbox); have qQ := aM ((by rw [hg]; exact (z4_ (lB HB)) : w.heap.size ≤ qB)); have qR := aM ((by rw [hg]; exact (z4_ (lB HB)) : w.heap.size ≤ qB)); replace HB := aM (z6_ (lB HB) hb); clear hb hbox hg))
 go_loopg [5] k (fun kq v5 w' => ∃ (qA : Int), v5 = .int .i64 qA ∧ Aside0 (swageref02_norm.l0 kq a0 l1 qA = some (r1, r2)) ∧ Aside0 (kq ≤ k) ∧ Aside0 (Kd.V (Kd.int .u32) 76 w' w.heap.size (fun k_ => (P1_ k_ ∨ w.heap.size ≤ k_) ∧ k_ ≠ qB) (.slice A1 l1.length c1) l1) ∧ Aside0 (w'.heap[qB]? = some (.cells #[.bool false, (.slice none 0 0)] 68 (0, 0))) ∧ Aside0 (Below w.heap.size w w'))
 case atStart => exact ⟨((l1.length : Int)), zT, H', ⟨Nat.le_refl _⟩, ⟨by (with_reducible repeat (first | apply Kd.V_alloc | apply Kd.V_drewN | apply Kd.V_drew)); exact HO1.out⟩, ⟨zb qC⟩, ⟨zB HB⟩⟩
 case round =>
  clear H'
  try clear c1
  obtain ⟨qA, rfl, HA, HK1, qD, qC, HB⟩ := hrel
  cases gk with
  | zero => exact absurd HA.out (by simp [swageref02_norm.l0])
  | succ k1 =>
   have H := HA.out
   clear HA
   simp only [swageref02_norm.l0] at H
   by_cases c4 : qA > 0
   ·rw [if_pos c4] at H
    have c4b0 := decide_eq_true c4
    clear c4
    obtain ⟨ji5, hji5⟩ : ∃ j_ : Int, (wrap64 (qA - 1)) = j_ := ⟨_, rfl⟩
    replace H : (if 0 ≤ (ji5) then (if (ji5) < (l1.length : Int) then (if (rd l1 (ji5)) = 0 then (swageref02_norm.l0 k1 a0 l1 ji5) else (if a0 = true then (if 0 ≤ qA then (if qA ≤ (l1.length : Int) then (some (true, (l1.take (qA : Int).toNat))) else (none)) else (none)) else (if 0 ≤ qA then (if qA ≤ (l1.length : Int) then (some (false, (l1.take (qA : Int).toNat))) else (none)) else (none)))) else (none)) else (none)) = some (r1, r2) := by first | (rw [hji5] at H; exact H) | (simp only [hji5] at H ⊢; exact H)
    have hji5w : (IntKind.i64.wrap (qA - 1)) = ji5 := (i64_w _).trans hji5
    by_cases c6 : 0 ≤ (ji5)
    ·rw [if_pos c6] at H
     have c6b0 := decide_eq_true c6
     clear c6
     by_cases c7 : (ji5) < (l1.length : Int)
     ·rw [if_pos c7] at H
      have c7b0 := decide_eq_true c7
      clear c7
      by_cases c8 : (rd l1 (ji5)) = 0
      ·rw [if_pos c8] at H
       have c8b0 : ((rd l1 (ji5)) == 0) = true := beq_iff_eq.mpr c8
       have c8b1 : ((rd l1 (ji5)) != 0) = false := bne_eq_false_iff_eq.mpr c8
       clear c8
       have H' := aM H
       clear H
       have p165 : 0 ≤ ((ji5) : Int) := of_decide_eq_true za
       have q165 : (ji5) < (l1.length : Int) := of_decide_eq_true za
       obtain ⟨ad165, e165, hx165_0⟩ := Kd.at_int (Kd.V_reads' qD.out).2.2 (ji5) p165 q165
       cases e165
       replace p165 := eq_true p165
       replace q165 := eq_true q165
       go_wp2
       go_roundg k1
       case measure => have := HK1.out; omega
       case rel => exact ⟨(ji5), (by first | rfl | (simp; done) | (simp only [← hji5] <;> (first | rfl | simp)) | (simp [*]; done)), H', ⟨by have := HK1.out; omega⟩, ⟨by (with_reducible repeat (first | apply Kd.V_alloc | apply Kd.V_drewN | apply Kd.V_drew)); exact qD.out⟩, ⟨zb qC⟩, ⟨zB HB⟩⟩
      ·rw [if_neg c8] at H
       have c8b0 : ((rd l1 (ji5)) == 0) = false := beq_eq_false_iff_ne.mpr c8
       have c8b1 : ((rd l1 (ji5)) != 0) = true := bne_iff_ne.mpr c8
       by_cases c9 : a0 = true
       ·subst c9
        have H1 : (if 0 ≤ qA then (if qA ≤ (l1.length : Int) then (some (true, (l1.take (qA : Int).toNat))) else (none)) else (none)) = some (r1, r2) := by rw [if_pos rfl] at H; exact H
        clear H
        have H := H1
        clear H1
        by_cases c10 : 0 ≤ qA
        ·rw [if_pos c10] at H
         have c10b0 := eq_true c10
         have c10b1 := decide_eq_true c10
         clear c10
         by_cases c11 : qA ≤ (l1.length : Int)
         ·rw [if_pos c11] at H
          have c11b0 := eq_true c11
          have c11b1 := decide_eq_true c11
          clear c11
          obtain ⟨y166, hy166⟩ : ∃ y_ : List Int, y_ = (l1.take (qA : Int).toNat) := ⟨_, rfl⟩
          replace H : (some (true, y166)) = some (r1, r2) := zH hy166 H
          have Ny166 := aM hy166
          clear hy166
          simp only [Option.some.injEq, Prod.mk.injEq] at H
          obtain ⟨rfl, rfl⟩ := H
          have p165 : 0 ≤ ((ji5) : Int) := of_decide_eq_true za
          have q165 : (ji5) < (l1.length : Int) := of_decide_eq_true za
          obtain ⟨ad165, e165, hx165_0⟩ := Kd.at_int (Kd.V_reads' qD.out).2.2 (ji5) p165 q165
          cases e165
          replace p165 := eq_true p165
          replace q165 := eq_true q165
          have q12 : (qA : Int) ≤ ((l1.length : Int) : Int) := of_decide_eq_true za
          obtain ⟨i012, hi012, _, hsz12, _⟩ := info_parts info76
          have hroom12 : l1.length ≤ c1 := (Kd.V_reads' qD.out).2.1
          have hC12 : Kd.F (Kd.int .u32) _ _ (some ad165) l1.length l1 := (Kd.V_at (base := w.heap.size) qD.out).2.2
          have hcut12 := cut_to (P := Tryd.prog) 37 76 .i64 Tryd.underlying37 hi012 (some ad165) l1.length c1 qA (of_decide_eq_true za) q12 hroom12
          have hr12 := Kd.F_take (m := (qA : Int).toNat) hC12 (by omega)
          have hy12 : y166.length = (qA : Int).toNat := (by rw [Ny166.out, List.length_take]; omega)
          rw [← Ny166.out] at hr12
          rw [← hy12] at hcut12
          have qE := aM (show Kd.V (Kd.int .u32) 76 _ w.heap.size _ (.slice (some ad165) y166.length c1) y166 from Kd.V_mk (by omega) hr12)
          have qS := aM (show y166.length ≤ c1 from by omega)
          clear hr12 hC12 hroom12 hi012 hsz12
          have KY12 := aM hy12
          clear hy12
          replace q12 := eq_true q12
          have qI := zc2 qC.out
          have qJ := fun i_ : Nat => z1_ qC.out i_
          go_wp2
          refine bodyPost_ret (results_cell_row rfl _ _ qB 68 #[.bool true, .slice (some ad165) y166.length c1] (0, 0) _ rfl (by refine lZ ?_; refine blk_put (cs := #[.bool true, .slice none 0 0]) ?_ 1 _ rfl; refine lZ ?_; refine blk_put (cs := #[.bool false, .slice none 0 0]) ?_ 0 _ rfl; refine lZ ?_; exact qC.out) Tryd.underlying68 rfl zk) rfl ?_
          exact ⟨_, by first | rfl | (simp [errW_none, errW_some] <;> rfl) | (simp only [← hji5]; first | rfl | (simp [errW_none, errW_some] <;> rfl)) | (simp [*, errW_none, errW_some] <;> rfl), by (with_reducible repeat (first | apply Kd.V_alloc | apply Kd.V_drewN | apply Kd.V_drew)); exact Kd.V_mono (Kd.V_far (p := ⟨qB, 1, none⟩) (Kd.V_far (p := ⟨qB, 0, none⟩) (Kd.V_mono qE.out (fun k_ hk => (⟨hk, hk.2⟩ : _ ∧ k_ ≠ qB))) (fun _ hk => hk.2) (.bool true)) (fun _ hk => hk.2) (.slice (some ad165) y166.length c1)) (fun _ hk => hk.1.1), zB HB⟩
         ·rw [if_neg c11] at H
          exact absurd H (by simp)
        ·rw [if_neg c10] at H
         exact absurd H (by simp)
       ·replace c9 := Bool.eq_false_iff.mpr c9
        subst c9
        have H1 : (if 0 ≤ qA then (if qA ≤ (l1.length : Int) then (some (false, (l1.take (qA : Int).toNat))) else (none)) else (none)) = some (r1, r2) := by rw [if_neg (show ¬ (false = true) by decide)] at H; exact H
        clear H
        have H := H1
        clear H1
        by_cases c14 : 0 ≤ qA
        ·rw [if_pos c14] at H
         have c14b0 := eq_true c14
         have c14b1 := decide_eq_true c14
         clear c14
         by_cases c15 : qA ≤ (l1.length : Int)
         ·rw [if_pos c15] at H
          have c15b0 := eq_true c15
          have c15b1 := decide_eq_true c15
          clear c15
          obtain ⟨y171, hy171⟩ : ∃ y_ : List Int, y_ = (l1.take (qA : Int).toNat) := ⟨_, rfl⟩
          replace H : (some (false, y171)) = some (r1, r2) := zH hy171 H
          have Ny171 := aM hy171
          clear hy171
          simp only [Option.some.injEq, Prod.mk.injEq] at H
          obtain ⟨rfl, rfl⟩ := H
          have p165 : 0 ≤ ((ji5) : Int) := of_decide_eq_true za
          have q165 : (ji5) < (l1.length : Int) := of_decide_eq_true za
          obtain ⟨ad165, e165, hx165_0⟩ := Kd.at_int (Kd.V_reads' qD.out).2.2 (ji5) p165 q165
          cases e165
          replace p165 := eq_true p165
          replace q165 := eq_true q165
          have q16 : (qA : Int) ≤ ((l1.length : Int) : Int) := of_decide_eq_true za
          obtain ⟨i016, hi016, _, hsz16, _⟩ := info_parts info76
          have hroom16 : l1.length ≤ c1 := (Kd.V_reads' qD.out).2.1
          have hC16 : Kd.F (Kd.int .u32) _ _ (some ad165) l1.length l1 := (Kd.V_at (base := w.heap.size) qD.out).2.2
          have hcut16 := cut_to (P := Tryd.prog) 37 76 .i64 Tryd.underlying37 hi016 (some ad165) l1.length c1 qA (of_decide_eq_true za) q16 hroom16
          have hr16 := Kd.F_take (m := (qA : Int).toNat) hC16 (by omega)
          have hy16 : y171.length = (qA : Int).toNat := (by rw [Ny171.out, List.length_take]; omega)
          rw [← Ny171.out] at hr16
          rw [← hy16] at hcut16
          have qF := aM (show Kd.V (Kd.int .u32) 76 _ w.heap.size _ (.slice (some ad165) y171.length c1) y171 from Kd.V_mk (by omega) hr16)
          have qT := aM (show y171.length ≤ c1 from by omega)
          clear hr16 hC16 hroom16 hi016 hsz16
          have KY16 := aM hy16
          clear hy16
          replace q16 := eq_true q16
          have qK := zc2 qC.out
          have qL := fun i_ : Nat => z1_ qC.out i_
          go_wp2
          refine bodyPost_ret (results_cell_row rfl _ _ qB 68 #[.bool false, .slice (some ad165) y171.length c1] (0, 0) _ rfl (by refine lZ ?_; refine blk_put (cs := #[.bool false, .slice none 0 0]) ?_ 1 _ rfl; refine lZ ?_; refine blk_put (cs := #[.bool false, .slice none 0 0]) ?_ 0 _ rfl; refine lZ ?_; exact qC.out) Tryd.underlying68 rfl zk) rfl ?_
          exact ⟨_, by first | rfl | (simp [errW_none, errW_some] <;> rfl) | (simp only [← hji5]; first | rfl | (simp [errW_none, errW_some] <;> rfl)) | (simp [*, errW_none, errW_some] <;> rfl), by (with_reducible repeat (first | apply Kd.V_alloc | apply Kd.V_drewN | apply Kd.V_drew)); exact Kd.V_mono (Kd.V_far (p := ⟨qB, 1, none⟩) (Kd.V_far (p := ⟨qB, 0, none⟩) (Kd.V_mono qF.out (fun k_ hk => (⟨hk, hk.2⟩ : _ ∧ k_ ≠ qB))) (fun _ hk => hk.2) (.bool false)) (fun _ hk => hk.2) (.slice (some ad165) y171.length c1)) (fun _ hk => hk.1.1), zB HB⟩
         ·rw [if_neg c15] at H
          exact absurd H (by simp)
        ·rw [if_neg c14] at H
         exact absurd H (by simp)
     ·rw [if_neg c7] at H
      exact absurd H (by simp)
    ·rw [if_neg c6] at H
     exact absurd H (by simp)
   ·rw [if_neg c4] at H
    have c4b0 := decide_eq_false c4
    clear c4
    by_cases c18 : a0 = true
    ·subst c18
     have H1 : (if 0 ≤ qA then (if qA ≤ (l1.length : Int) then (some (false, (l1.take (qA : Int).toNat))) else (none)) else (none)) = some (r1, r2) := by rw [if_pos rfl] at H; exact H
     clear H
     have H := H1
     clear H1
     by_cases c19 : 0 ≤ qA
     ·rw [if_pos c19] at H
      have c19b0 := eq_true c19
      have c19b1 := decide_eq_true c19
      clear c19
      by_cases c20 : qA ≤ (l1.length : Int)
      ·rw [if_pos c20] at H
       have c20b0 := eq_true c20
       have c20b1 := decide_eq_true c20
       clear c20
       obtain ⟨y176, hy176⟩ : ∃ y_ : List Int, y_ = (l1.take (qA : Int).toNat) := ⟨_, rfl⟩
       replace H : (some (false, y176)) = some (r1, r2) := zH hy176 H
       have Ny176 := aM hy176
       clear hy176
       simp only [Option.some.injEq, Prod.mk.injEq] at H
       obtain ⟨rfl, rfl⟩ := H
       have q21 : (qA : Int) ≤ ((l1.length : Int) : Int) := of_decide_eq_true za
       obtain ⟨i021, hi021, _, hsz21, _⟩ := info_parts info76
       have hroom21 : l1.length ≤ c1 := (Kd.V_reads' qD.out).2.1
       have hC21 : Kd.F (Kd.int .u32) _ _ A1 l1.length l1 := (Kd.V_at (base := w.heap.size) qD.out).2.2
       have hcut21 := cut_to (P := Tryd.prog) 37 76 .i64 Tryd.underlying37 hi021 A1 l1.length c1 qA (of_decide_eq_true za) q21 hroom21
       have hr21 := Kd.F_take (m := (qA : Int).toNat) hC21 (by omega)
       have hy21 : y176.length = (qA : Int).toNat := (by rw [Ny176.out, List.length_take]; omega)
       rw [← Ny176.out] at hr21
       rw [← hy21] at hcut21
       have qG := aM (show Kd.V (Kd.int .u32) 76 _ w.heap.size _ (.slice A1 y176.length c1) y176 from Kd.V_mk (by omega) hr21)
       have qU := aM (show y176.length ≤ c1 from by omega)
       clear hr21 hC21 hroom21 hi021 hsz21
       have KY21 := aM hy21
       clear hy21
       replace q21 := eq_true q21
       have qM := zc2 qC.out
       have qN := fun i_ : Nat => z1_ qC.out i_
       go_wp2
       refine bodyPost_ret (results_cell_row rfl _ _ qB 68 #[.bool false, .slice A1 y176.length c1] (0, 0) _ rfl (by refine lZ ?_; refine blk_put (cs := #[.bool false, .slice none 0 0]) ?_ 1 _ rfl; refine lZ ?_; refine blk_put (cs := #[.bool false, .slice none 0 0]) ?_ 0 _ rfl; refine lZ ?_; exact qC.out) Tryd.underlying68 rfl zk) rfl ?_
       exact ⟨_, zE, by (with_reducible repeat (first | apply Kd.V_alloc | apply Kd.V_drewN | apply Kd.V_drew)); exact Kd.V_mono (Kd.V_far (p := ⟨qB, 1, none⟩) (Kd.V_far (p := ⟨qB, 0, none⟩) (Kd.V_mono qG.out (fun k_ hk => (⟨hk, hk.2⟩ : _ ∧ k_ ≠ qB))) (fun _ hk => hk.2) (.bool false)) (fun _ hk => hk.2) (.slice A1 y176.length c1)) (fun _ hk => hk.1.1), zB HB⟩
      ·rw [if_neg c20] at H
       exact absurd H (by simp)
     ·rw [if_neg c19] at H
      exact absurd H (by simp)
    ·replace c18 := Bool.eq_false_iff.mpr c18
     subst c18
     have H1 : (if 0 ≤ qA then (if qA ≤ (l1.length : Int) then (some (false, (l1.take (qA : Int).toNat))) else (none)) else (none)) = some (r1, r2) := by rw [if_neg (show ¬ (false = true) by decide)] at H; exact H
     clear H
     have H := H1
     clear H1
     by_cases c23 : 0 ≤ qA
     ·rw [if_pos c23] at H
      have c23b0 := eq_true c23
      have c23b1 := decide_eq_true c23
      clear c23
      by_cases c24 : qA ≤ (l1.length : Int)
      ·rw [if_pos c24] at H
       have c24b0 := eq_true c24
       have c24b1 := decide_eq_true c24
       clear c24
       obtain ⟨y181, hy181⟩ : ∃ y_ : List Int, y_ = (l1.take (qA : Int).toNat) := ⟨_, rfl⟩
       replace H : (some (false, y181)) = some (r1, r2) := zH hy181 H
       have Ny181 := aM hy181
       clear hy181
       simp only [Option.some.injEq, Prod.mk.injEq] at H
       obtain ⟨rfl, rfl⟩ := H
       have q25 : (qA : Int) ≤ ((l1.length : Int) : Int) := of_decide_eq_true za
       obtain ⟨i025, hi025, _, hsz25, _⟩ := info_parts info76
       have hroom25 : l1.length ≤ c1 := (Kd.V_reads' qD.out).2.1
       have hC25 : Kd.F (Kd.int .u32) _ _ A1 l1.length l1 := (Kd.V_at (base := w.heap.size) qD.out).2.2
       have hcut25 := cut_to (P := Tryd.prog) 37 76 .i64 Tryd.underlying37 hi025 A1 l1.length c1 qA (of_decide_eq_true za) q25 hroom25
       have hr25 := Kd.F_take (m := (qA : Int).toNat) hC25 (by omega)
       have hy25 : y181.length = (qA : Int).toNat := (by rw [Ny181.out, List.length_take]; omega)
       rw [← Ny181.out] at hr25
       rw [← hy25] at hcut25
       have qH := aM (show Kd.V (Kd.int .u32) 76 _ w.heap.size _ (.slice A1 y181.length c1) y181 from Kd.V_mk (by omega) hr25)
       have qV := aM (show y181.length ≤ c1 from by omega)
       clear hr25 hC25 hroom25 hi025 hsz25
       have KY25 := aM hy25
       clear hy25
       replace q25 := eq_true q25
       have qO := zc2 qC.out
       have qP := fun i_ : Nat => z1_ qC.out i_
       go_wp2
       refine bodyPost_ret (results_cell_row rfl _ _ qB 68 #[.bool false, .slice A1 y181.length c1] (0, 0) _ rfl (by refine lZ ?_; refine blk_put (cs := #[.bool false, .slice none 0 0]) ?_ 1 _ rfl; refine lZ ?_; refine blk_put (cs := #[.bool false, .slice none 0 0]) ?_ 0 _ rfl; refine lZ ?_; exact qC.out) Tryd.underlying68 rfl zk) rfl ?_
       exact ⟨_, zE, by (with_reducible repeat (first | apply Kd.V_alloc | apply Kd.V_drewN | apply Kd.V_drew)); exact Kd.V_mono (Kd.V_far (p := ⟨qB, 1, none⟩) (Kd.V_far (p := ⟨qB, 0, none⟩) (Kd.V_mono qH.out (fun k_ hk => (⟨hk, hk.2⟩ : _ ∧ k_ ≠ qB))) (fun _ hk => hk.2) (.bool false)) (fun _ hk => hk.2) (.slice A1 y181.length c1)) (fun _ hk => hk.1.1), zB HB⟩
      ·rw [if_neg c24] at H
       exact absurd H (by simp)
     ·rw [if_neg c23] at H
      exact absurd H (by simp)
end Go.Proofs.YtakmkhokbcjapaaDoor.XA
end
section
namespace Go.Proofs.YtakmkhokbcjapaaDoor.XA
open Go.Proofs.YtakmkhokbcjapaaDoor.Lift Go.RowKit Go.Proofs.YtakmkhokbcjapaaDoorW.PrintWords Go.Proofs.YtakmkhokbcjapaaDoorW.PrintLast Go.Proofs.YtakmkhokbcjapaaDoorW.PrintMore
attribute [local go_sem] max2_int min2_int max_two min_two max_three min_three max_four min_four
mutual
def swageref02_Of.j0 : Nat → Int → Int → Option (Bool × List Int)
 | 0, _, _ => none
 | k + 1, x0, x3 => swageref02_Of.l0 k x0 x3 ([] : List Int)
def swageref02_Of.l0 : Nat → Int → Int → List Int → Option (Bool × List Int)
 | 0, _, _, _ => none
 | k + 1, x0, x3, x4 => if x3 > 0 then (if x4.length < 35184372088832 then (swageref02_Of.l0 k x0 (IntKind.u64.wrap (Int.tdiv x3 65536)) (x4 ++ [(Int.tmod x3 65536) % 4294967296])) else (none)) else ((swageref02_norm.f k (decide (x0 < 0)) x4).bind fun bt190 => (some (bt190.1, bt190.2)))
end
def swageref02_Of.f (k : Nat) (a0 : Int) : Option (Bool × List Int) := if a0 < 0 then (swageref02_Of.j0 k a0 (IntKind.u64.wrap (-(IntKind.u64.wrap (a0))))) else (swageref02_Of.j0 k a0 (IntKind.u64.wrap (a0)))
theorem swageref02_Of.mono_l : ∀ k, (∀ y0 y1, LeO (swageref02_Of.j0 k y0 y1) (swageref02_Of.j0 (k + 1) y0 y1)) ∧ (∀ y0 y1 y2, LeO (swageref02_Of.l0 k y0 y1 y2) (swageref02_Of.l0 (k + 1) y0 y1 y2))
 | 0 => ⟨fun _ _ r h => by simp [swageref02_Of.j0] at h, fun _ _ _ r h => by simp [swageref02_Of.l0] at h⟩
 | k + 1 => by
  obtain ⟨ih0, ih1⟩ := swageref02_Of.mono_l k
  refine ⟨?_, ?_⟩
  ·intro y0 y1
   unfold swageref02_Of.j0
   have im0 := @swageref02_norm.mono; exact zM
  ·intro y0 y1 y2
   unfold swageref02_Of.l0
   have im0 := @swageref02_norm.mono; exact zM
theorem swageref02_Of.mono : ∀ a0 k, LeO (swageref02_Of.f k a0) (swageref02_Of.f (k + 1) a0) := by
 intro a0 k
 obtain ⟨ih0, ih1⟩ := swageref02_Of.mono_l k
 unfold swageref02_Of.f
 have im0 := @swageref02_norm.mono; exact zM
theorem swageref02_Of.calls (k : Nat) (a0 : Int) (r1 : Bool) (r2 : List Int) (w : World) (h : swageref02_Of.f k a0 = some (r1, r2)) :
  Calls Tryd.prog 30 #[.int .i64 a0] w fun e w' => ∃ v1_ : Value, e = .returned (.agg #[.bool r1, v1_]) ∧ Kd.V (Kd.int .u32) 76 w' w.heap.size (fun k_ => (w.heap.size ≤ k_)) v1_ r2 ∧ Below w.heap.size w w' := by
 have hu68 := Tryd.underlying68
 have HB := aM (Below.refl w.heap.size w)
 have H : (if a0 < 0 then (swageref02_Of.j0 k a0 (IntKind.u64.wrap (-(IntKind.u64.wrap (a0))))) else (swageref02_Of.j0 k a0 (IntKind.u64.wrap (a0)))) = some (r1, r2) := h
 clear h
 have HC2 := aM H
 clear H
 go_enter Tryd.func30, Tryd.ntmps30
 go_upto_if 8 with (first | ((with_reducible refine gate_dst (N := 2) rfl ?_); refine z16_ rfl (N := 2) rfl (cs := #[.bool false, .slice none 0 0]) (t := 68) zG ?_; intro qB hg w3 hbox hb; have qA := aM (hbox); have qO := aM ((by rw [hg]; exact (z4_ (lB HB)) : w.heap.size ≤ qB)); have qP := aM ((by rw [hg]; exact (z4_ (lB HB)) : w.heap.size ≤ qB)); replace HB := aM (z6_ (lB HB) hb); clear hb hbox hg))
 (try simp only [Act.put, List.setIfInBounds_toArray, List.set_cons_zero, List.set_cons_succ])
 go_cut [3] (fun v3 wc => ∃ (kq : Nat) (qG : Int), v3 = .int .u64 qG ∧ Aside0 (swageref02_Of.j0 kq a0 qG = some (r1, r2)) ∧ Aside0 (kq ≤ k) ∧ Aside0 (wc.heap[qB]? = some (.cells #[.bool false, (.slice none 0 0)] 68 (0, 0))) ∧ Aside0 (Below w.heap.size w wc))
 case first =>
  have H := HC2.out
  clear HC2
  by_cases c4 : a0 < 0
  ·rw [if_pos c4] at H
   have c4b0 := decide_eq_true c4
   clear c4
   (first | rw [c4b0] | (simp only [i64_w, i32_w]; rw [c4b0]) | skip)
   have H' := aM H
   clear H
   go_wp2
   go_meet
   case rel => exact ⟨_, (IntKind.u64.wrap (-(IntKind.u64.wrap (a0)))), zT, H', ⟨zO⟩, ⟨zb qA⟩, ⟨zB HB⟩⟩
  ·rw [if_neg c4] at H
   have c4b0 := decide_eq_false c4
   clear c4
   (first | rw [c4b0] | (simp only [i64_w, i32_w]; rw [c4b0]) | skip)
   have H' := aM H
   clear H
   go_wp2
   go_meet
   case rel => exact ⟨_, (IntKind.u64.wrap (a0)), zT, H', ⟨zO⟩, ⟨zb qA⟩, ⟨zB HB⟩⟩
 case rest =>
  clear HC2
  obtain ⟨kq, qG, rfl, HA, HJ1, qA, HB⟩ := hcut
  cases kq with
  | zero => exact absurd HA.out (by simp [swageref02_Of.j0])
  | succ kj1 =>
   have H := HA.out
   clear HA
   simp only [swageref02_Of.j0] at H
   have H' := aM H
   clear H
   go_wp2
   go_loopg [3, 4] kj1 (fun kq v3 v4 w' => ∃ (qC : Int) (qD : List Int), v3 = .int .u64 qC ∧ Aside0 (swageref02_Of.l0 kq a0 qC qD = some (r1, r2)) ∧ Aside0 (kq ≤ kj1) ∧ Aside0 (Kd.R (Kd.int .u32) 76 w' w.heap.size (fun k_ => (w.heap.size ≤ k_)) v4 qD) ∧ Aside0 (w'.heap[qB]? = some (.cells #[.bool false, (.slice none 0 0)] 68 (0, 0))) ∧ Aside0 (Below w.heap.size w w'))
   case atStart => exact ⟨(qG), (([] : List Int)), zT, H', ⟨Nat.le_refl _⟩, ⟨zn⟩, ⟨zb qA⟩, ⟨zB HB⟩⟩
   case round =>
    clear H'
    obtain ⟨qC, qD, rfl, HA, HK2, qE, qA, HB⟩ := hrel
    cases gk with
    | zero => exact absurd HA.out (by simp [swageref02_Of.l0])
    | succ k2 =>
     have H := HA.out
     clear HA
     simp only [swageref02_Of.l0] at H
     by_cases c5 : qC > 0
     ·rw [if_pos c5] at H
      have c5b0 := decide_eq_true c5
      clear c5
      by_cases c6 : qD.length < 35184372088832
      ·rw [if_pos c6] at H
       have LMc6 := aM c6
       clear c6
       obtain ⟨y187, hy187⟩ : ∃ y_ : List Int, y_ = (qD ++ [(Int.tmod qC 65536) % 4294967296]) := ⟨_, rfl⟩
       replace H : (swageref02_Of.l0 k2 a0 (IntKind.u64.wrap (Int.tdiv qC 65536)) y187) = some (r1, r2) := zH hy187 H
       have Ny187 := aM hy187
       clear hy187
       have H' := aM H
       clear H
       go_wp2_with (first | ((with_reducible refine gate_builtin (b := .append) (xs := #[.tmp 13, .tmp 17]) rfl ?_); at_builtin; refine Kd.R_append (Kd.int .u32) (w0 := w) w.heap.size rfl (.tmp 13) (.tmp 17) 37 76 (.int .u32 0) 4 rfl Tryd.underlying37 info76 rfl (by decide) (by omega) u4 qD ((Int.tmod qC 65536) % 4294967296) [.int .u32 ((Int.tmod qC 65536) % 4294967296)] (fun k_ => (w.heap.size ≤ k_)) (fun _ => False) rfl rfl ?aP (fun _ hk => hk.elim) ?aF ?aO ?aB ?aS ?aL ?_; (case aP => exact rfl); (case aB => exact (zB HB)); (case aF => exact (fun k_ hk => (Nat.le_trans (z4_ (zB HB)) hk))); (case aO => exact (lR qE)); (case aS => exact (z4_ (zB HB))); (case aL => have := LMc6.out; omega); intro v188 w7 ho hb hg hat; rw [← Ny187.out] at ho; replace qA := aM (blk_grown (g := qB) (lK qA) hg (Kd.R_ne qE.out qA.out (by decide))); replace HB := aM (hb); have qL := aM (ho); clear qE; clear ho hb hg hat))
       go_roundg k2
       case measure => have := HJ1.out; have := HK2.out; omega
       case rel => exact ⟨(IntKind.u64.wrap (Int.tdiv qC 65536)), (y187), zT, H', ⟨by have := HJ1.out; have := HK2.out; omega⟩, ⟨lR qL⟩, ⟨zb qA⟩, ⟨zB HB⟩⟩
      ·rw [if_neg c6] at H
       exact absurd H (by simp)
     ·rw [if_neg c5] at H
      have c5b0 := decide_eq_false c5
      clear c5
      replace H := zbs H
      obtain ⟨⟨qF, qH⟩, A80, H⟩ := H
      replace H : (some (qF, qH)) = some (r1, r2) := H
      have A8 := aM A80
      clear A80
      simp only [Option.some.injEq, Prod.mk.injEq] at H
      obtain ⟨rfl, rfl⟩ := H
      obtain ⟨Ao9, co9, eo9⟩ := Kd.R_slice qE.out
      subst eo9
      go_wp2_with (first | ((with_reducible refine gate_callee (f := 48) rfl ?_); refine z13_ (some 24) rfl rfl Tryd.func48 zk rfl #[.bool (decide (a0 < 0)), .slice Ao9 qD.length co9] rfl zA ?_; (with_reducible refine (swageref02_norm.calls k2 (decide (a0 < 0)) (fun k_ => some k_ = (.slice Ao9 qD.length co9 : Value).ownBlock) _ _ qD qF qH _ ?side1 A8.out).mono ?_); (case side1 => exact Kd.R_V (Kd.R_tight rfl (Kd.z3_ (qE.out) qA.out (by decide)))); rintro e w10 ⟨v192, rfl, ho0, hb⟩; refine ⟨_, rfl, ?_⟩; have qI := aM (Kd.V_lower (Kd.V_mono (ok' := fun k_ => (w.heap.size ≤ k_) ∧ k_ ≠ qB) ho0 (fun k_ hk_ => ⟨Or.elim hk_ (fun hs_ => ((Kd.z3_ (qE.out) qA.out (by decide)).1 k_ hs_.symm).1) (fun hn_ => (Nat.le_trans (z4_ (zB HB)) hn_)), Or.elim hk_ (fun hs_ => ((Kd.z3_ (qE.out) qA.out (by decide)).1 k_ hs_.symm).2) (fun hn_ => (Kd.freshB (g := qB) (o := .cells #[.bool false, .slice none 0 0] 68 (0, 0)) (lK qA) k_ hn_))⟩)) (z4_ (zB HB))); replace qE := aM (Kd.z7_ (lR qE) hb); replace qA := aM (z5_ (g := qB) (lK qA) hb); replace HB := aM (z6_ (zB HB) hb); (try clear hb); (try clear ho0); have qM := zc2 qA.out; have qN := fun i_ : Nat => z1_ qA.out i_; obtain ⟨qJ, qK, eo12⟩ := Kd.V_slice qI.out; subst eo12))
      refine bodyPost_ret (results_cell_row rfl _ _ qB 68 #[.bool qF, .slice qJ qH.length qK] (0, 0) _ rfl (by refine lZ ?_; refine blk_put (cs := #[.bool qF, .slice none 0 0]) ?_ 1 _ rfl; refine lZ ?_; refine blk_put (cs := #[.bool false, .slice none 0 0]) ?_ 0 _ rfl; refine lZ ?_; exact qA.out) Tryd.underlying68 rfl zk) rfl ?_
      exact ⟨_, zE, by (with_reducible repeat (first | apply Kd.V_alloc | apply Kd.V_drewN | apply Kd.V_drew)); exact Kd.V_mono (Kd.V_far (p := ⟨qB, 1, none⟩) (Kd.V_far (p := ⟨qB, 0, none⟩) (Kd.V_mono qI.out (fun k_ hk => (⟨hk, hk.2⟩ : _ ∧ k_ ≠ qB))) (fun _ hk => hk.2) (.bool qF)) (fun _ hk => hk.2) (.slice qJ qH.length qK)) (fun _ hk => hk.1.1), zB HB⟩
end Go.Proofs.YtakmkhokbcjapaaDoor.XA
end
section
namespace Go.Proofs.YtakmkhokbcjapaaDoor.XA
open Go.Proofs.YtakmkhokbcjapaaDoor.Lift Go.RowKit Go.Proofs.YtakmkhokbcjapaaDoorW.PrintWords Go.Proofs.YtakmkhokbcjapaaDoorW.PrintLast Go.Proofs.YtakmkhokbcjapaaDoorW.PrintMore
attribute [local go_sem] max2_int min2_int max_two min_two max_three min_three max_four min_four
def swagelaw21_ref.l0 : Nat → List (S68) → List Int → Int → Int → Option ((List (S68)))
 | 0, _, _, _, _ => none
 | k + 1, x3, x6, x7, x8 => if x8 < x7 then (if 0 ≤ x8 then (if x8 < (x6.length : Int) then ((swageref02_Of.f k (rd x6 x8)).bind fun bt195 => (if x3.length < 4398046511104 then (swagelaw21_ref.l0 k (x3 ++ [(⟨bt195.1, bt195.2⟩ : S68)]) x6 x7 (wrap64 (x8 + 1))) else (none))) else (none)) else (none)) else (some x3)
def swagelaw21_ref.f (k : Nat) (l0 : List Int) : Option ((List (S68))) := swagelaw21_ref.l0 k ([] : List (S68)) l0 (l0.length : Int) 0
theorem swagelaw21_ref.mono_l : ∀ k, (∀ y0 y1 y2 y3, LeO (swagelaw21_ref.l0 k y0 y1 y2 y3) (swagelaw21_ref.l0 (k + 1) y0 y1 y2 y3))
 | 0 => fun _ _ _ _ r h => by simp [swagelaw21_ref.l0] at h
 | k + 1 => by
  have ih0 := swagelaw21_ref.mono_l k
  ·intro y0 y1 y2 y3
   unfold swagelaw21_ref.l0
   have im0 := @swageref02_Of.mono; exact zM
theorem swagelaw21_ref.mono : ∀ a0 k, LeO (swagelaw21_ref.f k a0) (swagelaw21_ref.f (k + 1) a0) := by
 intro a0 k
 have ih0 := swagelaw21_ref.mono_l k
 unfold swagelaw21_ref.f
 have im0 := @swageref02_Of.mono; exact zM
theorem swagelaw21_ref.calls (k : Nat) (A0 : Option Addr) (c0 : Nat) (l0 : List Int) (r : List (S68)) (w : World) (hr0 : Kd.C (Kd.int .i64) w A0 l0.length l0) (hc0 : l0.length ≤ c0) (h : swagelaw21_ref.f k l0 = some r) :
  Calls Tryd.prog 15 #[.slice A0 l0.length c0] w fun e w' => ∃ v0_ : Value, e = .returned (v0_) ∧ Kd.N k68 68 w' w.heap.size (fun k_ => (w.heap.size ≤ k_)) v0_ r ∧ Below w.heap.size w w' := by
 have HR0 := aM hr0
 have HC0 := aM hc0
 clear hr0 hc0
 have HB := aM (Below.refl w.heap.size w)
 have H : (swagelaw21_ref.l0 k ([] : List (S68)) l0 (l0.length : Int) 0) = some r := h
 clear h
 have H' := aM H
 clear H
 go_enter Tryd.func15, Tryd.ntmps15
 go_wp2
 go_loopg [3, 8] k (fun kq v3 v8 w' => ∃ (qB : List (S68)) (qA : Int), v8 = .int .i64 qA ∧ Aside0 (swagelaw21_ref.l0 kq qB l0 (l0.length : Int) qA = some r) ∧ Aside0 (kq ≤ k) ∧ Aside0 (Kd.N k68 68 w' w.heap.size (fun k_ => (w.heap.size ≤ k_)) v3 qB) ∧ Aside0 (Below w.heap.size w w'))
 case atStart => exact ⟨(([] : List (S68))), (0), zT, H', ⟨Nat.le_refl _⟩, ⟨by first | exact Kd.S_nil _ _ _ _ _ | exact Kd.N_nil _ _ _ _ _ | exact Kd.V_nil _ _ _ _ _ | exact Kd.Q_nil _ _ _ _ _ | exact Kd.R_nil _ _ _ _ _⟩, ⟨zB HB⟩⟩
 case round =>
  clear H'
  obtain ⟨qB, qA, rfl, HA, HK1, qD, HB⟩ := hrel
  cases gk with
  | zero => exact absurd HA.out (by simp [swagelaw21_ref.l0])
  | succ k1 =>
   have H := HA.out
   clear HA
   simp only [swagelaw21_ref.l0] at H
   by_cases c2 : qA < (l0.length : Int)
   ·rw [if_pos c2] at H
    have c2b0 := decide_eq_true c2
    clear c2
    by_cases c3 : 0 ≤ qA
    ·rw [if_pos c3] at H
     have c3b0 := decide_eq_true c3
     clear c3
     by_cases c4 : qA < (l0.length : Int)
     ·rw [if_pos c4] at H
      have c4b0 := decide_eq_true c4
      clear c4
      replace H := zbs H
      obtain ⟨⟨qE, qF⟩, A50, H⟩ := H
      replace H : (if qB.length < 4398046511104 then (swagelaw21_ref.l0 k1 (qB ++ [(⟨qE, qF⟩ : S68)]) l0 (l0.length : Int) (wrap64 (qA + 1))) else (none)) = some r := H
      have A5 := aM A50
      clear A50
      by_cases c6 : qB.length < 4398046511104
      ·rw [if_pos c6] at H
       have LMc6 := aM c6
       clear c6
       obtain ⟨y199, hy199⟩ : ∃ y_ : List (S68), y_ = (qB ++ [(⟨qE, qF⟩ : S68)]) := ⟨_, rfl⟩
       replace H : (swagelaw21_ref.l0 k1 y199 l0 (l0.length : Int) (wrap64 (qA + 1))) = some r := zH hy199 H
       have Ny199 := aM hy199
       clear hy199
       have H' := aM H
       clear H
       have p194 : 0 ≤ (qA : Int) := of_decide_eq_true za
       have q194 : qA < (l0.length : Int) := of_decide_eq_true za
       obtain ⟨ad194, e194, hx194_0⟩ := Kd.at_int HR0.out qA p194 q194
       cases e194
       replace hx194_0 := (HB.out.cell (World.block_lt_of_cell? w _ hx194_0)).trans hx194_0
       replace p194 := eq_true p194
       replace q194 := eq_true q194
       go_wp2_with (first | ((with_reducible refine gate_callee (f := 30) rfl ?_); refine z13_ (some 14) rfl rfl Tryd.func30 zk rfl #[.int .i64 (rd l0 qA)] rfl zA ?_; (with_reducible refine (swageref02_Of.calls k1 (rd l0 qA) qE qF _ A5.out).mono ?_); rintro e w7 ⟨v197, rfl, ho0, hb⟩; refine ⟨_, rfl, ?_⟩; have qC := aM (Kd.V_lower (Kd.V_mono (ok' := fun k_ => (w.heap.size ≤ k_) ∧ some k_ ≠ (u3 : Value).ownBlock) ho0 (fun k_ hk_ => ⟨(Nat.le_trans (z4_ (lB HB)) hk_), (Kd.fresh' (Kd.N_lt (lN qD)) k_ hk_)⟩)) (z4_ (lB HB))); replace qD := aM (Kd.N_below (lN qD) hb); replace HB := aM (z6_ (lB HB) hb); (try clear hb); (try clear ho0); obtain ⟨Ao9, co9, eo9⟩ := Kd.V_slice qC.out; subst eo9) | ((with_reducible refine gate_builtin (b := .append) (xs := #[.tmp 12, .tmp 15]) rfl ?_); at_builtin; refine Kd.N_append k68 (w0 := w) w.heap.size rfl (.tmp 12) (.tmp 15) 33 68 (.agg #[(.bool false), (.slice none 0 0)]) 32 rfl Tryd.underlying33 info68 rfl (by decide) (by omega) u3 qB (⟨qE, qF⟩ : S68) [.bool qE, .slice Ao9 qF.length co9] (fun k_ => (w.heap.size ≤ k_)) (fun k_ => ((fun k_ => (w.heap.size ≤ k_))) k_ ∧ some k_ ≠ (u3 : Value).ownBlock) rfl rfl ?aP (fun _ hk => hk) ?aF ?aO ?aB ?aS ?aL ?_; (case aP => exact (k68_mkF _ _ (⟨qE, qF⟩ : S68) (Kd.V_reads' (Kd.V_mono (ok' := (fun k_ => ((fun k_ => (w.heap.size ≤ k_))) k_ ∧ some k_ ≠ (u3 : Value).ownBlock)) (qC.out) (fun k_ hk => ⟨hk.1, hk.2⟩))).2.1 (Kd.V_F (Kd.V_mono (ok' := (fun k_ => ((fun k_ => (w.heap.size ≤ k_))) k_ ∧ some k_ ≠ (u3 : Value).ownBlock)) (qC.out) (fun k_ hk => ⟨hk.1, hk.2⟩))))); (case aB => exact (lB HB)); (case aF => exact (fun k_ hk => (Nat.le_trans (z4_ (lB HB)) hk))); (case aO => exact (lN qD)); (case aS => exact (z4_ (lB HB))); (case aL => have := LMc6.out; omega); intro v200 w8 ho hb hg hat; rw [← Ny199.out] at ho; replace qC := aM (Kd.V_afterv (ok := (fun k_ => (w.heap.size ≤ k_))) (lV qC) hg hat); replace HB := aM (hb); have qG := aM (ho); clear qD; clear ho hb hg hat))
       go_roundg k1
       case measure => have := HK1.out; omega
       case rel => exact ⟨(y199), (wrap64 (qA + 1)), zT, H', ⟨by have := HK1.out; omega⟩, ⟨by (with_reducible repeat (first | apply Kd.N_alloc | apply Kd.N_drewN | apply Kd.N_drew)); exact qG.out⟩, ⟨zB HB⟩⟩
      ·rw [if_neg c6] at H
       exact absurd H (by simp)
     ·rw [if_neg c4] at H
      exact absurd H (by simp)
    ·rw [if_neg c3] at H
     exact absurd H (by simp)
   ·rw [if_neg c2] at H
    have c2b0 := decide_eq_false c2
    clear c2
    obtain rfl := Option.some.inj H
    go_wp2
    go_ret
    exact ⟨_, zE, by (with_reducible repeat (first | apply Kd.N_alloc | apply Kd.N_drewN | apply Kd.N_drew)); exact qD.out, zB HB⟩
def limb_DivSmall.l0 : Nat → List Int → Int → List Int → Int → Int → Option (List Int × Int × Int)
 | 0, _, _, _, _, _ => none
 | k + 1, x0, x1, x7, x8, x9 => if x9 ≥ 0 then (if 0 ≤ x9 then (if x9 < (x0.length : Int) then (if (IntKind.u64.wrap (x1)) = 0 then (none) else (if x9 < (x7.length : Int) then (limb_DivSmall.l0 k x0 x1 (x7.set (x9 : Int).toNat ((IntKind.u64.wrap (Int.tdiv (Go.bits .or .u64 (IntKind.u64.wrap (x8 * 4294967296)) (IntKind.u64.wrap (rd x0 x9))) (IntKind.u64.wrap (x1)))) % 4294967296)) (Int.tmod (Go.bits .or .u64 (IntKind.u64.wrap (x8 * 4294967296)) (IntKind.u64.wrap (rd x0 x9))) (IntKind.u64.wrap (x1))) (wrap64 (x9 - 1))) else (none))) else (none)) else (none)) else ((limb_trim.f k x7).bind fun qE => (some (qE, (x8) % 4294967296, 0)))
def limb_DivSmall.f (k : Nat) (l0 : List Int) (a1 : Int) : Option (List Int × Int × Int) := if a1 = 0 then (some (([] : List Int), 0, 2)) else (if 0 ≤ (l0.length : Int) then (if ((l0.length : Int) : Int).toNat ≤ 70368744177664 then (limb_DivSmall.l0 k l0 a1 (List.replicate ((l0.length : Int) : Int).toNat 0) 0 (wrap64 ((l0.length : Int) - 1))) else (none)) else (none))
theorem limb_DivSmall.mono_l : ∀ k, (∀ y0 y1 y2 y3 y4, LeO (limb_DivSmall.l0 k y0 y1 y2 y3 y4) (limb_DivSmall.l0 (k + 1) y0 y1 y2 y3 y4))
 | 0 => fun _ _ _ _ _ r h => by simp [limb_DivSmall.l0] at h
 | k + 1 => by
  have ih0 := limb_DivSmall.mono_l k
  ·intro y0 y1 y2 y3 y4
   unfold limb_DivSmall.l0
   have im0 := @limb_trim.mono; exact zM
theorem limb_DivSmall.mono : ∀ a0 a1 k, LeO (limb_DivSmall.f k a0 a1) (limb_DivSmall.f (k + 1) a0 a1) := by
 intro a0 a1 k
 have ih0 := limb_DivSmall.mono_l k
 unfold limb_DivSmall.f
 have im0 := @limb_trim.mono; exact zM
theorem limb_DivSmall.calls (k : Nat) (A0 : Option Addr) (c0 : Nat) (l0 : List Int) (a1 : Int) (r1 : List Int) (r2 : Int) (r3 : Int) (w : World) (hr0 : Kd.C (Kd.int .u32) w A0 l0.length l0) (hc0 : l0.length ≤ c0) (h : limb_DivSmall.f k l0 a1 = some (r1, r2, r3)) :
  Calls Tryd.prog 66 #[.slice A0 l0.length c0, .int .u32 a1] w fun e w' => ∃ v0_ : Value, e = .returned (.tuple #[v0_, .int .u32 r2, .int .i64 r3]) ∧ Kd.V (Kd.int .u32) 76 w' w.heap.size (fun k_ => (w.heap.size ≤ k_)) v0_ r1 ∧ Below w.heap.size w w' := by
 have HR0 := aM hr0
 have HC0 := aM hc0
 clear hr0 hc0
 have HB := aM (Below.refl w.heap.size w)
 have H : (if a1 = 0 then (some (([] : List Int), 0, 2)) else (if 0 ≤ (l0.length : Int) then (if ((l0.length : Int) : Int).toNat ≤ 70368744177664 then (limb_DivSmall.l0 k l0 a1 (List.replicate ((l0.length : Int) : Int).toNat 0) 0 (wrap64 ((l0.length : Int) - 1))) else (none)) else (none))) = some (r1, r2, r3) := h
 clear h
 by_cases c3 : a1 = 0
 ·rw [if_pos c3] at H
  have c3b0 : (a1 == 0) = true := beq_iff_eq.mpr c3
  have c3b1 : (a1 != 0) = false := bne_eq_false_iff_eq.mpr c3
  clear c3
  simp only [Option.some.injEq, Prod.mk.injEq] at H
  obtain ⟨rfl, rfl, rfl⟩ := H
  go_enter Tryd.func66, Tryd.ntmps66
  go_wp2
  go_ret3
  exact ⟨_, zE, Kd.V_nil _ _ _ _ _, zB HB⟩
 ·rw [if_neg c3] at H
  have c3b0 : (a1 == 0) = false := beq_eq_false_iff_ne.mpr c3
  have c3b1 : (a1 != 0) = true := bne_iff_ne.mpr c3
  by_cases c4 : 0 ≤ (l0.length : Int)
  ·rw [if_pos c4] at H
   have c4b0 := eq_true c4
   have c4b1 := decide_eq_true c4
   clear c4
   by_cases c5 : ((l0.length : Int) : Int).toNat ≤ 70368744177664
   ·rw [if_pos c5] at H
    have c5b0 := eq_true c5
    have c5b1 := decide_eq_true c5
    clear c5
    obtain ⟨y202, hy202⟩ : ∃ y_ : List Int, y_ = (List.replicate ((l0.length : Int) : Int).toNat 0) := ⟨_, rfl⟩
    replace H : (limb_DivSmall.l0 k l0 a1 y202 0 (wrap64 ((l0.length : Int) - 1))) = some (r1, r2, r3) := zH hy202 H
    have Ny202 := aM hy202
    clear hy202
    have H' := aM H
    clear H
    go_enter Tryd.func66, Tryd.ntmps66
    go_wp2_with (first | ((with_reducible refine gate_dst (N := 14) rfl ?_); refine Kd.R_make (Kd.int .u32) _ 76 rfl (N := 14) rfl 37 _ _ rfl (l0.length : Int) rfl rfl Tryd.underlying37 (.int .u32 0) 4 info76 rfl (by decide) (by omega) 0 (ok := fun _ => True) (okp := fun _ => True) rfl (fun _ hk => hk) trivial (of_decide_eq_true za) (Nat.le_trans (Nat.mul_le_mul_right _ (of_decide_eq_true za : (l0.length : Int).toNat ≤ 70368744177664)) (by omega)) (Below.refl _ _) (Nat.le_refl _) ?_; intro v203 w6 ho7 hb hg_ hnew_; clear hg_ hnew_; (first | rw [← Ny202.out] at ho7 | (simp only [Int.reduceToNat] at ho7; rw [← Ny202.out] at ho7)); have qI := aM (Kd.z20_ (Kd.R_newM (M := fun k_ => (w.heap.size ≤ k_)) ho7 (z4_ (lB HB)) (fun k_ h_ => h_)) (z4_ (lB HB))); replace HB := aM (z6_ (lB HB) hb); clear hb ho7))
    go_loopg [8, 9] k (fun kq v8 v9 w' => ∃ (qB : List Int) (qD : Int) (qA : Int), v8 = .int .u64 qD ∧ v9 = .int .i64 qA ∧ Aside0 (limb_DivSmall.l0 kq l0 a1 qB qD qA = some (r1, r2, r3)) ∧ Aside0 (kq ≤ k) ∧ Aside0 (Kd.R (Kd.int .u32) 76 w' w.heap.size (fun k_ => (w.heap.size ≤ k_)) v203 qB) ∧ Aside0 (Below w.heap.size w w'))
    case atStart => exact ⟨(y202), (0), (wrap64 ((l0.length : Int) - 1)), zT, zT, H', ⟨Nat.le_refl _⟩, ⟨by apply rX; exact Kd.z0_ qI.out (fun _ hk => hk.1)⟩, ⟨zB HB⟩⟩
    case round =>
     clear H'
     try clear c3
     try clear c4
     try clear c5
     obtain ⟨qB, qD, qA, rfl, rfl, HA, HK1, qC, HB⟩ := hrel
     cases gk with
     | zero => exact absurd HA.out (by simp [limb_DivSmall.l0])
     | succ k1 =>
      have H := HA.out
      clear HA
      simp only [limb_DivSmall.l0] at H
      by_cases c8 : qA ≥ 0
      ·rw [if_pos c8] at H
       have c8b0 := decide_eq_true c8
       clear c8
       by_cases c9 : 0 ≤ qA
       ·rw [if_pos c9] at H
        have c9b0 := decide_eq_true c9
        clear c9
        by_cases c10 : qA < (l0.length : Int)
        ·rw [if_pos c10] at H
         have c10b0 := decide_eq_true c10
         clear c10
         by_cases c11 : (IntKind.u64.wrap (a1)) = 0
         ·rw [if_pos c11] at H
          exact absurd H (by simp)
         ·rw [if_neg c11] at H
          have c11b0 : ((IntKind.u64.wrap (a1)) == 0) = false := beq_eq_false_iff_ne.mpr c11
          have c11b1 : ((IntKind.u64.wrap (a1)) != 0) = true := bne_iff_ne.mpr c11
          by_cases c12 : qA < (qB.length : Int)
          ·rw [if_pos c12] at H
           have c12b0 := decide_eq_true c12
           clear c12
           obtain ⟨y206, hy206⟩ : ∃ y_ : List Int, y_ = (qB.set (qA : Int).toNat ((IntKind.u64.wrap (Int.tdiv (Go.bits .or .u64 (IntKind.u64.wrap (qD * 4294967296)) (IntKind.u64.wrap (rd l0 qA))) (IntKind.u64.wrap (a1)))) % 4294967296)) := ⟨_, rfl⟩
           replace H : (limb_DivSmall.l0 k1 l0 a1 y206 (Int.tmod (Go.bits .or .u64 (IntKind.u64.wrap (qD * 4294967296)) (IntKind.u64.wrap (rd l0 qA))) (IntKind.u64.wrap (a1))) (wrap64 (qA - 1))) = some (r1, r2, r3) := zH hy206 H
           have Ny206 := aM hy206
           clear hy206
           have H' := aM H
           clear H
           have p205 : 0 ≤ (qA : Int) := of_decide_eq_true za
           have q205 : qA < (l0.length : Int) := of_decide_eq_true za
           obtain ⟨ad205, e205, hx205_0⟩ := Kd.at_int HR0.out qA p205 q205
           cases e205
           replace hx205_0 := (HB.out.cell (World.block_lt_of_cell? w _ hx205_0)).trans hx205_0
           replace p205 := eq_true p205
           replace q205 := eq_true q205
           have p13 : 0 ≤ (qA : Int) := of_decide_eq_true za
           have q13 : (qA : Int) < ((qB.length : Int) : Int) := of_decide_eq_true za
           obtain ⟨go13, qK, eo13, qF, gl13, cl13, HG13⟩ := Kd.R_form qC.out (by omega)
           (first | cases eo13 | (injection eo13 with ea_ en_ ec_; (first | subst ea_ | (injection ea_ with ea_; subst ea_)); subst ec_; clear en_))
           have GB13 := aM qF
           have GG13 := aM HG13
           clear qF gl13 HG13
           obtain ⟨hx13_0, hf13_0⟩ := Kd.R_celln 0 qC.out (qA : Int) p13 q13
           replace p13 := eq_true p13
           replace q13 := eq_true q13
           have HP14 := Kd.R_putg qC.out (qA : Int) ((IntKind.u64.wrap (Int.tdiv (Go.bits .or .u64 (IntKind.u64.wrap (qD * 4294967296)) (IntKind.u64.wrap (rd l0 qA))) (IntKind.u64.wrap (a1)))) % 4294967296)
           go_wp2_with (first | ((with_reducible refine gate_store (t := 76) (p := 37) rfl ?_); refine store_event (t := 76) (p := 37) (v := ?vo_w15) (w1 := (wr.setCell ⟨go13, (qA : Int).toNat, none⟩ (.int .u32 ((IntKind.u64.wrap (Int.tdiv (Go.bits .or .u64 (IntKind.u64.wrap (qD * 4294967296)) (IntKind.u64.wrap (rd l0 qA))) (IntKind.u64.wrap (a1)))) % 4294967296)))) ?hg ?ho ?hn ?hr ?_; (case ho => rfl); (case hg => rfl); (case hn => rfl); (case hr => first | (go_simp; done) | (go_simp; rfl)); intro w15 hw; have hg : wr.grownBy w15 (some go13) := (by rw [hw]; exact HP14.2); have hp_ : Kd.R (Kd.int .u32) 76 w15 w.heap.size (fun k_ => (w.heap.size ≤ k_)) (.slice (some ⟨go13, 0, none⟩) qB.length qK) y206 := (by rw [hw, Ny206.out]; exact HP14.1); clear HP14; replace qC := aM (hp_); replace HB := aM ((by rw [hw]; exact below_set (HB.out) GB13.out : Below w.heap.size w w15)); clear hg hw hp_))
           go_roundg k1
           case measure => have := HK1.out; omega
           case rel => exact ⟨(y206), (Int.tmod (Go.bits .or .u64 (IntKind.u64.wrap (qD * 4294967296)) (IntKind.u64.wrap (rd l0 qA))) (IntKind.u64.wrap (a1))), (wrap64 (qA - 1)), zT, zT, H', ⟨by have := HK1.out; omega⟩, ⟨lR qC⟩, ⟨zB HB⟩⟩
          ·rw [if_neg c12] at H
           exact absurd H (by simp)
        ·rw [if_neg c10] at H
         exact absurd H (by simp)
       ·rw [if_neg c9] at H
        exact absurd H (by simp)
      ·rw [if_neg c8] at H
       have c8b0 := decide_eq_false c8
       clear c8
       replace H := zbs H
       obtain ⟨qE, A160, H⟩ := H
       replace H : (some (qE, (qD) % 4294967296, 0)) = some (r1, r2, r3) := H
       have A16 := aM A160
       clear A160
       simp only [Option.some.injEq, Prod.mk.injEq] at H
       obtain ⟨rfl, rfl, rfl⟩ := H
       obtain ⟨qG, qH, eo17⟩ := Kd.R_slice qC.out
       subst eo17
       go_wp2_with (first | ((with_reducible refine gate_callee (f := 65) rfl ?_); refine z13_ (some 43) rfl rfl Tryd.func65 zk rfl #[.slice qG qB.length qH] rfl zA ?_; (with_reducible refine (limb_trim.calls k1 (fun k_ => some k_ = (.slice qG qB.length qH : Value).ownBlock) _ _ qB qE _ ?side1 A16.out).mono ?_); (case side1 => exact Kd.R_V (Kd.R_tight rfl (qC.out))); rintro e w18 ⟨v208, rfl, ho0, hb⟩; refine ⟨_, rfl, ?_⟩; have qJ := aM (Kd.V_lower (Kd.V_mono (ok' := fun k_ => (w.heap.size ≤ k_)) ho0 (fun k_ hk_ => Or.elim hk_ (fun hs_ => ((qC.out).1 k_ hs_.symm)) (fun hn_ => (Nat.le_trans (z4_ (lB HB)) hn_)))) (z4_ (lB HB))); replace qC := aM (Kd.z7_ (lR qC) hb); replace HB := aM (z6_ (lB HB) hb); (try clear hb); (try clear ho0)))
       go_ret3
       exact ⟨_, zE, by (with_reducible repeat (first | apply Kd.V_alloc | apply Kd.V_drewN | apply Kd.V_drew)); exact qJ.out, zB HB⟩
   ·rw [if_neg c5] at H
    exact absurd H (by simp)
  ·rw [if_neg c4] at H
   exact absurd H (by simp)
end Go.Proofs.YtakmkhokbcjapaaDoor.XA
end
section
namespace Go.Proofs
open Go.Shelf
def Tryd.lays161_ren : Go.Shelf.Ren := ⟨fun | 161 => 67 | 231 => 70 | 227 => 71 | 233 => 72 | 235 => 73 | 228 => 75 | 197 => 76 | 151 => 77 | 260 => 79 | 152 => 80 | 137 => 81 | 119 => 82 | 224 => 83 | 225 => 84 | 217 => 85 | 266 => 86 | n => n, fun | 9 => 9 | 4 => 4 | 3 => 3 | 5 => 5 | 117 => 120 | 116 => 119 | 0 => 0 | 124 => 123 | 105 => 126 | 21 => 21 | 119 => 132 | 46 => 77 | 139 => 135 | 138 => 134 | n => n, fun | 3 => 0 | 4 => 1 | n => n⟩
theorem Tryd.lays161 : Go.Proofs.Lays.n161 Tryd.prog Tryd.lays161_ren := {
  mixed := by kernel_rfl
  f119 := Tryd.func82.trans (congrArg some (by kernel_rfl))
  f137 := Tryd.func81.trans (congrArg some (by kernel_rfl))
  f151 := Tryd.func77.trans (congrArg some (by kernel_rfl))
  f152 := Tryd.func80.trans (congrArg some (by kernel_rfl))
  f161 := Tryd.func67.trans (congrArg some (by kernel_rfl))
  f197 := Tryd.func76.trans (congrArg some (by kernel_rfl))
  f217 := Tryd.func85.trans (congrArg some (by kernel_rfl))
  f224 := Tryd.func83.trans (congrArg some (by kernel_rfl))
  f225 := Tryd.func84.trans (congrArg some (by kernel_rfl))
  f227 := Tryd.func71.trans (congrArg some (by kernel_rfl))
  f228 := Tryd.func75.trans (congrArg some (by kernel_rfl))
  f231 := Tryd.func70.trans (congrArg some (by kernel_rfl))
  f233 := Tryd.func72.trans (congrArg some (by kernel_rfl))
  f235 := Tryd.func73.trans (congrArg some (by kernel_rfl))
  f260 := Tryd.func79.trans (congrArg some (by kernel_rfl))
  f266 := Tryd.func86.trans (congrArg some (by kernel_rfl))
  t0 := Tryd.underlying0
  a0 := Tryd.isAgg0
  z0 := Tryd.sizeOf0
  v0 := Tryd.zeroValue0
  t3 := Tryd.underlying3
  a3 := Tryd.isAgg3
  z3 := Tryd.sizeOf3
  v3 := Tryd.zeroValue3
  t4 := Tryd.underlying4
  a4 := Tryd.isAgg4
  z4 := Tryd.sizeOf4
  v4 := Tryd.zeroValue4
  t5 := Tryd.underlying5
  a5 := Tryd.isAgg5
  z5 := Tryd.sizeOf5
  v5 := Tryd.zeroValue5
  t9 := Tryd.underlying9
  a9 := Tryd.isAgg9
  z9 := Tryd.sizeOf9
  v9 := Tryd.zeroValue9
  t21 := Tryd.underlying21
  a21 := Tryd.isAgg21
  z21 := Tryd.sizeOf21
  v21 := Tryd.zeroValue21
  t46 := Tryd.underlying77
  a46 := Tryd.isAgg77
  z46 := Tryd.sizeOf77
  v46 := Tryd.zeroValue77
  t105 := Tryd.underlying126
  a105 := Tryd.isAgg126
  z105 := Tryd.sizeOf126
  v105 := Tryd.zeroValue126
  t116 := Tryd.underlying119
  a116 := Tryd.isAgg119
  z116 := Tryd.sizeOf119
  t117 := Tryd.underlying120
  a117 := Tryd.isAgg120
  z117 := Tryd.sizeOf120
  v117 := Tryd.zeroValue120
  t119 := Tryd.underlying132
  a119 := Tryd.isAgg132
  z119 := Tryd.sizeOf132
  t124 := Tryd.underlying123
  a124 := Tryd.isAgg123
  z124 := Tryd.sizeOf123
  v124 := Tryd.zeroValue123
  t138 := Tryd.underlying134
  a138 := Tryd.isAgg134
  z138 := Tryd.sizeOf134
  v138 := Tryd.zeroValue134
  t139 := Tryd.underlying135
  a139 := Tryd.isAgg135
  z139 := Tryd.sizeOf135
  v139 := Tryd.zeroValue135
  g3 := by kernel_rfl
  g4 := by kernel_rfl }
def Tryd.lays169_ren : Go.Shelf.Ren := ⟨fun | 169 => 69 | n => n, fun | 70 => 108 | 9 => 9 | 0 => 0 | 72 => 110 | 37 => 89 | 127 => 124 | 3 => 3 | 5 => 5 | n => n, fun | n => n⟩
theorem Tryd.lays169 : Go.Proofs.Lays.n169 Tryd.prog Tryd.lays169_ren := {
  mixed := by kernel_rfl
  f169 := Tryd.func69.trans (congrArg some (by kernel_rfl))
  t0 := Tryd.underlying0
  a0 := Tryd.isAgg0
  z0 := Tryd.sizeOf0
  v0 := Tryd.zeroValue0
  t3 := Tryd.underlying3
  a3 := Tryd.isAgg3
  z3 := Tryd.sizeOf3
  v3 := Tryd.zeroValue3
  t9 := Tryd.underlying9
  a9 := Tryd.isAgg9
  z9 := Tryd.sizeOf9
  v9 := Tryd.zeroValue9
  t37 := Tryd.underlying89
  a37 := Tryd.isAgg89
  z37 := Tryd.sizeOf89
  v37 := Tryd.zeroValue89
  t70 := Tryd.underlying108
  a70 := Tryd.isAgg108
  z70 := Tryd.sizeOf108
  v70 := Tryd.zeroValue108
  t72 := Tryd.underlying110
  a72 := Tryd.isAgg110
  z72 := Tryd.sizeOf110
  v72 := Tryd.zeroValue110
  t127 := Tryd.underlying124
  a127 := Tryd.isAgg124
  z127 := Tryd.sizeOf124
  v127 := Tryd.zeroValue124 }
theorem Tryd.Builder_Extra_169 : Builder.Extra Tryd.prog Tryd.lays169_ren := {
  sizeBuilder := by kernel_rfl
  liesBuilder := by kernel_rfl
  t5 := Tryd.underlying5
  a5 := Tryd.isAgg5
  z5 := Tryd.sizeOf5
  v5 := Tryd.zeroValue5
  infoByte := by kernel_rfl
  cellsByte := by kernel_rfl
  sizeByte := by kernel_rfl
  neB5 := by decide }
open Go.RowKit in
theorem Tryd.Builder_String_any (B b : Nat) (l : List UInt8) (w : World) (h : Lib.IsBuilder 110 5 B b (Lib.byteCells l) w) (hBw : B ≤ w.heap.size) :
    Calls Tryd.prog 69 #[.pointer (some ⟨b, 0, none⟩)] w fun e w' => e = .returned (.string ⟨l.toArray⟩) ∧ Below B w w' := Any.Builder_String_any Tryd.lays169 Tryd.Builder_Extra_169 B b l w h hBw
open Go.RowKit in
theorem Tryd.strings_TrimLeft_one (s : ByteArray) (c : UInt8) (hc : c.toNat < 128) (w : World) :
    Calls Tryd.prog 67 #[.string s, .string ⟨#[c]⟩] w fun e w' => e = .returned (.string ⟨(Lib.trimLeftB s.data.toList c).toArray⟩) ∧ w' = w := Any.strings_TrimLeft_one Tryd.lays161 s c hc w
end Go.Proofs
end
section
namespace Go.Proofs.YtakmkhokbcjapaaDoor.XA
open Go.Proofs.YtakmkhokbcjapaaDoor.Lift Go.RowKit Go.Proofs.YtakmkhokbcjapaaDoorW.PrintWords Go.Proofs.YtakmkhokbcjapaaDoorW.PrintLast Go.Proofs.YtakmkhokbcjapaaDoorW.PrintMore
attribute [local go_sem] max2_int min2_int max_two min_two max_three min_three max_four min_four
--IMPORT Derived.Test.YtakmkhokbcjapaaDoorShelf
set_option maxHeartbeats 2000000 in
theorem limb_copyCheck (B b : Nat) (bs : List Value) (w : World) (h : Lib.IsBuilder 110 5 B b bs w) :
  Calls Tryd.prog 74 #[.pointer (some ⟨b, 0, none⟩)] w fun e w' => e = .returned (.tuple #[]) ∧ (Lib.BuilderAt 110 5 B b (.pointer (some ⟨b, 0, none⟩)) bs w' ∧ Below B w w') := by
 obtain ⟨j, hj, hjs⟩ := Option.map_eq_some_iff.1 (show (Tryd.prog.info? 110).map (·.size) = some 2 by kernel_rfl)
 rcases h with h | h
 ·have fresh : Calls Tryd.prog 74 #[.pointer (some ⟨b, 0, none⟩)] w fun e w' => e = .returned (.tuple #[]) ∧ w' = w.setCell ⟨b, 0, none⟩ (.pointer (some ⟨b, 0, none⟩)) := by
   have h0 := h.cell0
   have hsh := h.shape
   have hfz := h.frozen0
   go_enter Tryd.func74, Tryd.ntmps74
   go_wp2
   rw [Lib.run_to_unsafe w ⟨b, 0, none⟩ Tryd.underlying108 Tryd.underlying129 hj (by rw [hjs]; decide) hsh (Nat.zero_lt_succ 1)]
   simp only [Result.andThen]
   rw [Oper.upon_value]
   go_wp2
   rw [run_callFunc_extern Tryd.func78 zk zk zk (e := Extern.AbiNoEscape.same) zk]
   rw [Lib.run_noEscape]
   simp only [Result.andThen]
   rw [Oper.upon_value]
   go_wp2
   rw [Lib.run_from_unsafe w ⟨b, 0, none⟩ Tryd.underlying129 Tryd.underlying108 hj hsh (show liesAt Tryd.prog Tryd.prog.depth 110 (2 / Tryd.prog.cellsOf 110) 0 110 1 = true by kernel_rfl)]
   simp only [Result.andThen]
   rw [Oper.upon_value]
   go_wp2
   go_end0
   exact ⟨rfl, rfl⟩
  refine fresh.mono ?_
  rintro e w' ⟨rfl, rfl⟩
  exact ⟨rfl, h.used _, (Below.refl B w).setCell (p := ⟨b, 0, none⟩) h.1 _⟩
 ·have used : Calls Tryd.prog 74 #[.pointer (some ⟨b, 0, none⟩)] w fun e w' => e = .returned (.tuple #[]) ∧ w' = w := by
   have h0 := h.cell0
   go_enter Tryd.func74, Tryd.ntmps74
   go_wp2
   rw [Lib.run_neq_ptr_same w _ Tryd.underlying108 hj]
   go_wp2
   go_end0
   exact ⟨rfl, rfl⟩
  refine used.mono ?_
  rintro e w' ⟨rfl, rfl⟩
  exact ⟨rfl, h, Below.refl B _⟩
set_option maxHeartbeats 2000000 in
theorem limb_WriteString (B b : Nat) (bs : List Value) (s : ByteArray) (w : World) (h : Lib.IsBuilder 110 5 B b bs w) (hlen : bs.length + s.size ≤ 140737488355328) (hBw : B ≤ w.heap.size) :
  Calls Tryd.prog 68 #[.pointer (some ⟨b, 0, none⟩), .string s] w fun e w' => e = .returned (.tuple #[.int .i64 s.size, .nilIface]) ∧ (Lib.BuilderAt 110 5 B b (.pointer (some ⟨b, 0, none⟩)) (bs ++ Lib.strCells s) w' ∧ Below B w w') := by
 obtain ⟨i0, hi, hz0, hz1, hz2⟩ := info_parts (show (Tryd.prog.info? 5).map (fun i => (i.zero, i.size, i.bytes)) = some (some (.int .u8 0), 1, 1) by kernel_rfl)
 go_enter Tryd.func68, Tryd.ntmps68
 go_wp2_with (go_at_call 74; refine (limb_copyCheck B b bs _ h).mono ?_)
 rintro e w1 ⟨rfl, h1, hb1⟩
 obtain ⟨hB, v, hbk, hown, hne⟩ := h1
 have c0 : w1.cell? ⟨b, 0, none⟩ = some (.pointer (some ⟨b, 0, none⟩)) := by rw [Lib.cell_of_heap hbk]; rfl
 have c1 : w1.cell? ⟨b, 1, none⟩ = some v := by rw [Lib.cell_of_heap hbk]; rfl
 go_wp2_with (at_builtin; refine Lib.wpList_append_own_string _ rfl _ _ 89 9 rfl B 5 i0 Tryd.underlying89 Tryd.underlying9 hi hz0 hz1 hz2 _ _ _ rfl hown s rfl ?c3 ?c4 ?c5 ?_)
 case c3 => unfold maxLen; omega
 case c4 => omega
 case c5 => have := hb1.size; omega
 intro v' w2 hown' hgrow _
 have hlt : b < w1.heap.size := by
  rcases Nat.lt_or_ge b w1.heap.size with h' | h'
  ·exact h'
  ·simp [Array.getElem?_eq_none h'] at hbk
 have hb2 : w2.heap[b]? = some (.cells #[.pointer (some ⟨b, 0, none⟩), v] 110 (0, 0)) := by
  rw [hgrow.block b hlt (fun e => hne e.symm)]
  exact hbk
 have d0 : w2.cell? ⟨b, 0, none⟩ = some (.pointer (some ⟨b, 0, none⟩)) := by rw [Lib.cell_of_heap hb2]; rfl
 have d1 : w2.cell? ⟨b, 1, none⟩ = some v := by rw [Lib.cell_of_heap hb2]; rfl
 have f1 : w2.frozen? ⟨b, 1, none⟩ = false := Lib.frozen_of_heap hb2 1
 obtain ⟨ao, n', cap, rfl⟩ : ∃ ao n' cap, v' = .slice ao n' cap := by
  rcases hown'.2 with ⟨hv, _⟩ | ⟨g, cap, cur, hv, _⟩
  ·exact ⟨_, _, _, hv⟩
  ·exact ⟨_, _, _, hv⟩
 go_wp2
 go_ret2
 refine ⟨rfl, ?_, ?_⟩
 ·exact Lib.BuilderAt.put (T := 110) (e := 5) hB hb2 (bs' := bs ++ Lib.strCells s) (by simpa [Lib.strCells_length] using hown') (by decide)
 ·exact (hb1.grown hgrow (by have := hb1.size; omega) (fun k hk => (hown.lt k hk).1)).setCell (p := ⟨b, 1, none⟩) hB _
def dg (p : Int) (i : Nat) : Int := 48 + (p / 10 ^ (8 - i)) % 10
def buf9 (p : Int) (j : Nat) : Array Value := ((List.range 9).map fun i => Value.int .u8 (if 9 - j ≤ i then dg p i else 0)).toArray
def digs9 (p : Int) : List Int := (List.range 9).map (dg p)
def by9 (p : Int) : List UInt8 := (digs9 p).map fun n => UInt8.ofNat n.toNat
def limbrev : List Int → List UInt8
 | [] => []
 | p :: r => Lib.trimLeftB (by9 p) 48 ++ r.flatMap by9
def limbtxt (ps : List Int) : ByteArray := ⟨(limbrev ps.reverse).toArray⟩
theorem buf9_step (p : Int) : ∀ j, j < 9 → (buf9 p j).setIfInBounds (8 - j) (.int .u8 (48 + (p / 10 ^ j) % 10)) = buf9 p (j + 1) := by
 intro j hj
 match j, hj with
 | 0, _ => rfl
 | 1, _ => rfl
 | 2, _ => rfl
 | 3, _ => rfl
 | 4, _ => rfl
 | 5, _ => rfl
 | 6, _ => rfl
 | 7, _ => rfl
 | 8, _ => rfl
theorem buf9_zero (p : Int) : buf9 p 0 = #[.int .u8 0, .int .u8 0, .int .u8 0, .int .u8 0, .int .u8 0, .int .u8 0, .int .u8 0, .int .u8 0, .int .u8 0] := rfl
theorem buf9_size (p : Int) (j : Nat) : (buf9 p j).size = 9 := by simp [buf9]
theorem buf9_full (p : Int) (i : Nat) (hi : i < 9) : (buf9 p 9)[i]? = some (.int .u8 ((digs9 p).getD i 0)) := by
 match i, hi with
 | 0, _ => rfl
 | 1, _ => rfl
 | 2, _ => rfl
 | 3, _ => rfl
 | 4, _ => rfl
 | 5, _ => rfl
 | 6, _ => rfl
 | 7, _ => rfl
 | 8, _ => rfl
theorem limbrev_snoc (l : List Int) (p : Int) (h : l ≠ []) : limbrev (l ++ [p]) = limbrev l ++ by9 p := by
 cases l with
 | nil => exact absurd rfl h
 | cons q r => simp [limbrev, List.flatMap_append]
theorem builder_below {T e : TypeId} {B b : Nat} {bs : List Value} {w w' : World} (h : Lib.IsBuilder T e B b bs w) (hb : Below w.heap.size w w') : Lib.IsBuilder T e B b bs w' := by
 have step : ∀ p, Lib.BuilderAt T e B b p bs w → Lib.BuilderAt T e B b p bs w' := by
  intro p hA
  have hlt := hA.lt
  obtain ⟨h0, v, h1, h2, h3⟩ := hA
  exact ⟨h0, v, (hb.block b hlt).trans h1, pw_own_below h2 hb, h3⟩
 rcases h with h | h
 ·exact .inl (step _ h)
 ·exact .inr (step _ h)
theorem strOfNums_digs9 (p : Int) : (strOfNums (digs9 p)).data.toList = by9 p := rfl
theorem limb_take (l : List Int) (j : Nat) (hj : j < l.length) (i : Int) (hi : (l.length : Int) - 1 - j = i) : l.reverse.take (j + 1) = l.reverse.take j ++ [rd l i] := by
 rw [List.take_succ_eq_append_getElem (by simpa using hj)]
 congr 2
 unfold rd
 rw [List.getElem_reverse, List.getD_eq_getElem?_getD, List.getElem?_eq_getElem (by omega)]
 simp only [Option.getD_some]
 congr 1
 omega
theorem byteCells_app (a b : List UInt8) : Lib.byteCells a ++ Lib.byteCells b = Lib.byteCells (a ++ b) := by simp [Lib.byteCells]
theorem limbrev_len (l : List Int) : (limbrev l).length ≤ 9 * l.length := by
 have hd : ∀ p, (by9 p).length = 9 := fun p => by simp [by9, digs9]
 cases l with
 | nil => simp [limbrev]
 | cons p r =>
  have h1 : (Lib.trimLeftB (by9 p) 48).length ≤ 9 := by rw [← hd p]; exact (List.dropWhile_sublist _).length_le
  have h2 : (r.flatMap by9).length = 9 * r.length := by
   induction r with
   | nil => rfl
   | cons q r ih => rw [List.flatMap_cons, List.length_append, hd, ih, List.length_cons]; omega
  simp only [limbrev, List.length_append, List.length_cons, h2]
  omega
def limb_Text.l0 : Nat → List Int → List Int → Option (ByteArray)
 | 0, _, _ => none
 | k + 1, x3, x4 => if (x4.length : Int) > 0 then ((limb_DivSmall.f k x4 1000000000).bind fun bt213 => (if x3.length < 35184372088832 then (limb_Text.l0 k (x3 ++ [bt213.2.1]) bt213.1) else (none))) else (if (x3.length : Int) = 0 then (some (⟨#[48]⟩ : ByteArray)) else (if 9 * x3.length ≤ 140737488355000 ∧ (x3.all fun p => decide (0 ≤ p ∧ p < 1000000000)) = true then some (limbtxt x3) else none))
def limb_Text.f (k : Nat) (l0 : List Int) : Option (ByteArray) := (limb_Norm.f k l0).bind fun qE => (limb_Text.l0 k ([] : List Int) qE)
theorem limb_Text.mono_l : ∀ k, (∀ y0 y1, LeO (limb_Text.l0 k y0 y1) (limb_Text.l0 (k + 1) y0 y1))
 | 0 => fun _ _ r h => by simp [limb_Text.l0] at h
 | k + 1 => by
  have ih0 := limb_Text.mono_l k
  ·intro y0 y1
   unfold limb_Text.l0
   have im0 := @limb_DivSmall.mono; have im1 := @limb_Norm.mono; exact zM
theorem limb_Text.mono : ∀ a0 k, LeO (limb_Text.f k a0) (limb_Text.f (k + 1) a0) := by
 intro a0 k
 have ih0 := limb_Text.mono_l k
 unfold limb_Text.f
 have im0 := @limb_DivSmall.mono; have im1 := @limb_Norm.mono; exact zM
theorem limb_Text.calls (k : Nat) (A0 : Option Addr) (c0 : Nat) (l0 : List Int) (r : ByteArray) (w : World) (hr0 : Kd.C (Kd.int .u32) w A0 l0.length l0) (hc0 : l0.length ≤ c0) (h : limb_Text.f k l0 = some r) :
  Calls Tryd.prog 61 #[.slice A0 l0.length c0] w fun e w' => e = .returned (.string r) ∧ Below w.heap.size w w' := by
 have HR0 := aM hr0
 have HC0 := aM hc0
 clear hr0 hc0
 have HB := aM (Below.refl w.heap.size w)
 have H : ((limb_Norm.f k l0).bind fun qE => (limb_Text.l0 k ([] : List Int) qE)) = some r := h
 clear h
 replace H := zbs H
 obtain ⟨qE, A20, H⟩ := H
 replace H : (limb_Text.l0 k ([] : List Int) qE) = some r := H
 have A2 := aM A20
 clear A20
 have H' := aM H
 clear H
 go_enter Tryd.func61, Tryd.ntmps61
 go_wp2_with (first | ((with_reducible refine gate_callee (f := 52) rfl ?_); refine z13_ (some 15) rfl rfl Tryd.func52 zk rfl #[.slice A0 l0.length c0] rfl zA ?_; (with_reducible refine (limb_Norm.calls k _ _ l0 qE _ ?side1 ?side2 A2.out).mono ?_); (case side1 => refine lY ?_; exact HR0.out); (case side2 => exact HC0.out); rintro e w3 ⟨v211, rfl, ho0, hb⟩; refine ⟨_, rfl, ?_⟩; have qI := aM (Kd.z20_ ho0 (z4_ (lB HB))); replace HB := aM (z6_ (lB HB) hb); (try clear hb); (try clear ho0)))
 go_loopg [3, 4] k (fun kq v3 v4 w' => ∃ (qA : List Int) (qD : List Int), Aside0 (limb_Text.l0 kq qA qD = some r) ∧ Aside0 (kq ≤ k) ∧ Aside0 (Kd.R (Kd.int .u32) 76 w' w.heap.size (fun _ => True) v3 qA) ∧ Aside0 (Kd.V (Kd.int .u32) 76 w' w.heap.size (fun k_ => some k_ ≠ (v3 : Value).ownBlock) v4 qD) ∧ Aside0 (Below w.heap.size w w'))
 case atStart => exact ⟨(([] : List Int)), (qE), H', ⟨Nat.le_refl _⟩, ⟨zn⟩, ⟨Kd.R_V (by apply rX; exact Kd.z0_ qI.out (fun _ hk => (by simp [Value.ownBlock])))⟩, ⟨zB HB⟩⟩
 case round =>
  clear H'
  obtain ⟨qA, qD, HA, HK1, qC, qB, HB⟩ := hrel
  cases gk with
  | zero => exact absurd HA.out (by simp [limb_Text.l0])
  | succ k1 =>
   have H := HA.out
   clear HA
   simp only [limb_Text.l0] at H
   by_cases c4 : (qD.length : Int) > 0
   ·rw [if_pos c4] at H
    have c4b0 := decide_eq_true c4
    have c4b1 : decide (0 < qD.length) = true := decide_eq_true (by omega)
    clear c4
    replace H := zbs H
    obtain ⟨⟨qG, qF, qK⟩, A50, H⟩ := H
    replace H : (if qA.length < 35184372088832 then (limb_Text.l0 k1 (qA ++ [qF]) qG) else (none)) = some r := H
    have A5 := aM A50
    clear A50
    by_cases c6 : qA.length < 35184372088832
    ·rw [if_pos c6] at H
     have LMc6 := aM c6
     clear c6
     obtain ⟨y218, hy218⟩ : ∃ y_ : List Int, y_ = (qA ++ [qF]) := ⟨_, rfl⟩
     replace H : (limb_Text.l0 k1 y218 qG) = some r := zH hy218 H
     have Ny218 := aM hy218
     clear hy218
     have H' := aM H
     clear H
     obtain ⟨Ao7, co7, eo7⟩ := Kd.V_slice qB.out
     subst eo7
     go_wp2_with (first | ((with_reducible refine gate_callee (f := 66) rfl ?_); refine z13_ (some 21) rfl rfl Tryd.func66 zk rfl #[.slice Ao7 qD.length co7, .int .u32 1000000000] rfl zA ?_; (with_reducible refine (limb_DivSmall.calls k1 _ _ qD 1000000000 qG qF qK _ ?side1 ?side2 A5.out).mono ?_); (case side1 => refine lY ?_; exact (Kd.V_reads' qB.out).2.2); (case side2 => exact (Kd.V_reads' qB.out).2.1); rintro e w8 ⟨v214, rfl, ho0, hb⟩; refine ⟨_, rfl, ?_⟩; replace qB := aM (Kd.V_below (lV qB) hb); have qH := aM (Kd.V_lower (Kd.V_mono (ok' := fun k_ => some k_ ≠ (u3 : Value).ownBlock) ho0 (fun k_ hk_ => (Kd.fresh' (Kd.R_lt (lR qC)) k_ hk_))) (z4_ (lB HB))); replace qC := aM (Kd.z7_ (lR qC) hb); replace HB := aM (z6_ (lB HB) hb); (try clear hb); (try clear ho0)) | ((with_reducible refine gate_builtin (b := .append) (xs := #[.tmp 25, .tmp 27]) rfl ?_); at_builtin; refine Kd.R_append (Kd.int .u32) (w0 := w) w.heap.size rfl (.tmp 25) (.tmp 27) 37 76 (.int .u32 0) 4 rfl Tryd.underlying37 info76 rfl (by decide) (by omega) u3 qA qF [.int .u32 qF] (fun _ => True) (fun _ => False) rfl rfl ?aP (fun _ hk => hk.elim) ?aF ?aO ?aB ?aS ?aL ?_; (case aP => exact rfl); (case aB => exact (lB HB)); (case aF => exact (fun _ _ => trivial)); (case aO => exact (lR qC)); (case aS => exact (z4_ (lB HB))); (case aL => have := LMc6.out; omega); intro v219 w9 ho hb hg hat; rw [← Ny218.out] at ho; replace qB := aM (Kd.V_afterv (ok := (fun _ => True)) (by (with_reducible repeat (first | apply Kd.V_alloc | apply Kd.V_drewN | apply Kd.V_drew)); exact Kd.V_mono qB.out (fun _ hk => ⟨trivial, hk⟩)) hg hat); replace qH := aM (Kd.V_afterv (ok := (fun _ => True)) (by (with_reducible repeat (first | apply Kd.V_alloc | apply Kd.V_drewN | apply Kd.V_drew)); exact Kd.V_mono qH.out (fun _ hk => ⟨trivial, hk⟩)) hg hat); replace HB := aM (hb); have qJ := aM (ho); clear qC; clear ho hb hg hat))
     go_roundg k1
     case measure => have := HK1.out; omega
     case rel => exact ⟨(y218), (qG), H', ⟨by have := HK1.out; omega⟩, ⟨lR qJ⟩, ⟨by (with_reducible repeat (first | apply Kd.V_alloc | apply Kd.V_drewN | apply Kd.V_drew)); exact Kd.V_mono qH.out (fun _ hk => hk.2)⟩, ⟨zB HB⟩⟩
    ·rw [if_neg c6] at H
     exact absurd H (by simp)
   ·rw [if_neg c4] at H
    have c4b0 := decide_eq_false c4
    have c4b1 : decide (0 < qD.length) = false := decide_eq_false (by omega)
    clear c4
    by_cases c10 : (qA.length : Int) = 0
    ·rw [if_pos c10] at H
     have c10b0 : ((qA.length : Int) == 0) = true := beq_iff_eq.mpr c10
     have c10b1 : ((qA.length : Int) != 0) = false := bne_eq_false_iff_eq.mpr c10
     clear c10
     obtain rfl := Option.some.inj H
     obtain ⟨qL, qM, eo11⟩ := Kd.V_slice qB.out
     subst eo11
     obtain ⟨qN, qO, eo12⟩ := Kd.R_slice qC.out
     subst eo12
     go_wp2
     go_ret
     exact ⟨zE, zB HB⟩
    ·rw [if_neg c10] at H
     have c10b0 : ((qA.length : Int) == 0) = false := beq_eq_false_iff_ne.mpr c10
     have c10b1 : ((qA.length : Int) != 0) = true := bne_iff_ne.mpr c10
     have c10b2 : ¬ (qA = []) := fun h_ => c10 (by rw [h_]; rfl)
     obtain ⟨qP, qQ, eo13⟩ := Kd.V_slice qB.out
     subst eo13
     obtain ⟨Ao, co, eo⟩ := Kd.R_slice qC.out
     subst eo
     have hn45 : 9 * qA.length ≤ 140737488355000 ∧ (qA.all fun p => decide (0 ≤ p ∧ p < 1000000000)) = true := by
      by_cases hn : 9 * qA.length ≤ 140737488355000 ∧ (qA.all fun p => decide (0 ≤ p ∧ p < 1000000000)) = true
      ·exact hn
      ·rw [if_neg hn] at H; cases H
     rw [if_pos hn45] at H
     obtain rfl := Option.some.inj H
     have hps := (Kd.z9_ qC.out).2.2
     have hne : qA ≠ [] := c10b2
     clear H c10
     have HP := aM hps
     have HN := aM hn45
     have HE := aM hne
     clear hps hn45 hne c10b2 qC qB HK1
     have hw64 : wrap64 ((qA.length : Int) - 1) = (qA.length : Int) - 1 := by
      have h1 := HN.out.1
      unfold wrap64
      omega
     obtain ⟨W0, rfl⟩ : ∃ W0, W0 = wr := ⟨wr, rfl⟩
     go_wp2
     have HBb := aM (Lib.fresh_isBuilder 110 5 W0)
     go_loopw [9] (fun v9 w3 => ∃ j : Nat, j ≤ qA.length ∧ v9 = .int .i64 ((qA.length : Int) - 1 - j) ∧ Aside0 (Lib.IsBuilder 110 5 W0.heap.size W0.heap.size (Lib.byteCells (limbrev (qA.reverse.take j))) w3) ∧ Aside0 (Below W0.heap.size W0 w3)) (fun v9 _ => (intOf v9 + 1).toNat)
     case atStart =>
      refine ⟨0, by omega, ?_, ⟨?_⟩, ⟨below_alloc (Below.refl _ _) _⟩⟩
      ·have h1 := HN.out.1
       have h2 : 0 < qA.length := List.length_pos_iff.2 HE.out
       unfold wrap64
       congr 1
       omega
      ·have := HBb.out
       simpa [limbrev, Lib.byteCells] using this
     case round =>
      clear HBb
      obtain ⟨j, hj, rfl, HBd, HW⟩ := hrel
      have HJ := aM hj
      clear hj
      by_cases hlt : j < qA.length
      ·have t1 : decide ((0 : Int) ≤ (qA.length : Int) - 1 - j) = true := decide_eq_true (by omega)
       obtain ⟨i, hi⟩ : ∃ i : Int, (qA.length : Int) - 1 - j = i := ⟨_, rfl⟩
       rw [hi] at t1
       have HI := aM hi
       have i0 : 0 ≤ i := by omega
       have i1 : i < (qA.length : Int) := by omega
       rw [hi]
       obtain ⟨ad, hA, hcell⟩ := Kd.at_int HP.out i i0 i1
       cases hA
       obtain ⟨p, hp⟩ : ∃ p, rd qA i = p := ⟨_, rfl⟩
       rw [hp] at hcell
       have HQ := aM hp
       have hpb : 0 ≤ p ∧ p < 1000000000 := by
        have hm : p ∈ qA := by
         rw [← hp]
         unfold rd
         rw [List.getD_eq_getElem?_getD, List.getElem?_eq_getElem (by omega)]
         exact List.getElem_mem _
        have := List.all_eq_true.1 HN.out.2 p hm
        simpa using this
       have HPB := aM hpb
       replace hcell := (HW.out.cell (World.block_lt_of_cell? W0 _ hcell)).trans hcell
       replace i0 := eq_true i0
       replace i1 := eq_true i1
       have HLT := aM hlt
       clear hlt hi hp hpb
       have hlw : ad.block < wr.heap.size := by have := World.block_lt_of_cell? wr _ hcell; rwa [show (ad.add i.toNat).block = ad.block from by unfold Addr.add; split <;> rfl] at this
       have hcell2 : (wr.alloc (.cells #[.int .u8 0, .int .u8 0, .int .u8 0, .int .u8 0, .int .u8 0, .int .u8 0, .int .u8 0, .int .u8 0, .int .u8 0] 111)).cell? (ad.add i.toNat) = some (.int .u32 p) :=
        ((below_alloc (Below.refl wr.heap.size wr) _).cell (World.block_lt_of_cell? wr _ hcell)).trans hcell
       obtain ⟨W1, rfl⟩ : ∃ W1, W1 = wr := ⟨wr, rfl⟩
       go_wp2
       go_loopw [11, 12] (fun v11 v12 w4 => ∃ m : Nat, m ≤ 9 ∧ v11 = .int .u32 (p / 10 ^ m) ∧ v12 = .int .i64 (8 - m) ∧ Aside0 (w4.heap[W1.heap.size]? = some (.cells (buf9 p m) 111 (0, 0))) ∧ Aside0 (Below W1.heap.size W1 w4)) (fun _ v12 _ => (intOf v12 + 1).toNat)
       case atStart => exact ⟨0, by omega, by simp, rfl, ⟨by rw [buf9_zero]; exact Array.getElem?_push_size⟩, ⟨below_alloc (Below.refl _ _) _⟩⟩
       case round =>
        clear hcell hcell2
        obtain ⟨m, hm, rfl, rfl, HC, HW2⟩ := hrel
        have HM := aM hm
        clear hm
        by_cases hlt : m < 9
        ·obtain ⟨x, hx⟩ : ∃ x, p / 10 ^ m = x := ⟨_, rfl⟩
         have x0 : 0 ≤ x := by rw [← hx]; exact Int.ediv_nonneg HPB.out.1 (Int.pow_nonneg (by omega))
         have x1 : x < 1000000000 := by rw [← hx]; exact Int.lt_of_le_of_lt (Int.ediv_le_self _ HPB.out.1) HPB.out.2
         obtain ⟨kk, hkk⟩ : ∃ kk : Int, (8 : Int) - m = kk := ⟨_, rfl⟩
         rw [hx, hkk]
         have k0 : (0 : Int) ≤ kk := by omega
         have k1 : kk < 9 := by omega
         have t2 : decide ((0 : Int) ≤ kk) = true := decide_eq_true k0
         obtain ⟨ov, hov⟩ : ∃ ov, (buf9 p m)[kk.toNat]? = some ov := by rw [Array.getElem?_eq_getElem (by rw [buf9_size]; omega)]; exact ⟨_, rfl⟩
         have hcc := (Lib.cell_of_heap HC.out kk.toNat).trans hov
         clear hov
         have hfz := Lib.frozen_of_heap HC.out kk.toNat
         have HX := aM hx
         have HKK := aM hkk
         have HLT2 := aM hlt
         clear hx hkk hlt
         go_wp2
         refine ⟨⟨m + 1, by have := HLT2.out; omega, ?_, ?_, ⟨?_⟩, ⟨HW2.out.setCell (p := ⟨W1.heap.size, kk.toNat, none⟩) (Nat.le_refl _) _⟩⟩, ?_⟩
         ·rw [← HX.out, Int.pow_succ, Int.ediv_ediv_of_nonneg (Int.pow_nonneg (by omega))]
         ·have := HKK.out
          congr 1
          omega
         ·have h2 := blk_set HC.out kk.toNat (.int .u8 (48 + x % 10))
          rw [h2, show kk.toNat = 8 - m by have := HKK.out; have := HLT2.out; omega, ← HX.out, buf9_step p m HLT2.out]
         ·have h1 : intOf (Value.int .i64 (kk - 1)) = kk - 1 := rfl
          have h2 : intOf (Value.int .i64 kk) = kk := rfl
          rw [h1, h2]
          omega
        ·obtain rfl : m = 9 := by have := HM.out; omega
         have hcv := run_convert_bytes_arg (P := Tryd.prog) wr 89 5 Tryd.underlying89 Tryd.underlying5 W1.heap.size 0 9 9 (digs9 p) rfl (fun q hq => by rw [Lib.cell_of_heap HC.out, Nat.zero_add]; exact buf9_full p q hq) 9 Tryd.underlying9
         have HB1 := aM (builder_below HBd.out HW2.out)
         have hlen1 : (limbrev (qA.reverse.take j)).length ≤ 9 * j := by
          have h1 := limbrev_len (qA.reverse.take j)
          have h2 : (qA.reverse.take j).length ≤ j := List.length_take_le _ _
          omega
         have hjn := HLT.out
         have hn9 := HN.out.1
         have hW3 : W0.heap.size ≤ wr.heap.size := Nat.le_trans HW.out.size HW2.out.size
         have HL1 := aM hlen1
         have HW3 := aM hW3
         clear hlen1 hjn hn9 hW3
         by_cases hj0 : j = 0
         ·subst hj0
          have t3 : (i == (qA.length : Int) - 1) = true := by have := HI.out; rw [beq_iff_eq]; omega
          go_wp2_with (first | (go_at_call 67; refine (Tryd.strings_TrimLeft_one _ 48 (by decide) _).mono ?_; rintro e w5 ⟨rfl, rfl⟩) | (go_at_call 68; refine (limb_WriteString W0.heap.size W0.heap.size _ _ _ HB1.out ?hlen HW3.out).mono ?_; (case hlen => simp only [limbrev, List.take_zero, Lib.byteCells, List.map_nil, List.length_nil, Nat.zero_add]; have := HN.out.1; have := HLT.out; have h9 : ((Lib.trimLeftB (strOfNums (digs9 p)).data.toList 48).toArray).size ≤ 9 := (List.dropWhile_sublist _).length_le; exact Nat.le_trans h9 (by omega)); rintro e w6 ⟨rfl, hb6, hw6⟩))
          have HB6 := aM hb6
          have HW6 := aM hw6
          clear hb6 hw6
          refine ⟨?_, ?_⟩
          rotate_left
          ·have h1 := HN.out.1
           have h2 := HI.out
           have h3 := HLT.out
           have h4 : wrap64 (i - 1) = i - 1 := by unfold wrap64; omega
           show (intOf (Value.int .i64 (wrap64 (i - 1))) + 1).toNat < (intOf (Value.int .i64 i) + 1).toNat
           rw [h4]
           show (i - 1 + 1).toNat < (i + 1).toNat
           omega
          (repeat apply Exists.intro)
          refine ⟨?_, by first | rfl | rw [hw64]⟩
          refine ⟨1, by have := HLT.out; omega, ?_, ⟨.inr ?_⟩, ⟨(below_weaken HW.out HW.out.size HW2.out).trans HW6.out⟩⟩
          ·have h1 := HN.out.1
           have h2 := HI.out
           have h3 := HLT.out
           unfold wrap64
           congr 1
           omega
          ·have hb := HB6.out
           rw [limb_take qA 0 HLT.out i HI.out, HQ.out]
           simpa [limbrev, Lib.byteCells, Lib.strCells, strOfNums_digs9] using hb
         ·have t3 : (i == (qA.length : Int) - 1) = false := by have := HI.out; rw [beq_eq_false_iff_ne]; omega
          go_wp2_with (first | (go_at_call 68; refine (limb_WriteString W0.heap.size W0.heap.size _ _ _ HB1.out ?hlen HW3.out).mono ?_; (case hlen => have := HL1.out; have := HN.out.1; have := HLT.out; rw [Lib.byteCells_length, strOfNums_size]; have h9 : (digs9 p).length = 9 := rfl; omega); rintro e w6 ⟨rfl, hb6, hw6⟩))
          have HB6 := aM hb6
          have HW6 := aM hw6
          clear hb6 hw6
          refine ⟨?_, ?_⟩
          rotate_left
          ·have h1 := HN.out.1
           have h2 := HI.out
           have h3 := HLT.out
           have h4 : wrap64 (i - 1) = i - 1 := by unfold wrap64; omega
           show (intOf (Value.int .i64 (wrap64 (i - 1))) + 1).toNat < (intOf (Value.int .i64 i) + 1).toNat
           rw [h4]
           show (i - 1 + 1).toNat < (i + 1).toNat
           omega
          (repeat apply Exists.intro)
          refine ⟨?_, by first | rfl | rw [hw64]⟩
          refine ⟨j + 1, by have := HLT.out; omega, ?_, ⟨.inr ?_⟩, ⟨(below_weaken HW.out HW.out.size HW2.out).trans HW6.out⟩⟩
          ·have h1 := HN.out.1
           have h2 := HI.out
           have h3 := HLT.out
           unfold wrap64
           congr 1
           omega
          ·have hb := HB6.out
           rw [limb_take qA j HLT.out i HI.out, HQ.out, limbrev_snoc _ _ (by intro h0; have h5 := congrArg List.length h0; rw [List.length_take, List.length_reverse, List.length_nil] at h5; have h6 := HLT.out; omega), ← byteCells_app, ← strOfNums_digs9, ← Lib.strCells_eq]
           exact hb
      ·have t1 : decide ((0 : Int) ≤ (qA.length : Int) - 1 - j) = false := decide_eq_false (by omega)
       obtain rfl : j = qA.length := by have := HJ.out; omega
       have HB2 := HBd.out
       rw [List.take_of_length_le (by simp)] at HB2
       have HB3 := aM HB2
       clear HB2
       have hsz := HW.out.size
       have HSZ := aM hsz
       clear hsz
       go_wp2_with (go_at_call 69; refine (Tryd.Builder_String_any W0.heap.size W0.heap.size (limbrev qA.reverse) _ HB3.out HSZ.out).mono ?_; rintro e w4 ⟨rfl, hbw⟩)
       go_ret
       exact ⟨rfl, z6_ HB.out (HW.out.trans hbw)⟩
end Go.Proofs.YtakmkhokbcjapaaDoor.XA
end
