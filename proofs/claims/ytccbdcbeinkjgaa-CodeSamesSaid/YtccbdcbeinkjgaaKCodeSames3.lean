/- Part 3 of the proof of the law CodeSames for every input: words, walks and plain laws. No condition. -/
import Derived.Test.YtccbdcbeinkjgaaProg
import Derived.Below
import Derived.Deep.Draws
import Derived.Deep.AppendLies
import Derived.Maps.AppendAt
import Derived.OwnWalk
import Derived.Laws.BytesArg
import Derived.Laws.MakeOwn
import Derived.Laws.OwnMore
import Derived.Deep.OwnRows
import Derived.Tactics
import Derived.Lib.ConvBytes
import Derived.Laws.Slices
import Derived.WalkKit
import Derived.KernelRfl
import Derived.RowKit3
import Derived.Deep.LoopGhost
import Derived.Deep.QuietTactic
import Derived.BigQuiet
import Derived.WideLaws
import Derived.Deep.DeepCutAuto
import Derived.Deep.CutBlock
import Derived.Deep.RegionHeld3
import Derived.Laws.Rows
import Derived.Lib.AppendStr
import Derived.ArgAppend
import Derived.Laws.IdiomCopy
import Derived.OrdersHeld
import Derived.Laws.BitsLemmas
import Derived.RowKit
import Derived.WalkSpells
import Derived.Shelf.GgClosure.Gives
import Derived.StillTailTactics
import Derived.Test.YtccbdcbeinkjgaaKCodeSames2
section
namespace Go.Proofs.Ytccbdcbeinkjgaa.XA
open Go.Proofs.Ytccbdcbeinkjgaa.Lift Go.RowKit Go.Proofs.YtccbdcbeinkjgaaW.PrintWords Go.Proofs.YtccbdcbeinkjgaaW.PrintLast Go.Proofs.YtccbdcbeinkjgaaW.PrintMore
attribute [local go_sem] max2_int min2_int max_two min_two max_three min_three max_four min_four
set_option linter.unusedVariables false
set_option linter.unusedSimpArgs false



def errW : Option Int → Value
 | none => .nilIface
 | some c => .iface 0 (.int .i64 c)
theorem errW_none : errW none = .nilIface := rfl
theorem errW_some (c : Int) : errW (some c) = .iface 0 (.int .i64 c) := rfl

theorem info3 : (Try.prog.info? 3).map (fun i => (i.zero, i.size, i.bytes)) = some (some (.int .i64 0), 1, 8) := by kernel_rfl
theorem info5 : (Try.prog.info? 5).map (fun i => (i.zero, i.size, i.bytes)) = some (some (.int .u8 0), 1, 1) := by kernel_rfl
theorem info48 : (Try.prog.info? 48).map (fun i => (i.zero, i.size, i.bytes)) = some (some (.agg #[(.int .i64 0), (.int .i64 0)]), 2, 16) := by kernel_rfl
theorem info63 : (Try.prog.info? 63).map (fun i => (i.zero, i.size, i.bytes)) = some (some (.agg #[(.int .i64 0), (.int .i64 0), (.int .i64 0), (.int .i64 0), (.int .i64 0)]), 5, 40) := by kernel_rfl
/-! #### struct type 48 -/
structure S48 where
 f0 : Int
 f1 : Int
def z48 : S48 := ⟨(0 : Int), (0 : Int)⟩
def k48 : Kd S48 := Kd.iso (Kd.pair (Kd.int .i64) (Kd.int .i64)) (fun x : S48 => (x.f0, x.f1))
theorem k48_open {w : World} {x : S48} {cs : List Value} (h : k48.K w x cs) : cs = [.int .i64 x.f0, .int .i64 x.f1] := by
 obtain ⟨_, _, rfl, rfl, rfl⟩ := h
 exact rfl
theorem k48_mkM (w : World) (base : Nat) (ok : Nat → Prop) (x : S48)  : k48.M w base ok x [.int .i64 x.f0, .int .i64 x.f1] := ⟨[.int .i64 x.f0], [.int .i64 x.f1], rfl, rfl, rfl⟩
def rd_T48 (xs : List S48) (i : Int) : S48 := xs.getD i.toNat z48
theorem at_T48 {w : World} {A : Option Addr} {n : Nat} {xs : List S48} (h : Kd.C k48 w A n xs) (i : Int) (h0 : 0 ≤ i) (h1 : i < n) : ∃ ad , A = some ad ∧ w.cell? (ad.add (i.toNat * 2)) = some (.int .i64 (rd_T48 xs i).f0) ∧ w.cell? ⟨(ad.add (i.toNat * 2)).block, (ad.add (i.toNat * 2)).off + 1, none⟩ = some (.int .i64 (rd_T48 xs i).f1) := by
 obtain ⟨ad, c, e, _, hK, hc0⟩ := Kd.C_get h z48 i h0 h1
 have hc : ∀ j u, c[j]? = some u → w.cell? (ad.add (i.toNat * 2 + j)) = some u := hc0
 obtain rfl := k48_open hK
 exact ⟨ad, e, hc 0 _ rfl, by rw [← add_field _ _ 1 (by omega)]; exact hc 1 _ rfl⟩

/-! #### struct type 63 -/
structure S63 where
 f0 : Int
 f1 : Int
 f2 : Int
 f3 : Int
 f4 : Int
def z63 : S63 := ⟨(0 : Int), (0 : Int), (0 : Int), (0 : Int), (0 : Int)⟩
def k63 : Kd S63 := Kd.iso (Kd.pair (Kd.int .i64) (Kd.pair (Kd.int .i64) (Kd.pair (Kd.int .i64) (Kd.pair (Kd.int .i64) (Kd.int .i64))))) (fun x : S63 => (x.f0, x.f1, x.f2, x.f3, x.f4))
theorem k63_open {w : World} {x : S63} {cs : List Value} (h : k63.K w x cs) : cs = [.int .i64 x.f0, .int .i64 x.f1, .int .i64 x.f2, .int .i64 x.f3, .int .i64 x.f4] := by
 obtain ⟨_, _, rfl, rfl, ⟨_, _, rfl, rfl, ⟨_, _, rfl, rfl, ⟨_, _, rfl, rfl, rfl⟩⟩⟩⟩ := h
 exact rfl
theorem k63_mkM (w : World) (base : Nat) (ok : Nat → Prop) (x : S63)  : k63.M w base ok x [.int .i64 x.f0, .int .i64 x.f1, .int .i64 x.f2, .int .i64 x.f3, .int .i64 x.f4] := ⟨[.int .i64 x.f0], [.int .i64 x.f1, .int .i64 x.f2, .int .i64 x.f3, .int .i64 x.f4], rfl, rfl, ⟨[.int .i64 x.f1], [.int .i64 x.f2, .int .i64 x.f3, .int .i64 x.f4], rfl, rfl, ⟨[.int .i64 x.f2], [.int .i64 x.f3, .int .i64 x.f4], rfl, rfl, ⟨[.int .i64 x.f3], [.int .i64 x.f4], rfl, rfl, rfl⟩⟩⟩⟩
def rd_T63 (xs : List S63) (i : Int) : S63 := xs.getD i.toNat z63
theorem at_T63 {w : World} {A : Option Addr} {n : Nat} {xs : List S63} (h : Kd.C k63 w A n xs) (i : Int) (h0 : 0 ≤ i) (h1 : i < n) : ∃ ad , A = some ad ∧ w.cell? (ad.add (i.toNat * 5)) = some (.int .i64 (rd_T63 xs i).f0) ∧ w.cell? ⟨(ad.add (i.toNat * 5)).block, (ad.add (i.toNat * 5)).off + 1, none⟩ = some (.int .i64 (rd_T63 xs i).f1) ∧ w.cell? ⟨(ad.add (i.toNat * 5)).block, (ad.add (i.toNat * 5)).off + 2, none⟩ = some (.int .i64 (rd_T63 xs i).f2) ∧ w.cell? ⟨(ad.add (i.toNat * 5)).block, (ad.add (i.toNat * 5)).off + 3, none⟩ = some (.int .i64 (rd_T63 xs i).f3) ∧ w.cell? ⟨(ad.add (i.toNat * 5)).block, (ad.add (i.toNat * 5)).off + 4, none⟩ = some (.int .i64 (rd_T63 xs i).f4) := by
 obtain ⟨ad, c, e, _, hK, hc0⟩ := Kd.C_get h z63 i h0 h1
 have hc : ∀ j u, c[j]? = some u → w.cell? (ad.add (i.toNat * 5 + j)) = some u := hc0
 obtain rfl := k63_open hK
 exact ⟨ad, e, hc 0 _ rfl, by rw [← add_field _ _ 1 (by omega)]; exact hc 1 _ rfl, by rw [← add_field _ _ 2 (by omega)]; exact hc 2 _ rfl, by rw [← add_field _ _ 3 (by omega)]; exact hc 3 _ rfl, by rw [← add_field _ _ 4 (by omega)]; exact hc 4 _ rfl⟩

/-! #### struct type 26 -/
structure S26 where
 f0 : Int
 f1 : Int
 f2 : (List S63)
 f3 : (List Int)
def k26 : Kd S26 := Kd.iso (Kd.pair (Kd.int .i64) (Kd.pair (Kd.int .i64) (Kd.pair (Kd.slice 63 k63) (Kd.slice 3 (Kd.int .i64))))) (fun x : S26 => (x.f0, x.f1, x.f2, x.f3))
/-! #### struct type 28 -/
structure S28 where
 f0 : Int
 f1 : Int
 f2 : (List S48)
 f3 : S26
 f4 : S26
 f5 : S26
def k28 : Kd S28 := Kd.iso (Kd.pair (Kd.int .i64) (Kd.pair (Kd.int .i64) (Kd.pair (Kd.slice 48 k48) (Kd.pair k26 (Kd.pair k26 k26))))) (fun x : S28 => (x.f0, x.f1, x.f2, x.f3, x.f4, x.f5))
/-! #### struct type 39 -/
structure S39 where
 f0 : (List Int)
 f1 : Int
end Go.Proofs.Ytccbdcbeinkjgaa.XA
end

section
namespace Go.Proofs.Ytccbdcbeinkjgaa.XA
open Go.Proofs.Ytccbdcbeinkjgaa.Lift Go.RowKit Go.Proofs.YtccbdcbeinkjgaaW.PrintWords Go.Proofs.YtccbdcbeinkjgaaW.PrintLast Go.Proofs.YtccbdcbeinkjgaaW.PrintMore
attribute [local go_sem] max2_int min2_int max_two min_two max_three min_three max_four min_four
set_option linter.unusedVariables false
set_option linter.unusedSimpArgs false

theorem eqA48 (d : Nat) (w : World) (x0 y0 : Int) (x1 y1 : Int) :
  (Op.equalIn (d + 2) 48 (.agg #[.int .i64 x0, .int .i64 x1]) (.agg #[.int .i64 y0, .int .i64 y1])).run Try.prog w = .ok (x0 == y0 && (x1 == y1)) w := by
 refine eqA_of Try.underlying48 (by kernel_rfl) ?_
 refine eqf_cons (by rfl) (by go_simp; rfl) (by go_simp; rfl) (by go_simp) ?_
 exact eqf_last (by rfl) (by go_simp; rfl) (by go_simp; rfl) (by go_simp)
end Go.Proofs.Ytccbdcbeinkjgaa.XA
end

section
namespace Go.Proofs.Ytccbdcbeinkjgaa.XA
open Go.Proofs.Ytccbdcbeinkjgaa.Lift Go.RowKit Go.Proofs.YtccbdcbeinkjgaaW.PrintWords Go.Proofs.YtccbdcbeinkjgaaW.PrintLast Go.Proofs.YtccbdcbeinkjgaaW.PrintMore
attribute [local go_sem] max2_int min2_int max_two min_two max_three min_three max_four min_four
set_option linter.unusedVariables false
set_option linter.unusedSimpArgs false

attribute [local go_sem high] eqA48
/-! ### api_Point_30: function 30 -/
def api_Point_30.l0 : Nat → List (S48) → List (S48) → Int → Int → Option (Bool)
 | 0, _, _, _, _ => none
 | k + 1, x0, x1, x12, x13 => if x13 < x12 then (if 0 ≤ x13 then (if x13 < (x0.length : Int) then (if x13 < (x1.length : Int) then (if (!(((rd_T48 x0 x13).f0) == ((rd_T48 x1 x13).f0)) || (!(((rd_T48 x0 x13).f1) == ((rd_T48 x1 x13).f1)))) = true then (some false) else (api_Point_30.l0 k x0 x1 x12 (wrap64 (x13 + 1)))) else (none)) else (none)) else (none)) else (some true)
def api_Point_30.f (k : Nat) (l0 : List (S48)) (l1 : List (S48)) : Option (Bool) := if (l0.length : Int) = (l1.length : Int) then (api_Point_30.l0 k l0 l1 (l0.length : Int) 0) else (some false)
theorem api_Point_30.mono_l : ∀ k, (∀ y0 y1 y2 y3, LeO (api_Point_30.l0 k y0 y1 y2 y3) (api_Point_30.l0 (k + 1) y0 y1 y2 y3))
 | 0 => fun _ _ _ _ r h => by simp [api_Point_30.l0] at h
 | k + 1 => by
  have ih0 := api_Point_30.mono_l k
  ·intro y0 y1 y2 y3
   unfold api_Point_30.l0
   repeat' first
   | (with_reducible exact ih0 ..)
   | (with_reducible exact LeO.refl _)
   | (with_reducible exact LeO.none _)
   | (with_reducible refine LeO.ite ?_ ?_)
   | (with_reducible refine LeO.bind ?_ (fun _ => ?_))
   | exact ih0 _ _ _ _
   | exact LeO.none _
   | refine LeO.ite ?_ ?_
   | refine LeO.bind ?_ (fun _ => ?_)
theorem api_Point_30.mono : ∀ a0 a1 k, LeO (api_Point_30.f k a0 a1) (api_Point_30.f (k + 1) a0 a1) := by
 intro a0 a1 k
 have ih0 := api_Point_30.mono_l k
 unfold api_Point_30.f
 repeat' first
   | (with_reducible exact ih0 ..)
   | (with_reducible exact LeO.refl _)
   | (with_reducible exact LeO.none _)
   | (with_reducible refine LeO.ite ?_ ?_)
   | (with_reducible refine LeO.bind ?_ (fun _ => ?_))
   | exact ih0 _ _ _ _
   | exact LeO.none _
   | refine LeO.ite ?_ ?_
   | refine LeO.bind ?_ (fun _ => ?_)
set_option maxHeartbeats 8000000 in
set_option maxRecDepth 100000 in
theorem api_Point_30.calls (k : Nat) (A0 : Option Addr) (c0 : Nat) (l0 : List (S48)) (A1 : Option Addr) (c1 : Nat) (l1 : List (S48)) (r : Bool) (w : World) (hr0 : Kd.C k48 w A0 l0.length l0) (hc0 : l0.length ≤ c0) (hr1 : Kd.C k48 w A1 l1.length l1) (hc1 : l1.length ≤ c1) (h : api_Point_30.f k l0 l1 = some r) :
  Calls Try.prog 30 #[.slice A0 l0.length c0, .slice A1 l1.length c1] w fun e w' => e = .returned (.bool r) ∧ Drawn0 w w' := by
 have hu48 := Try.underlying48
 have HR0 := aM hr0
 have HC0 := aM hc0
 clear hr0 hc0
 have HR1 := aM hr1
 have HC1 := aM hc1
 clear hr1 hc1
 have H : (if (l0.length : Int) = (l1.length : Int) then (api_Point_30.l0 k l0 l1 (l0.length : Int) 0) else (some false)) = some r := h
 clear h
 by_cases c3 : (l0.length : Int) = (l1.length : Int)
 ·rw [if_pos c3] at H
  have c3b0 : ((l0.length : Int) == (l1.length : Int)) = true := beq_iff_eq.mpr c3
  have c3b1 : ((l0.length : Int) != (l1.length : Int)) = false := bne_eq_false_iff_eq.mpr c3
  have c3b2 : (l0.length == l1.length) = true := by first | simpa using c3 | (simp at c3 ⊢; omega)
  clear c3
  have H' := aM H
  clear H
  go_enter Try.func30, Try.ntmps30
  go_wp2
  repeat (go_quiet (fail); try go_wp2)
  go_loopg [13] k (fun kq v13 w' => ∃ (qA : Int), v13 = .int .i64 qA ∧ Aside0 (api_Point_30.l0 kq l0 l1 (l0.length : Int) qA = some r) ∧ Aside0 (kq ≤ k) ∧ Drawn0 w w')
  case atStart => exact ⟨(0), (by first | rfl | (simp; done) | (simp [*]; done)), H', ⟨Nat.le_refl _⟩, by repeat (first | exact Drawn0.refl _ | apply Drawn0.step)⟩
  case round =>
   clear H'
   try clear c1
   try clear c3
   obtain ⟨qA, rfl, HA, HK1, ⟨m1, rfl⟩⟩ := hrel
   cases gk with
   | zero => exact absurd HA.out (by simp [api_Point_30.l0])
   | succ k1 =>
    have H := HA.out
    clear HA
    simp only [api_Point_30.l0] at H
    by_cases c4 : qA < (l0.length : Int)
    ·rw [if_pos c4] at H
     have c4b0 : decide (qA < (l0.length : Int)) = true := decide_eq_true c4
     clear c4
     by_cases c5 : 0 ≤ qA
     ·rw [if_pos c5] at H
      have c5b0 : decide (0 ≤ qA) = true := decide_eq_true c5
      clear c5
      by_cases c6 : qA < (l0.length : Int)
      ·rw [if_pos c6] at H
       have c6b0 : decide (qA < (l0.length : Int)) = true := decide_eq_true c6
       clear c6
       by_cases c7 : qA < (l1.length : Int)
       ·rw [if_pos c7] at H
        have c7b0 : decide (qA < (l1.length : Int)) = true := decide_eq_true c7
        clear c7
        by_cases c8 : (!(((rd_T48 l0 qA).f0) == ((rd_T48 l1 qA).f0)) || (!(((rd_T48 l0 qA).f1) == ((rd_T48 l1 qA).f1)))) = true
        ·rw [if_pos c8] at H
         have c8b0 : (!(((rd_T48 l0 qA).f0) == ((rd_T48 l1 qA).f0)) || (!(((rd_T48 l0 qA).f1) == ((rd_T48 l1 qA).f1)))) = true := c8
         clear c8
         obtain rfl := Option.some.inj H
         have p257 : 0 ≤ (qA : Int) := of_decide_eq_true (by first | (with_reducible assumption) | assumption)
         have q257 : qA < (l0.length : Int) := of_decide_eq_true (by first | (with_reducible assumption) | assumption)
         obtain ⟨ad257, e257, hx257_0, hx257_1⟩ := at_T48 HR0.out qA p257 q257
         cases e257
         replace p257 := eq_true p257
         replace q257 := eq_true q257
         have p258 : 0 ≤ (qA : Int) := of_decide_eq_true (by first | (with_reducible assumption) | assumption)
         have q258 : qA < (l1.length : Int) := of_decide_eq_true (by first | (with_reducible assumption) | assumption)
         obtain ⟨ad258, e258, hx258_0, hx258_1⟩ := at_T48 HR1.out qA p258 q258
         cases e258
         replace p258 := eq_true p258
         replace q258 := eq_true q258
         go_wp2
         repeat (go_quiet (fail); try go_wp2)
         go_ret
         exact ⟨by first | rfl | (simp; done) | (simp [*]; done), by repeat (first | exact Drawn0.refl _ | apply Drawn0.step)⟩
        ·rw [if_neg c8] at H
         have c8b0 : (!(((rd_T48 l0 qA).f0) == ((rd_T48 l1 qA).f0)) || (!(((rd_T48 l0 qA).f1) == ((rd_T48 l1 qA).f1)))) = false := by simpa using c8
         clear c8
         have H' := aM H
         clear H
         have p257 : 0 ≤ (qA : Int) := of_decide_eq_true (by first | (with_reducible assumption) | assumption)
         have q257 : qA < (l0.length : Int) := of_decide_eq_true (by first | (with_reducible assumption) | assumption)
         obtain ⟨ad257, e257, hx257_0, hx257_1⟩ := at_T48 HR0.out qA p257 q257
         cases e257
         replace p257 := eq_true p257
         replace q257 := eq_true q257
         have p258 : 0 ≤ (qA : Int) := of_decide_eq_true (by first | (with_reducible assumption) | assumption)
         have q258 : qA < (l1.length : Int) := of_decide_eq_true (by first | (with_reducible assumption) | assumption)
         obtain ⟨ad258, e258, hx258_0, hx258_1⟩ := at_T48 HR1.out qA p258 q258
         cases e258
         replace p258 := eq_true p258
         replace q258 := eq_true q258
         go_wp2
         repeat (go_quiet (fail); try go_wp2)
         go_roundg k1
         case measure => have := HK1.out; omega
         case rel => exact ⟨(wrap64 (qA + 1)), (by first | rfl | (simp; done) | (simp [*]; done)), H', ⟨by have := HK1.out; omega⟩, by repeat (first | exact Drawn0.refl _ | apply Drawn0.step)⟩
       ·rw [if_neg c7] at H
        exact absurd H (by simp)
      ·rw [if_neg c6] at H
       exact absurd H (by simp)
     ·rw [if_neg c5] at H
      exact absurd H (by simp)
    ·rw [if_neg c4] at H
     have c4b0 : decide (qA < (l0.length : Int)) = false := decide_eq_false c4
     clear c4
     obtain rfl := Option.some.inj H
     go_wp2
     repeat (go_quiet (fail); try go_wp2)
     go_ret
     exact ⟨by first | rfl | (simp; done) | (simp [*]; done), by repeat (first | exact Drawn0.refl _ | apply Drawn0.step)⟩
 ·rw [if_neg c3] at H
  have c3b0 : ((l0.length : Int) == (l1.length : Int)) = false := beq_eq_false_iff_ne.mpr c3
  have c3b1 : ((l0.length : Int) != (l1.length : Int)) = true := bne_iff_ne.mpr c3
  have c3b2 : (l0.length == l1.length) = false := by first | simpa using c3 | (simp at c3 ⊢; omega)
  obtain rfl := Option.some.inj H
  go_enter Try.func30, Try.ntmps30
  go_wp2
  repeat (go_quiet (fail); try go_wp2)
  go_ret
  exact ⟨by first | rfl | (simp; done) | (simp [*]; done), by repeat (first | exact Drawn0.refl _ | apply Drawn0.step)⟩

end Go.Proofs.Ytccbdcbeinkjgaa.XA
end

section
namespace Go.Proofs.Ytccbdcbeinkjgaa.XA
open Go.Proofs.Ytccbdcbeinkjgaa.Lift Go.RowKit Go.Proofs.YtccbdcbeinkjgaaW.PrintWords Go.Proofs.YtccbdcbeinkjgaaW.PrintLast Go.Proofs.YtccbdcbeinkjgaaW.PrintMore
attribute [local go_sem] max2_int min2_int max_two min_two max_three min_three max_four min_four
set_option linter.unusedVariables false
set_option linter.unusedSimpArgs false

theorem eqA63 (d : Nat) (w : World) (x0 y0 : Int) (x1 y1 : Int) (x2 y2 : Int) (x3 y3 : Int) (x4 y4 : Int) :
  (Op.equalIn (d + 2) 63 (.agg #[.int .i64 x0, .int .i64 x1, .int .i64 x2, .int .i64 x3, .int .i64 x4]) (.agg #[.int .i64 y0, .int .i64 y1, .int .i64 y2, .int .i64 y3, .int .i64 y4])).run Try.prog w = .ok (x0 == y0 && (x1 == y1 && (x2 == y2 && (x3 == y3 && (x4 == y4))))) w := by
 refine eqA_of Try.underlying63 (by kernel_rfl) ?_
 refine eqf_cons (by rfl) (by go_simp; rfl) (by go_simp; rfl) (by go_simp) ?_
 refine eqf_cons (by rfl) (by go_simp; rfl) (by go_simp; rfl) (by go_simp) ?_
 refine eqf_cons (by rfl) (by go_simp; rfl) (by go_simp; rfl) (by go_simp) ?_
 refine eqf_cons (by rfl) (by go_simp; rfl) (by go_simp; rfl) (by go_simp) ?_
 exact eqf_last (by rfl) (by go_simp; rfl) (by go_simp; rfl) (by go_simp)
end Go.Proofs.Ytccbdcbeinkjgaa.XA
end

section
namespace Go.Proofs.Ytccbdcbeinkjgaa.XA
open Go.Proofs.Ytccbdcbeinkjgaa.Lift Go.RowKit Go.Proofs.YtccbdcbeinkjgaaW.PrintWords Go.Proofs.YtccbdcbeinkjgaaW.PrintLast Go.Proofs.YtccbdcbeinkjgaaW.PrintMore
attribute [local go_sem] max2_int min2_int max_two min_two max_three min_three max_four min_four
set_option linter.unusedVariables false
set_option linter.unusedSimpArgs false

attribute [local go_sem high] eqA63
/-! ### api_Instr: function 49 -/
def api_Instr.l0 : Nat → List (S63) → List (S63) → Int → Int → Option (Bool)
 | 0, _, _, _, _ => none
 | k + 1, x0, x1, x12, x13 => if x13 < x12 then (if 0 ≤ x13 then (if x13 < (x0.length : Int) then (if x13 < (x1.length : Int) then (if (!(((rd_T63 x0 x13).f0) == ((rd_T63 x1 x13).f0)) || (!(((rd_T63 x0 x13).f1) == ((rd_T63 x1 x13).f1)) || (!(((rd_T63 x0 x13).f2) == ((rd_T63 x1 x13).f2)) || (!(((rd_T63 x0 x13).f3) == ((rd_T63 x1 x13).f3)) || (!(((rd_T63 x0 x13).f4) == ((rd_T63 x1 x13).f4))))))) = true then (some false) else (api_Instr.l0 k x0 x1 x12 (wrap64 (x13 + 1)))) else (none)) else (none)) else (none)) else (some true)
def api_Instr.f (k : Nat) (l0 : List (S63)) (l1 : List (S63)) : Option (Bool) := if (l0.length : Int) = (l1.length : Int) then (api_Instr.l0 k l0 l1 (l0.length : Int) 0) else (some false)
theorem api_Instr.mono_l : ∀ k, (∀ y0 y1 y2 y3, LeO (api_Instr.l0 k y0 y1 y2 y3) (api_Instr.l0 (k + 1) y0 y1 y2 y3))
 | 0 => fun _ _ _ _ r h => by simp [api_Instr.l0] at h
 | k + 1 => by
  have ih0 := api_Instr.mono_l k
  ·intro y0 y1 y2 y3
   unfold api_Instr.l0
   repeat' first
   | (with_reducible exact ih0 ..)
   | (with_reducible exact LeO.refl _)
   | (with_reducible exact LeO.none _)
   | (with_reducible refine LeO.ite ?_ ?_)
   | (with_reducible refine LeO.bind ?_ (fun _ => ?_))
   | exact ih0 _ _ _ _
   | exact LeO.none _
   | refine LeO.ite ?_ ?_
   | refine LeO.bind ?_ (fun _ => ?_)
theorem api_Instr.mono : ∀ a0 a1 k, LeO (api_Instr.f k a0 a1) (api_Instr.f (k + 1) a0 a1) := by
 intro a0 a1 k
 have ih0 := api_Instr.mono_l k
 unfold api_Instr.f
 repeat' first
   | (with_reducible exact ih0 ..)
   | (with_reducible exact LeO.refl _)
   | (with_reducible exact LeO.none _)
   | (with_reducible refine LeO.ite ?_ ?_)
   | (with_reducible refine LeO.bind ?_ (fun _ => ?_))
   | exact ih0 _ _ _ _
   | exact LeO.none _
   | refine LeO.ite ?_ ?_
   | refine LeO.bind ?_ (fun _ => ?_)
set_option maxHeartbeats 8000000 in
set_option maxRecDepth 100000 in
theorem api_Instr.calls (k : Nat) (A0 : Option Addr) (c0 : Nat) (l0 : List (S63)) (A1 : Option Addr) (c1 : Nat) (l1 : List (S63)) (r : Bool) (w : World) (hr0 : Kd.C k63 w A0 l0.length l0) (hc0 : l0.length ≤ c0) (hr1 : Kd.C k63 w A1 l1.length l1) (hc1 : l1.length ≤ c1) (h : api_Instr.f k l0 l1 = some r) :
  Calls Try.prog 49 #[.slice A0 l0.length c0, .slice A1 l1.length c1] w fun e w' => e = .returned (.bool r) ∧ Drawn0 w w' := by
 have hu63 := Try.underlying63
 have HR0 := aM hr0
 have HC0 := aM hc0
 clear hr0 hc0
 have HR1 := aM hr1
 have HC1 := aM hc1
 clear hr1 hc1
 have H : (if (l0.length : Int) = (l1.length : Int) then (api_Instr.l0 k l0 l1 (l0.length : Int) 0) else (some false)) = some r := h
 clear h
 by_cases c3 : (l0.length : Int) = (l1.length : Int)
 ·rw [if_pos c3] at H
  have c3b0 : ((l0.length : Int) == (l1.length : Int)) = true := beq_iff_eq.mpr c3
  have c3b1 : ((l0.length : Int) != (l1.length : Int)) = false := bne_eq_false_iff_eq.mpr c3
  have c3b2 : (l0.length == l1.length) = true := by first | simpa using c3 | (simp at c3 ⊢; omega)
  clear c3
  have H' := aM H
  clear H
  go_enter Try.func49, Try.ntmps49
  go_wp2
  repeat (go_quiet (fail); try go_wp2)
  go_loopg [13] k (fun kq v13 w' => ∃ (qA : Int), v13 = .int .i64 qA ∧ Aside0 (api_Instr.l0 kq l0 l1 (l0.length : Int) qA = some r) ∧ Aside0 (kq ≤ k) ∧ Drawn0 w w')
  case atStart => exact ⟨(0), (by first | rfl | (simp; done) | (simp [*]; done)), H', ⟨Nat.le_refl _⟩, by repeat (first | exact Drawn0.refl _ | apply Drawn0.step)⟩
  case round =>
   clear H'
   try clear c1
   try clear c3
   obtain ⟨qA, rfl, HA, HK1, ⟨m1, rfl⟩⟩ := hrel
   cases gk with
   | zero => exact absurd HA.out (by simp [api_Instr.l0])
   | succ k1 =>
    have H := HA.out
    clear HA
    simp only [api_Instr.l0] at H
    by_cases c4 : qA < (l0.length : Int)
    ·rw [if_pos c4] at H
     have c4b0 : decide (qA < (l0.length : Int)) = true := decide_eq_true c4
     clear c4
     by_cases c5 : 0 ≤ qA
     ·rw [if_pos c5] at H
      have c5b0 : decide (0 ≤ qA) = true := decide_eq_true c5
      clear c5
      by_cases c6 : qA < (l0.length : Int)
      ·rw [if_pos c6] at H
       have c6b0 : decide (qA < (l0.length : Int)) = true := decide_eq_true c6
       clear c6
       by_cases c7 : qA < (l1.length : Int)
       ·rw [if_pos c7] at H
        have c7b0 : decide (qA < (l1.length : Int)) = true := decide_eq_true c7
        clear c7
        by_cases c8 : (!(((rd_T63 l0 qA).f0) == ((rd_T63 l1 qA).f0)) || (!(((rd_T63 l0 qA).f1) == ((rd_T63 l1 qA).f1)) || (!(((rd_T63 l0 qA).f2) == ((rd_T63 l1 qA).f2)) || (!(((rd_T63 l0 qA).f3) == ((rd_T63 l1 qA).f3)) || (!(((rd_T63 l0 qA).f4) == ((rd_T63 l1 qA).f4))))))) = true
        ·rw [if_pos c8] at H
         have c8b0 : (!(((rd_T63 l0 qA).f0) == ((rd_T63 l1 qA).f0)) || (!(((rd_T63 l0 qA).f1) == ((rd_T63 l1 qA).f1)) || (!(((rd_T63 l0 qA).f2) == ((rd_T63 l1 qA).f2)) || (!(((rd_T63 l0 qA).f3) == ((rd_T63 l1 qA).f3)) || (!(((rd_T63 l0 qA).f4) == ((rd_T63 l1 qA).f4))))))) = true := c8
         clear c8
         obtain rfl := Option.some.inj H
         have p259 : 0 ≤ (qA : Int) := of_decide_eq_true (by first | (with_reducible assumption) | assumption)
         have q259 : qA < (l0.length : Int) := of_decide_eq_true (by first | (with_reducible assumption) | assumption)
         obtain ⟨ad259, e259, hx259_0, hx259_1, hx259_2, hx259_3, hx259_4⟩ := at_T63 HR0.out qA p259 q259
         cases e259
         replace p259 := eq_true p259
         replace q259 := eq_true q259
         have p260 : 0 ≤ (qA : Int) := of_decide_eq_true (by first | (with_reducible assumption) | assumption)
         have q260 : qA < (l1.length : Int) := of_decide_eq_true (by first | (with_reducible assumption) | assumption)
         obtain ⟨ad260, e260, hx260_0, hx260_1, hx260_2, hx260_3, hx260_4⟩ := at_T63 HR1.out qA p260 q260
         cases e260
         replace p260 := eq_true p260
         replace q260 := eq_true q260
         go_wp2
         repeat (go_quiet (fail); try go_wp2)
         go_ret
         exact ⟨by first | rfl | (simp; done) | (simp [*]; done), by repeat (first | exact Drawn0.refl _ | apply Drawn0.step)⟩
        ·rw [if_neg c8] at H
         have c8b0 : (!(((rd_T63 l0 qA).f0) == ((rd_T63 l1 qA).f0)) || (!(((rd_T63 l0 qA).f1) == ((rd_T63 l1 qA).f1)) || (!(((rd_T63 l0 qA).f2) == ((rd_T63 l1 qA).f2)) || (!(((rd_T63 l0 qA).f3) == ((rd_T63 l1 qA).f3)) || (!(((rd_T63 l0 qA).f4) == ((rd_T63 l1 qA).f4))))))) = false := by simpa using c8
         clear c8
         have H' := aM H
         clear H
         have p259 : 0 ≤ (qA : Int) := of_decide_eq_true (by first | (with_reducible assumption) | assumption)
         have q259 : qA < (l0.length : Int) := of_decide_eq_true (by first | (with_reducible assumption) | assumption)
         obtain ⟨ad259, e259, hx259_0, hx259_1, hx259_2, hx259_3, hx259_4⟩ := at_T63 HR0.out qA p259 q259
         cases e259
         replace p259 := eq_true p259
         replace q259 := eq_true q259
         have p260 : 0 ≤ (qA : Int) := of_decide_eq_true (by first | (with_reducible assumption) | assumption)
         have q260 : qA < (l1.length : Int) := of_decide_eq_true (by first | (with_reducible assumption) | assumption)
         obtain ⟨ad260, e260, hx260_0, hx260_1, hx260_2, hx260_3, hx260_4⟩ := at_T63 HR1.out qA p260 q260
         cases e260
         replace p260 := eq_true p260
         replace q260 := eq_true q260
         go_wp2
         repeat (go_quiet (fail); try go_wp2)
         go_roundg k1
         case measure => have := HK1.out; omega
         case rel => exact ⟨(wrap64 (qA + 1)), (by first | rfl | (simp; done) | (simp [*]; done)), H', ⟨by have := HK1.out; omega⟩, by repeat (first | exact Drawn0.refl _ | apply Drawn0.step)⟩
       ·rw [if_neg c7] at H
        exact absurd H (by simp)
      ·rw [if_neg c6] at H
       exact absurd H (by simp)
     ·rw [if_neg c5] at H
      exact absurd H (by simp)
    ·rw [if_neg c4] at H
     have c4b0 : decide (qA < (l0.length : Int)) = false := decide_eq_false c4
     clear c4
     obtain rfl := Option.some.inj H
     go_wp2
     repeat (go_quiet (fail); try go_wp2)
     go_ret
     exact ⟨by first | rfl | (simp; done) | (simp [*]; done), by repeat (first | exact Drawn0.refl _ | apply Drawn0.step)⟩
 ·rw [if_neg c3] at H
  have c3b0 : ((l0.length : Int) == (l1.length : Int)) = false := beq_eq_false_iff_ne.mpr c3
  have c3b1 : ((l0.length : Int) != (l1.length : Int)) = true := bne_iff_ne.mpr c3
  have c3b2 : (l0.length == l1.length) = false := by first | simpa using c3 | (simp at c3 ⊢; omega)
  obtain rfl := Option.some.inj H
  go_enter Try.func49, Try.ntmps49
  go_wp2
  repeat (go_quiet (fail); try go_wp2)
  go_ret
  exact ⟨by first | rfl | (simp; done) | (simp [*]; done), by repeat (first | exact Drawn0.refl _ | apply Drawn0.step)⟩

end Go.Proofs.Ytccbdcbeinkjgaa.XA
end

section
namespace Go.Proofs.Ytccbdcbeinkjgaa.XA
open Go.Proofs.Ytccbdcbeinkjgaa.Lift Go.RowKit Go.Proofs.YtccbdcbeinkjgaaW.PrintWords Go.Proofs.YtccbdcbeinkjgaaW.PrintLast Go.Proofs.YtccbdcbeinkjgaaW.PrintMore
attribute [local go_sem] max2_int min2_int max_two min_two max_three min_three max_four min_four
set_option linter.unusedVariables false
set_option linter.unusedSimpArgs false

/-! ### slices_Equal_int_int: function 50 -/
def slices_Equal_int_int.l0 : Nat → List Int → List Int → Int → Int → Option (Bool)
 | 0, _, _, _, _ => none
 | k + 1, x0, x1, x12, x13 => if x13 < x12 then (if 0 ≤ x13 then (if x13 < (x0.length : Int) then (if x13 < (x1.length : Int) then (if (rd x0 x13) = (rd x1 x13) then (slices_Equal_int_int.l0 k x0 x1 x12 (wrap64 (x13 + 1))) else (some false)) else (none)) else (none)) else (none)) else (some true)
def slices_Equal_int_int.f (k : Nat) (l0 : List Int) (l1 : List Int) : Option (Bool) := if (l0.length : Int) = (l1.length : Int) then (slices_Equal_int_int.l0 k l0 l1 (l0.length : Int) 0) else (some false)
theorem slices_Equal_int_int.mono_l : ∀ k, (∀ y0 y1 y2 y3, LeO (slices_Equal_int_int.l0 k y0 y1 y2 y3) (slices_Equal_int_int.l0 (k + 1) y0 y1 y2 y3))
 | 0 => fun _ _ _ _ r h => by simp [slices_Equal_int_int.l0] at h
 | k + 1 => by
  have ih0 := slices_Equal_int_int.mono_l k
  ·intro y0 y1 y2 y3
   unfold slices_Equal_int_int.l0
   repeat' first
   | (with_reducible exact ih0 ..)
   | (with_reducible exact LeO.refl _)
   | (with_reducible exact LeO.none _)
   | (with_reducible refine LeO.ite ?_ ?_)
   | (with_reducible refine LeO.bind ?_ (fun _ => ?_))
   | exact ih0 _ _ _ _
   | exact LeO.none _
   | refine LeO.ite ?_ ?_
   | refine LeO.bind ?_ (fun _ => ?_)
theorem slices_Equal_int_int.mono : ∀ a0 a1 k, LeO (slices_Equal_int_int.f k a0 a1) (slices_Equal_int_int.f (k + 1) a0 a1) := by
 intro a0 a1 k
 have ih0 := slices_Equal_int_int.mono_l k
 unfold slices_Equal_int_int.f
 repeat' first
   | (with_reducible exact ih0 ..)
   | (with_reducible exact LeO.refl _)
   | (with_reducible exact LeO.none _)
   | (with_reducible refine LeO.ite ?_ ?_)
   | (with_reducible refine LeO.bind ?_ (fun _ => ?_))
   | exact ih0 _ _ _ _
   | exact LeO.none _
   | refine LeO.ite ?_ ?_
   | refine LeO.bind ?_ (fun _ => ?_)
set_option maxHeartbeats 8000000 in
set_option maxRecDepth 100000 in
theorem slices_Equal_int_int.calls (k : Nat) (A0 : Option Addr) (c0 : Nat) (l0 : List Int) (A1 : Option Addr) (c1 : Nat) (l1 : List Int) (r : Bool) (w : World) (hr0 : Kd.C (Kd.int .i64) w A0 l0.length l0) (hc0 : l0.length ≤ c0) (hr1 : Kd.C (Kd.int .i64) w A1 l1.length l1) (hc1 : l1.length ≤ c1) (h : slices_Equal_int_int.f k l0 l1 = some r) :
  Calls Try.prog 50 #[.slice A0 l0.length c0, .slice A1 l1.length c1] w fun e w' => e = .returned (.bool r) ∧ Drawn0 w w' := by
 have HR0 := aM hr0
 have HC0 := aM hc0
 clear hr0 hc0
 have HR1 := aM hr1
 have HC1 := aM hc1
 clear hr1 hc1
 have H : (if (l0.length : Int) = (l1.length : Int) then (slices_Equal_int_int.l0 k l0 l1 (l0.length : Int) 0) else (some false)) = some r := h
 clear h
 by_cases c3 : (l0.length : Int) = (l1.length : Int)
 ·rw [if_pos c3] at H
  have c3b0 : ((l0.length : Int) == (l1.length : Int)) = true := beq_iff_eq.mpr c3
  have c3b1 : ((l0.length : Int) != (l1.length : Int)) = false := bne_eq_false_iff_eq.mpr c3
  have c3b2 : (l0.length == l1.length) = true := by first | simpa using c3 | (simp at c3 ⊢; omega)
  clear c3
  have H' := aM H
  clear H
  go_enter Try.func50, Try.ntmps50
  go_wp2
  repeat (go_quiet (fail); try go_wp2)
  go_loopg [13] k (fun kq v13 w' => ∃ (qA : Int), v13 = .int .i64 qA ∧ Aside0 (slices_Equal_int_int.l0 kq l0 l1 (l0.length : Int) qA = some r) ∧ Aside0 (kq ≤ k) ∧ Drawn0 w w')
  case atStart => exact ⟨(0), (by first | rfl | (simp; done) | (simp [*]; done)), H', ⟨Nat.le_refl _⟩, by repeat (first | exact Drawn0.refl _ | apply Drawn0.step)⟩
  case round =>
   clear H'
   try clear c1
   try clear c3
   obtain ⟨qA, rfl, HA, HK1, ⟨m1, rfl⟩⟩ := hrel
   cases gk with
   | zero => exact absurd HA.out (by simp [slices_Equal_int_int.l0])
   | succ k1 =>
    have H := HA.out
    clear HA
    simp only [slices_Equal_int_int.l0] at H
    by_cases c4 : qA < (l0.length : Int)
    ·rw [if_pos c4] at H
     have c4b0 : decide (qA < (l0.length : Int)) = true := decide_eq_true c4
     clear c4
     by_cases c5 : 0 ≤ qA
     ·rw [if_pos c5] at H
      have c5b0 : decide (0 ≤ qA) = true := decide_eq_true c5
      clear c5
      by_cases c6 : qA < (l0.length : Int)
      ·rw [if_pos c6] at H
       have c6b0 : decide (qA < (l0.length : Int)) = true := decide_eq_true c6
       clear c6
       by_cases c7 : qA < (l1.length : Int)
       ·rw [if_pos c7] at H
        have c7b0 : decide (qA < (l1.length : Int)) = true := decide_eq_true c7
        clear c7
        by_cases c8 : (rd l0 qA) = (rd l1 qA)
        ·rw [if_pos c8] at H
         have c8b0 : ((rd l0 qA) == (rd l1 qA)) = true := beq_iff_eq.mpr c8
         have c8b1 : ((rd l0 qA) != (rd l1 qA)) = false := bne_eq_false_iff_eq.mpr c8
         clear c8
         have H' := aM H
         clear H
         have p261 : 0 ≤ (qA : Int) := of_decide_eq_true (by first | (with_reducible assumption) | assumption)
         have q261 : qA < (l0.length : Int) := of_decide_eq_true (by first | (with_reducible assumption) | assumption)
         obtain ⟨ad261, e261, hx261_0⟩ := Kd.at_int HR0.out qA p261 q261
         cases e261
         replace p261 := eq_true p261
         replace q261 := eq_true q261
         have p262 : 0 ≤ (qA : Int) := of_decide_eq_true (by first | (with_reducible assumption) | assumption)
         have q262 : qA < (l1.length : Int) := of_decide_eq_true (by first | (with_reducible assumption) | assumption)
         obtain ⟨ad262, e262, hx262_0⟩ := Kd.at_int HR1.out qA p262 q262
         cases e262
         replace p262 := eq_true p262
         replace q262 := eq_true q262
         go_wp2
         repeat (go_quiet (fail); try go_wp2)
         go_roundg k1
         case measure => have := HK1.out; omega
         case rel => exact ⟨(wrap64 (qA + 1)), (by first | rfl | (simp; done) | (simp [*]; done)), H', ⟨by have := HK1.out; omega⟩, by repeat (first | exact Drawn0.refl _ | apply Drawn0.step)⟩
        ·rw [if_neg c8] at H
         have c8b0 : ((rd l0 qA) == (rd l1 qA)) = false := beq_eq_false_iff_ne.mpr c8
         have c8b1 : ((rd l0 qA) != (rd l1 qA)) = true := bne_iff_ne.mpr c8
         obtain rfl := Option.some.inj H
         have p261 : 0 ≤ (qA : Int) := of_decide_eq_true (by first | (with_reducible assumption) | assumption)
         have q261 : qA < (l0.length : Int) := of_decide_eq_true (by first | (with_reducible assumption) | assumption)
         obtain ⟨ad261, e261, hx261_0⟩ := Kd.at_int HR0.out qA p261 q261
         cases e261
         replace p261 := eq_true p261
         replace q261 := eq_true q261
         have p262 : 0 ≤ (qA : Int) := of_decide_eq_true (by first | (with_reducible assumption) | assumption)
         have q262 : qA < (l1.length : Int) := of_decide_eq_true (by first | (with_reducible assumption) | assumption)
         obtain ⟨ad262, e262, hx262_0⟩ := Kd.at_int HR1.out qA p262 q262
         cases e262
         replace p262 := eq_true p262
         replace q262 := eq_true q262
         go_wp2
         repeat (go_quiet (fail); try go_wp2)
         go_ret
         exact ⟨by first | rfl | (simp; done) | (simp [*]; done), by repeat (first | exact Drawn0.refl _ | apply Drawn0.step)⟩
       ·rw [if_neg c7] at H
        exact absurd H (by simp)
      ·rw [if_neg c6] at H
       exact absurd H (by simp)
     ·rw [if_neg c5] at H
      exact absurd H (by simp)
    ·rw [if_neg c4] at H
     have c4b0 : decide (qA < (l0.length : Int)) = false := decide_eq_false c4
     clear c4
     obtain rfl := Option.some.inj H
     go_wp2
     repeat (go_quiet (fail); try go_wp2)
     go_ret
     exact ⟨by first | rfl | (simp; done) | (simp [*]; done), by repeat (first | exact Drawn0.refl _ | apply Drawn0.step)⟩
 ·rw [if_neg c3] at H
  have c3b0 : ((l0.length : Int) == (l1.length : Int)) = false := beq_eq_false_iff_ne.mpr c3
  have c3b1 : ((l0.length : Int) != (l1.length : Int)) = true := bne_iff_ne.mpr c3
  have c3b2 : (l0.length == l1.length) = false := by first | simpa using c3 | (simp at c3 ⊢; omega)
  obtain rfl := Option.some.inj H
  go_enter Try.func50, Try.ntmps50
  go_wp2
  repeat (go_quiet (fail); try go_wp2)
  go_ret
  exact ⟨by first | rfl | (simp; done) | (simp [*]; done), by repeat (first | exact Drawn0.refl _ | apply Drawn0.step)⟩

end Go.Proofs.Ytccbdcbeinkjgaa.XA
end

section
namespace Go.Proofs.Ytccbdcbeinkjgaa.XA
open Go.Proofs.Ytccbdcbeinkjgaa.Lift Go.RowKit Go.Proofs.YtccbdcbeinkjgaaW.PrintWords Go.Proofs.YtccbdcbeinkjgaaW.PrintLast Go.Proofs.YtccbdcbeinkjgaaW.PrintMore
attribute [local go_sem] max2_int min2_int max_two min_two max_three min_three max_four min_four
set_option linter.unusedVariables false
set_option linter.unusedSimpArgs false

/-! ### prog_Same: function 31 -/
def prog_Same.f (k : Nat) (qI : Int) (qJ : Int) (qK : List (S63)) (qG : List Int) (qL : Int) (qM : Int) (qN : List (S63)) (qH : List Int) : Option (Bool) := if qI = qL then (if qJ = qM then ((api_Instr.f k qK qN).bind fun qR => (if qR = true then ((slices_Equal_int_int.f k qG qH).bind fun qQ => (some qQ)) else (some false))) else (some false)) else (some false)
theorem prog_Same.mono : ∀ a0 a1 a2 a3 a4 a5 a6 a7 k, LeO (prog_Same.f k a0 a1 a2 a3 a4 a5 a6 a7) (prog_Same.f (k + 1) a0 a1 a2 a3 a4 a5 a6 a7) := by
 intro a0 a1 a2 a3 a4 a5 a6 a7 k
 unfold prog_Same.f
 repeat' first
   | (with_reducible exact api_Instr.mono _ _ _)
   | (with_reducible exact slices_Equal_int_int.mono _ _ _)
   | (with_reducible exact LeO.refl _)
   | (with_reducible exact LeO.none _)
   | (with_reducible refine LeO.ite ?_ ?_)
   | (with_reducible refine LeO.bind ?_ (fun _ => ?_))
   | exact api_Instr.mono _ _ _
   | exact slices_Equal_int_int.mono _ _ _
   | exact LeO.none _
   | refine LeO.ite ?_ ?_
   | refine LeO.bind ?_ (fun _ => ?_)
set_option maxHeartbeats 8000000 in
set_option maxRecDepth 100000 in
theorem prog_Same.calls (k : Nat) (qI : Int) (qJ : Int) (qS : Option Addr) (qT : Nat) (qK : List (S63)) (qU : Option Addr) (qV : Nat) (qG : List Int) (qL : Int) (qM : Int) (qW : Option Addr) (qX : Nat) (qN : List (S63)) (qY : Option Addr) (qZ : Nat) (qH : List Int) (r : Bool) (w : World) (qc : Kd.C k63 w qS qK.length qK) (qd : qK.length ≤ qT) (qe : Kd.C (Kd.int .i64) w qU qG.length qG) (qf : qG.length ≤ qV) (qg : Kd.C k63 w qW qN.length qN) (qh : qN.length ≤ qX) (qi : Kd.C (Kd.int .i64) w qY qH.length qH) (qj : qH.length ≤ qZ) (h : prog_Same.f k qI qJ qK qG qL qM qN qH = some r) :
  Calls Try.prog 31 #[.agg #[.int .i64 qI, .int .i64 qJ, .slice qS qK.length qT, .slice qU qG.length qV], .agg #[.int .i64 qL, .int .i64 qM, .slice qW qN.length qX, .slice qY qH.length qZ]] w fun e w' => e = .returned (.bool r) ∧ Below w.heap.size w w' := by
 have hu26 := Try.underlying26
 have qk := aM qc
 have ql := aM qd
 clear qc qd
 have qo := aM qe
 have qp := aM qf
 clear qe qf
 have qm := aM qg
 have qn := aM qh
 clear qg qh
 have qq := aM qi
 have qr := aM qj
 clear qi qj
 have HB := aM (Below.refl w.heap.size w)
 have H : (if qI = qL then (if qJ = qM then ((api_Instr.f k qK qN).bind fun qR => (if qR = true then ((slices_Equal_int_int.f k qG qH).bind fun qQ => (some qQ)) else (some false))) else (some false)) else (some false)) = some r := h
 clear h
 by_cases c3 : qI = qL
 ·rw [if_pos c3] at H
  have c3b0 : (qI == qL) = true := beq_iff_eq.mpr c3
  have c3b1 : (qI != qL) = false := bne_eq_false_iff_eq.mpr c3
  clear c3
  by_cases c4 : qJ = qM
  ·rw [if_pos c4] at H
   have c4b0 : (qJ == qM) = true := beq_iff_eq.mpr c4
   have c4b1 : (qJ != qM) = false := bne_eq_false_iff_eq.mpr c4
   clear c4
   replace H := Option.bind_eq_some_iff.mp H
   obtain ⟨qR, A50, H⟩ := H
   replace H : (if qR = true then ((slices_Equal_int_int.f k qG qH).bind fun qQ => (some qQ)) else (some false)) = some r := H
   have A5 := aM A50
   clear A50
   by_cases c6 : qR = true
   ·subst c6
    have H1 : ((slices_Equal_int_int.f k qG qH).bind fun qQ => (some qQ)) = some r := by rw [if_pos rfl] at H; exact H
    clear H
    have H := H1
    clear H1
    replace H := Option.bind_eq_some_iff.mp H
    obtain ⟨qQ, A70, H⟩ := H
    replace H : (some qQ) = some r := H
    have A7 := aM A70
    clear A70
    obtain rfl := Option.some.inj H
    go_enter Try.func31, Try.ntmps31
    go_wp2_with (first | ((with_reducible refine gate_dst (N := 2) rfl ?_); refine box_event ?hg (N := 2) ?hd (cs := #[.int .i64 qI, .int .i64 qJ, .slice qS qK.length qT, .slice qU qG.length qV]) (t := 26) ?hr ?_; (case hd => rfl); (case hg => rfl); (case hr => first | (go_simp; done) | (go_simp; rfl)); intro qA hg w8 hbox hb; have qB := aM (hbox); have qa := aM ((by rw [hg]; exact (below_size (lB HB)) : w.heap.size ≤ qA)); have qC := aM ((by rw [hg]; exact (below_size (lB HB)) : w.heap.size ≤ qA)); replace HB := aM (below_step (lB HB) hb); clear hb hbox hg) | ((with_reducible refine gate_dst (N := 3) rfl ?_); refine box_event ?hg (N := 3) ?hd (cs := #[.int .i64 qL, .int .i64 qM, .slice qW qN.length qX, .slice qY qH.length qZ]) (t := 26) ?hr ?_; (case hd => rfl); (case hg => rfl); (case hr => first | (go_simp; done) | (go_simp; rfl)); intro qD hg w9 hbox hb; have qO := aM (hbox); have qb := aM ((by rw [hg]; exact (below_size (by have := GEc.mk qC.out; exact lS HB)) : w.heap.size ≤ qD)); have qP := aM ((by rw [hg]; exact (below_size (by have := GEc.mk qC.out; exact lS HB)) : w.heap.size ≤ qD)); replace HB := aM (below_step (by have := GEc.mk qC.out; exact lS HB) hb); have qE := aM ((by rw [hg]; exact Nat.ne_of_lt (blk_lt (g := qA) (lK qB)) : qA ≠ qD)); have qF := aM ((by rw [hg]; exact Nat.ne_of_gt (blk_lt (g := qA) (lK qB)) : qD ≠ qA)); replace qB := aM (blk_below (g := qA) (lK qB) hb); clear hb hbox hg; have q8 := qE.out; have q9 := qF.out; have qs := zc4 qB.out; have qt := fun i_ : Nat => blk_frozen qB.out i_; have qu := zc4 qO.out; have qv := fun i_ : Nat => blk_frozen qO.out i_) | (go_at_call 49; (with_reducible refine (api_Instr.calls k _ _ qK _ _ qN true _ ?side1 ?side2 ?side3 ?side4 A5.out).mono ?_); (case side1 => refine lY ?_; exact (Kd.C_below qk.out HB.out)); (case side2 => exact ql.out); (case side3 => refine lY ?_; exact (Kd.C_below qm.out HB.out)); (case side4 => exact qn.out); rintro e w' ⟨rfl, ⟨nd, rfl⟩⟩) | (go_at_call 50; (with_reducible refine (slices_Equal_int_int.calls k _ _ qG _ _ qH qQ _ ?side1 ?side2 ?side3 ?side4 A7.out).mono ?_); (case side1 => refine lY ?_; exact (Kd.C_below qo.out (by have := GEc.mk qC.out; have := GEc.mk qP.out; exact lS HB))); (case side2 => exact qp.out); (case side3 => refine lY ?_; exact (Kd.C_below qq.out (by have := GEc.mk qC.out; have := GEc.mk qP.out; exact lS HB))); (case side4 => exact qr.out); rintro e w' ⟨rfl, ⟨nd, rfl⟩⟩))
    go_ret
    exact ⟨by first | rfl | (simp [errW_none, errW_some] <;> rfl) | (simp [*, errW_none, errW_some] <;> rfl), by repeat (first | (with_reducible first | exact HB.out | apply below_alloc | apply pw_below_drewN | apply below_drew1 | refine below_set ?_ qC.out | refine below_set ?_ qP.out) | exact HB.out)⟩
   ·replace c6 := Bool.eq_false_iff.mpr c6
    subst c6
    have H1 : (some false) = some r := by rw [if_neg (show ¬ (false = true) by decide)] at H; exact H
    clear H
    have H := H1
    clear H1
    obtain rfl := Option.some.inj H
    go_enter Try.func31, Try.ntmps31
    go_wp2_with (first | ((with_reducible refine gate_dst (N := 2) rfl ?_); refine box_event ?hg (N := 2) ?hd (cs := #[.int .i64 qI, .int .i64 qJ, .slice qS qK.length qT, .slice qU qG.length qV]) (t := 26) ?hr ?_; (case hd => rfl); (case hg => rfl); (case hr => first | (go_simp; done) | (go_simp; rfl)); intro qA hg w13 hbox hb; have qB := aM (hbox); have qa := aM ((by rw [hg]; exact (below_size (lB HB)) : w.heap.size ≤ qA)); have qC := aM ((by rw [hg]; exact (below_size (lB HB)) : w.heap.size ≤ qA)); replace HB := aM (below_step (lB HB) hb); clear hb hbox hg) | ((with_reducible refine gate_dst (N := 3) rfl ?_); refine box_event ?hg (N := 3) ?hd (cs := #[.int .i64 qL, .int .i64 qM, .slice qW qN.length qX, .slice qY qH.length qZ]) (t := 26) ?hr ?_; (case hd => rfl); (case hg => rfl); (case hr => first | (go_simp; done) | (go_simp; rfl)); intro qD hg w14 hbox hb; have qO := aM (hbox); have qb := aM ((by rw [hg]; exact (below_size (by have := GEc.mk qC.out; exact lS HB)) : w.heap.size ≤ qD)); have qP := aM ((by rw [hg]; exact (below_size (by have := GEc.mk qC.out; exact lS HB)) : w.heap.size ≤ qD)); replace HB := aM (below_step (by have := GEc.mk qC.out; exact lS HB) hb); have qE := aM ((by rw [hg]; exact Nat.ne_of_lt (blk_lt (g := qA) (lK qB)) : qA ≠ qD)); have qF := aM ((by rw [hg]; exact Nat.ne_of_gt (blk_lt (g := qA) (lK qB)) : qD ≠ qA)); replace qB := aM (blk_below (g := qA) (lK qB) hb); clear hb hbox hg; have jA := qE.out; have jB := qF.out; have qw := zc4 qB.out; have qx := fun i_ : Nat => blk_frozen qB.out i_; have qy := zc4 qO.out; have qz := fun i_ : Nat => blk_frozen qO.out i_) | (go_at_call 49; (with_reducible refine (api_Instr.calls k _ _ qK _ _ qN false _ ?side1 ?side2 ?side3 ?side4 A5.out).mono ?_); (case side1 => refine lY ?_; exact (Kd.C_below qk.out HB.out)); (case side2 => exact ql.out); (case side3 => refine lY ?_; exact (Kd.C_below qm.out HB.out)); (case side4 => exact qn.out); rintro e w' ⟨rfl, ⟨nd, rfl⟩⟩))
    go_ret
    exact ⟨by first | rfl | (simp [errW_none, errW_some] <;> rfl) | (simp [*, errW_none, errW_some] <;> rfl), by repeat (first | (with_reducible first | exact HB.out | apply below_alloc | apply pw_below_drewN | apply below_drew1 | refine below_set ?_ qC.out | refine below_set ?_ qP.out) | exact HB.out)⟩
  ·rw [if_neg c4] at H
   have c4b0 : (qJ == qM) = false := beq_eq_false_iff_ne.mpr c4
   have c4b1 : (qJ != qM) = true := bne_iff_ne.mpr c4
   obtain rfl := Option.some.inj H
   go_enter Try.func31, Try.ntmps31
   go_wp2_with (first | ((with_reducible refine gate_dst (N := 2) rfl ?_); refine box_event ?hg (N := 2) ?hd (cs := #[.int .i64 qI, .int .i64 qJ, .slice qS qK.length qT, .slice qU qG.length qV]) (t := 26) ?hr ?_; (case hd => rfl); (case hg => rfl); (case hr => first | (go_simp; done) | (go_simp; rfl)); intro qA hg w18 hbox hb; have qB := aM (hbox); have qa := aM ((by rw [hg]; exact (below_size (lB HB)) : w.heap.size ≤ qA)); have qC := aM ((by rw [hg]; exact (below_size (lB HB)) : w.heap.size ≤ qA)); replace HB := aM (below_step (lB HB) hb); clear hb hbox hg) | ((with_reducible refine gate_dst (N := 3) rfl ?_); refine box_event ?hg (N := 3) ?hd (cs := #[.int .i64 qL, .int .i64 qM, .slice qW qN.length qX, .slice qY qH.length qZ]) (t := 26) ?hr ?_; (case hd => rfl); (case hg => rfl); (case hr => first | (go_simp; done) | (go_simp; rfl)); intro qD hg w19 hbox hb; have qO := aM (hbox); have qb := aM ((by rw [hg]; exact (below_size (by have := GEc.mk qC.out; exact lS HB)) : w.heap.size ≤ qD)); have qP := aM ((by rw [hg]; exact (below_size (by have := GEc.mk qC.out; exact lS HB)) : w.heap.size ≤ qD)); replace HB := aM (below_step (by have := GEc.mk qC.out; exact lS HB) hb); have qE := aM ((by rw [hg]; exact Nat.ne_of_lt (blk_lt (g := qA) (lK qB)) : qA ≠ qD)); have qF := aM ((by rw [hg]; exact Nat.ne_of_gt (blk_lt (g := qA) (lK qB)) : qD ≠ qA)); replace qB := aM (blk_below (g := qA) (lK qB) hb); clear hb hbox hg; have jC := qE.out; have jD := qF.out; have q0 := zc4 qB.out; have q1 := fun i_ : Nat => blk_frozen qB.out i_; have q2 := zc4 qO.out; have q3 := fun i_ : Nat => blk_frozen qO.out i_))
   go_ret
   exact ⟨by first | rfl | (simp [errW_none, errW_some] <;> rfl) | (simp [*, errW_none, errW_some] <;> rfl), by repeat (first | (with_reducible first | exact HB.out | apply below_alloc | apply pw_below_drewN | apply below_drew1 | refine below_set ?_ qC.out | refine below_set ?_ qP.out) | exact HB.out)⟩
 ·rw [if_neg c3] at H
  have c3b0 : (qI == qL) = false := beq_eq_false_iff_ne.mpr c3
  have c3b1 : (qI != qL) = true := bne_iff_ne.mpr c3
  obtain rfl := Option.some.inj H
  go_enter Try.func31, Try.ntmps31
  go_wp2_with (first | ((with_reducible refine gate_dst (N := 2) rfl ?_); refine box_event ?hg (N := 2) ?hd (cs := #[.int .i64 qI, .int .i64 qJ, .slice qS qK.length qT, .slice qU qG.length qV]) (t := 26) ?hr ?_; (case hd => rfl); (case hg => rfl); (case hr => first | (go_simp; done) | (go_simp; rfl)); intro qA hg w23 hbox hb; have qB := aM (hbox); have qa := aM ((by rw [hg]; exact (below_size (lB HB)) : w.heap.size ≤ qA)); have qC := aM ((by rw [hg]; exact (below_size (lB HB)) : w.heap.size ≤ qA)); replace HB := aM (below_step (lB HB) hb); clear hb hbox hg) | ((with_reducible refine gate_dst (N := 3) rfl ?_); refine box_event ?hg (N := 3) ?hd (cs := #[.int .i64 qL, .int .i64 qM, .slice qW qN.length qX, .slice qY qH.length qZ]) (t := 26) ?hr ?_; (case hd => rfl); (case hg => rfl); (case hr => first | (go_simp; done) | (go_simp; rfl)); intro qD hg w24 hbox hb; have qO := aM (hbox); have qb := aM ((by rw [hg]; exact (below_size (by have := GEc.mk qC.out; exact lS HB)) : w.heap.size ≤ qD)); have qP := aM ((by rw [hg]; exact (below_size (by have := GEc.mk qC.out; exact lS HB)) : w.heap.size ≤ qD)); replace HB := aM (below_step (by have := GEc.mk qC.out; exact lS HB) hb); have qE := aM ((by rw [hg]; exact Nat.ne_of_lt (blk_lt (g := qA) (lK qB)) : qA ≠ qD)); have qF := aM ((by rw [hg]; exact Nat.ne_of_gt (blk_lt (g := qA) (lK qB)) : qD ≠ qA)); replace qB := aM (blk_below (g := qA) (lK qB) hb); clear hb hbox hg; have jE := qE.out; have jF := qF.out; have q4 := zc4 qB.out; have q5 := fun i_ : Nat => blk_frozen qB.out i_; have q6 := zc4 qO.out; have q7 := fun i_ : Nat => blk_frozen qO.out i_))
  go_ret
  exact ⟨by first | rfl | (simp [errW_none, errW_some] <;> rfl) | (simp [*, errW_none, errW_some] <;> rfl), by repeat (first | (with_reducible first | exact HB.out | apply below_alloc | apply pw_below_drewN | apply below_drew1 | refine below_set ?_ qC.out | refine below_set ?_ qP.out) | exact HB.out)⟩

end Go.Proofs.Ytccbdcbeinkjgaa.XA
end

section
namespace Go.Proofs.Ytccbdcbeinkjgaa.XA
open Go.Proofs.Ytccbdcbeinkjgaa.Lift Go.RowKit Go.Proofs.YtccbdcbeinkjgaaW.PrintWords Go.Proofs.YtccbdcbeinkjgaaW.PrintLast Go.Proofs.YtccbdcbeinkjgaaW.PrintMore
attribute [local go_sem] max2_int min2_int max_two min_two max_three min_three max_four min_four
set_option linter.unusedVariables false
set_option linter.unusedSimpArgs false

/-! ### code_Same: function 14 -/
def code_Same.f (k : Nat) (qf : Int) (qg : Int) (qY : List (S48)) (qh : Int) (qi : Int) (qU : List (S63)) (qV : List Int) (qb : Int) (qc : Int) (qS : List (S63)) (qM : List Int) (qO : Int) (qP : Int) (qG : List (S63)) (qH : List Int) (qj : Int) (qk : Int) (qZ : List (S48)) (ql : Int) (qm : Int) (qW : List (S63)) (qX : List Int) (qd : Int) (qe : Int) (qT : List (S63)) (qN : List Int) (qQ : Int) (qR : Int) (qI : List (S63)) (qJ : List Int) : Option (Bool) := if qf = qj then (if qg = qk then ((api_Point_30.f k qY qZ).bind fun jK => (if jK = true then ((prog_Same.f k qh qi qU qV ql qm qW qX).bind fun q0 => (if q0 = true then ((prog_Same.f k qb qc qS qM qd qe qT qN).bind fun qn => (if qn = true then ((prog_Same.f k qO qP qG qH qQ qR qI qJ).bind fun qa => (some qa)) else (some false))) else (some false))) else (some false))) else (some false)) else (some false)
theorem code_Same.mono : ∀ a0 a1 a2 a3 a4 a5 a6 a7 a8 a9 a10 a11 a12 a13 a14 a15 a16 a17 a18 a19 a20 a21 a22 a23 a24 a25 a26 a27 a28 a29 k, LeO (code_Same.f k a0 a1 a2 a3 a4 a5 a6 a7 a8 a9 a10 a11 a12 a13 a14 a15 a16 a17 a18 a19 a20 a21 a22 a23 a24 a25 a26 a27 a28 a29) (code_Same.f (k + 1) a0 a1 a2 a3 a4 a5 a6 a7 a8 a9 a10 a11 a12 a13 a14 a15 a16 a17 a18 a19 a20 a21 a22 a23 a24 a25 a26 a27 a28 a29) := by
 intro a0 a1 a2 a3 a4 a5 a6 a7 a8 a9 a10 a11 a12 a13 a14 a15 a16 a17 a18 a19 a20 a21 a22 a23 a24 a25 a26 a27 a28 a29 k
 unfold code_Same.f
 repeat' first
   | (with_reducible exact api_Point_30.mono _ _ _)
   | (with_reducible exact prog_Same.mono _ _ _ _ _ _ _ _ _)
   | (with_reducible exact LeO.refl _)
   | (with_reducible exact LeO.none _)
   | (with_reducible refine LeO.ite ?_ ?_)
   | (with_reducible refine LeO.bind ?_ (fun _ => ?_))
   | exact api_Point_30.mono _ _ _
   | exact prog_Same.mono _ _ _ _ _ _ _ _ _
   | exact LeO.none _
   | refine LeO.ite ?_ ?_
   | refine LeO.bind ?_ (fun _ => ?_)
set_option maxHeartbeats 8000000 in
set_option maxRecDepth 100000 in
theorem code_Same.calls (k : Nat) (qf : Int) (qg : Int) (q1 : Option Addr) (q2 : Nat) (qY : List (S48)) (qh : Int) (qi : Int) (q3 : Option Addr) (q4 : Nat) (qU : List (S63)) (q5 : Option Addr) (q6 : Nat) (qV : List Int) (qb : Int) (qc : Int) (q7 : Option Addr) (q8 : Nat) (qS : List (S63)) (qo : Option Addr) (qp : Nat) (qM : List Int) (qO : Int) (qP : Int) (qq : Option Addr) (qr : Nat) (qG : List (S63)) (qs : Option Addr) (qt : Nat) (qH : List Int) (qj : Int) (qk : Int) (q9 : Option Addr) (jA : Nat) (qZ : List (S48)) (ql : Int) (qm : Int) (jB : Option Addr) (jC : Nat) (qW : List (S63)) (jD : Option Addr) (jE : Nat) (qX : List Int) (qd : Int) (qe : Int) (jF : Option Addr) (jG : Nat) (qT : List (S63)) (qu : Option Addr) (qv : Nat) (qN : List Int) (qQ : Int) (qR : Int) (qw : Option Addr) (qx : Nat) (qI : List (S63)) (qy : Option Addr) (qz : Nat) (qJ : List Int) (r : Bool) (w : World) (jp : Kd.C k48 w q1 qY.length qY) (jq : qY.length ≤ q2) (jr : Kd.C k63 w q3 qU.length qU) (js : qU.length ≤ q4) (jt : Kd.C (Kd.int .i64) w q5 qV.length qV) (ju : qV.length ≤ q6) (jv : Kd.C k63 w q7 qS.length qS) (jw : qS.length ≤ q8) (jZ : Kd.C (Kd.int .i64) w qo qM.length qM) (ja : qM.length ≤ qp) (jb : Kd.C k63 w qq qG.length qG) (jc : qG.length ≤ qr) (jd : Kd.C (Kd.int .i64) w qs qH.length qH) (je : qH.length ≤ qt) (jx : Kd.C k48 w q9 qZ.length qZ) (jy : qZ.length ≤ jA) (jz : Kd.C k63 w jB qW.length qW) (j0 : qW.length ≤ jC) (j1 : Kd.C (Kd.int .i64) w jD qX.length qX) (j2 : qX.length ≤ jE) (j3 : Kd.C k63 w jF qT.length qT) (j4 : qT.length ≤ jG) (jf : Kd.C (Kd.int .i64) w qu qN.length qN) (jg : qN.length ≤ qv) (jh : Kd.C k63 w qw qI.length qI) (ji : qI.length ≤ qx) (jj : Kd.C (Kd.int .i64) w qy qJ.length qJ) (jk : qJ.length ≤ qz) (h : code_Same.f k qf qg qY qh qi qU qV qb qc qS qM qO qP qG qH qj qk qZ ql qm qW qX qd qe qT qN qQ qR qI qJ = some r) :
  Calls Try.prog 14 #[.agg #[.int .i64 qf, .int .i64 qg, .slice q1 qY.length q2, .int .i64 qh, .int .i64 qi, .slice q3 qU.length q4, .slice q5 qV.length q6, .int .i64 qb, .int .i64 qc, .slice q7 qS.length q8, .slice qo qM.length qp, .int .i64 qO, .int .i64 qP, .slice qq qG.length qr, .slice qs qH.length qt], .agg #[.int .i64 qj, .int .i64 qk, .slice q9 qZ.length jA, .int .i64 ql, .int .i64 qm, .slice jB qW.length jC, .slice jD qX.length jE, .int .i64 qd, .int .i64 qe, .slice jF qT.length jG, .slice qu qN.length qv, .int .i64 qQ, .int .i64 qR, .slice qw qI.length qx, .slice qy qJ.length qz]] w fun e w' => e = .returned (.bool r) ∧ Below w.heap.size w w' := by
 have hu28 := Try.underlying28
 have hu26 := Try.underlying26
 have jL := aM jp
 have jM := aM jq
 clear jp jq
 have jQ := aM jr
 have jR := aM js
 clear jr js
 have jS := aM jt
 have jT := aM ju
 clear jt ju
 have j5 := aM jv
 have j6 := aM jw
 clear jv jw
 have jl := aM jZ
 have jm := aM ja
 clear jZ ja
 have yA := aM jb
 have yB := aM jc
 clear jb jc
 have yC := aM jd
 have yD := aM je
 clear jd je
 have jN := aM jx
 have jO := aM jy
 clear jx jy
 have jU := aM jz
 have jV := aM j0
 clear jz j0
 have jW := aM j1
 have jX := aM j2
 clear j1 j2
 have j7 := aM j3
 have j8 := aM j4
 clear j3 j4
 have jn := aM jf
 have jo := aM jg
 clear jf jg
 have yE := aM jh
 have yF := aM ji
 clear jh ji
 have yG := aM jj
 have yH := aM jk
 clear jj jk
 have HB := aM (Below.refl w.heap.size w)
 have H : (if qf = qj then (if qg = qk then ((api_Point_30.f k qY qZ).bind fun jK => (if jK = true then ((prog_Same.f k qh qi qU qV ql qm qW qX).bind fun q0 => (if q0 = true then ((prog_Same.f k qb qc qS qM qd qe qT qN).bind fun qn => (if qn = true then ((prog_Same.f k qO qP qG qH qQ qR qI qJ).bind fun qa => (some qa)) else (some false))) else (some false))) else (some false))) else (some false)) else (some false)) = some r := h
 clear h
 by_cases c3 : qf = qj
 ·rw [if_pos c3] at H
  have c3b0 : (qf == qj) = true := beq_iff_eq.mpr c3
  have c3b1 : (qf != qj) = false := bne_eq_false_iff_eq.mpr c3
  clear c3
  by_cases c4 : qg = qk
  ·rw [if_pos c4] at H
   have c4b0 : (qg == qk) = true := beq_iff_eq.mpr c4
   have c4b1 : (qg != qk) = false := bne_eq_false_iff_eq.mpr c4
   clear c4
   replace H := Option.bind_eq_some_iff.mp H
   obtain ⟨jK, A50, H⟩ := H
   replace H : (if jK = true then ((prog_Same.f k qh qi qU qV ql qm qW qX).bind fun q0 => (if q0 = true then ((prog_Same.f k qb qc qS qM qd qe qT qN).bind fun qn => (if qn = true then ((prog_Same.f k qO qP qG qH qQ qR qI qJ).bind fun qa => (some qa)) else (some false))) else (some false))) else (some false)) = some r := H
   have A5 := aM A50
   clear A50
   by_cases c6 : jK = true
   ·subst c6
    have H1 : ((prog_Same.f k qh qi qU qV ql qm qW qX).bind fun q0 => (if q0 = true then ((prog_Same.f k qb qc qS qM qd qe qT qN).bind fun qn => (if qn = true then ((prog_Same.f k qO qP qG qH qQ qR qI qJ).bind fun qa => (some qa)) else (some false))) else (some false))) = some r := by rw [if_pos rfl] at H; exact H
    clear H
    have H := H1
    clear H1
    replace H := Option.bind_eq_some_iff.mp H
    obtain ⟨q0, A70, H⟩ := H
    replace H : (if q0 = true then ((prog_Same.f k qb qc qS qM qd qe qT qN).bind fun qn => (if qn = true then ((prog_Same.f k qO qP qG qH qQ qR qI qJ).bind fun qa => (some qa)) else (some false))) else (some false)) = some r := H
    have A7 := aM A70
    clear A70
    by_cases c8 : q0 = true
    ·subst c8
     have H1 : ((prog_Same.f k qb qc qS qM qd qe qT qN).bind fun qn => (if qn = true then ((prog_Same.f k qO qP qG qH qQ qR qI qJ).bind fun qa => (some qa)) else (some false))) = some r := by rw [if_pos rfl] at H; exact H
     clear H
     have H := H1
     clear H1
     replace H := Option.bind_eq_some_iff.mp H
     obtain ⟨qn, A90, H⟩ := H
     replace H : (if qn = true then ((prog_Same.f k qO qP qG qH qQ qR qI qJ).bind fun qa => (some qa)) else (some false)) = some r := H
     have A9 := aM A90
     clear A90
     by_cases c10 : qn = true
     ·subst c10
      have H1 : ((prog_Same.f k qO qP qG qH qQ qR qI qJ).bind fun qa => (some qa)) = some r := by rw [if_pos rfl] at H; exact H
      clear H
      have H := H1
      clear H1
      replace H := Option.bind_eq_some_iff.mp H
      obtain ⟨qa, A110, H⟩ := H
      replace H : (some qa) = some r := H
      have A11 := aM A110
      clear A110
      obtain rfl := Option.some.inj H
      go_enter Try.func14, Try.ntmps14
      go_wp2_with (first | ((with_reducible refine gate_dst (N := 2) rfl ?_); refine box_event ?hg (N := 2) ?hd (cs := #[.int .i64 qf, .int .i64 qg, .slice q1 qY.length q2, .int .i64 qh, .int .i64 qi, .slice q3 qU.length q4, .slice q5 qV.length q6, .int .i64 qb, .int .i64 qc, .slice q7 qS.length q8, .slice qo qM.length qp, .int .i64 qO, .int .i64 qP, .slice qq qG.length qr, .slice qs qH.length qt]) (t := 28) ?hr ?_; (case hd => rfl); (case hg => rfl); (case hr => first | (go_simp; done) | (go_simp; rfl)); intro qB hg w12 hbox hb; have qA := aM (hbox); have jI := aM ((by rw [hg]; exact (below_size (lB HB)) : w.heap.size ≤ qB)); have qC := aM ((by rw [hg]; exact (below_size (lB HB)) : w.heap.size ≤ qB)); replace HB := aM (below_step (lB HB) hb); clear hb hbox hg) | ((with_reducible refine gate_dst (N := 3) rfl ?_); refine box_event ?hg (N := 3) ?hd (cs := #[.int .i64 qj, .int .i64 qk, .slice q9 qZ.length jA, .int .i64 ql, .int .i64 qm, .slice jB qW.length jC, .slice jD qX.length jE, .int .i64 qd, .int .i64 qe, .slice jF qT.length jG, .slice qu qN.length qv, .int .i64 qQ, .int .i64 qR, .slice qw qI.length qx, .slice qy qJ.length qz]) (t := 28) ?hr ?_; (case hd => rfl); (case hg => rfl); (case hr => first | (go_simp; done) | (go_simp; rfl)); intro qD hg w13 hbox hb; have qE := aM (hbox); have jJ := aM ((by rw [hg]; exact (below_size (by have := GEc.mk qC.out; exact lS HB)) : w.heap.size ≤ qD)); have qF := aM ((by rw [hg]; exact (below_size (by have := GEc.mk qC.out; exact lS HB)) : w.heap.size ≤ qD)); replace HB := aM (below_step (by have := GEc.mk qC.out; exact lS HB) hb); have qK := aM ((by rw [hg]; exact Nat.ne_of_lt (blk_lt (g := qB) (lK qA)) : qB ≠ qD)); have qL := aM ((by rw [hg]; exact Nat.ne_of_gt (blk_lt (g := qB) (lK qA)) : qD ≠ qB)); replace qA := aM (blk_below (g := qB) (lK qA) hb); clear hb hbox hg; have yu := qK.out; have yv := qL.out; have yI := zc15 qA.out; have yJ := fun i_ : Nat => blk_frozen qA.out i_; have yK := zc15 qE.out; have yL := fun i_ : Nat => blk_frozen qE.out i_) | (go_at_call 30; (with_reducible refine (api_Point_30.calls k _ _ qY _ _ qZ true _ ?side1 ?side2 ?side3 ?side4 A5.out).mono ?_); (case side1 => refine lY ?_; exact (Kd.C_below jL.out HB.out)); (case side2 => exact jM.out); (case side3 => refine lY ?_; exact (Kd.C_below jN.out HB.out)); (case side4 => exact jO.out); rintro e w' ⟨rfl, ⟨nd, rfl⟩⟩) | (go_at_call 31; (with_reducible refine (prog_Same.calls k qh qi _ _ qU _ _ qV ql qm _ _ qW _ _ qX true _ ?side1 ?side2 ?side3 ?side4 ?side5 ?side6 ?side7 ?side8 A7.out).mono ?_); (case side1 => refine lY ?_; exact (Kd.C_below jQ.out (by have := GEc.mk qC.out; have := GEc.mk qF.out; exact lS HB))); (case side2 => exact jR.out); (case side3 => refine lY ?_; exact (Kd.C_below jS.out (by have := GEc.mk qC.out; have := GEc.mk qF.out; exact lS HB))); (case side4 => exact jT.out); (case side5 => refine lY ?_; exact (Kd.C_below jU.out (by have := GEc.mk qC.out; have := GEc.mk qF.out; exact lS HB))); (case side6 => exact jV.out); (case side7 => refine lY ?_; exact (Kd.C_below jW.out (by have := GEc.mk qC.out; have := GEc.mk qF.out; exact lS HB))); (case side8 => exact jX.out); rintro e w17 ⟨rfl, hb⟩; replace qA := aM (blk_below (g := qB) (lK qA) hb); replace qE := aM (blk_below (g := qD) (lK qE) hb); replace HB := aM (below_step (by have := GEc.mk qC.out; have := GEc.mk qF.out; exact lS HB) hb); (try clear hb); (try clear hb2); (try clear hk); (try clear hi); have yM := zc15 qA.out; have yN := fun i_ : Nat => blk_frozen qA.out i_; have yO := zc15 qE.out; have yP := fun i_ : Nat => blk_frozen qE.out i_) | (go_at_call 31; (with_reducible refine (prog_Same.calls k qb qc _ _ qS _ _ qM qd qe _ _ qT _ _ qN true _ ?side1 ?side2 ?side3 ?side4 ?side5 ?side6 ?side7 ?side8 A9.out).mono ?_); (case side1 => refine lY ?_; exact (Kd.C_below j5.out HB.out)); (case side2 => exact j6.out); (case side3 => refine lY ?_; exact (Kd.C_below jl.out HB.out)); (case side4 => exact jm.out); (case side5 => refine lY ?_; exact (Kd.C_below j7.out HB.out)); (case side6 => exact j8.out); (case side7 => refine lY ?_; exact (Kd.C_below jn.out HB.out)); (case side8 => exact jo.out); rintro e w20 ⟨rfl, hb⟩; replace qA := aM (blk_below (g := qB) (lK qA) hb); replace qE := aM (blk_below (g := qD) (lK qE) hb); replace HB := aM (below_step (by have := GEc.mk qC.out; have := GEc.mk qF.out; exact lS HB) hb); (try clear hb); (try clear hb2); (try clear hk); (try clear hi); have yQ := zc15 qA.out; have yR := fun i_ : Nat => blk_frozen qA.out i_; have yS := zc15 qE.out; have yT := fun i_ : Nat => blk_frozen qE.out i_) | (go_at_call 31; (with_reducible refine (prog_Same.calls k qO qP _ _ qG _ _ qH qQ qR _ _ qI _ _ qJ qa _ ?side1 ?side2 ?side3 ?side4 ?side5 ?side6 ?side7 ?side8 A11.out).mono ?_); (case side1 => refine lY ?_; exact (Kd.C_below yA.out HB.out)); (case side2 => exact yB.out); (case side3 => refine lY ?_; exact (Kd.C_below yC.out HB.out)); (case side4 => exact yD.out); (case side5 => refine lY ?_; exact (Kd.C_below yE.out HB.out)); (case side6 => exact yF.out); (case side7 => refine lY ?_; exact (Kd.C_below yG.out HB.out)); (case side8 => exact yH.out); rintro e w23 ⟨rfl, hb⟩; replace qA := aM (blk_below (g := qB) (lK qA) hb); replace qE := aM (blk_below (g := qD) (lK qE) hb); replace HB := aM (below_step (by have := GEc.mk qC.out; have := GEc.mk qF.out; exact lS HB) hb); (try clear hb); (try clear hb2); (try clear hk); (try clear hi)))
      go_ret
      exact ⟨by first | rfl | (simp [errW_none, errW_some] <;> rfl) | (simp [*, errW_none, errW_some] <;> rfl), by repeat (first | (with_reducible first | exact HB.out | apply below_alloc | apply pw_below_drewN | apply below_drew1 | refine below_set ?_ qC.out | refine below_set ?_ qF.out) | exact HB.out)⟩
     ·replace c10 := Bool.eq_false_iff.mpr c10
      subst c10
      have H1 : (some false) = some r := by rw [if_neg (show ¬ (false = true) by decide)] at H; exact H
      clear H
      have H := H1
      clear H1
      obtain rfl := Option.some.inj H
      go_enter Try.func14, Try.ntmps14
      go_wp2_with (first | ((with_reducible refine gate_dst (N := 2) rfl ?_); refine box_event ?hg (N := 2) ?hd (cs := #[.int .i64 qf, .int .i64 qg, .slice q1 qY.length q2, .int .i64 qh, .int .i64 qi, .slice q3 qU.length q4, .slice q5 qV.length q6, .int .i64 qb, .int .i64 qc, .slice q7 qS.length q8, .slice qo qM.length qp, .int .i64 qO, .int .i64 qP, .slice qq qG.length qr, .slice qs qH.length qt]) (t := 28) ?hr ?_; (case hd => rfl); (case hg => rfl); (case hr => first | (go_simp; done) | (go_simp; rfl)); intro qB hg w24 hbox hb; have qA := aM (hbox); have jI := aM ((by rw [hg]; exact (below_size (lB HB)) : w.heap.size ≤ qB)); have qC := aM ((by rw [hg]; exact (below_size (lB HB)) : w.heap.size ≤ qB)); replace HB := aM (below_step (lB HB) hb); clear hb hbox hg) | ((with_reducible refine gate_dst (N := 3) rfl ?_); refine box_event ?hg (N := 3) ?hd (cs := #[.int .i64 qj, .int .i64 qk, .slice q9 qZ.length jA, .int .i64 ql, .int .i64 qm, .slice jB qW.length jC, .slice jD qX.length jE, .int .i64 qd, .int .i64 qe, .slice jF qT.length jG, .slice qu qN.length qv, .int .i64 qQ, .int .i64 qR, .slice qw qI.length qx, .slice qy qJ.length qz]) (t := 28) ?hr ?_; (case hd => rfl); (case hg => rfl); (case hr => first | (go_simp; done) | (go_simp; rfl)); intro qD hg w25 hbox hb; have qE := aM (hbox); have jJ := aM ((by rw [hg]; exact (below_size (by have := GEc.mk qC.out; exact lS HB)) : w.heap.size ≤ qD)); have qF := aM ((by rw [hg]; exact (below_size (by have := GEc.mk qC.out; exact lS HB)) : w.heap.size ≤ qD)); replace HB := aM (below_step (by have := GEc.mk qC.out; exact lS HB) hb); have qK := aM ((by rw [hg]; exact Nat.ne_of_lt (blk_lt (g := qB) (lK qA)) : qB ≠ qD)); have qL := aM ((by rw [hg]; exact Nat.ne_of_gt (blk_lt (g := qB) (lK qA)) : qD ≠ qB)); replace qA := aM (blk_below (g := qB) (lK qA) hb); clear hb hbox hg; have yw := qK.out; have yx := qL.out; have yU := zc15 qA.out; have yV := fun i_ : Nat => blk_frozen qA.out i_; have yW := zc15 qE.out; have yX := fun i_ : Nat => blk_frozen qE.out i_) | (go_at_call 30; (with_reducible refine (api_Point_30.calls k _ _ qY _ _ qZ true _ ?side1 ?side2 ?side3 ?side4 A5.out).mono ?_); (case side1 => refine lY ?_; exact (Kd.C_below jL.out HB.out)); (case side2 => exact jM.out); (case side3 => refine lY ?_; exact (Kd.C_below jN.out HB.out)); (case side4 => exact jO.out); rintro e w' ⟨rfl, ⟨nd, rfl⟩⟩) | (go_at_call 31; (with_reducible refine (prog_Same.calls k qh qi _ _ qU _ _ qV ql qm _ _ qW _ _ qX true _ ?side1 ?side2 ?side3 ?side4 ?side5 ?side6 ?side7 ?side8 A7.out).mono ?_); (case side1 => refine lY ?_; exact (Kd.C_below jQ.out (by have := GEc.mk qC.out; have := GEc.mk qF.out; exact lS HB))); (case side2 => exact jR.out); (case side3 => refine lY ?_; exact (Kd.C_below jS.out (by have := GEc.mk qC.out; have := GEc.mk qF.out; exact lS HB))); (case side4 => exact jT.out); (case side5 => refine lY ?_; exact (Kd.C_below jU.out (by have := GEc.mk qC.out; have := GEc.mk qF.out; exact lS HB))); (case side6 => exact jV.out); (case side7 => refine lY ?_; exact (Kd.C_below jW.out (by have := GEc.mk qC.out; have := GEc.mk qF.out; exact lS HB))); (case side8 => exact jX.out); rintro e w29 ⟨rfl, hb⟩; replace qA := aM (blk_below (g := qB) (lK qA) hb); replace qE := aM (blk_below (g := qD) (lK qE) hb); replace HB := aM (below_step (by have := GEc.mk qC.out; have := GEc.mk qF.out; exact lS HB) hb); (try clear hb); (try clear hb2); (try clear hk); (try clear hi); have yY := zc15 qA.out; have yZ := fun i_ : Nat => blk_frozen qA.out i_; have ya := zc15 qE.out; have yb := fun i_ : Nat => blk_frozen qE.out i_) | (go_at_call 31; (with_reducible refine (prog_Same.calls k qb qc _ _ qS _ _ qM qd qe _ _ qT _ _ qN false _ ?side1 ?side2 ?side3 ?side4 ?side5 ?side6 ?side7 ?side8 A9.out).mono ?_); (case side1 => refine lY ?_; exact (Kd.C_below j5.out HB.out)); (case side2 => exact j6.out); (case side3 => refine lY ?_; exact (Kd.C_below jl.out HB.out)); (case side4 => exact jm.out); (case side5 => refine lY ?_; exact (Kd.C_below j7.out HB.out)); (case side6 => exact j8.out); (case side7 => refine lY ?_; exact (Kd.C_below jn.out HB.out)); (case side8 => exact jo.out); rintro e w32 ⟨rfl, hb⟩; replace qA := aM (blk_below (g := qB) (lK qA) hb); replace qE := aM (blk_below (g := qD) (lK qE) hb); replace HB := aM (below_step (by have := GEc.mk qC.out; have := GEc.mk qF.out; exact lS HB) hb); (try clear hb); (try clear hb2); (try clear hk); (try clear hi)))
      go_ret
      exact ⟨by first | rfl | (simp [errW_none, errW_some] <;> rfl) | (simp [*, errW_none, errW_some] <;> rfl), by repeat (first | (with_reducible first | exact HB.out | apply below_alloc | apply pw_below_drewN | apply below_drew1 | refine below_set ?_ qC.out | refine below_set ?_ qF.out) | exact HB.out)⟩
    ·replace c8 := Bool.eq_false_iff.mpr c8
     subst c8
     have H1 : (some false) = some r := by rw [if_neg (show ¬ (false = true) by decide)] at H; exact H
     clear H
     have H := H1
     clear H1
     obtain rfl := Option.some.inj H
     go_enter Try.func14, Try.ntmps14
     go_wp2_with (first | ((with_reducible refine gate_dst (N := 2) rfl ?_); refine box_event ?hg (N := 2) ?hd (cs := #[.int .i64 qf, .int .i64 qg, .slice q1 qY.length q2, .int .i64 qh, .int .i64 qi, .slice q3 qU.length q4, .slice q5 qV.length q6, .int .i64 qb, .int .i64 qc, .slice q7 qS.length q8, .slice qo qM.length qp, .int .i64 qO, .int .i64 qP, .slice qq qG.length qr, .slice qs qH.length qt]) (t := 28) ?hr ?_; (case hd => rfl); (case hg => rfl); (case hr => first | (go_simp; done) | (go_simp; rfl)); intro qB hg w33 hbox hb; have qA := aM (hbox); have jI := aM ((by rw [hg]; exact (below_size (lB HB)) : w.heap.size ≤ qB)); have qC := aM ((by rw [hg]; exact (below_size (lB HB)) : w.heap.size ≤ qB)); replace HB := aM (below_step (lB HB) hb); clear hb hbox hg) | ((with_reducible refine gate_dst (N := 3) rfl ?_); refine box_event ?hg (N := 3) ?hd (cs := #[.int .i64 qj, .int .i64 qk, .slice q9 qZ.length jA, .int .i64 ql, .int .i64 qm, .slice jB qW.length jC, .slice jD qX.length jE, .int .i64 qd, .int .i64 qe, .slice jF qT.length jG, .slice qu qN.length qv, .int .i64 qQ, .int .i64 qR, .slice qw qI.length qx, .slice qy qJ.length qz]) (t := 28) ?hr ?_; (case hd => rfl); (case hg => rfl); (case hr => first | (go_simp; done) | (go_simp; rfl)); intro qD hg w34 hbox hb; have qE := aM (hbox); have jJ := aM ((by rw [hg]; exact (below_size (by have := GEc.mk qC.out; exact lS HB)) : w.heap.size ≤ qD)); have qF := aM ((by rw [hg]; exact (below_size (by have := GEc.mk qC.out; exact lS HB)) : w.heap.size ≤ qD)); replace HB := aM (below_step (by have := GEc.mk qC.out; exact lS HB) hb); have qK := aM ((by rw [hg]; exact Nat.ne_of_lt (blk_lt (g := qB) (lK qA)) : qB ≠ qD)); have qL := aM ((by rw [hg]; exact Nat.ne_of_gt (blk_lt (g := qB) (lK qA)) : qD ≠ qB)); replace qA := aM (blk_below (g := qB) (lK qA) hb); clear hb hbox hg; have yy := qK.out; have yz := qL.out; have yc := zc15 qA.out; have yd := fun i_ : Nat => blk_frozen qA.out i_; have ye := zc15 qE.out; have yf := fun i_ : Nat => blk_frozen qE.out i_) | (go_at_call 30; (with_reducible refine (api_Point_30.calls k _ _ qY _ _ qZ true _ ?side1 ?side2 ?side3 ?side4 A5.out).mono ?_); (case side1 => refine lY ?_; exact (Kd.C_below jL.out HB.out)); (case side2 => exact jM.out); (case side3 => refine lY ?_; exact (Kd.C_below jN.out HB.out)); (case side4 => exact jO.out); rintro e w' ⟨rfl, ⟨nd, rfl⟩⟩) | (go_at_call 31; (with_reducible refine (prog_Same.calls k qh qi _ _ qU _ _ qV ql qm _ _ qW _ _ qX false _ ?side1 ?side2 ?side3 ?side4 ?side5 ?side6 ?side7 ?side8 A7.out).mono ?_); (case side1 => refine lY ?_; exact (Kd.C_below jQ.out (by have := GEc.mk qC.out; have := GEc.mk qF.out; exact lS HB))); (case side2 => exact jR.out); (case side3 => refine lY ?_; exact (Kd.C_below jS.out (by have := GEc.mk qC.out; have := GEc.mk qF.out; exact lS HB))); (case side4 => exact jT.out); (case side5 => refine lY ?_; exact (Kd.C_below jU.out (by have := GEc.mk qC.out; have := GEc.mk qF.out; exact lS HB))); (case side6 => exact jV.out); (case side7 => refine lY ?_; exact (Kd.C_below jW.out (by have := GEc.mk qC.out; have := GEc.mk qF.out; exact lS HB))); (case side8 => exact jX.out); rintro e w38 ⟨rfl, hb⟩; replace qA := aM (blk_below (g := qB) (lK qA) hb); replace qE := aM (blk_below (g := qD) (lK qE) hb); replace HB := aM (below_step (by have := GEc.mk qC.out; have := GEc.mk qF.out; exact lS HB) hb); (try clear hb); (try clear hb2); (try clear hk); (try clear hi)))
     go_ret
     exact ⟨by first | rfl | (simp [errW_none, errW_some] <;> rfl) | (simp [*, errW_none, errW_some] <;> rfl), by repeat (first | (with_reducible first | exact HB.out | apply below_alloc | apply pw_below_drewN | apply below_drew1 | refine below_set ?_ qC.out | refine below_set ?_ qF.out) | exact HB.out)⟩
   ·replace c6 := Bool.eq_false_iff.mpr c6
    subst c6
    have H1 : (some false) = some r := by rw [if_neg (show ¬ (false = true) by decide)] at H; exact H
    clear H
    have H := H1
    clear H1
    obtain rfl := Option.some.inj H
    go_enter Try.func14, Try.ntmps14
    go_wp2_with (first | ((with_reducible refine gate_dst (N := 2) rfl ?_); refine box_event ?hg (N := 2) ?hd (cs := #[.int .i64 qf, .int .i64 qg, .slice q1 qY.length q2, .int .i64 qh, .int .i64 qi, .slice q3 qU.length q4, .slice q5 qV.length q6, .int .i64 qb, .int .i64 qc, .slice q7 qS.length q8, .slice qo qM.length qp, .int .i64 qO, .int .i64 qP, .slice qq qG.length qr, .slice qs qH.length qt]) (t := 28) ?hr ?_; (case hd => rfl); (case hg => rfl); (case hr => first | (go_simp; done) | (go_simp; rfl)); intro qB hg w39 hbox hb; have qA := aM (hbox); have jI := aM ((by rw [hg]; exact (below_size (lB HB)) : w.heap.size ≤ qB)); have qC := aM ((by rw [hg]; exact (below_size (lB HB)) : w.heap.size ≤ qB)); replace HB := aM (below_step (lB HB) hb); clear hb hbox hg) | ((with_reducible refine gate_dst (N := 3) rfl ?_); refine box_event ?hg (N := 3) ?hd (cs := #[.int .i64 qj, .int .i64 qk, .slice q9 qZ.length jA, .int .i64 ql, .int .i64 qm, .slice jB qW.length jC, .slice jD qX.length jE, .int .i64 qd, .int .i64 qe, .slice jF qT.length jG, .slice qu qN.length qv, .int .i64 qQ, .int .i64 qR, .slice qw qI.length qx, .slice qy qJ.length qz]) (t := 28) ?hr ?_; (case hd => rfl); (case hg => rfl); (case hr => first | (go_simp; done) | (go_simp; rfl)); intro qD hg w40 hbox hb; have qE := aM (hbox); have jJ := aM ((by rw [hg]; exact (below_size (by have := GEc.mk qC.out; exact lS HB)) : w.heap.size ≤ qD)); have qF := aM ((by rw [hg]; exact (below_size (by have := GEc.mk qC.out; exact lS HB)) : w.heap.size ≤ qD)); replace HB := aM (below_step (by have := GEc.mk qC.out; exact lS HB) hb); have qK := aM ((by rw [hg]; exact Nat.ne_of_lt (blk_lt (g := qB) (lK qA)) : qB ≠ qD)); have qL := aM ((by rw [hg]; exact Nat.ne_of_gt (blk_lt (g := qB) (lK qA)) : qD ≠ qB)); replace qA := aM (blk_below (g := qB) (lK qA) hb); clear hb hbox hg; have y0 := qK.out; have y1 := qL.out; have yg := zc15 qA.out; have yh := fun i_ : Nat => blk_frozen qA.out i_; have yi := zc15 qE.out; have yj := fun i_ : Nat => blk_frozen qE.out i_) | (go_at_call 30; (with_reducible refine (api_Point_30.calls k _ _ qY _ _ qZ false _ ?side1 ?side2 ?side3 ?side4 A5.out).mono ?_); (case side1 => refine lY ?_; exact (Kd.C_below jL.out HB.out)); (case side2 => exact jM.out); (case side3 => refine lY ?_; exact (Kd.C_below jN.out HB.out)); (case side4 => exact jO.out); rintro e w' ⟨rfl, ⟨nd, rfl⟩⟩))
    go_ret
    exact ⟨by first | rfl | (simp [errW_none, errW_some] <;> rfl) | (simp [*, errW_none, errW_some] <;> rfl), by repeat (first | (with_reducible first | exact HB.out | apply below_alloc | apply pw_below_drewN | apply below_drew1 | refine below_set ?_ qC.out | refine below_set ?_ qF.out) | exact HB.out)⟩
  ·rw [if_neg c4] at H
   have c4b0 : (qg == qk) = false := beq_eq_false_iff_ne.mpr c4
   have c4b1 : (qg != qk) = true := bne_iff_ne.mpr c4
   obtain rfl := Option.some.inj H
   go_enter Try.func14, Try.ntmps14
   go_wp2_with (first | ((with_reducible refine gate_dst (N := 2) rfl ?_); refine box_event ?hg (N := 2) ?hd (cs := #[.int .i64 qf, .int .i64 qg, .slice q1 qY.length q2, .int .i64 qh, .int .i64 qi, .slice q3 qU.length q4, .slice q5 qV.length q6, .int .i64 qb, .int .i64 qc, .slice q7 qS.length q8, .slice qo qM.length qp, .int .i64 qO, .int .i64 qP, .slice qq qG.length qr, .slice qs qH.length qt]) (t := 28) ?hr ?_; (case hd => rfl); (case hg => rfl); (case hr => first | (go_simp; done) | (go_simp; rfl)); intro qB hg w44 hbox hb; have qA := aM (hbox); have jI := aM ((by rw [hg]; exact (below_size (lB HB)) : w.heap.size ≤ qB)); have qC := aM ((by rw [hg]; exact (below_size (lB HB)) : w.heap.size ≤ qB)); replace HB := aM (below_step (lB HB) hb); clear hb hbox hg) | ((with_reducible refine gate_dst (N := 3) rfl ?_); refine box_event ?hg (N := 3) ?hd (cs := #[.int .i64 qj, .int .i64 qk, .slice q9 qZ.length jA, .int .i64 ql, .int .i64 qm, .slice jB qW.length jC, .slice jD qX.length jE, .int .i64 qd, .int .i64 qe, .slice jF qT.length jG, .slice qu qN.length qv, .int .i64 qQ, .int .i64 qR, .slice qw qI.length qx, .slice qy qJ.length qz]) (t := 28) ?hr ?_; (case hd => rfl); (case hg => rfl); (case hr => first | (go_simp; done) | (go_simp; rfl)); intro qD hg w45 hbox hb; have qE := aM (hbox); have jJ := aM ((by rw [hg]; exact (below_size (by have := GEc.mk qC.out; exact lS HB)) : w.heap.size ≤ qD)); have qF := aM ((by rw [hg]; exact (below_size (by have := GEc.mk qC.out; exact lS HB)) : w.heap.size ≤ qD)); replace HB := aM (below_step (by have := GEc.mk qC.out; exact lS HB) hb); have qK := aM ((by rw [hg]; exact Nat.ne_of_lt (blk_lt (g := qB) (lK qA)) : qB ≠ qD)); have qL := aM ((by rw [hg]; exact Nat.ne_of_gt (blk_lt (g := qB) (lK qA)) : qD ≠ qB)); replace qA := aM (blk_below (g := qB) (lK qA) hb); clear hb hbox hg; have y2 := qK.out; have y3 := qL.out; have yk := zc15 qA.out; have yl := fun i_ : Nat => blk_frozen qA.out i_; have ym := zc15 qE.out; have yn := fun i_ : Nat => blk_frozen qE.out i_))
   go_ret
   exact ⟨by first | rfl | (simp [errW_none, errW_some] <;> rfl) | (simp [*, errW_none, errW_some] <;> rfl), by repeat (first | (with_reducible first | exact HB.out | apply below_alloc | apply pw_below_drewN | apply below_drew1 | refine below_set ?_ qC.out | refine below_set ?_ qF.out) | exact HB.out)⟩
 ·rw [if_neg c3] at H
  have c3b0 : (qf == qj) = false := beq_eq_false_iff_ne.mpr c3
  have c3b1 : (qf != qj) = true := bne_iff_ne.mpr c3
  obtain rfl := Option.some.inj H
  go_enter Try.func14, Try.ntmps14
  go_wp2_with (first | ((with_reducible refine gate_dst (N := 2) rfl ?_); refine box_event ?hg (N := 2) ?hd (cs := #[.int .i64 qf, .int .i64 qg, .slice q1 qY.length q2, .int .i64 qh, .int .i64 qi, .slice q3 qU.length q4, .slice q5 qV.length q6, .int .i64 qb, .int .i64 qc, .slice q7 qS.length q8, .slice qo qM.length qp, .int .i64 qO, .int .i64 qP, .slice qq qG.length qr, .slice qs qH.length qt]) (t := 28) ?hr ?_; (case hd => rfl); (case hg => rfl); (case hr => first | (go_simp; done) | (go_simp; rfl)); intro qB hg w49 hbox hb; have qA := aM (hbox); have jI := aM ((by rw [hg]; exact (below_size (lB HB)) : w.heap.size ≤ qB)); have qC := aM ((by rw [hg]; exact (below_size (lB HB)) : w.heap.size ≤ qB)); replace HB := aM (below_step (lB HB) hb); clear hb hbox hg) | ((with_reducible refine gate_dst (N := 3) rfl ?_); refine box_event ?hg (N := 3) ?hd (cs := #[.int .i64 qj, .int .i64 qk, .slice q9 qZ.length jA, .int .i64 ql, .int .i64 qm, .slice jB qW.length jC, .slice jD qX.length jE, .int .i64 qd, .int .i64 qe, .slice jF qT.length jG, .slice qu qN.length qv, .int .i64 qQ, .int .i64 qR, .slice qw qI.length qx, .slice qy qJ.length qz]) (t := 28) ?hr ?_; (case hd => rfl); (case hg => rfl); (case hr => first | (go_simp; done) | (go_simp; rfl)); intro qD hg w50 hbox hb; have qE := aM (hbox); have jJ := aM ((by rw [hg]; exact (below_size (by have := GEc.mk qC.out; exact lS HB)) : w.heap.size ≤ qD)); have qF := aM ((by rw [hg]; exact (below_size (by have := GEc.mk qC.out; exact lS HB)) : w.heap.size ≤ qD)); replace HB := aM (below_step (by have := GEc.mk qC.out; exact lS HB) hb); have qK := aM ((by rw [hg]; exact Nat.ne_of_lt (blk_lt (g := qB) (lK qA)) : qB ≠ qD)); have qL := aM ((by rw [hg]; exact Nat.ne_of_gt (blk_lt (g := qB) (lK qA)) : qD ≠ qB)); replace qA := aM (blk_below (g := qB) (lK qA) hb); clear hb hbox hg; have y4 := qK.out; have y5 := qL.out; have yo := zc15 qA.out; have yp := fun i_ : Nat => blk_frozen qA.out i_; have yq := zc15 qE.out; have yr := fun i_ : Nat => blk_frozen qE.out i_))
  go_ret
  exact ⟨by first | rfl | (simp [errW_none, errW_some] <;> rfl) | (simp [*, errW_none, errW_some] <;> rfl), by repeat (first | (with_reducible first | exact HB.out | apply below_alloc | apply pw_below_drewN | apply below_drew1 | refine below_set ?_ qC.out | refine below_set ?_ qF.out) | exact HB.out)⟩

/-! ### swagelaw17_one: function 32 -/
def swagelaw17_one.f  : Option (Int × Int × (List (S63)) × List Int) := some (1, 1, ([] : List (S63)), (([0] : List Int)))
set_option maxHeartbeats 8000000 in
set_option maxRecDepth 100000 in
theorem swagelaw17_one.calls  (r1 : Int) (r2 : Int) (r3 : List (S63)) (r4 : List Int) (w : World) (h : swagelaw17_one.f  = some (r1, r2, r3, r4)) :
  Calls Try.prog 32 #[] w fun e w' => ∃ v2_ v3_ : Value, e = .returned (.agg #[.int .i64 r1, .int .i64 r2, v2_, v3_]) ∧ Kd.R k63 63 w' w.heap.size (fun _ => True) v2_ r3 ∧ Kd.R (Kd.int .i64) 3 w' w.heap.size (fun _ => True) v3_ r4 ∧ Below w.heap.size w w' := by
 have hu26 := Try.underlying26
 have HB := aM (Below.refl w.heap.size w)
 have H : (some (1, 1, ([] : List (S63)), (([0] : List Int)))) = some (r1, r2, r3, r4) := h
 clear h
 obtain ⟨y274, hy274⟩ : ∃ y_ : List Int, y_ = (([0] : List Int)) := ⟨_, rfl⟩
 replace H : (some (1, 1, ([] : List (S63)), y274)) = some (r1, r2, r3, r4) := by first | (rw [hy274]; with_reducible exact H) | (have H2_ := (Option.bind_some _ _).symm.trans H; rw [hy274]; with_reducible exact H2_) | (have H2_ := (Option.bind_some _ _).symm.trans H; with_reducible exact H2_) | with_reducible exact H | (rw [hy274]; exact H) | exact H
 have Ny274 := aM hy274
 clear hy274
 simp only [Option.some.injEq, Prod.mk.injEq] at H
 obtain ⟨rfl, rfl, rfl, rfl⟩ := H
 go_enter Try.func32, Try.ntmps32
 go_wp2_with (first | ((with_reducible refine gate_dst (N := 0) rfl ?_); refine box_event ?hg (N := 0) ?hd (cs := #[.int .i64 0, .int .i64 0, .slice none 0 0, .slice none 0 0]) (t := 26) ?hr ?_; (case hd => rfl); (case hg => rfl); (case hr => first | (go_simp; done) | (go_simp; rfl)); intro jP hg w1 hbox hb; have jH := aM (hbox); have y6 := aM ((by rw [hg]; exact (below_size (lB HB)) : w.heap.size ≤ jP)); have jY := aM ((by rw [hg]; exact (below_size (lB HB)) : w.heap.size ≤ jP)); replace HB := aM (below_step (lB HB) hb); clear hb hbox hg) | ((with_reducible refine gate_dst (N := 1) rfl ?_); refine Kd.R_lit (Kd.int .i64) _ 3 ?hg (N := 1) ?hd (xs := ([0] : List Int)) (inner := [.int .i64 0]) (ok := fun _ => True) (okp := fun _ => True) ?hr ?hp (fun _ hk => hk) trivial (Below.refl _ _) (Nat.le_refl _) (by simp) ?_; (case hd => rfl); (case hg => rfl); (case hr => first | (go_simp; done) | (go_simp; rfl)); (case hp => exact (Reps.one (show Kd.M (Kd.int .i64) _ _ _ 0 [.int .i64 0] from rfl) (Reps.none _ _))); intro v275 w2 ho3 hb hg_ hnew_; clear hg_ hnew_; (first | rw [← Ny274.out] at ho3 | (simp only [Int.reduceToNat] at ho3; rw [← Ny274.out] at ho3)); have j9 := aM (Kd.R_lower ho3 (below_size (by have := GEc.mk jY.out; exact lS HB))); replace jH := aM (blk_below (g := jP) (lK jH) hb); replace HB := aM (below_step (by have := GEc.mk jY.out; exact lS HB) hb); clear hb ho3; obtain ⟨Ao4, co4, eo4⟩ := Kd.R_slice j9.out; subst eo4; have ys := zc4 jH.out; have yt := fun i_ : Nat => blk_frozen jH.out i_))
 refine bodyPost_ret (results_cell_row rfl _ _ jP 26 #[.int .i64 1, .int .i64 1, .slice none 0 0, .slice Ao4 y274.length co4] (0, 0) _ rfl (by refine lZ ?_; refine blk_put (cs := #[.int .i64 1, .int .i64 1, .slice none 0 0, .slice none 0 0]) ?_ 3 _ rfl; refine lZ ?_; refine blk_put (cs := #[.int .i64 1, .int .i64 1, .slice none 0 0, .slice none 0 0]) ?_ 2 _ rfl; refine lZ ?_; refine blk_put (cs := #[.int .i64 1, .int .i64 0, .slice none 0 0, .slice none 0 0]) ?_ 1 _ rfl; refine lZ ?_; refine blk_put (cs := #[.int .i64 0, .int .i64 0, .slice none 0 0, .slice none 0 0]) ?_ 0 _ rfl; refine lZ ?_; exact jH.out) Try.underlying26 rfl (by kernel_rfl)) rfl ?_
 exact ⟨_, _, by first | rfl | (simp [errW_none, errW_some] <;> rfl) | (simp [*, errW_none, errW_some] <;> rfl), by first | exact Kd.R_nil _ _ _ _ _ | exact Kd.N_nil _ _ _ _ _ | exact Kd.V_nil _ _ _ _ _ | exact Kd.Q_nil _ _ _ _ _ | exact Kd.S_nil _ _ _ _ _, by (with_reducible repeat (first | apply Kd.R_alloc | apply Kd.R_drewN | apply Kd.R_drew)); exact Kd.R_mono (fA (fA (fA (fA (Kd.R_types j9.out jH.out (by decide)))))) (fun _ hk => trivial), by repeat (first | (with_reducible first | exact HB.out | apply below_alloc | apply pw_below_drewN | apply below_drew1 | refine below_set ?_ jY.out) | exact HB.out)⟩

end Go.Proofs.Ytccbdcbeinkjgaa.XA
end

section
namespace Go.Proofs.Ytccbdcbeinkjgaa.XA
open Go.Proofs.Ytccbdcbeinkjgaa.Lift Go.RowKit Go.Proofs.YtccbdcbeinkjgaaW.PrintWords Go.Proofs.YtccbdcbeinkjgaaW.PrintLast Go.Proofs.YtccbdcbeinkjgaaW.PrintMore
attribute [local go_sem] max2_int min2_int max_two min_two max_three min_three max_four min_four
set_option linter.unusedVariables false
set_option linter.unusedSimpArgs false

/-! ### code_reader_within: function 33 -/
/-- A state of type 70 at block g of W; what its slices lead to came in by w0. -/
def IsS70 (w0 W : World) (g : Nat) (f0 : List Int) (f1 : Int) (f2 : Bool) : Prop := ∃ A0 c0, W.heap[g]? = some (.cells #[.slice A0 f0.length c0, .int .i64 f1, .bool f2] 70 (0, 0)) ∧ w0.heap.size ≤ g ∧ Kd.C (Kd.int .u8) w0 A0 f0.length f0
theorem IsS70.grown {w0 W : World} {g : Nat} {f0 : List Int} {f1 : Int} {f2 : Bool} {W1 : World} {row : Option Nat} (h : IsS70 w0 W g f0 f1 f2) (hw : W.grownBy W1 row) (hne : some g ≠ row) : IsS70 w0 W1 g f0 f1 f2 := by
 obtain ⟨A0, c0, hb, hg, hr0⟩ := h
 exact ⟨A0, c0, blk_grown hb hw hne, hg, hr0⟩
theorem IsS70.fresh {w0 W : World} {g : Nat} {f0 : List Int} {f1 : Int} {f2 : Bool} (h : IsS70 w0 W g f0 f1 f2) : ∀ k, W.heap.size ≤ k → k ≠ g := by
 obtain ⟨A0, c0, hb, hg, hr0⟩ := h
 exact Kd.freshB hb
theorem IsS70.kept {w0 W : World} {g : Nat} {f0 : List Int} {f1 : Int} {f2 : Bool} {W1 : World} {S : Nat → Prop} (h : IsS70 w0 W g f0 f1 f2) (hk : Kept W W1 S) (hne : ¬ S g) : IsS70 w0 W1 g f0 f1 f2 := by
 obtain ⟨A0, c0, hb, hg, hr0⟩ := h
 exact ⟨A0, c0, blk_kept hb hk hne, hg, hr0⟩
theorem IsS70.below {w0 W : World} {g : Nat} {f0 : List Int} {f1 : Int} {f2 : Bool} {W1 : World} (h : IsS70 w0 W g f0 f1 f2) (hw : Below W.heap.size W W1) : IsS70 w0 W1 g f0 f1 f2 := h.grown (grown_of_below hw none) (by simp)
theorem IsS70.alloc {w0 W : World} {g : Nat} {f0 : List Int} {f1 : Int} {f2 : Bool} (h : IsS70 w0 W g f0 f1 f2) (o : Obj) : IsS70 w0 (W.alloc o) g f0 f1 f2 := h.below (below_alloc (Below.refl _ _) o)
theorem IsS70.drewN {w0 W : World} {g : Nat} {f0 : List Int} {f1 : Int} {f2 : Bool} (h : IsS70 w0 W g f0 f1 f2) (m : Nat) : IsS70 w0 (W.drewN m) g f0 f1 f2 := h
theorem IsS70.drew {w0 W : World} {g : Nat} {f0 : List Int} {f1 : Int} {f2 : Bool} (h : IsS70 w0 W g f0 f1 f2) : IsS70 w0 W.drew g f0 f1 f2 := h
theorem IsS70.apart {w0 W : World} {g : Nat} {f0 : List Int} {f1 : Int} {f2 : Bool} {α : Type} {d : Kd α} {e : Nat} {base : Nat} {ok : Nat → Prop} {v : Value} {xs : List α} (h : IsS70 w0 W g f0 f1 f2) (ho : d.R e W base ok v xs) (ht : ∀ q, q ∈ e :: d.E → q ≠ 70) : d.R e W base (fun k => ok k ∧ k ≠ g) v xs := by
 obtain ⟨A0, c0, hb, hg, hr0⟩ := h
 exact Kd.R_types ho hb ht
theorem IsS70.own_ne {w0 W : World} {g : Nat} {f0 : List Int} {f1 : Int} {f2 : Bool} {α : Type} {d : Kd α} {e : Nat} {base : Nat} {ok : Nat → Prop} {v : Value} {xs : List α} (h : IsS70 w0 W g f0 f1 f2) (ho : d.R e W base ok v xs) (ht : e ≠ 70) : some g ≠ v.ownBlock := by
 obtain ⟨A0, c0, hb, hg, hr0⟩ := h
 exact Kd.R_ne ho hb ht
theorem IsS70.lt {w0 W : World} {g : Nat} {f0 : List Int} {f1 : Int} {f2 : Bool} (h : IsS70 w0 W g f0 f1 f2) : g < W.heap.size := by
 obtain ⟨A0, c0, hb, hg, hr0⟩ := h
 exact blk_lt hb
theorem IsS70.ge {w0 W : World} {g : Nat} {f0 : List Int} {f1 : Int} {f2 : Bool} (h : IsS70 w0 W g f0 f1 f2) : w0.heap.size ≤ g := by
 obtain ⟨A0, c0, hb, hg, hr0⟩ := h
 exact hg
theorem IsS70.ne_blk {w0 W : World} {g : Nat} {f0 : List Int} {f1 : Int} {f2 : Bool} {a : Nat} {cs : Array Value} {t : TypeId} {fr : Nat × Nat} (h : IsS70 w0 W g f0 f1 f2) (hb2 : W.heap[a]? = some (.cells cs t fr)) (ht : t ≠ 70) : g ≠ a := by
 obtain ⟨A0, c0, hb, hg, hr0⟩ := h
 rintro rfl
 rw [hb] at hb2
 injection hb2 with hb2
 injection hb2 with _ ht2
 exact ht ht2.symm
theorem IsS70.far {w0 W : World} {g : Nat} {f0 : List Int} {f1 : Int} {f2 : Bool} {p : Addr} (h : IsS70 w0 W g f0 f1 f2) (hne : g ≠ p.block) (u : Value) : IsS70 w0 (W.setCell p u) g f0 f1 f2 := by
 obtain ⟨A0, c0, hb, hg, hr0⟩ := h
 exact ⟨A0, c0, blk_far hb hne u, hg, hr0⟩
theorem cellS70_0 {W : World} {g : Nat} {A0 : Option Addr} {c0 : Nat} {f0 : List Int} {f1 : Int} {f2 : Bool} (h : W.heap[g]? = some (.cells #[.slice A0 f0.length c0, .int .i64 f1, .bool f2] 70 (0, 0))) : W.cell? ⟨g, 0, none⟩ = some (.slice A0 f0.length c0) := (blk_cell h 0).trans rfl
theorem cellS70_1 {W : World} {g : Nat} {A0 : Option Addr} {c0 : Nat} {f0 : List Int} {f1 : Int} {f2 : Bool} (h : W.heap[g]? = some (.cells #[.slice A0 f0.length c0, .int .i64 f1, .bool f2] 70 (0, 0))) : W.cell? ⟨g, 1, none⟩ = some (.int .i64 f1) := (blk_cell h 1).trans rfl
theorem IsS70.set_1 {w0 W : World} {g : Nat} {f0 : List Int} {f1 : Int} {f2 : Bool} (h : IsS70 w0 W g f0 f1 f2) (x : Int) : IsS70 w0 (W.setCell ⟨g, 1, none⟩ (.int .i64 x)) g f0 x f2 := by
 obtain ⟨A0, c0, hb, hg, hr0⟩ := h
 exact ⟨A0, c0, by simpa using blk_set hb 1 (.int .i64 x), hg, hr0⟩
theorem cellS70_2 {W : World} {g : Nat} {A0 : Option Addr} {c0 : Nat} {f0 : List Int} {f1 : Int} {f2 : Bool} (h : W.heap[g]? = some (.cells #[.slice A0 f0.length c0, .int .i64 f1, .bool f2] 70 (0, 0))) : W.cell? ⟨g, 2, none⟩ = some (.bool f2) := (blk_cell h 2).trans rfl
theorem IsS70.set_2 {w0 W : World} {g : Nat} {f0 : List Int} {f1 : Int} {f2 : Bool} (h : IsS70 w0 W g f0 f1 f2) (x : Bool) : IsS70 w0 (W.setCell ⟨g, 2, none⟩ (.bool x)) g f0 f1 x := by
 obtain ⟨A0, c0, hb, hg, hr0⟩ := h
 exact ⟨A0, c0, by simpa using blk_set hb 2 (.bool x), hg, hr0⟩
theorem IsS70.new (w0 W : World) (A0 : Option Addr) (c0 : Nat) (f0 : List Int) (f1 : Int) (f2 : Bool) (hB : Below w0.heap.size w0 W) (hr0 : Kd.C (Kd.int .u8) w0 A0 f0.length f0) : IsS70 w0 (W.alloc (.cells #[.slice A0 f0.length c0, .int .i64 f1, .bool f2] 70)) W.heap.size f0 f1 f2 := ⟨A0, c0, by simpa using heap_alloc_new W _, hB.size, hr0⟩
--IMPORT Derived.Shelf.GgClosure.Gives
/-- What a byte is read as: a byte that is as it must be, or the reader goes wrong. -/
def byteF (good : Int → Bool) (s : List Int) (at_ : Int) (wrong : Bool) : Option (Int × Int × Bool) :=
 if wrong = true then some (0, at_, true) else if at_ = (s.length : Int) then some (0, at_, true) else
 if 0 ≤ at_ ∧ at_ < (s.length : Int) ∧ s.length ≤ 281474976710656 ∧ 0 ≤ rd s at_ ∧ rd s at_ ≤ 255 then (if good (rd s at_) = true then some (rd s at_, at_ + 1, false) else some (0, at_, true)) else none
/-- What a byte's test answers, wherever all that lay lies. -/
def PredB (P : Program) (fn : Nat) (lb : Array Value) (good : Int → Bool) (w : World) : Prop := ∀ (W : World) (x : Int), 0 ≤ x → x ≤ 255 → Below w.heap.size w W → FnGives P fn lb #[.int .i64 x] (.bool (good x)) W
theorem pred_reads {P : Program} {fn : Nat} {lb : Array Value} {good : Int → Bool} {w : World} (hp : PredB P fn lb good w) (x : Int) (h0 : 0 ≤ x) (h1 : x ≤ 255) (q : Nat) (b : Bool) (hb : good x = b) :
  Calls P fn (#[.int .i64 x] ++ lb) (w.drewN q) fun e w' => e = .returned (.bool b) ∧ ∃ m, w' = (w.drewN q).drewN m := by
 subst hb
 exact hp _ x h0 h1 (below_drewN' (Below.refl _ _) q)
set_option maxHeartbeats 4000000 in
set_option maxRecDepth 100000 in
theorem code_reader_byte {fn : Nat} {lb : Array Value} {good : Int → Bool} (eg : ∀ args w, (callFunc fn args).run Try.prog w = .ok (.enter fn args) w) (g : Nat) (s0_0 : List Int) (s0_1 : Int) (s0_2 : Bool) (r1 r2 : Int) (r3 : Bool) (w0 w : World)
  (hp : PredB Try.prog fn lb good w) (hI : IsS70 w0 w g s0_0 s0_1 s0_2) (hB : Below w0.heap.size w0 w) (h : byteF good s0_0 s0_1 s0_2 = some (r1, r2, r3)) :
  Calls Try.prog 51 #[.pointer (some ⟨g, 0, none⟩), .func (.func fn) #[] lb] w fun e w' => e = .returned (.int .i64 r1) ∧ IsS70 w0 w' g s0_0 r2 r3 ∧ Below w0.heap.size w0 w' ∧ KeepBut w w' g none := by
 unfold byteF at h
 have HI0 := aM hI
 have HK := aM (KeepBut.refl w g none)
 have HB := aM hB
 obtain ⟨A0, c0, HG, hg, HS0⟩ := hI
 have hc0 := cellS70_0 HG
 have hc1 := cellS70_1 HG
 have hc2 := cellS70_2 HG
 have hf1 := blk_frozen HG 1
 have hf2 := blk_frozen HG 2
 clear HG hg hB
 by_cases c1 : s0_2 = true
 ·rw [if_pos c1] at h
  subst c1
  simp only [Option.some.injEq, Prod.mk.injEq] at h
  obtain ⟨rfl, rfl, rfl⟩ := h
  clear hp eg HS0
  go_enter Try.func51, Try.ntmps51
  go_wp2
  repeat (go_quiet (fail); try go_wp2)
  go_ret
  exact ⟨rfl, by repeat (first | (with_reducible first | exact HI0.out | apply IsS70.alloc | apply IsS70.drewN | apply IsS70.drew | apply IsS70.set_1 | apply IsS70.set_2) | exact HI0.out), by repeat (first | (with_reducible first | exact HB.out | apply below_alloc | apply pw_below_drewN | apply below_drew1 | refine below_set ?_ (IsS70.ge HI0.out)) | exact HB.out), by repeat (first | (with_reducible first | exact HK.out | apply KeepBut.set_ | apply keep_drewN | apply keep_drew | apply keep_alloc) | exact HK.out)⟩
 ·rw [if_neg c1] at h
  obtain rfl : s0_2 = false := by simpa using c1
  clear c1
  by_cases c2 : s0_1 = (s0_0.length : Int)
  ·rw [if_pos c2] at h
   simp only [Option.some.injEq, Prod.mk.injEq] at h
   obtain ⟨rfl, rfl, rfl⟩ := h
   have c2b : (s0_1 == (s0_0.length : Int)) = true := beq_iff_eq.2 c2
   clear hp eg HS0 c2
   go_enter Try.func51, Try.ntmps51
   go_wp2
   repeat (go_quiet (fail); try go_wp2)
   go_ret
   exact ⟨rfl, by repeat (first | (with_reducible first | exact HI0.out | apply IsS70.alloc | apply IsS70.drewN | apply IsS70.drew | apply IsS70.set_1 | apply IsS70.set_2) | exact HI0.out), by repeat (first | (with_reducible first | exact HB.out | apply below_alloc | apply pw_below_drewN | apply below_drew1 | refine below_set ?_ (IsS70.ge HI0.out)) | exact HB.out), by repeat (first | (with_reducible first | exact HK.out | apply KeepBut.set_ | apply keep_drewN | apply keep_drew | apply keep_alloc) | exact HK.out)⟩
  ·rw [if_neg c2] at h
   have c2b : (s0_1 == (s0_0.length : Int)) = false := beq_eq_false_iff_ne.2 c2
   by_cases c3 : 0 ≤ s0_1 ∧ s0_1 < (s0_0.length : Int) ∧ s0_0.length ≤ 281474976710656 ∧ 0 ≤ rd s0_0 s0_1 ∧ rd s0_0 s0_1 ≤ 255
   ·rw [if_pos c3] at h
    obtain ⟨d1, d2, d3, d4, d5⟩ := c3
    obtain ⟨ad, e1, hx⟩ := Kd.at_int HS0 s0_1 d1 d2
    cases e1
    have hx0 := hx
    replace hx := pw_cell_below HB.out hx
    have p1 := eq_true d1
    have p2 := eq_true d2
    cases hgd : good (rd s0_0 s0_1)
    ·rw [hgd] at h
     simp only [Option.some.injEq, Prod.mk.injEq, if_neg (show ¬ (false = true) by decide)] at h
     obtain ⟨rfl, rfl, rfl⟩ := h
     have hgd' := aM hgd
     clear hgd c2 hx0
     generalize hv : rd s0_0 s0_1 = v at *
     clear hv
     go_enter Try.func51, Try.ntmps51
     go_wp2
     repeat (go_quiet ((go_at_fn fn; exact Calls.quiet_of (pred_reads hp _ d4 d5 _ _ hgd'.out))); try go_wp2)
     go_ret
     exact ⟨rfl, by repeat (first | (with_reducible first | exact HI0.out | apply IsS70.alloc | apply IsS70.drewN | apply IsS70.drew | apply IsS70.set_1 | apply IsS70.set_2) | exact HI0.out), by repeat (first | (with_reducible first | exact HB.out | apply below_alloc | apply pw_below_drewN | apply below_drew1 | refine below_set ?_ (IsS70.ge HI0.out)) | exact HB.out), by repeat (first | (with_reducible first | exact HK.out | apply KeepBut.set_ | apply keep_drewN | apply keep_drew | apply keep_alloc) | exact HK.out)⟩
    ·rw [hgd] at h
     simp only [Option.some.injEq, Prod.mk.injEq, if_true] at h
     obtain ⟨rfl, rfl, rfl⟩ := h
     have hgd' := aM hgd
     have hn : ad.block ≠ g := Nat.ne_of_lt (Nat.lt_of_lt_of_le (by have := World.block_lt_of_cell? _ _ hx0; first | rwa [add_block] at this | exact this) (IsS70.ge HI0.out))
     have hx2 := (cell_far (p := ⟨g, 1, none⟩) (by first | (rw [add_block]; exact hn) | (show (Addr.add _ _).block ≠ _; rw [add_block]; exact hn) | exact hn) (.int .i64 (s0_1 + 1))).trans hx
     have hy2 := fun (n_ : Nat) => (show (((w.drewN n_).setCell ⟨g, 1, none⟩ (.int .i64 (s0_1 + 1)))).cell? _ = some _ from hx2)
     have hw1 : IntKind.i64.wrap (s0_1 + 1) = s0_1 + 1 := by rw [i64_w]; unfold wrap64; omega
     have hw2 : IntKind.i64.wrap (s0_1 + 1 - 1) = s0_1 := by rw [i64_w]; unfold wrap64; omega
     have hw3 : wrap64 (s0_1 + 1) = s0_1 + 1 := by unfold wrap64; omega
     have hw4 : s0_1 + 1 - 1 = s0_1 := by omega
     clear hgd c2 hx0 hn
     generalize hv : rd s0_0 s0_1 = v at *
     clear hv
     go_enter Try.func51, Try.ntmps51
     go_wp2
     repeat (go_quiet ((go_at_fn fn; exact Calls.quiet_of (pred_reads hp _ d4 d5 _ _ hgd'.out))); try go_wp2)
     go_ret
     exact ⟨rfl, by repeat (first | (with_reducible first | exact HI0.out | apply IsS70.alloc | apply IsS70.drewN | apply IsS70.drew | apply IsS70.set_1 | apply IsS70.set_2) | exact HI0.out), by repeat (first | (with_reducible first | exact HB.out | apply below_alloc | apply pw_below_drewN | apply below_drew1 | refine below_set ?_ (IsS70.ge HI0.out)) | exact HB.out), by repeat (first | (with_reducible first | exact HK.out | apply KeepBut.set_ | apply keep_drewN | apply keep_drew | apply keep_alloc) | exact HK.out)⟩
   ·rw [if_neg c3] at h
    cases h
theorem within_pred (l m : Int) (g1 g2 : Nat) (w : World) (h1 : w.cell? ⟨g1, 0, none⟩ = some (.int .i64 l)) (h2 : w.cell? ⟨g2, 0, none⟩ = some (.int .i64 m)) (b1 : g1 < w.heap.size) (b2 : g2 < w.heap.size) :
  PredB Try.prog 52 #[.pointer (some ⟨g1, 0, none⟩), .pointer (some ⟨g2, 0, none⟩)] (fun x => decide (l ≤ x) && decide (x ≤ m)) w := by
 intro W x x0 x1 hb
 have h1' := (hb.cell (p := ⟨g1, 0, none⟩) b1).trans h1
 have h2' := (hb.cell (p := ⟨g2, 0, none⟩) b2).trans h2
 clear h1 h2 b1 b2
 unfold FnGives
 by_cases c : l ≤ x
 ·have cb : decide (l ≤ x) = true := decide_eq_true c
  clear c
  go_enter Try.func52, Try.ntmps52
  go_wp2
  repeat (go_quiet (fail); try go_wp2)
  go_ret
  exact ⟨by simp [cb], 0, rfl⟩
 ·have cb : decide (l ≤ x) = false := decide_eq_false c
  clear c
  go_enter Try.func52, Try.ntmps52
  go_wp2
  repeat (go_quiet (fail); try go_wp2)
  go_ret
  exact ⟨by simp [cb], 0, rfl⟩
def code_reader_within.f (s0_0 : List Int) (s0_1 : Int) (s0_2 : Bool) (a1 : Int) (a2 : Int) : Option (Int × Int × Bool) := byteF (fun x => decide (a1 ≤ x) && decide (x ≤ a2)) s0_0 s0_1 s0_2
set_option maxHeartbeats 4000000 in
set_option maxRecDepth 100000 in
theorem code_reader_within.calls (g : Nat) (s0_0 : List Int) (s0_1 : Int) (s0_2 : Bool) (a1 : Int) (a2 : Int) (r1 : Int) (r2 : Int) (r3 : Bool) (w0 w : World) (hI : IsS70 w0 w g s0_0 s0_1 s0_2) (hB : Below w0.heap.size w0 w) (h : code_reader_within.f s0_0 s0_1 s0_2 a1 a2 = some (r1, r2, r3)) :
  Calls Try.prog 33 #[.pointer (some ⟨g, 0, none⟩), .int .i64 a1, .int .i64 a2] w fun e w' => e = .returned (.int .i64 r1) ∧ IsS70 w0 w' g s0_0 r2 r3 ∧ Below w0.heap.size w0 w' ∧ KeepBut w w' g none := by
 have eg := enters_of Try.func52 (by kernel_rfl) rfl
 have hI2 := IsS70.alloc (IsS70.alloc hI (.cells #[.int .i64 a1] 3)) (.cells #[.int .i64 a2] 3)
 have hB2 := below_alloc (below_alloc hB (.cells #[.int .i64 a1] 3)) (.cells #[.int .i64 a2] 3)
 have hK2 : KeepBut w ((w.alloc (.cells #[.int .i64 a1] 3)).alloc (.cells #[.int .i64 a2] 3)) g none := by repeat (first | (with_reducible first | exact KeepBut.refl w g none | apply keep_alloc) | exact KeepBut.refl w g none)
 have hp := within_pred a1 a2 w.heap.size (w.heap.size + 1) ((w.alloc (.cells #[.int .i64 a1] 3)).alloc (.cells #[.int .i64 a2] 3)) (by go_simp) (by go_simp) (by simp; omega) (by simp)
 have C := code_reader_byte eg g s0_0 s0_1 s0_2 r1 r2 r3 w0 _ hp hI2 hB2 h
 clear hI hB hI2 hB2 hp h
 go_enter Try.func33, Try.ntmps33
 go_wp2_with (go_at_call 51; refine C.mono ?_; rintro e w1 ⟨rfl, hI1, hB1, hK1⟩)
 go_ret
 exact ⟨rfl, hI1, hB1, hK2.trans hK1 (Or.inl rfl)⟩

end Go.Proofs.Ytccbdcbeinkjgaa.XA
end

section
namespace Go.Proofs.Ytccbdcbeinkjgaa.XA
open Go.Proofs.Ytccbdcbeinkjgaa.Lift Go.RowKit Go.Proofs.YtccbdcbeinkjgaaW.PrintWords Go.Proofs.YtccbdcbeinkjgaaW.PrintLast Go.Proofs.YtccbdcbeinkjgaaW.PrintMore
attribute [local go_sem] max2_int min2_int max_two min_two max_three min_three max_four min_four
set_option linter.unusedVariables false
set_option linter.unusedSimpArgs false

/-! ### code_reader_signed: function 34 -/
theorem signed_pred (w : World) : PredB Try.prog 53 #[] (fun x => decide (x ≤ 16) || decide (240 ≤ x)) w := by
 intro W x x0 x1 hb
 unfold FnGives
 by_cases c : x ≤ 16
 ·have cb : decide (x ≤ 16) = true := decide_eq_true c
  clear c
  go_enter Try.func53, Try.ntmps53
  go_wp2
  repeat (go_quiet (fail); try go_wp2)
  go_ret
  exact ⟨by simp [cb], 0, rfl⟩
 ·have cb : decide (x ≤ 16) = false := decide_eq_false c
  clear c
  go_enter Try.func53, Try.ntmps53
  go_wp2
  repeat (go_quiet (fail); try go_wp2)
  go_ret
  exact ⟨by simp [cb], 0, rfl⟩
theorem byteF_rng {good : Int → Bool} {s : List Int} {at_ : Int} {wrong : Bool} {r1 r2 : Int} {r3 : Bool} (h : byteF good s at_ wrong = some (r1, r2, r3)) : 0 ≤ r1 ∧ r1 ≤ 255 := by
 unfold byteF at h
 split at h
 ·cases h; decide
 ·split at h
  ·cases h; decide
  ·split at h
   ·rename_i hc
    split at h
    ·cases h; exact ⟨hc.2.2.2.1, hc.2.2.2.2⟩
    ·cases h; decide
   ·cases h
/-- A byte as a number with a sign. -/
def s8 (x : Int) : Int := if x ≤ 127 then x else x - 256
def code_reader_signed.f (s0_0 : List Int) (s0_1 : Int) (s0_2 : Bool) : Option (Int × Int × Bool) := (byteF (fun x => decide (x ≤ 16) || decide (240 ≤ x)) s0_0 s0_1 s0_2).bind fun b => some (s8 b.1, b.2.1, b.2.2)
set_option maxHeartbeats 4000000 in
set_option maxRecDepth 100000 in
theorem code_reader_signed.calls (g : Nat) (s0_0 : List Int) (s0_1 : Int) (s0_2 : Bool) (r1 : Int) (r2 : Int) (r3 : Bool) (w0 w : World) (hI : IsS70 w0 w g s0_0 s0_1 s0_2) (hB : Below w0.heap.size w0 w) (h : code_reader_signed.f s0_0 s0_1 s0_2 = some (r1, r2, r3)) :
  Calls Try.prog 34 #[.pointer (some ⟨g, 0, none⟩)] w fun e w' => e = .returned (.int .i64 r1) ∧ IsS70 w0 w' g s0_0 r2 r3 ∧ Below w0.heap.size w0 w' ∧ KeepBut w w' g none := by
 unfold code_reader_signed.f at h
 obtain ⟨⟨x, y, z⟩, hb, h⟩ := Option.bind_eq_some_iff.mp h
 simp only [Option.some.injEq, Prod.mk.injEq] at h
 obtain ⟨rfl, rfl, rfl⟩ := h
 have eg := enters_of Try.func53 (by kernel_rfl) rfl
 have C := code_reader_byte eg g s0_0 s0_1 s0_2 x y z w0 w (signed_pred w) hI hB hb
 have hr := byteF_rng hb
 obtain ⟨hr0, hr1⟩ := hr
 have h8 : IntKind.i8.wrap x = s8 x := by
  obtain ⟨n, rfl⟩ : ∃ n : Nat, x = (n : Int) := ⟨x.toNat, by omega⟩
  exact (by decide +kernel : ∀ n, n < 256 → IntKind.i8.wrap ((n : Nat) : Int) = s8 ((n : Nat) : Int)) n (by omega)
 have h64 : IntKind.i64.wrap (s8 x) = s8 x := by rw [i64_w]; unfold s8 wrap64; split <;> omega
 have h64b : wrap64 (s8 x) = s8 x := by rw [← i64_w]; exact h64
 clear hI hB hb
 go_enter Try.func34, Try.ntmps34
 go_wp2_with (go_at_call 51; refine C.mono ?_; rintro e w1 ⟨rfl, hI1, hB1, hK1⟩)
 go_ret
 exact ⟨rfl, hI1, hB1, hK1⟩

end Go.Proofs.Ytccbdcbeinkjgaa.XA
end

section
namespace Go.Proofs.Ytccbdcbeinkjgaa.XA
open Go.Proofs.Ytccbdcbeinkjgaa.Lift Go.RowKit Go.Proofs.YtccbdcbeinkjgaaW.PrintWords Go.Proofs.YtccbdcbeinkjgaaW.PrintLast Go.Proofs.YtccbdcbeinkjgaaW.PrintMore
attribute [local go_sem] max2_int min2_int max_two min_two max_three min_three max_four min_four
set_option linter.unusedVariables false
set_option linter.unusedSimpArgs false

attribute [local go_sem high] eqA63
/-! ### swageref08_Same: function 48 -/
mutual
def swageref08_Same.j0 : Nat → Bool → Int → Int → List (S63) → List Int → Int → Int → List (S63) → List Int → Option (Bool)
 | 0, _, _, _, _, _, _, _, _, _ => none
 | k + 1, x36, qW, qX, qQ, qU, qY, qZ, qR, qV => if x36 = true then (some false) else (swageref08_Same.l0 k 0 qW qX qQ qU qY qZ qR qV)
def swageref08_Same.l0 : Nat → Int → Int → Int → List (S63) → List Int → Int → Int → List (S63) → List Int → Option (Bool)
 | 0, _, _, _, _, _, _, _, _, _ => none
 | k + 1, x5, qW, qX, qQ, qU, qY, qZ, qR, qV => if x5 < (qQ.length : Int) then (if 0 ≤ x5 then (if x5 < (qR.length : Int) then (if (!(((rd_T63 qQ x5).f0) == ((rd_T63 qR x5).f0)) || (!(((rd_T63 qQ x5).f1) == ((rd_T63 qR x5).f1)) || (!(((rd_T63 qQ x5).f2) == ((rd_T63 qR x5).f2)) || (!(((rd_T63 qQ x5).f3) == ((rd_T63 qR x5).f3)) || (!(((rd_T63 qQ x5).f4) == ((rd_T63 qR x5).f4))))))) = true then (some false) else (swageref08_Same.l0 k (wrap64 (x5 + 1)) qW qX qQ qU qY qZ qR qV)) else (none)) else (none)) else (swageref08_Same.l1 k 0 qW qX qQ qU qY qZ qR qV)
def swageref08_Same.l1 : Nat → Int → Int → Int → List (S63) → List Int → Int → Int → List (S63) → List Int → Option (Bool)
 | 0, _, _, _, _, _, _, _, _, _ => none
 | k + 1, x6, qW, qX, qQ, qU, qY, qZ, qR, qV => if x6 < (qU.length : Int) then (if 0 ≤ x6 then (if x6 < (qV.length : Int) then (if (rd qU x6) = (rd qV x6) then (swageref08_Same.l1 k (wrap64 (x6 + 1)) qW qX qQ qU qY qZ qR qV) else (some false)) else (none)) else (none)) else (some true)
end
def swageref08_Same.f (k : Nat) (qM : Int) (qN : Int) (qB : List (S63)) (qE : List Int) (qO : Int) (qP : Int) (qD : List (S63)) (qG : List Int) : Option (Bool) := if qM = qO then (if qN = qP then (if (qB.length : Int) = (qD.length : Int) then (swageref08_Same.j0 k ((qE.length : Int) != (qG.length : Int)) qM qN qB qE qO qP qD qG) else (swageref08_Same.j0 k true qM qN qB qE qO qP qD qG)) else (swageref08_Same.j0 k true qM qN qB qE qO qP qD qG)) else (swageref08_Same.j0 k true qM qN qB qE qO qP qD qG)
theorem swageref08_Same.mono_l : ∀ k, (∀ y0 y1 y2 y3 y4 y5 y6 y7 y8, LeO (swageref08_Same.j0 k y0 y1 y2 y3 y4 y5 y6 y7 y8) (swageref08_Same.j0 (k + 1) y0 y1 y2 y3 y4 y5 y6 y7 y8)) ∧ (∀ y0 y1 y2 y3 y4 y5 y6 y7 y8, LeO (swageref08_Same.l0 k y0 y1 y2 y3 y4 y5 y6 y7 y8) (swageref08_Same.l0 (k + 1) y0 y1 y2 y3 y4 y5 y6 y7 y8)) ∧ (∀ y0 y1 y2 y3 y4 y5 y6 y7 y8, LeO (swageref08_Same.l1 k y0 y1 y2 y3 y4 y5 y6 y7 y8) (swageref08_Same.l1 (k + 1) y0 y1 y2 y3 y4 y5 y6 y7 y8))
 | 0 => ⟨fun _ _ _ _ _ _ _ _ _ r h => by simp [swageref08_Same.j0] at h, fun _ _ _ _ _ _ _ _ _ r h => by simp [swageref08_Same.l0] at h, fun _ _ _ _ _ _ _ _ _ r h => by simp [swageref08_Same.l1] at h⟩
 | k + 1 => by
  obtain ⟨ih0, ih1, ih2⟩ := swageref08_Same.mono_l k
  refine ⟨?_, ?_, ?_⟩
  ·intro y0 y1 y2 y3 y4 y5 y6 y7 y8
   unfold swageref08_Same.j0
   repeat' first
   | (with_reducible exact ih0 ..)
   | (with_reducible exact ih1 ..)
   | (with_reducible exact ih2 ..)
   | (with_reducible exact LeO.refl _)
   | (with_reducible exact LeO.none _)
   | (with_reducible refine LeO.ite ?_ ?_)
   | (with_reducible refine LeO.bind ?_ (fun _ => ?_))
   | exact ih0 _ _ _ _ _ _ _ _ _
   | exact ih1 _ _ _ _ _ _ _ _ _
   | exact ih2 _ _ _ _ _ _ _ _ _
   | exact LeO.none _
   | refine LeO.ite ?_ ?_
   | refine LeO.bind ?_ (fun _ => ?_)
  ·intro y0 y1 y2 y3 y4 y5 y6 y7 y8
   unfold swageref08_Same.l0
   repeat' first
   | (with_reducible exact ih0 ..)
   | (with_reducible exact ih1 ..)
   | (with_reducible exact ih2 ..)
   | (with_reducible exact LeO.refl _)
   | (with_reducible exact LeO.none _)
   | (with_reducible refine LeO.ite ?_ ?_)
   | (with_reducible refine LeO.bind ?_ (fun _ => ?_))
   | exact ih0 _ _ _ _ _ _ _ _ _
   | exact ih1 _ _ _ _ _ _ _ _ _
   | exact ih2 _ _ _ _ _ _ _ _ _
   | exact LeO.none _
   | refine LeO.ite ?_ ?_
   | refine LeO.bind ?_ (fun _ => ?_)
  ·intro y0 y1 y2 y3 y4 y5 y6 y7 y8
   unfold swageref08_Same.l1
   repeat' first
   | (with_reducible exact ih0 ..)
   | (with_reducible exact ih1 ..)
   | (with_reducible exact ih2 ..)
   | (with_reducible exact LeO.refl _)
   | (with_reducible exact LeO.none _)
   | (with_reducible refine LeO.ite ?_ ?_)
   | (with_reducible refine LeO.bind ?_ (fun _ => ?_))
   | exact ih0 _ _ _ _ _ _ _ _ _
   | exact ih1 _ _ _ _ _ _ _ _ _
   | exact ih2 _ _ _ _ _ _ _ _ _
   | exact LeO.none _
   | refine LeO.ite ?_ ?_
   | refine LeO.bind ?_ (fun _ => ?_)
theorem swageref08_Same.mono : ∀ a0 a1 a2 a3 a4 a5 a6 a7 k, LeO (swageref08_Same.f k a0 a1 a2 a3 a4 a5 a6 a7) (swageref08_Same.f (k + 1) a0 a1 a2 a3 a4 a5 a6 a7) := by
 intro a0 a1 a2 a3 a4 a5 a6 a7 k
 obtain ⟨ih0, ih1, ih2⟩ := swageref08_Same.mono_l k
 unfold swageref08_Same.f
 repeat' first
   | (with_reducible exact ih0 ..)
   | (with_reducible exact ih1 ..)
   | (with_reducible exact ih2 ..)
   | (with_reducible exact LeO.refl _)
   | (with_reducible exact LeO.none _)
   | (with_reducible refine LeO.ite ?_ ?_)
   | (with_reducible refine LeO.bind ?_ (fun _ => ?_))
   | exact ih0 _ _ _ _ _ _ _ _ _
   | exact ih1 _ _ _ _ _ _ _ _ _
   | exact ih2 _ _ _ _ _ _ _ _ _
   | exact LeO.none _
   | refine LeO.ite ?_ ?_
   | refine LeO.bind ?_ (fun _ => ?_)
set_option maxHeartbeats 8000000 in
set_option maxRecDepth 100000 in
theorem swageref08_Same.calls (k : Nat) (qM : Int) (qN : Int) (qa : Option Addr) (qb : Nat) (qB : List (S63)) (qc : Option Addr) (qd : Nat) (qE : List Int) (qO : Int) (qP : Int) (qe : Option Addr) (qf : Nat) (qD : List (S63)) (qg : Option Addr) (qh : Nat) (qG : List Int) (r : Bool) (w : World) (qj : Kd.C k63 w qa qB.length qB) (qk : qB.length ≤ qb) (ql : Kd.C (Kd.int .i64) w qc qE.length qE) (qm : qE.length ≤ qd) (qn : Kd.C k63 w qe qD.length qD) (qo : qD.length ≤ qf) (qp : Kd.C (Kd.int .i64) w qg qG.length qG) (qq : qG.length ≤ qh) (h : swageref08_Same.f k qM qN qB qE qO qP qD qG = some r) :
  Calls Try.prog 48 #[.agg #[.int .i64 qM, .int .i64 qN, .slice qa qB.length qb, .slice qc qE.length qd], .agg #[.int .i64 qO, .int .i64 qP, .slice qe qD.length qf, .slice qg qG.length qh]] w fun e w' => e = .returned (.bool r) ∧ Below w.heap.size w w' := by
 have hu26 := Try.underlying26
 have hu63 := Try.underlying63
 have qr := aM qj
 have jX := aM qk
 clear qj qk
 have qs := aM ql
 have jY := aM qm
 clear ql qm
 have qt := aM qn
 have jZ := aM qo
 clear qn qo
 have qu := aM qp
 have ja := aM qq
 clear qp qq
 have HB := aM (Below.refl w.heap.size w)
 have H : (if qM = qO then (if qN = qP then (if (qB.length : Int) = (qD.length : Int) then (swageref08_Same.j0 k ((qE.length : Int) != (qG.length : Int)) qM qN qB qE qO qP qD qG) else (swageref08_Same.j0 k true qM qN qB qE qO qP qD qG)) else (swageref08_Same.j0 k true qM qN qB qE qO qP qD qG)) else (swageref08_Same.j0 k true qM qN qB qE qO qP qD qG)) = some r := h
 clear h
 have HC3 := aM H
 clear H
 go_enter Try.func48, Try.ntmps48
 go_upto_region 1 with (first | ((with_reducible refine gate_dst (N := 2) rfl ?_); (try (refine gate_guard (by rfl) ?_; dsimp only)); refine box_event ?hg (N := 2) ?hd (cs := #[.int .i64 qM, .int .i64 qN, .slice qa qB.length qb, .slice qc qE.length qd]) (t := 26) ?hr ?_; (case hd => rfl); (case hg => rfl); (case hr => first | (go_simp; done) | (go_simp; rfl)); intro qI hg w4 hbox hb; have qA := aM (hbox); have qv := aM ((by rw [hg]; exact (below_size (lB HB)) : w.heap.size ≤ qI)); have qJ := aM ((by rw [hg]; exact (below_size (lB HB)) : w.heap.size ≤ qI)); replace HB := aM (below_step (lB HB) hb); clear hb hbox hg) | ((with_reducible refine gate_dst (N := 3) rfl ?_); (try (refine gate_guard (by rfl) ?_; dsimp only)); refine box_event ?hg (N := 3) ?hd (cs := #[.int .i64 qO, .int .i64 qP, .slice qe qD.length qf, .slice qg qG.length qh]) (t := 26) ?hr ?_; (case hd => rfl); (case hg => rfl); (case hr => first | (go_simp; done) | (go_simp; rfl)); intro qS hg w5 hbox hb; have qF := aM (hbox); have qw := aM ((by rw [hg]; exact (below_size (by have := GEc.mk qJ.out; exact lS HB)) : w.heap.size ≤ qS)); have qT := aM ((by rw [hg]; exact (below_size (by have := GEc.mk qJ.out; exact lS HB)) : w.heap.size ≤ qS)); replace HB := aM (below_step (by have := GEc.mk qJ.out; exact lS HB) hb); have qK := aM ((by rw [hg]; exact Nat.ne_of_lt (blk_lt (g := qI) (lK qA)) : qI ≠ qS)); have qL := aM ((by rw [hg]; exact Nat.ne_of_gt (blk_lt (g := qI) (lK qA)) : qS ≠ qI)); replace qA := aM (blk_below (g := qI) (lK qA) hb); clear hb hbox hg))
 repeat (go_quiet (first | ((with_reducible refine gate_dst (N := 2) rfl ?_); (try (refine gate_guard (by rfl) ?_; dsimp only)); refine box_event ?hg (N := 2) ?hd (cs := #[.int .i64 qM, .int .i64 qN, .slice qa qB.length qb, .slice qc qE.length qd]) (t := 26) ?hr ?_; (case hd => rfl); (case hg => rfl); (case hr => first | (go_simp; done) | (go_simp; rfl)); intro qI hg w4 hbox hb; have qA := aM (hbox); have qv := aM ((by rw [hg]; exact (below_size (lB HB)) : w.heap.size ≤ qI)); have qJ := aM ((by rw [hg]; exact (below_size (lB HB)) : w.heap.size ≤ qI)); replace HB := aM (below_step (lB HB) hb); clear hb hbox hg) | ((with_reducible refine gate_dst (N := 3) rfl ?_); (try (refine gate_guard (by rfl) ?_; dsimp only)); refine box_event ?hg (N := 3) ?hd (cs := #[.int .i64 qO, .int .i64 qP, .slice qe qD.length qf, .slice qg qG.length qh]) (t := 26) ?hr ?_; (case hd => rfl); (case hg => rfl); (case hr => first | (go_simp; done) | (go_simp; rfl)); intro qS hg w5 hbox hb; have qF := aM (hbox); have qw := aM ((by rw [hg]; exact (below_size (by have := GEc.mk qJ.out; exact lS HB)) : w.heap.size ≤ qS)); have qT := aM ((by rw [hg]; exact (below_size (by have := GEc.mk qJ.out; exact lS HB)) : w.heap.size ≤ qS)); replace HB := aM (below_step (by have := GEc.mk qJ.out; exact lS HB) hb); have qK := aM ((by rw [hg]; exact Nat.ne_of_lt (blk_lt (g := qI) (lK qA)) : qI ≠ qS)); have qL := aM ((by rw [hg]; exact Nat.ne_of_gt (blk_lt (g := qI) (lK qA)) : qS ≠ qI)); replace qA := aM (blk_below (g := qI) (lK qA) hb); clear hb hbox hg)); go_upto_region 1 with (first | ((with_reducible refine gate_dst (N := 2) rfl ?_); (try (refine gate_guard (by rfl) ?_; dsimp only)); refine box_event ?hg (N := 2) ?hd (cs := #[.int .i64 qM, .int .i64 qN, .slice qa qB.length qb, .slice qc qE.length qd]) (t := 26) ?hr ?_; (case hd => rfl); (case hg => rfl); (case hr => first | (go_simp; done) | (go_simp; rfl)); intro qI hg w4 hbox hb; have qA := aM (hbox); have qv := aM ((by rw [hg]; exact (below_size (lB HB)) : w.heap.size ≤ qI)); have qJ := aM ((by rw [hg]; exact (below_size (lB HB)) : w.heap.size ≤ qI)); replace HB := aM (below_step (lB HB) hb); clear hb hbox hg) | ((with_reducible refine gate_dst (N := 3) rfl ?_); (try (refine gate_guard (by rfl) ?_; dsimp only)); refine box_event ?hg (N := 3) ?hd (cs := #[.int .i64 qO, .int .i64 qP, .slice qe qD.length qf, .slice qg qG.length qh]) (t := 26) ?hr ?_; (case hd => rfl); (case hg => rfl); (case hr => first | (go_simp; done) | (go_simp; rfl)); intro qS hg w5 hbox hb; have qF := aM (hbox); have qw := aM ((by rw [hg]; exact (below_size (by have := GEc.mk qJ.out; exact lS HB)) : w.heap.size ≤ qS)); have qT := aM ((by rw [hg]; exact (below_size (by have := GEc.mk qJ.out; exact lS HB)) : w.heap.size ≤ qS)); replace HB := aM (below_step (by have := GEc.mk qJ.out; exact lS HB) hb); have qK := aM ((by rw [hg]; exact Nat.ne_of_lt (blk_lt (g := qI) (lK qA)) : qI ≠ qS)); have qL := aM ((by rw [hg]; exact Nat.ne_of_gt (blk_lt (g := qI) (lK qA)) : qS ≠ qI)); replace qA := aM (blk_below (g := qI) (lK qA) hb); clear hb hbox hg)))
 (try simp only [Act.put, List.setIfInBounds_toArray, List.set_cons_zero, List.set_cons_succ])
 go_cut [36] (fun v36 wc => ∃ (kq : Nat) (qi : Bool), v36 = .bool qi ∧ Aside0 (swageref08_Same.j0 kq qi qM qN qB qE qO qP qD qG = some r) ∧ Aside0 (kq ≤ k) ∧ Aside0 (wc.heap[qI]? = some (.cells #[.int .i64 qM, .int .i64 qN, (.slice qa qB.length qb), (.slice qc qE.length qd)] 26 (0, 0))) ∧ Aside0 (wc.heap[qS]? = some (.cells #[.int .i64 qO, .int .i64 qP, (.slice qe qD.length qf), (.slice qg qG.length qh)] 26 (0, 0))) ∧ Aside0 (Below w.heap.size w wc))
 case first =>
  have H := HC3.out
  clear HC3
  by_cases c6 : qM = qO
  ·rw [if_pos c6] at H
   have c6b0 : (qM == qO) = true := beq_iff_eq.mpr c6
   have c6b1 : (qM != qO) = false := bne_eq_false_iff_eq.mpr c6
   clear c6
   (first | rw [c6b0] | (simp only [i64_w, i32_w]; rw [c6b0]) | skip)
   by_cases c7 : qN = qP
   ·rw [if_pos c7] at H
    have c7b0 : (qN == qP) = true := beq_iff_eq.mpr c7
    have c7b1 : (qN != qP) = false := bne_eq_false_iff_eq.mpr c7
    clear c7
    by_cases c8 : (qB.length : Int) = (qD.length : Int)
    ·rw [if_pos c8] at H
     have c8b0 : ((qB.length : Int) == (qD.length : Int)) = true := beq_iff_eq.mpr c8
     have c8b1 : ((qB.length : Int) != (qD.length : Int)) = false := bne_eq_false_iff_eq.mpr c8
     have c8b2 : (qB.length == qD.length) = true := by first | simpa using c8 | (simp at c8 ⊢; omega)
     clear c8
     have H' := aM H
     clear H
     have jt := qK.out
     have ju := qL.out
     have qx := zc4 qA.out
     have qy := fun i_ : Nat => blk_frozen qA.out i_
     have qz := zc4 qF.out
     have q0 := fun i_ : Nat => blk_frozen qF.out i_
     go_wp2
     repeat (go_quiet (fail); try go_wp2)
     go_meet
     case rel => exact ⟨_, (((qE.length : Int) != (qG.length : Int))), (by first | rfl | (simp; done) | (simp [*]; done)), H', ⟨by first | omega | exact Nat.le_refl _⟩, ⟨by refine lZ ?_; exact qA.out⟩, ⟨by refine lZ ?_; exact qF.out⟩, ⟨by repeat (first | (with_reducible first | exact HB.out | apply below_alloc | apply pw_below_drewN | apply below_drew1 | refine below_set ?_ qJ.out | refine below_set ?_ qT.out) | exact HB.out)⟩⟩
    ·rw [if_neg c8] at H
     have c8b0 : ((qB.length : Int) == (qD.length : Int)) = false := beq_eq_false_iff_ne.mpr c8
     have c8b1 : ((qB.length : Int) != (qD.length : Int)) = true := bne_iff_ne.mpr c8
     have c8b2 : (qB.length == qD.length) = false := by first | simpa using c8 | (simp at c8 ⊢; omega)
     have H' := aM H
     clear H
     have jb := qK.out
     have jc := qL.out
     have q1 := zc4 qA.out
     have q2 := fun i_ : Nat => blk_frozen qA.out i_
     have q3 := zc4 qF.out
     have q4 := fun i_ : Nat => blk_frozen qF.out i_
     go_wp2
     repeat (go_quiet (fail); try go_wp2)
     go_meet
     case rel => exact ⟨_, (true), (by first | rfl | (simp; done) | (simp [*]; done)), H', ⟨by first | omega | exact Nat.le_refl _⟩, ⟨by refine lZ ?_; exact qA.out⟩, ⟨by refine lZ ?_; exact qF.out⟩, ⟨by repeat (first | (with_reducible first | exact HB.out | apply below_alloc | apply pw_below_drewN | apply below_drew1 | refine below_set ?_ qJ.out | refine below_set ?_ qT.out) | exact HB.out)⟩⟩
   ·rw [if_neg c7] at H
    have c7b0 : (qN == qP) = false := beq_eq_false_iff_ne.mpr c7
    have c7b1 : (qN != qP) = true := bne_iff_ne.mpr c7
    have H' := aM H
    clear H
    have jd := qK.out
    have je := qL.out
    have q5 := zc4 qA.out
    have q6 := fun i_ : Nat => blk_frozen qA.out i_
    have q7 := zc4 qF.out
    have q8 := fun i_ : Nat => blk_frozen qF.out i_
    go_wp2
    repeat (go_quiet (fail); try go_wp2)
    go_meet
    case rel => exact ⟨_, (true), (by first | rfl | (simp; done) | (simp [*]; done)), H', ⟨by first | omega | exact Nat.le_refl _⟩, ⟨by refine lZ ?_; exact qA.out⟩, ⟨by refine lZ ?_; exact qF.out⟩, ⟨by repeat (first | (with_reducible first | exact HB.out | apply below_alloc | apply pw_below_drewN | apply below_drew1 | refine below_set ?_ qJ.out | refine below_set ?_ qT.out) | exact HB.out)⟩⟩
  ·rw [if_neg c6] at H
   have c6b0 : (qM == qO) = false := beq_eq_false_iff_ne.mpr c6
   have c6b1 : (qM != qO) = true := bne_iff_ne.mpr c6
   (first | rw [c6b0] | (simp only [i64_w, i32_w]; rw [c6b0]) | skip)
   have H' := aM H
   clear H
   have jf := qK.out
   have jg := qL.out
   have q9 := zc4 qA.out
   have jA := fun i_ : Nat => blk_frozen qA.out i_
   have jB := zc4 qF.out
   have jC := fun i_ : Nat => blk_frozen qF.out i_
   go_wp2
   repeat (go_quiet (fail); try go_wp2)
   go_meet
   case rel => exact ⟨_, (true), (by first | rfl | (simp; done) | (simp [*]; done)), H', ⟨by first | omega | exact Nat.le_refl _⟩, ⟨by refine lZ ?_; exact qA.out⟩, ⟨by refine lZ ?_; exact qF.out⟩, ⟨by repeat (first | (with_reducible first | exact HB.out | apply below_alloc | apply pw_below_drewN | apply below_drew1 | refine below_set ?_ qJ.out | refine below_set ?_ qT.out) | exact HB.out)⟩⟩
 case rest =>
  clear HC3
  obtain ⟨kq, qi, rfl, HA, HJ2, qA, qF, HB⟩ := hcut
  cases kq with
  | zero => exact absurd HA.out (by simp [swageref08_Same.j0])
  | succ kj2 =>
   have H := HA.out
   clear HA
   simp only [swageref08_Same.j0] at H
   by_cases c21 : qi = true
   ·subst c21
    have H1 : (some false) = some r := by rw [if_pos rfl] at H; exact H
    clear H
    have H := H1
    clear H1
    obtain rfl := Option.some.inj H
    go_wp2
    repeat (go_quiet (fail); try go_wp2)
    go_ret
    exact ⟨by first | rfl | (simp [errW_none, errW_some] <;> rfl) | (simp [*, errW_none, errW_some] <;> rfl), by repeat (first | (with_reducible first | exact HB.out | apply below_alloc | apply pw_below_drewN | apply below_drew1 | refine below_set ?_ qJ.out | refine below_set ?_ qT.out) | exact HB.out)⟩
   ·replace c21 := Bool.eq_false_iff.mpr c21
    subst c21
    have H1 : (swageref08_Same.l0 kj2 0 qM qN qB qE qO qP qD qG) = some r := by rw [if_neg (show ¬ (false = true) by decide)] at H; exact H
    clear H
    have H := H1
    clear H1
    have H' := aM H
    clear H
    go_wp2
    repeat (go_quiet (fail); try go_wp2)
    go_loopg [5] kj2 (fun kq v5 w' => ∃ (qC : Int), v5 = .int .i64 qC ∧ Aside0 (swageref08_Same.l0 kq qC qM qN qB qE qO qP qD qG = some r) ∧ Aside0 (kq ≤ kj2) ∧ Aside0 (w'.heap[qI]? = some (.cells #[.int .i64 qM, .int .i64 qN, (.slice qa qB.length qb), (.slice qc qE.length qd)] 26 (0, 0))) ∧ Aside0 (w'.heap[qS]? = some (.cells #[.int .i64 qO, .int .i64 qP, (.slice qe qD.length qf), (.slice qg qG.length qh)] 26 (0, 0))) ∧ Aside0 (Below w.heap.size w w'))
    case atStart => exact ⟨(0), (by first | rfl | (simp; done) | (simp [*]; done)), H', ⟨Nat.le_refl _⟩, ⟨by refine lZ ?_; exact qA.out⟩, ⟨by refine lZ ?_; exact qF.out⟩, ⟨by repeat (first | (with_reducible first | exact HB.out | apply below_alloc | apply pw_below_drewN | apply below_drew1 | refine below_set ?_ qJ.out | refine below_set ?_ qT.out) | exact HB.out)⟩⟩
    case round =>
     clear H'
     try clear c21
     obtain ⟨qC, rfl, HA, HK2, qA, qF, HB⟩ := hrel
     cases gk with
     | zero => exact absurd HA.out (by simp [swageref08_Same.l0])
     | succ k2 =>
      have H := HA.out
      clear HA
      simp only [swageref08_Same.l0] at H
      by_cases c22 : qC < (qB.length : Int)
      ·rw [if_pos c22] at H
       have c22b0 : decide (qC < (qB.length : Int)) = true := decide_eq_true c22
       clear c22
       by_cases c23 : 0 ≤ qC
       ·rw [if_pos c23] at H
        have c23b0 : decide (0 ≤ qC) = true := decide_eq_true c23
        clear c23
        by_cases c24 : qC < (qD.length : Int)
        ·rw [if_pos c24] at H
         have c24b0 : decide (qC < (qD.length : Int)) = true := decide_eq_true c24
         clear c24
         by_cases c25 : (!(((rd_T63 qB qC).f0) == ((rd_T63 qD qC).f0)) || (!(((rd_T63 qB qC).f1) == ((rd_T63 qD qC).f1)) || (!(((rd_T63 qB qC).f2) == ((rd_T63 qD qC).f2)) || (!(((rd_T63 qB qC).f3) == ((rd_T63 qD qC).f3)) || (!(((rd_T63 qB qC).f4) == ((rd_T63 qD qC).f4))))))) = true
         ·rw [if_pos c25] at H
          have c25b0 : (!(((rd_T63 qB qC).f0) == ((rd_T63 qD qC).f0)) || (!(((rd_T63 qB qC).f1) == ((rd_T63 qD qC).f1)) || (!(((rd_T63 qB qC).f2) == ((rd_T63 qD qC).f2)) || (!(((rd_T63 qB qC).f3) == ((rd_T63 qD qC).f3)) || (!(((rd_T63 qB qC).f4) == ((rd_T63 qD qC).f4))))))) = true := c25
          clear c25
          obtain rfl := Option.some.inj H
          have jh := qK.out
          have ji := qL.out
          have jD := zc4 qA.out
          have jE := fun i_ : Nat => blk_frozen qA.out i_
          have p445 : 0 ≤ (qC : Int) := of_decide_eq_true (by first | (with_reducible assumption) | assumption)
          have q445 : qC < (qB.length : Int) := of_decide_eq_true (by first | (with_reducible assumption) | assumption)
          obtain ⟨ad445, e445, hx445_0, hx445_1, hx445_2, hx445_3, hx445_4⟩ := at_T63 qr.out qC p445 q445
          cases e445
          replace hx445_0 := (HB.out.cell (World.block_lt_of_cell? w _ hx445_0)).trans hx445_0
          replace hx445_1 := (HB.out.cell (World.block_lt_of_cell? w _ hx445_1)).trans hx445_1
          replace hx445_2 := (HB.out.cell (World.block_lt_of_cell? w _ hx445_2)).trans hx445_2
          replace hx445_3 := (HB.out.cell (World.block_lt_of_cell? w _ hx445_3)).trans hx445_3
          replace hx445_4 := (HB.out.cell (World.block_lt_of_cell? w _ hx445_4)).trans hx445_4
          replace p445 := eq_true p445
          replace q445 := eq_true q445
          have jF := zc4 qF.out
          have jG := fun i_ : Nat => blk_frozen qF.out i_
          have p446 : 0 ≤ (qC : Int) := of_decide_eq_true (by first | (with_reducible assumption) | assumption)
          have q446 : qC < (qD.length : Int) := of_decide_eq_true (by first | (with_reducible assumption) | assumption)
          obtain ⟨ad446, e446, hx446_0, hx446_1, hx446_2, hx446_3, hx446_4⟩ := at_T63 qt.out qC p446 q446
          cases e446
          replace hx446_0 := (HB.out.cell (World.block_lt_of_cell? w _ hx446_0)).trans hx446_0
          replace hx446_1 := (HB.out.cell (World.block_lt_of_cell? w _ hx446_1)).trans hx446_1
          replace hx446_2 := (HB.out.cell (World.block_lt_of_cell? w _ hx446_2)).trans hx446_2
          replace hx446_3 := (HB.out.cell (World.block_lt_of_cell? w _ hx446_3)).trans hx446_3
          replace hx446_4 := (HB.out.cell (World.block_lt_of_cell? w _ hx446_4)).trans hx446_4
          replace p446 := eq_true p446
          replace q446 := eq_true q446
          go_wp2
          repeat (go_quiet (fail); try go_wp2)
          go_ret
          exact ⟨by first | rfl | (simp [errW_none, errW_some] <;> rfl) | (simp [*, errW_none, errW_some] <;> rfl), by repeat (first | (with_reducible first | exact HB.out | apply below_alloc | apply pw_below_drewN | apply below_drew1 | refine below_set ?_ qJ.out | refine below_set ?_ qT.out) | exact HB.out)⟩
         ·rw [if_neg c25] at H
          have c25b0 : (!(((rd_T63 qB qC).f0) == ((rd_T63 qD qC).f0)) || (!(((rd_T63 qB qC).f1) == ((rd_T63 qD qC).f1)) || (!(((rd_T63 qB qC).f2) == ((rd_T63 qD qC).f2)) || (!(((rd_T63 qB qC).f3) == ((rd_T63 qD qC).f3)) || (!(((rd_T63 qB qC).f4) == ((rd_T63 qD qC).f4))))))) = false := by simpa using c25
          clear c25
          have H' := aM H
          clear H
          have jj := qK.out
          have jk := qL.out
          have jH := zc4 qA.out
          have jI := fun i_ : Nat => blk_frozen qA.out i_
          have p445 : 0 ≤ (qC : Int) := of_decide_eq_true (by first | (with_reducible assumption) | assumption)
          have q445 : qC < (qB.length : Int) := of_decide_eq_true (by first | (with_reducible assumption) | assumption)
          obtain ⟨ad445, e445, hx445_0, hx445_1, hx445_2, hx445_3, hx445_4⟩ := at_T63 qr.out qC p445 q445
          cases e445
          replace hx445_0 := (HB.out.cell (World.block_lt_of_cell? w _ hx445_0)).trans hx445_0
          replace hx445_1 := (HB.out.cell (World.block_lt_of_cell? w _ hx445_1)).trans hx445_1
          replace hx445_2 := (HB.out.cell (World.block_lt_of_cell? w _ hx445_2)).trans hx445_2
          replace hx445_3 := (HB.out.cell (World.block_lt_of_cell? w _ hx445_3)).trans hx445_3
          replace hx445_4 := (HB.out.cell (World.block_lt_of_cell? w _ hx445_4)).trans hx445_4
          replace p445 := eq_true p445
          replace q445 := eq_true q445
          have jJ := zc4 qF.out
          have jK := fun i_ : Nat => blk_frozen qF.out i_
          have p446 : 0 ≤ (qC : Int) := of_decide_eq_true (by first | (with_reducible assumption) | assumption)
          have q446 : qC < (qD.length : Int) := of_decide_eq_true (by first | (with_reducible assumption) | assumption)
          obtain ⟨ad446, e446, hx446_0, hx446_1, hx446_2, hx446_3, hx446_4⟩ := at_T63 qt.out qC p446 q446
          cases e446
          replace hx446_0 := (HB.out.cell (World.block_lt_of_cell? w _ hx446_0)).trans hx446_0
          replace hx446_1 := (HB.out.cell (World.block_lt_of_cell? w _ hx446_1)).trans hx446_1
          replace hx446_2 := (HB.out.cell (World.block_lt_of_cell? w _ hx446_2)).trans hx446_2
          replace hx446_3 := (HB.out.cell (World.block_lt_of_cell? w _ hx446_3)).trans hx446_3
          replace hx446_4 := (HB.out.cell (World.block_lt_of_cell? w _ hx446_4)).trans hx446_4
          replace p446 := eq_true p446
          replace q446 := eq_true q446
          go_wp2
          repeat (go_quiet (fail); try go_wp2)
          go_roundg k2
          case measure => have := HJ2.out; have := HK2.out; omega
          case rel => exact ⟨(wrap64 (qC + 1)), (by first | rfl | (simp; done) | (simp [*]; done)), H', ⟨by have := HJ2.out; have := HK2.out; omega⟩, ⟨by refine lZ ?_; exact qA.out⟩, ⟨by refine lZ ?_; exact qF.out⟩, ⟨by repeat (first | (with_reducible first | exact HB.out | apply below_alloc | apply pw_below_drewN | apply below_drew1 | refine below_set ?_ qJ.out | refine below_set ?_ qT.out) | exact HB.out)⟩⟩
        ·rw [if_neg c24] at H
         exact absurd H (by simp)
       ·rw [if_neg c23] at H
        exact absurd H (by simp)
      ·rw [if_neg c22] at H
       have c22b0 : decide (qC < (qB.length : Int)) = false := decide_eq_false c22
       clear c22
       have H' := aM H
       clear H
       have jl := qK.out
       have jm := qL.out
       have jL := zc4 qA.out
       have jM := fun i_ : Nat => blk_frozen qA.out i_
       go_wp2
       repeat (go_quiet (fail); try go_wp2)
       go_loopg [6] k2 (fun kq v6 w' => ∃ (qH : Int), v6 = .int .i64 qH ∧ Aside0 (swageref08_Same.l1 kq qH qM qN qB qE qO qP qD qG = some r) ∧ Aside0 (kq ≤ k2) ∧ Aside0 (w'.heap[qI]? = some (.cells #[.int .i64 qM, .int .i64 qN, (.slice qa qB.length qb), (.slice qc qE.length qd)] 26 (0, 0))) ∧ Aside0 (w'.heap[qS]? = some (.cells #[.int .i64 qO, .int .i64 qP, (.slice qe qD.length qf), (.slice qg qG.length qh)] 26 (0, 0))) ∧ Aside0 (Below w.heap.size w w'))
       case atStart => exact ⟨(0), (by first | rfl | (simp; done) | (simp [*]; done)), H', ⟨Nat.le_refl _⟩, ⟨by refine lZ ?_; exact qA.out⟩, ⟨by refine lZ ?_; exact qF.out⟩, ⟨by repeat (first | (with_reducible first | exact HB.out | apply below_alloc | apply pw_below_drewN | apply below_drew1 | refine below_set ?_ qJ.out | refine below_set ?_ qT.out) | exact HB.out)⟩⟩
       case round =>
        clear H'
        try clear c21
        try clear c22
        obtain ⟨qH, rfl, HA, HK3, qA, qF, HB⟩ := hrel
        cases gk with
        | zero => exact absurd HA.out (by simp [swageref08_Same.l1])
        | succ k3 =>
         have H := HA.out
         clear HA
         simp only [swageref08_Same.l1] at H
         by_cases c34 : qH < (qE.length : Int)
         ·rw [if_pos c34] at H
          have c34b0 : decide (qH < (qE.length : Int)) = true := decide_eq_true c34
          clear c34
          by_cases c35 : 0 ≤ qH
          ·rw [if_pos c35] at H
           have c35b0 : decide (0 ≤ qH) = true := decide_eq_true c35
           clear c35
           by_cases c36 : qH < (qG.length : Int)
           ·rw [if_pos c36] at H
            have c36b0 : decide (qH < (qG.length : Int)) = true := decide_eq_true c36
            clear c36
            by_cases c37 : (rd qE qH) = (rd qG qH)
            ·rw [if_pos c37] at H
             have c37b0 : ((rd qE qH) == (rd qG qH)) = true := beq_iff_eq.mpr c37
             have c37b1 : ((rd qE qH) != (rd qG qH)) = false := bne_eq_false_iff_eq.mpr c37
             clear c37
             have H' := aM H
             clear H
             have jn := qK.out
             have jo := qL.out
             have jN := zc4 qA.out
             have jO := fun i_ : Nat => blk_frozen qA.out i_
             have p447 : 0 ≤ (qH : Int) := of_decide_eq_true (by first | (with_reducible assumption) | assumption)
             have q447 : qH < (qE.length : Int) := of_decide_eq_true (by first | (with_reducible assumption) | assumption)
             obtain ⟨ad447, e447, hx447_0⟩ := Kd.at_int qs.out qH p447 q447
             cases e447
             replace hx447_0 := (HB.out.cell (World.block_lt_of_cell? w _ hx447_0)).trans hx447_0
             replace p447 := eq_true p447
             replace q447 := eq_true q447
             have jP := zc4 qF.out
             have jQ := fun i_ : Nat => blk_frozen qF.out i_
             have p448 : 0 ≤ (qH : Int) := of_decide_eq_true (by first | (with_reducible assumption) | assumption)
             have q448 : qH < (qG.length : Int) := of_decide_eq_true (by first | (with_reducible assumption) | assumption)
             obtain ⟨ad448, e448, hx448_0⟩ := Kd.at_int qu.out qH p448 q448
             cases e448
             replace hx448_0 := (HB.out.cell (World.block_lt_of_cell? w _ hx448_0)).trans hx448_0
             replace p448 := eq_true p448
             replace q448 := eq_true q448
             go_wp2
             repeat (go_quiet (fail); try go_wp2)
             go_roundg k3
             case measure => have := HJ2.out; have := HK2.out; have := HK3.out; omega
             case rel => exact ⟨(wrap64 (qH + 1)), (by first | rfl | (simp; done) | (simp [*]; done)), H', ⟨by have := HJ2.out; have := HK2.out; have := HK3.out; omega⟩, ⟨by refine lZ ?_; exact qA.out⟩, ⟨by refine lZ ?_; exact qF.out⟩, ⟨by repeat (first | (with_reducible first | exact HB.out | apply below_alloc | apply pw_below_drewN | apply below_drew1 | refine below_set ?_ qJ.out | refine below_set ?_ qT.out) | exact HB.out)⟩⟩
            ·rw [if_neg c37] at H
             have c37b0 : ((rd qE qH) == (rd qG qH)) = false := beq_eq_false_iff_ne.mpr c37
             have c37b1 : ((rd qE qH) != (rd qG qH)) = true := bne_iff_ne.mpr c37
             obtain rfl := Option.some.inj H
             have jp := qK.out
             have jq := qL.out
             have jR := zc4 qA.out
             have jS := fun i_ : Nat => blk_frozen qA.out i_
             have p447 : 0 ≤ (qH : Int) := of_decide_eq_true (by first | (with_reducible assumption) | assumption)
             have q447 : qH < (qE.length : Int) := of_decide_eq_true (by first | (with_reducible assumption) | assumption)
             obtain ⟨ad447, e447, hx447_0⟩ := Kd.at_int qs.out qH p447 q447
             cases e447
             replace hx447_0 := (HB.out.cell (World.block_lt_of_cell? w _ hx447_0)).trans hx447_0
             replace p447 := eq_true p447
             replace q447 := eq_true q447
             have jT := zc4 qF.out
             have jU := fun i_ : Nat => blk_frozen qF.out i_
             have p448 : 0 ≤ (qH : Int) := of_decide_eq_true (by first | (with_reducible assumption) | assumption)
             have q448 : qH < (qG.length : Int) := of_decide_eq_true (by first | (with_reducible assumption) | assumption)
             obtain ⟨ad448, e448, hx448_0⟩ := Kd.at_int qu.out qH p448 q448
             cases e448
             replace hx448_0 := (HB.out.cell (World.block_lt_of_cell? w _ hx448_0)).trans hx448_0
             replace p448 := eq_true p448
             replace q448 := eq_true q448
             go_wp2
             repeat (go_quiet (fail); try go_wp2)
             go_ret
             exact ⟨by first | rfl | (simp [errW_none, errW_some] <;> rfl) | (simp [*, errW_none, errW_some] <;> rfl), by repeat (first | (with_reducible first | exact HB.out | apply below_alloc | apply pw_below_drewN | apply below_drew1 | refine below_set ?_ qJ.out | refine below_set ?_ qT.out) | exact HB.out)⟩
           ·rw [if_neg c36] at H
            exact absurd H (by simp)
          ·rw [if_neg c35] at H
           exact absurd H (by simp)
         ·rw [if_neg c34] at H
          have c34b0 : decide (qH < (qE.length : Int)) = false := decide_eq_false c34
          clear c34
          obtain rfl := Option.some.inj H
          have jr := qK.out
          have js := qL.out
          have jV := zc4 qA.out
          have jW := fun i_ : Nat => blk_frozen qA.out i_
          go_wp2
          repeat (go_quiet (fail); try go_wp2)
          go_ret
          exact ⟨by first | rfl | (simp [errW_none, errW_some] <;> rfl) | (simp [*, errW_none, errW_some] <;> rfl), by repeat (first | (with_reducible first | exact HB.out | apply below_alloc | apply pw_below_drewN | apply below_drew1 | refine below_set ?_ qJ.out | refine below_set ?_ qT.out) | exact HB.out)⟩

end Go.Proofs.Ytccbdcbeinkjgaa.XA
end

section
namespace Go.Proofs.Ytccbdcbeinkjgaa.XA
open Go.Proofs.Ytccbdcbeinkjgaa.Lift Go.RowKit Go.Proofs.YtccbdcbeinkjgaaW.PrintWords Go.Proofs.YtccbdcbeinkjgaaW.PrintLast Go.Proofs.YtccbdcbeinkjgaaW.PrintMore
attribute [local go_sem] max2_int min2_int max_two min_two max_three min_three max_four min_four
set_option linter.unusedVariables false
set_option linter.unusedSimpArgs false

attribute [local go_sem high] eqA48
/-! ### swageref17_Same: function 25 -/
mutual
def swageref17_Same.j0 : Nat → Bool → Int → Int → List (S48) → Int → Int → List (S63) → List Int → Int → Int → List (S63) → List Int → Int → Int → List (S63) → List Int → Int → Int → List (S48) → Int → Int → List (S63) → List Int → Int → Int → List (S63) → List Int → Int → Int → List (S63) → List Int → Option (Bool)
 | 0, _, _, _, _, _, _, _, _, _, _, _, _, _, _, _, _, _, _, _, _, _, _, _, _, _, _, _, _, _, _, _ => none
 | k + 1, x26, jx, jy, qw, jF, jG, jH, jI, jJ, jK, jL, jM, jN, jO, jP, jQ, jz, j1, qx, jR, jS, jT, jU, jV, jW, jX, jY, jZ, ja, jb, jc => if x26 = true then (some false) else (swageref17_Same.l0 k 0 jx jy qw jF jG jH jI jJ jK jL jM jN jO jP jQ jz j1 qx jR jS jT jU jV jW jX jY jZ ja jb jc)
def swageref17_Same.l0 : Nat → Int → Int → Int → List (S48) → Int → Int → List (S63) → List Int → Int → Int → List (S63) → List Int → Int → Int → List (S63) → List Int → Int → Int → List (S48) → Int → Int → List (S63) → List Int → Int → Int → List (S63) → List Int → Int → Int → List (S63) → List Int → Option (Bool)
 | 0, _, _, _, _, _, _, _, _, _, _, _, _, _, _, _, _, _, _, _, _, _, _, _, _, _, _, _, _, _, _, _ => none
 | k + 1, x5, jx, jy, qw, jF, jG, jH, jI, jJ, jK, jL, jM, jN, jO, jP, jQ, jz, j1, qx, jR, jS, jT, jU, jV, jW, jX, jY, jZ, ja, jb, jc => if x5 < (qw.length : Int) then (if 0 ≤ x5 then (if x5 < (qx.length : Int) then (if (!(((rd_T48 qw x5).f0) == ((rd_T48 qx x5).f0)) || (!(((rd_T48 qw x5).f1) == ((rd_T48 qx x5).f1)))) = true then (some false) else (swageref17_Same.l0 k (wrap64 (x5 + 1)) jx jy qw jF jG jH jI jJ jK jL jM jN jO jP jQ jz j1 qx jR jS jT jU jV jW jX jY jZ ja jb jc)) else (none)) else (none)) else ((swageref08_Same.f k jF jG jH jI jR jS jT jU).bind fun qAt => (if qAt = true then ((swageref08_Same.f k jJ jK jL jM jV jW jX jY).bind fun jE => (if jE = true then ((swageref08_Same.f k jN jO jP jQ jZ ja jb jc).bind fun qn => (some qn)) else (some false))) else (some false)))
end
def swageref17_Same.f (k : Nat) (qh : Int) (qi : Int) (qJ : List (S48)) (qZ : Int) (qa : Int) (qT : List (S63)) (qU : List Int) (qd : Int) (qe : Int) (qX : List (S63)) (qG : List Int) (qP : Int) (qQ : Int) (qK : List (S63)) (qL : List Int) (qj : Int) (qk : Int) (qO : List (S48)) (qb : Int) (qc : Int) (qV : List (S63)) (qW : List Int) (qf : Int) (qg : Int) (qY : List (S63)) (qH : List Int) (qR : Int) (qS : Int) (qM : List (S63)) (qN : List Int) : Option (Bool) := if qh = qj then (if qi = qk then (swageref17_Same.j0 k ((qJ.length : Int) != (qO.length : Int)) qh qi qJ qZ qa qT qU qd qe qX qG qP qQ qK qL qj qk qO qb qc qV qW qf qg qY qH qR qS qM qN) else (swageref17_Same.j0 k true qh qi qJ qZ qa qT qU qd qe qX qG qP qQ qK qL qj qk qO qb qc qV qW qf qg qY qH qR qS qM qN)) else (swageref17_Same.j0 k true qh qi qJ qZ qa qT qU qd qe qX qG qP qQ qK qL qj qk qO qb qc qV qW qf qg qY qH qR qS qM qN)
theorem swageref17_Same.mono_l : ∀ k, (∀ y0 y1 y2 y3 y4 y5 y6 y7 y8 y9 y10 y11 y12 y13 y14 y15 y16 y17 y18 y19 y20 y21 y22 y23 y24 y25 y26 y27 y28 y29 y30, LeO (swageref17_Same.j0 k y0 y1 y2 y3 y4 y5 y6 y7 y8 y9 y10 y11 y12 y13 y14 y15 y16 y17 y18 y19 y20 y21 y22 y23 y24 y25 y26 y27 y28 y29 y30) (swageref17_Same.j0 (k + 1) y0 y1 y2 y3 y4 y5 y6 y7 y8 y9 y10 y11 y12 y13 y14 y15 y16 y17 y18 y19 y20 y21 y22 y23 y24 y25 y26 y27 y28 y29 y30)) ∧ (∀ y0 y1 y2 y3 y4 y5 y6 y7 y8 y9 y10 y11 y12 y13 y14 y15 y16 y17 y18 y19 y20 y21 y22 y23 y24 y25 y26 y27 y28 y29 y30, LeO (swageref17_Same.l0 k y0 y1 y2 y3 y4 y5 y6 y7 y8 y9 y10 y11 y12 y13 y14 y15 y16 y17 y18 y19 y20 y21 y22 y23 y24 y25 y26 y27 y28 y29 y30) (swageref17_Same.l0 (k + 1) y0 y1 y2 y3 y4 y5 y6 y7 y8 y9 y10 y11 y12 y13 y14 y15 y16 y17 y18 y19 y20 y21 y22 y23 y24 y25 y26 y27 y28 y29 y30))
 | 0 => ⟨fun _ _ _ _ _ _ _ _ _ _ _ _ _ _ _ _ _ _ _ _ _ _ _ _ _ _ _ _ _ _ _ r h => by simp [swageref17_Same.j0] at h, fun _ _ _ _ _ _ _ _ _ _ _ _ _ _ _ _ _ _ _ _ _ _ _ _ _ _ _ _ _ _ _ r h => by simp [swageref17_Same.l0] at h⟩
 | k + 1 => by
  obtain ⟨ih0, ih1⟩ := swageref17_Same.mono_l k
  refine ⟨?_, ?_⟩
  ·intro y0 y1 y2 y3 y4 y5 y6 y7 y8 y9 y10 y11 y12 y13 y14 y15 y16 y17 y18 y19 y20 y21 y22 y23 y24 y25 y26 y27 y28 y29 y30
   unfold swageref17_Same.j0
   repeat' first
   | (with_reducible exact ih0 ..)
   | (with_reducible exact ih1 ..)
   | (with_reducible exact swageref08_Same.mono _ _ _ _ _ _ _ _ _)
   | (with_reducible exact LeO.refl _)
   | (with_reducible exact LeO.none _)
   | (with_reducible refine LeO.ite ?_ ?_)
   | (with_reducible refine LeO.bind ?_ (fun _ => ?_))
   | exact ih0 _ _ _ _ _ _ _ _ _ _ _ _ _ _ _ _ _ _ _ _ _ _ _ _ _ _ _ _ _ _ _
   | exact ih1 _ _ _ _ _ _ _ _ _ _ _ _ _ _ _ _ _ _ _ _ _ _ _ _ _ _ _ _ _ _ _
   | exact swageref08_Same.mono _ _ _ _ _ _ _ _ _
   | exact LeO.none _
   | refine LeO.ite ?_ ?_
   | refine LeO.bind ?_ (fun _ => ?_)
  ·intro y0 y1 y2 y3 y4 y5 y6 y7 y8 y9 y10 y11 y12 y13 y14 y15 y16 y17 y18 y19 y20 y21 y22 y23 y24 y25 y26 y27 y28 y29 y30
   unfold swageref17_Same.l0
   repeat' first
   | (with_reducible exact ih0 ..)
   | (with_reducible exact ih1 ..)
   | (with_reducible exact swageref08_Same.mono _ _ _ _ _ _ _ _ _)
   | (with_reducible exact LeO.refl _)
   | (with_reducible exact LeO.none _)
   | (with_reducible refine LeO.ite ?_ ?_)
   | (with_reducible refine LeO.bind ?_ (fun _ => ?_))
   | exact ih0 _ _ _ _ _ _ _ _ _ _ _ _ _ _ _ _ _ _ _ _ _ _ _ _ _ _ _ _ _ _ _
   | exact ih1 _ _ _ _ _ _ _ _ _ _ _ _ _ _ _ _ _ _ _ _ _ _ _ _ _ _ _ _ _ _ _
   | exact swageref08_Same.mono _ _ _ _ _ _ _ _ _
   | exact LeO.none _
   | refine LeO.ite ?_ ?_
   | refine LeO.bind ?_ (fun _ => ?_)
theorem swageref17_Same.mono : ∀ a0 a1 a2 a3 a4 a5 a6 a7 a8 a9 a10 a11 a12 a13 a14 a15 a16 a17 a18 a19 a20 a21 a22 a23 a24 a25 a26 a27 a28 a29 k, LeO (swageref17_Same.f k a0 a1 a2 a3 a4 a5 a6 a7 a8 a9 a10 a11 a12 a13 a14 a15 a16 a17 a18 a19 a20 a21 a22 a23 a24 a25 a26 a27 a28 a29) (swageref17_Same.f (k + 1) a0 a1 a2 a3 a4 a5 a6 a7 a8 a9 a10 a11 a12 a13 a14 a15 a16 a17 a18 a19 a20 a21 a22 a23 a24 a25 a26 a27 a28 a29) := by
 intro a0 a1 a2 a3 a4 a5 a6 a7 a8 a9 a10 a11 a12 a13 a14 a15 a16 a17 a18 a19 a20 a21 a22 a23 a24 a25 a26 a27 a28 a29 k
 obtain ⟨ih0, ih1⟩ := swageref17_Same.mono_l k
 unfold swageref17_Same.f
 repeat' first
   | (with_reducible exact ih0 ..)
   | (with_reducible exact ih1 ..)
   | (with_reducible exact swageref08_Same.mono _ _ _ _ _ _ _ _ _)
   | (with_reducible exact LeO.refl _)
   | (with_reducible exact LeO.none _)
   | (with_reducible refine LeO.ite ?_ ?_)
   | (with_reducible refine LeO.bind ?_ (fun _ => ?_))
   | exact ih0 _ _ _ _ _ _ _ _ _ _ _ _ _ _ _ _ _ _ _ _ _ _ _ _ _ _ _ _ _ _ _
   | exact ih1 _ _ _ _ _ _ _ _ _ _ _ _ _ _ _ _ _ _ _ _ _ _ _ _ _ _ _ _ _ _ _
   | exact swageref08_Same.mono _ _ _ _ _ _ _ _ _
   | exact LeO.none _
   | refine LeO.ite ?_ ?_
   | refine LeO.bind ?_ (fun _ => ?_)
set_option maxHeartbeats 8000000 in
set_option maxRecDepth 100000 in
theorem swageref17_Same.calls (k : Nat) (qh : Int) (qi : Int) (jh : Option Addr) (ji : Nat) (qJ : List (S48)) (qZ : Int) (qa : Int) (jj : Option Addr) (jk : Nat) (qT : List (S63)) (jl : Option Addr) (jm : Nat) (qU : List Int) (qd : Int) (qe : Int) (jn : Option Addr) (jo : Nat) (qX : List (S63)) (q2 : Option Addr) (q3 : Nat) (qG : List Int) (qP : Int) (qQ : Int) (q4 : Option Addr) (q5 : Nat) (qK : List (S63)) (q6 : Option Addr) (q7 : Nat) (qL : List Int) (qj : Int) (qk : Int) (jp : Option Addr) (jq : Nat) (qO : List (S48)) (qb : Int) (qc : Int) (jr : Option Addr) (js : Nat) (qV : List (S63)) (jt : Option Addr) (ju : Nat) (qW : List Int) (qf : Int) (qg : Int) (jv : Option Addr) (jw : Nat) (qY : List (S63)) (q8 : Option Addr) (q9 : Nat) (qH : List Int) (qR : Int) (qS : Int) (jA : Option Addr) (jB : Nat) (qM : List (S63)) (jC : Option Addr) (jD : Nat) (qN : List Int) (r : Bool) (w : World) (qA6 : Kd.C k48 w jh qJ.length qJ) (qA7 : qJ.length ≤ ji) (qA8 : Kd.C k63 w jj qT.length qT) (qA9 : qT.length ≤ jk) (qBA : Kd.C (Kd.int .i64) w jl qU.length qU) (qBB : qU.length ≤ jm) (qBC : Kd.C k63 w jn qX.length qX) (qBD : qX.length ≤ jo) (qAu : Kd.C (Kd.int .i64) w q2 qG.length qG) (qAv : qG.length ≤ q3) (qAw : Kd.C k63 w q4 qK.length qK) (qAx : qK.length ≤ q5) (qAy : Kd.C (Kd.int .i64) w q6 qL.length qL) (qAz : qL.length ≤ q7) (qBE : Kd.C k48 w jp qO.length qO) (qBF : qO.length ≤ jq) (qBG : Kd.C k63 w jr qV.length qV) (qBH : qV.length ≤ js) (qBI : Kd.C (Kd.int .i64) w jt qW.length qW) (qBJ : qW.length ≤ ju) (qBK : Kd.C k63 w jv qY.length qY) (qBL : qY.length ≤ jw) (qA0 : Kd.C (Kd.int .i64) w q8 qH.length qH) (qA1 : qH.length ≤ q9) (qA2 : Kd.C k63 w jA qM.length qM) (qA3 : qM.length ≤ jB) (qA4 : Kd.C (Kd.int .i64) w jC qN.length qN) (qA5 : qN.length ≤ jD) (h : swageref17_Same.f k qh qi qJ qZ qa qT qU qd qe qX qG qP qQ qK qL qj qk qO qb qc qV qW qf qg qY qH qR qS qM qN = some r) :
  Calls Try.prog 25 #[.agg #[.int .i64 qh, .int .i64 qi, .slice jh qJ.length ji, .int .i64 qZ, .int .i64 qa, .slice jj qT.length jk, .slice jl qU.length jm, .int .i64 qd, .int .i64 qe, .slice jn qX.length jo, .slice q2 qG.length q3, .int .i64 qP, .int .i64 qQ, .slice q4 qK.length q5, .slice q6 qL.length q7], .agg #[.int .i64 qj, .int .i64 qk, .slice jp qO.length jq, .int .i64 qb, .int .i64 qc, .slice jr qV.length js, .slice jt qW.length ju, .int .i64 qf, .int .i64 qg, .slice jv qY.length jw, .slice q8 qH.length q9, .int .i64 qR, .int .i64 qS, .slice jA qM.length jB, .slice jC qN.length jD]] w fun e w' => e = .returned (.bool r) ∧ Below w.heap.size w w' := by
 have hu28 := Try.underlying28
 have hu48 := Try.underlying48
 have hu26 := Try.underlying26
 have qBM := aM qA6
 have qBw := aM qA7
 clear qA6 qA7
 have qo := aM qA8
 have qp := aM qA9
 clear qA8 qA9
 have qq := aM qBA
 have qr := aM qBB
 clear qBA qBB
 have jd := aM qBC
 have je := aM qBD
 clear qBC qBD
 have qy := aM qAu
 have qz := aM qAv
 clear qAu qAv
 have j3 := aM qAw
 have j4 := aM qAx
 clear qAw qAx
 have j5 := aM qAy
 have j6 := aM qAz
 clear qAy qAz
 have qBN := aM qBE
 have qBx := aM qBF
 clear qBE qBF
 have qs := aM qBG
 have qt := aM qBH
 clear qBG qBH
 have qu := aM qBI
 have qv := aM qBJ
 clear qBI qBJ
 have jf := aM qBK
 have jg := aM qBL
 clear qBK qBL
 have q0 := aM qA0
 have q1 := aM qA1
 clear qA0 qA1
 have j7 := aM qA2
 have j8 := aM qA3
 clear qA2 qA3
 have j9 := aM qA4
 have yA := aM qA5
 clear qA4 qA5
 have HB := aM (Below.refl w.heap.size w)
 have H : (if qh = qj then (if qi = qk then (swageref17_Same.j0 k ((qJ.length : Int) != (qO.length : Int)) qh qi qJ qZ qa qT qU qd qe qX qG qP qQ qK qL qj qk qO qb qc qV qW qf qg qY qH qR qS qM qN) else (swageref17_Same.j0 k true qh qi qJ qZ qa qT qU qd qe qX qG qP qQ qK qL qj qk qO qb qc qV qW qf qg qY qH qR qS qM qN)) else (swageref17_Same.j0 k true qh qi qJ qZ qa qT qU qd qe qX qG qP qQ qK qL qj qk qO qb qc qV qW qf qg qY qH qR qS qM qN)) = some r := h
 clear h
 have HC3 := aM H
 clear H
 go_enter Try.func25, Try.ntmps25
 go_upto_region 1 with (first | ((with_reducible refine gate_dst (N := 2) rfl ?_); (try (refine gate_guard (by rfl) ?_; dsimp only)); refine box_event ?hg (N := 2) ?hd (cs := #[.int .i64 qh, .int .i64 qi, .slice jh qJ.length ji, .int .i64 qZ, .int .i64 qa, .slice jj qT.length jk, .slice jl qU.length jm, .int .i64 qd, .int .i64 qe, .slice jn qX.length jo, .slice q2 qG.length q3, .int .i64 qP, .int .i64 qQ, .slice q4 qK.length q5, .slice q6 qL.length q7]) (t := 28) ?hr ?_; (case hd => rfl); (case hg => rfl); (case hr => first | (go_simp; done) | (go_simp; rfl)); intro qC hg w4 hbox hb; have qA := aM (hbox); have qBO := aM ((by rw [hg]; exact (below_size (lB HB)) : w.heap.size ≤ qC)); have qD := aM ((by rw [hg]; exact (below_size (lB HB)) : w.heap.size ≤ qC)); replace HB := aM (below_step (lB HB) hb); clear hb hbox hg) | ((with_reducible refine gate_dst (N := 3) rfl ?_); (try (refine gate_guard (by rfl) ?_; dsimp only)); refine box_event ?hg (N := 3) ?hd (cs := #[.int .i64 qj, .int .i64 qk, .slice jp qO.length jq, .int .i64 qb, .int .i64 qc, .slice jr qV.length js, .slice jt qW.length ju, .int .i64 qf, .int .i64 qg, .slice jv qY.length jw, .slice q8 qH.length q9, .int .i64 qR, .int .i64 qS, .slice jA qM.length jB, .slice jC qN.length jD]) (t := 28) ?hr ?_; (case hd => rfl); (case hg => rfl); (case hr => first | (go_simp; done) | (go_simp; rfl)); intro qE hg w5 hbox hb; have qB := aM (hbox); have qBP := aM ((by rw [hg]; exact (below_size (by have := GEc.mk qD.out; exact lS HB)) : w.heap.size ≤ qE)); have qF := aM ((by rw [hg]; exact (below_size (by have := GEc.mk qD.out; exact lS HB)) : w.heap.size ≤ qE)); replace HB := aM (below_step (by have := GEc.mk qD.out; exact lS HB) hb); have ql := aM ((by rw [hg]; exact Nat.ne_of_lt (blk_lt (g := qC) (lK qA)) : qC ≠ qE)); have qm := aM ((by rw [hg]; exact Nat.ne_of_gt (blk_lt (g := qC) (lK qA)) : qE ≠ qC)); replace qA := aM (blk_below (g := qC) (lK qA) hb); clear hb hbox hg))
 repeat (go_quiet (first | ((with_reducible refine gate_dst (N := 2) rfl ?_); (try (refine gate_guard (by rfl) ?_; dsimp only)); refine box_event ?hg (N := 2) ?hd (cs := #[.int .i64 qh, .int .i64 qi, .slice jh qJ.length ji, .int .i64 qZ, .int .i64 qa, .slice jj qT.length jk, .slice jl qU.length jm, .int .i64 qd, .int .i64 qe, .slice jn qX.length jo, .slice q2 qG.length q3, .int .i64 qP, .int .i64 qQ, .slice q4 qK.length q5, .slice q6 qL.length q7]) (t := 28) ?hr ?_; (case hd => rfl); (case hg => rfl); (case hr => first | (go_simp; done) | (go_simp; rfl)); intro qC hg w4 hbox hb; have qA := aM (hbox); have qBO := aM ((by rw [hg]; exact (below_size (lB HB)) : w.heap.size ≤ qC)); have qD := aM ((by rw [hg]; exact (below_size (lB HB)) : w.heap.size ≤ qC)); replace HB := aM (below_step (lB HB) hb); clear hb hbox hg) | ((with_reducible refine gate_dst (N := 3) rfl ?_); (try (refine gate_guard (by rfl) ?_; dsimp only)); refine box_event ?hg (N := 3) ?hd (cs := #[.int .i64 qj, .int .i64 qk, .slice jp qO.length jq, .int .i64 qb, .int .i64 qc, .slice jr qV.length js, .slice jt qW.length ju, .int .i64 qf, .int .i64 qg, .slice jv qY.length jw, .slice q8 qH.length q9, .int .i64 qR, .int .i64 qS, .slice jA qM.length jB, .slice jC qN.length jD]) (t := 28) ?hr ?_; (case hd => rfl); (case hg => rfl); (case hr => first | (go_simp; done) | (go_simp; rfl)); intro qE hg w5 hbox hb; have qB := aM (hbox); have qBP := aM ((by rw [hg]; exact (below_size (by have := GEc.mk qD.out; exact lS HB)) : w.heap.size ≤ qE)); have qF := aM ((by rw [hg]; exact (below_size (by have := GEc.mk qD.out; exact lS HB)) : w.heap.size ≤ qE)); replace HB := aM (below_step (by have := GEc.mk qD.out; exact lS HB) hb); have ql := aM ((by rw [hg]; exact Nat.ne_of_lt (blk_lt (g := qC) (lK qA)) : qC ≠ qE)); have qm := aM ((by rw [hg]; exact Nat.ne_of_gt (blk_lt (g := qC) (lK qA)) : qE ≠ qC)); replace qA := aM (blk_below (g := qC) (lK qA) hb); clear hb hbox hg)); go_upto_region 1 with (first | ((with_reducible refine gate_dst (N := 2) rfl ?_); (try (refine gate_guard (by rfl) ?_; dsimp only)); refine box_event ?hg (N := 2) ?hd (cs := #[.int .i64 qh, .int .i64 qi, .slice jh qJ.length ji, .int .i64 qZ, .int .i64 qa, .slice jj qT.length jk, .slice jl qU.length jm, .int .i64 qd, .int .i64 qe, .slice jn qX.length jo, .slice q2 qG.length q3, .int .i64 qP, .int .i64 qQ, .slice q4 qK.length q5, .slice q6 qL.length q7]) (t := 28) ?hr ?_; (case hd => rfl); (case hg => rfl); (case hr => first | (go_simp; done) | (go_simp; rfl)); intro qC hg w4 hbox hb; have qA := aM (hbox); have qBO := aM ((by rw [hg]; exact (below_size (lB HB)) : w.heap.size ≤ qC)); have qD := aM ((by rw [hg]; exact (below_size (lB HB)) : w.heap.size ≤ qC)); replace HB := aM (below_step (lB HB) hb); clear hb hbox hg) | ((with_reducible refine gate_dst (N := 3) rfl ?_); (try (refine gate_guard (by rfl) ?_; dsimp only)); refine box_event ?hg (N := 3) ?hd (cs := #[.int .i64 qj, .int .i64 qk, .slice jp qO.length jq, .int .i64 qb, .int .i64 qc, .slice jr qV.length js, .slice jt qW.length ju, .int .i64 qf, .int .i64 qg, .slice jv qY.length jw, .slice q8 qH.length q9, .int .i64 qR, .int .i64 qS, .slice jA qM.length jB, .slice jC qN.length jD]) (t := 28) ?hr ?_; (case hd => rfl); (case hg => rfl); (case hr => first | (go_simp; done) | (go_simp; rfl)); intro qE hg w5 hbox hb; have qB := aM (hbox); have qBP := aM ((by rw [hg]; exact (below_size (by have := GEc.mk qD.out; exact lS HB)) : w.heap.size ≤ qE)); have qF := aM ((by rw [hg]; exact (below_size (by have := GEc.mk qD.out; exact lS HB)) : w.heap.size ≤ qE)); replace HB := aM (below_step (by have := GEc.mk qD.out; exact lS HB) hb); have ql := aM ((by rw [hg]; exact Nat.ne_of_lt (blk_lt (g := qC) (lK qA)) : qC ≠ qE)); have qm := aM ((by rw [hg]; exact Nat.ne_of_gt (blk_lt (g := qC) (lK qA)) : qE ≠ qC)); replace qA := aM (blk_below (g := qC) (lK qA) hb); clear hb hbox hg)))
 (try simp only [Act.put, List.setIfInBounds_toArray, List.set_cons_zero, List.set_cons_succ])
 go_cut [26] (fun v26 wc => ∃ (kq : Nat) (j2 : Bool), v26 = .bool j2 ∧ Aside0 (swageref17_Same.j0 kq j2 qh qi qJ qZ qa qT qU qd qe qX qG qP qQ qK qL qj qk qO qb qc qV qW qf qg qY qH qR qS qM qN = some r) ∧ Aside0 (kq ≤ k) ∧ Aside0 (wc.heap[qC]? = some (.cells #[.int .i64 qh, .int .i64 qi, (.slice jh qJ.length ji), .int .i64 qZ, .int .i64 qa, (.slice jj qT.length jk), (.slice jl qU.length jm), .int .i64 qd, .int .i64 qe, (.slice jn qX.length jo), (.slice q2 qG.length q3), .int .i64 qP, .int .i64 qQ, (.slice q4 qK.length q5), (.slice q6 qL.length q7)] 28 (0, 0))) ∧ Aside0 (wc.heap[qE]? = some (.cells #[.int .i64 qj, .int .i64 qk, (.slice jp qO.length jq), .int .i64 qb, .int .i64 qc, (.slice jr qV.length js), (.slice jt qW.length ju), .int .i64 qf, .int .i64 qg, (.slice jv qY.length jw), (.slice q8 qH.length q9), .int .i64 qR, .int .i64 qS, (.slice jA qM.length jB), (.slice jC qN.length jD)] 28 (0, 0))) ∧ Aside0 (Below w.heap.size w wc))
 case first =>
  have H := HC3.out
  clear HC3
  by_cases c6 : qh = qj
  ·rw [if_pos c6] at H
   have c6b0 : (qh == qj) = true := beq_iff_eq.mpr c6
   have c6b1 : (qh != qj) = false := bne_eq_false_iff_eq.mpr c6
   clear c6
   (first | rw [c6b0] | (simp only [i64_w, i32_w]; rw [c6b0]) | skip)
   by_cases c7 : qi = qk
   ·rw [if_pos c7] at H
    have c7b0 : (qi == qk) = true := beq_iff_eq.mpr c7
    have c7b1 : (qi != qk) = false := bne_eq_false_iff_eq.mpr c7
    clear c7
    have H' := aM H
    clear H
    have qCC := ql.out
    have qCD := qm.out
    have qBu := zc15 qA.out
    have qBv := fun i_ : Nat => blk_frozen qA.out i_
    have qBQ := zc15 qB.out
    have qBR := fun i_ : Nat => blk_frozen qB.out i_
    go_wp2
    repeat (go_quiet (fail); try go_wp2)
    go_meet
    case rel => exact ⟨_, (((qJ.length : Int) != (qO.length : Int))), (by first | rfl | (simp; done) | (simp [*]; done)), H', ⟨by first | omega | exact Nat.le_refl _⟩, ⟨by refine lZ ?_; exact qA.out⟩, ⟨by refine lZ ?_; exact qB.out⟩, ⟨by repeat (first | (with_reducible first | exact HB.out | apply below_alloc | apply pw_below_drewN | apply below_drew1 | refine below_set ?_ qD.out | refine below_set ?_ qF.out) | exact HB.out)⟩⟩
   ·rw [if_neg c7] at H
    have c7b0 : (qi == qk) = false := beq_eq_false_iff_ne.mpr c7
    have c7b1 : (qi != qk) = true := bne_iff_ne.mpr c7
    have H' := aM H
    clear H
    have qBy := ql.out
    have qBz := qm.out
    have qBS := zc15 qA.out
    have qBT := fun i_ : Nat => blk_frozen qA.out i_
    have qBU := zc15 qB.out
    have qBV := fun i_ : Nat => blk_frozen qB.out i_
    go_wp2
    repeat (go_quiet (fail); try go_wp2)
    go_meet
    case rel => exact ⟨_, (true), (by first | rfl | (simp; done) | (simp [*]; done)), H', ⟨by first | omega | exact Nat.le_refl _⟩, ⟨by refine lZ ?_; exact qA.out⟩, ⟨by refine lZ ?_; exact qB.out⟩, ⟨by repeat (first | (with_reducible first | exact HB.out | apply below_alloc | apply pw_below_drewN | apply below_drew1 | refine below_set ?_ qD.out | refine below_set ?_ qF.out) | exact HB.out)⟩⟩
  ·rw [if_neg c6] at H
   have c6b0 : (qh == qj) = false := beq_eq_false_iff_ne.mpr c6
   have c6b1 : (qh != qj) = true := bne_iff_ne.mpr c6
   (first | rw [c6b0] | (simp only [i64_w, i32_w]; rw [c6b0]) | skip)
   have H' := aM H
   clear H
   have qB0 := ql.out
   have qB1 := qm.out
   have qBW := zc15 qA.out
   have qBX := fun i_ : Nat => blk_frozen qA.out i_
   have qBY := zc15 qB.out
   have qBZ := fun i_ : Nat => blk_frozen qB.out i_
   go_wp2
   repeat (go_quiet (fail); try go_wp2)
   go_meet
   case rel => exact ⟨_, (true), (by first | rfl | (simp; done) | (simp [*]; done)), H', ⟨by first | omega | exact Nat.le_refl _⟩, ⟨by refine lZ ?_; exact qA.out⟩, ⟨by refine lZ ?_; exact qB.out⟩, ⟨by repeat (first | (with_reducible first | exact HB.out | apply below_alloc | apply pw_below_drewN | apply below_drew1 | refine below_set ?_ qD.out | refine below_set ?_ qF.out) | exact HB.out)⟩⟩
 case rest =>
  clear HC3
  obtain ⟨kq, j2, rfl, HA, HJ2, qA, qB, HB⟩ := hcut
  cases kq with
  | zero => exact absurd HA.out (by simp [swageref17_Same.j0])
  | succ kj2 =>
   have H := HA.out
   clear HA
   simp only [swageref17_Same.j0] at H
   by_cases c17 : j2 = true
   ·subst c17
    have H1 : (some false) = some r := by rw [if_pos rfl] at H; exact H
    clear H
    have H := H1
    clear H1
    obtain rfl := Option.some.inj H
    go_wp2
    repeat (go_quiet (fail); try go_wp2)
    go_ret
    exact ⟨by first | rfl | (simp [errW_none, errW_some] <;> rfl) | (simp [*, errW_none, errW_some] <;> rfl), by repeat (first | (with_reducible first | exact HB.out | apply below_alloc | apply pw_below_drewN | apply below_drew1 | refine below_set ?_ qD.out | refine below_set ?_ qF.out) | exact HB.out)⟩
   ·replace c17 := Bool.eq_false_iff.mpr c17
    subst c17
    have H1 : (swageref17_Same.l0 kj2 0 qh qi qJ qZ qa qT qU qd qe qX qG qP qQ qK qL qj qk qO qb qc qV qW qf qg qY qH qR qS qM qN) = some r := by rw [if_neg (show ¬ (false = true) by decide)] at H; exact H
    clear H
    have H := H1
    clear H1
    have H' := aM H
    clear H
    go_wp2
    repeat (go_quiet (fail); try go_wp2)
    go_loopg [5] kj2 (fun kq v5 w' => ∃ (qI : Int), v5 = .int .i64 qI ∧ Aside0 (swageref17_Same.l0 kq qI qh qi qJ qZ qa qT qU qd qe qX qG qP qQ qK qL qj qk qO qb qc qV qW qf qg qY qH qR qS qM qN = some r) ∧ Aside0 (kq ≤ kj2) ∧ Aside0 (w'.heap[qC]? = some (.cells #[.int .i64 qh, .int .i64 qi, (.slice jh qJ.length ji), .int .i64 qZ, .int .i64 qa, (.slice jj qT.length jk), (.slice jl qU.length jm), .int .i64 qd, .int .i64 qe, (.slice jn qX.length jo), (.slice q2 qG.length q3), .int .i64 qP, .int .i64 qQ, (.slice q4 qK.length q5), (.slice q6 qL.length q7)] 28 (0, 0))) ∧ Aside0 (w'.heap[qE]? = some (.cells #[.int .i64 qj, .int .i64 qk, (.slice jp qO.length jq), .int .i64 qb, .int .i64 qc, (.slice jr qV.length js), (.slice jt qW.length ju), .int .i64 qf, .int .i64 qg, (.slice jv qY.length jw), (.slice q8 qH.length q9), .int .i64 qR, .int .i64 qS, (.slice jA qM.length jB), (.slice jC qN.length jD)] 28 (0, 0))) ∧ Aside0 (Below w.heap.size w w'))
    case atStart => exact ⟨(0), (by first | rfl | (simp; done) | (simp [*]; done)), H', ⟨Nat.le_refl _⟩, ⟨by refine lZ ?_; exact qA.out⟩, ⟨by refine lZ ?_; exact qB.out⟩, ⟨by repeat (first | (with_reducible first | exact HB.out | apply below_alloc | apply pw_below_drewN | apply below_drew1 | refine below_set ?_ qD.out | refine below_set ?_ qF.out) | exact HB.out)⟩⟩
    case round =>
     clear H'
     try clear c17
     obtain ⟨qI, rfl, HA, HK2, qA, qB, HB⟩ := hrel
     cases gk with
     | zero => exact absurd HA.out (by simp [swageref17_Same.l0])
     | succ k2 =>
      have H := HA.out
      clear HA
      simp only [swageref17_Same.l0] at H
      by_cases c18 : qI < (qJ.length : Int)
      ·rw [if_pos c18] at H
       have c18b0 : decide (qI < (qJ.length : Int)) = true := decide_eq_true c18
       clear c18
       by_cases c19 : 0 ≤ qI
       ·rw [if_pos c19] at H
        have c19b0 : decide (0 ≤ qI) = true := decide_eq_true c19
        clear c19
        by_cases c20 : qI < (qO.length : Int)
        ·rw [if_pos c20] at H
         have c20b0 : decide (qI < (qO.length : Int)) = true := decide_eq_true c20
         clear c20
         by_cases c21 : (!(((rd_T48 qJ qI).f0) == ((rd_T48 qO qI).f0)) || (!(((rd_T48 qJ qI).f1) == ((rd_T48 qO qI).f1)))) = true
         ·rw [if_pos c21] at H
          have c21b0 : (!(((rd_T48 qJ qI).f0) == ((rd_T48 qO qI).f0)) || (!(((rd_T48 qJ qI).f1) == ((rd_T48 qO qI).f1)))) = true := c21
          clear c21
          obtain rfl := Option.some.inj H
          have qB2 := ql.out
          have qB3 := qm.out
          have qBa := zc15 qA.out
          have qBb := fun i_ : Nat => blk_frozen qA.out i_
          have p451 : 0 ≤ (qI : Int) := of_decide_eq_true (by first | (with_reducible assumption) | assumption)
          have q451 : qI < (qJ.length : Int) := of_decide_eq_true (by first | (with_reducible assumption) | assumption)
          obtain ⟨ad451, e451, hx451_0, hx451_1⟩ := at_T48 qBM.out qI p451 q451
          cases e451
          replace hx451_0 := (HB.out.cell (World.block_lt_of_cell? w _ hx451_0)).trans hx451_0
          replace hx451_1 := (HB.out.cell (World.block_lt_of_cell? w _ hx451_1)).trans hx451_1
          replace p451 := eq_true p451
          replace q451 := eq_true q451
          have qBc := zc15 qB.out
          have qBd := fun i_ : Nat => blk_frozen qB.out i_
          have p452 : 0 ≤ (qI : Int) := of_decide_eq_true (by first | (with_reducible assumption) | assumption)
          have q452 : qI < (qO.length : Int) := of_decide_eq_true (by first | (with_reducible assumption) | assumption)
          obtain ⟨ad452, e452, hx452_0, hx452_1⟩ := at_T48 qBN.out qI p452 q452
          cases e452
          replace hx452_0 := (HB.out.cell (World.block_lt_of_cell? w _ hx452_0)).trans hx452_0
          replace hx452_1 := (HB.out.cell (World.block_lt_of_cell? w _ hx452_1)).trans hx452_1
          replace p452 := eq_true p452
          replace q452 := eq_true q452
          go_wp2
          repeat (go_quiet (fail); try go_wp2)
          go_ret
          exact ⟨by first | rfl | (simp [errW_none, errW_some] <;> rfl) | (simp [*, errW_none, errW_some] <;> rfl), by repeat (first | (with_reducible first | exact HB.out | apply below_alloc | apply pw_below_drewN | apply below_drew1 | refine below_set ?_ qD.out | refine below_set ?_ qF.out) | exact HB.out)⟩
         ·rw [if_neg c21] at H
          have c21b0 : (!(((rd_T48 qJ qI).f0) == ((rd_T48 qO qI).f0)) || (!(((rd_T48 qJ qI).f1) == ((rd_T48 qO qI).f1)))) = false := by simpa using c21
          clear c21
          have H' := aM H
          clear H
          have qB4 := ql.out
          have qB5 := qm.out
          have qBe := zc15 qA.out
          have qBf := fun i_ : Nat => blk_frozen qA.out i_
          have p451 : 0 ≤ (qI : Int) := of_decide_eq_true (by first | (with_reducible assumption) | assumption)
          have q451 : qI < (qJ.length : Int) := of_decide_eq_true (by first | (with_reducible assumption) | assumption)
          obtain ⟨ad451, e451, hx451_0, hx451_1⟩ := at_T48 qBM.out qI p451 q451
          cases e451
          replace hx451_0 := (HB.out.cell (World.block_lt_of_cell? w _ hx451_0)).trans hx451_0
          replace hx451_1 := (HB.out.cell (World.block_lt_of_cell? w _ hx451_1)).trans hx451_1
          replace p451 := eq_true p451
          replace q451 := eq_true q451
          have qBg := zc15 qB.out
          have qBh := fun i_ : Nat => blk_frozen qB.out i_
          have p452 : 0 ≤ (qI : Int) := of_decide_eq_true (by first | (with_reducible assumption) | assumption)
          have q452 : qI < (qO.length : Int) := of_decide_eq_true (by first | (with_reducible assumption) | assumption)
          obtain ⟨ad452, e452, hx452_0, hx452_1⟩ := at_T48 qBN.out qI p452 q452
          cases e452
          replace hx452_0 := (HB.out.cell (World.block_lt_of_cell? w _ hx452_0)).trans hx452_0
          replace hx452_1 := (HB.out.cell (World.block_lt_of_cell? w _ hx452_1)).trans hx452_1
          replace p452 := eq_true p452
          replace q452 := eq_true q452
          go_wp2
          repeat (go_quiet (fail); try go_wp2)
          go_roundg k2
          case measure => have := HJ2.out; have := HK2.out; omega
          case rel => exact ⟨(wrap64 (qI + 1)), (by first | rfl | (simp; done) | (simp [*]; done)), H', ⟨by have := HJ2.out; have := HK2.out; omega⟩, ⟨by refine lZ ?_; exact qA.out⟩, ⟨by refine lZ ?_; exact qB.out⟩, ⟨by repeat (first | (with_reducible first | exact HB.out | apply below_alloc | apply pw_below_drewN | apply below_drew1 | refine below_set ?_ qD.out | refine below_set ?_ qF.out) | exact HB.out)⟩⟩
        ·rw [if_neg c20] at H
         exact absurd H (by simp)
       ·rw [if_neg c19] at H
        exact absurd H (by simp)
      ·rw [if_neg c18] at H
       have c18b0 : decide (qI < (qJ.length : Int)) = false := decide_eq_false c18
       clear c18
       replace H := Option.bind_eq_some_iff.mp H
       obtain ⟨qAt, A280, H⟩ := H
       replace H : (if qAt = true then ((swageref08_Same.f k2 qd qe qX qG qf qg qY qH).bind fun jE => (if jE = true then ((swageref08_Same.f k2 qP qQ qK qL qR qS qM qN).bind fun qn => (some qn)) else (some false))) else (some false)) = some r := H
       have A28 := aM A280
       clear A280
       by_cases c29 : qAt = true
       ·subst c29
        have H1 : ((swageref08_Same.f k2 qd qe qX qG qf qg qY qH).bind fun jE => (if jE = true then ((swageref08_Same.f k2 qP qQ qK qL qR qS qM qN).bind fun qn => (some qn)) else (some false))) = some r := by rw [if_pos rfl] at H; exact H
        clear H
        have H := H1
        clear H1
        replace H := Option.bind_eq_some_iff.mp H
        obtain ⟨jE, A300, H⟩ := H
        replace H : (if jE = true then ((swageref08_Same.f k2 qP qQ qK qL qR qS qM qN).bind fun qn => (some qn)) else (some false)) = some r := H
        have A30 := aM A300
        clear A300
        by_cases c31 : jE = true
        ·subst c31
         have H1 : ((swageref08_Same.f k2 qP qQ qK qL qR qS qM qN).bind fun qn => (some qn)) = some r := by rw [if_pos rfl] at H; exact H
         clear H
         have H := H1
         clear H1
         replace H := Option.bind_eq_some_iff.mp H
         obtain ⟨qn, A320, H⟩ := H
         replace H : (some qn) = some r := H
         have A32 := aM A320
         clear A320
         obtain rfl := Option.some.inj H
         have qB6 := ql.out
         have qB7 := qm.out
         have qBi := zc15 qA.out
         have qBj := fun i_ : Nat => blk_frozen qA.out i_
         have qBk := zc15 qB.out
         have qBl := fun i_ : Nat => blk_frozen qB.out i_
         go_wp2_with (first | (go_at_call 48; (with_reducible refine (swageref08_Same.calls k2 qZ qa _ _ qT _ _ qU qb qc _ _ qV _ _ qW true _ ?side1 ?side2 ?side3 ?side4 ?side5 ?side6 ?side7 ?side8 A28.out).mono ?_); (case side1 => refine lY ?_; exact (Kd.C_below qo.out HB.out)); (case side2 => exact qp.out); (case side3 => refine lY ?_; exact (Kd.C_below qq.out HB.out)); (case side4 => exact qr.out); (case side5 => refine lY ?_; exact (Kd.C_below qs.out HB.out)); (case side6 => exact qt.out); (case side7 => refine lY ?_; exact (Kd.C_below qu.out HB.out)); (case side8 => exact qv.out); rintro e w36 ⟨rfl, hb⟩; replace qA := aM (blk_below (g := qC) (lK qA) hb); replace qB := aM (blk_below (g := qE) (lK qB) hb); replace HB := aM (below_step (by have := GEc.mk qD.out; have := GEc.mk qF.out; exact lS HB) hb); (try clear hb); (try clear hb2); (try clear hk); (try clear hi); obtain ⟨yf, yg, yh, yi, yj, yk, yl, ym, yn, yo, yB, yC, yD, yE, yF⟩ := zc15 qA.out; have yp := fun i_ : Nat => blk_frozen qA.out i_; obtain ⟨yq, yr, ys, yt, yu, yv, yw, yx, yy, yz, yG, yH, yI, yJ, yK⟩ := zc15 qB.out; have qAA := fun i_ : Nat => blk_frozen qB.out i_) | (go_at_call 48; (with_reducible refine (swageref08_Same.calls k2 qd qe _ _ qX _ _ qG qf qg _ _ qY _ _ qH true _ ?side1 ?side2 ?side3 ?side4 ?side5 ?side6 ?side7 ?side8 A30.out).mono ?_); (case side1 => refine lY ?_; exact (Kd.C_below jd.out HB.out)); (case side2 => exact je.out); (case side3 => refine lY ?_; exact (Kd.C_below qy.out HB.out)); (case side4 => exact qz.out); (case side5 => refine lY ?_; exact (Kd.C_below jf.out HB.out)); (case side6 => exact jg.out); (case side7 => refine lY ?_; exact (Kd.C_below q0.out HB.out)); (case side8 => exact q1.out); rintro e w39 ⟨rfl, hb⟩; replace qA := aM (blk_below (g := qC) (lK qA) hb); replace qB := aM (blk_below (g := qE) (lK qB) hb); replace HB := aM (below_step (by have := GEc.mk qD.out; have := GEc.mk qF.out; exact lS HB) hb); (try clear hb); (try clear hb2); (try clear hk); (try clear hi); obtain ⟨qAB, qAC, qAD, qAE, qAF, qAG, qAH, qAI, qAJ, qAK, yL, yM, yN, yO, yP⟩ := zc15 qA.out; have qAL := fun i_ : Nat => blk_frozen qA.out i_; obtain ⟨qAM, qAN, qAO, qAP, qAQ, qAR, qAS, qAT, qAU, qAV, yQ, yR, yS, yT, yU⟩ := zc15 qB.out; have qAW := fun i_ : Nat => blk_frozen qB.out i_) | (go_at_call 48; (with_reducible refine (swageref08_Same.calls k2 qP qQ _ _ qK _ _ qL qR qS _ _ qM _ _ qN qn _ ?side1 ?side2 ?side3 ?side4 ?side5 ?side6 ?side7 ?side8 A32.out).mono ?_); (case side1 => refine lY ?_; exact (Kd.C_below j3.out HB.out)); (case side2 => exact j4.out); (case side3 => refine lY ?_; exact (Kd.C_below j5.out HB.out)); (case side4 => exact j6.out); (case side5 => refine lY ?_; exact (Kd.C_below j7.out HB.out)); (case side6 => exact j8.out); (case side7 => refine lY ?_; exact (Kd.C_below j9.out HB.out)); (case side8 => exact yA.out); rintro e w42 ⟨rfl, hb⟩; replace qA := aM (blk_below (g := qC) (lK qA) hb); replace qB := aM (blk_below (g := qE) (lK qB) hb); replace HB := aM (below_step (by have := GEc.mk qD.out; have := GEc.mk qF.out; exact lS HB) hb); (try clear hb); (try clear hb2); (try clear hk); (try clear hi)))
         repeat (go_quiet (first | (go_at_call 48; (with_reducible refine (swageref08_Same.calls k2 qZ qa _ _ qT _ _ qU qb qc _ _ qV _ _ qW true _ ?side1 ?side2 ?side3 ?side4 ?side5 ?side6 ?side7 ?side8 A28.out).mono ?_); (case side1 => refine lY ?_; exact (Kd.C_below qo.out HB.out)); (case side2 => exact qp.out); (case side3 => refine lY ?_; exact (Kd.C_below qq.out HB.out)); (case side4 => exact qr.out); (case side5 => refine lY ?_; exact (Kd.C_below qs.out HB.out)); (case side6 => exact qt.out); (case side7 => refine lY ?_; exact (Kd.C_below qu.out HB.out)); (case side8 => exact qv.out); rintro e w36 ⟨rfl, hb⟩; replace qA := aM (blk_below (g := qC) (lK qA) hb); replace qB := aM (blk_below (g := qE) (lK qB) hb); replace HB := aM (below_step (by have := GEc.mk qD.out; have := GEc.mk qF.out; exact lS HB) hb); (try clear hb); (try clear hb2); (try clear hk); (try clear hi); obtain ⟨yf, yg, yh, yi, yj, yk, yl, ym, yn, yo, yB, yC, yD, yE, yF⟩ := zc15 qA.out; have yp := fun i_ : Nat => blk_frozen qA.out i_; obtain ⟨yq, yr, ys, yt, yu, yv, yw, yx, yy, yz, yG, yH, yI, yJ, yK⟩ := zc15 qB.out; have qAA := fun i_ : Nat => blk_frozen qB.out i_) | (go_at_call 48; (with_reducible refine (swageref08_Same.calls k2 qd qe _ _ qX _ _ qG qf qg _ _ qY _ _ qH true _ ?side1 ?side2 ?side3 ?side4 ?side5 ?side6 ?side7 ?side8 A30.out).mono ?_); (case side1 => refine lY ?_; exact (Kd.C_below jd.out HB.out)); (case side2 => exact je.out); (case side3 => refine lY ?_; exact (Kd.C_below qy.out HB.out)); (case side4 => exact qz.out); (case side5 => refine lY ?_; exact (Kd.C_below jf.out HB.out)); (case side6 => exact jg.out); (case side7 => refine lY ?_; exact (Kd.C_below q0.out HB.out)); (case side8 => exact q1.out); rintro e w39 ⟨rfl, hb⟩; replace qA := aM (blk_below (g := qC) (lK qA) hb); replace qB := aM (blk_below (g := qE) (lK qB) hb); replace HB := aM (below_step (by have := GEc.mk qD.out; have := GEc.mk qF.out; exact lS HB) hb); (try clear hb); (try clear hb2); (try clear hk); (try clear hi); obtain ⟨qAB, qAC, qAD, qAE, qAF, qAG, qAH, qAI, qAJ, qAK, yL, yM, yN, yO, yP⟩ := zc15 qA.out; have qAL := fun i_ : Nat => blk_frozen qA.out i_; obtain ⟨qAM, qAN, qAO, qAP, qAQ, qAR, qAS, qAT, qAU, qAV, yQ, yR, yS, yT, yU⟩ := zc15 qB.out; have qAW := fun i_ : Nat => blk_frozen qB.out i_) | (go_at_call 48; (with_reducible refine (swageref08_Same.calls k2 qP qQ _ _ qK _ _ qL qR qS _ _ qM _ _ qN qn _ ?side1 ?side2 ?side3 ?side4 ?side5 ?side6 ?side7 ?side8 A32.out).mono ?_); (case side1 => refine lY ?_; exact (Kd.C_below j3.out HB.out)); (case side2 => exact j4.out); (case side3 => refine lY ?_; exact (Kd.C_below j5.out HB.out)); (case side4 => exact j6.out); (case side5 => refine lY ?_; exact (Kd.C_below j7.out HB.out)); (case side6 => exact j8.out); (case side7 => refine lY ?_; exact (Kd.C_below j9.out HB.out)); (case side8 => exact yA.out); rintro e w42 ⟨rfl, hb⟩; replace qA := aM (blk_below (g := qC) (lK qA) hb); replace qB := aM (blk_below (g := qE) (lK qB) hb); replace HB := aM (below_step (by have := GEc.mk qD.out; have := GEc.mk qF.out; exact lS HB) hb); (try clear hb); (try clear hb2); (try clear hk); (try clear hi))); try go_wp2_with (first | (go_at_call 48; (with_reducible refine (swageref08_Same.calls k2 qZ qa _ _ qT _ _ qU qb qc _ _ qV _ _ qW true _ ?side1 ?side2 ?side3 ?side4 ?side5 ?side6 ?side7 ?side8 A28.out).mono ?_); (case side1 => refine lY ?_; exact (Kd.C_below qo.out HB.out)); (case side2 => exact qp.out); (case side3 => refine lY ?_; exact (Kd.C_below qq.out HB.out)); (case side4 => exact qr.out); (case side5 => refine lY ?_; exact (Kd.C_below qs.out HB.out)); (case side6 => exact qt.out); (case side7 => refine lY ?_; exact (Kd.C_below qu.out HB.out)); (case side8 => exact qv.out); rintro e w36 ⟨rfl, hb⟩; replace qA := aM (blk_below (g := qC) (lK qA) hb); replace qB := aM (blk_below (g := qE) (lK qB) hb); replace HB := aM (below_step (by have := GEc.mk qD.out; have := GEc.mk qF.out; exact lS HB) hb); (try clear hb); (try clear hb2); (try clear hk); (try clear hi); obtain ⟨yf, yg, yh, yi, yj, yk, yl, ym, yn, yo, yB, yC, yD, yE, yF⟩ := zc15 qA.out; have yp := fun i_ : Nat => blk_frozen qA.out i_; obtain ⟨yq, yr, ys, yt, yu, yv, yw, yx, yy, yz, yG, yH, yI, yJ, yK⟩ := zc15 qB.out; have qAA := fun i_ : Nat => blk_frozen qB.out i_) | (go_at_call 48; (with_reducible refine (swageref08_Same.calls k2 qd qe _ _ qX _ _ qG qf qg _ _ qY _ _ qH true _ ?side1 ?side2 ?side3 ?side4 ?side5 ?side6 ?side7 ?side8 A30.out).mono ?_); (case side1 => refine lY ?_; exact (Kd.C_below jd.out HB.out)); (case side2 => exact je.out); (case side3 => refine lY ?_; exact (Kd.C_below qy.out HB.out)); (case side4 => exact qz.out); (case side5 => refine lY ?_; exact (Kd.C_below jf.out HB.out)); (case side6 => exact jg.out); (case side7 => refine lY ?_; exact (Kd.C_below q0.out HB.out)); (case side8 => exact q1.out); rintro e w39 ⟨rfl, hb⟩; replace qA := aM (blk_below (g := qC) (lK qA) hb); replace qB := aM (blk_below (g := qE) (lK qB) hb); replace HB := aM (below_step (by have := GEc.mk qD.out; have := GEc.mk qF.out; exact lS HB) hb); (try clear hb); (try clear hb2); (try clear hk); (try clear hi); obtain ⟨qAB, qAC, qAD, qAE, qAF, qAG, qAH, qAI, qAJ, qAK, yL, yM, yN, yO, yP⟩ := zc15 qA.out; have qAL := fun i_ : Nat => blk_frozen qA.out i_; obtain ⟨qAM, qAN, qAO, qAP, qAQ, qAR, qAS, qAT, qAU, qAV, yQ, yR, yS, yT, yU⟩ := zc15 qB.out; have qAW := fun i_ : Nat => blk_frozen qB.out i_) | (go_at_call 48; (with_reducible refine (swageref08_Same.calls k2 qP qQ _ _ qK _ _ qL qR qS _ _ qM _ _ qN qn _ ?side1 ?side2 ?side3 ?side4 ?side5 ?side6 ?side7 ?side8 A32.out).mono ?_); (case side1 => refine lY ?_; exact (Kd.C_below j3.out HB.out)); (case side2 => exact j4.out); (case side3 => refine lY ?_; exact (Kd.C_below j5.out HB.out)); (case side4 => exact j6.out); (case side5 => refine lY ?_; exact (Kd.C_below j7.out HB.out)); (case side6 => exact j8.out); (case side7 => refine lY ?_; exact (Kd.C_below j9.out HB.out)); (case side8 => exact yA.out); rintro e w42 ⟨rfl, hb⟩; replace qA := aM (blk_below (g := qC) (lK qA) hb); replace qB := aM (blk_below (g := qE) (lK qB) hb); replace HB := aM (below_step (by have := GEc.mk qD.out; have := GEc.mk qF.out; exact lS HB) hb); (try clear hb); (try clear hb2); (try clear hk); (try clear hi))))
         go_ret
         exact ⟨by first | rfl | (simp [errW_none, errW_some] <;> rfl) | (simp [*, errW_none, errW_some] <;> rfl), by repeat (first | (with_reducible first | exact HB.out | apply below_alloc | apply pw_below_drewN | apply below_drew1 | refine below_set ?_ qD.out | refine below_set ?_ qF.out) | exact HB.out)⟩
        ·replace c31 := Bool.eq_false_iff.mpr c31
         subst c31
         have H1 : (some false) = some r := by rw [if_neg (show ¬ (false = true) by decide)] at H; exact H
         clear H
         have H := H1
         clear H1
         obtain rfl := Option.some.inj H
         have qB8 := ql.out
         have qB9 := qm.out
         have qBm := zc15 qA.out
         have qBn := fun i_ : Nat => blk_frozen qA.out i_
         have qBo := zc15 qB.out
         have qBp := fun i_ : Nat => blk_frozen qB.out i_
         go_wp2_with (first | (go_at_call 48; (with_reducible refine (swageref08_Same.calls k2 qZ qa _ _ qT _ _ qU qb qc _ _ qV _ _ qW true _ ?side1 ?side2 ?side3 ?side4 ?side5 ?side6 ?side7 ?side8 A28.out).mono ?_); (case side1 => refine lY ?_; exact (Kd.C_below qo.out HB.out)); (case side2 => exact qp.out); (case side3 => refine lY ?_; exact (Kd.C_below qq.out HB.out)); (case side4 => exact qr.out); (case side5 => refine lY ?_; exact (Kd.C_below qs.out HB.out)); (case side6 => exact qt.out); (case side7 => refine lY ?_; exact (Kd.C_below qu.out HB.out)); (case side8 => exact qv.out); rintro e w46 ⟨rfl, hb⟩; replace qA := aM (blk_below (g := qC) (lK qA) hb); replace qB := aM (blk_below (g := qE) (lK qB) hb); replace HB := aM (below_step (by have := GEc.mk qD.out; have := GEc.mk qF.out; exact lS HB) hb); (try clear hb); (try clear hb2); (try clear hk); (try clear hi); obtain ⟨qAX, qAY, qAZ, qAa, qAb, qAc, qAd, qAe, qAf, qAg, yV, yW, yX, yY, yZ⟩ := zc15 qA.out; have qAh := fun i_ : Nat => blk_frozen qA.out i_; obtain ⟨qAi, qAj, qAk, qAl, qAm, qAn, qAo, qAp, qAq, qAr, ya, yb, yc, yd, ye⟩ := zc15 qB.out; have qAs := fun i_ : Nat => blk_frozen qB.out i_) | (go_at_call 48; (with_reducible refine (swageref08_Same.calls k2 qd qe _ _ qX _ _ qG qf qg _ _ qY _ _ qH false _ ?side1 ?side2 ?side3 ?side4 ?side5 ?side6 ?side7 ?side8 A30.out).mono ?_); (case side1 => refine lY ?_; exact (Kd.C_below jd.out HB.out)); (case side2 => exact je.out); (case side3 => refine lY ?_; exact (Kd.C_below qy.out HB.out)); (case side4 => exact qz.out); (case side5 => refine lY ?_; exact (Kd.C_below jf.out HB.out)); (case side6 => exact jg.out); (case side7 => refine lY ?_; exact (Kd.C_below q0.out HB.out)); (case side8 => exact q1.out); rintro e w49 ⟨rfl, hb⟩; replace qA := aM (blk_below (g := qC) (lK qA) hb); replace qB := aM (blk_below (g := qE) (lK qB) hb); replace HB := aM (below_step (by have := GEc.mk qD.out; have := GEc.mk qF.out; exact lS HB) hb); (try clear hb); (try clear hb2); (try clear hk); (try clear hi)))
         repeat (go_quiet (first | (go_at_call 48; (with_reducible refine (swageref08_Same.calls k2 qZ qa _ _ qT _ _ qU qb qc _ _ qV _ _ qW true _ ?side1 ?side2 ?side3 ?side4 ?side5 ?side6 ?side7 ?side8 A28.out).mono ?_); (case side1 => refine lY ?_; exact (Kd.C_below qo.out HB.out)); (case side2 => exact qp.out); (case side3 => refine lY ?_; exact (Kd.C_below qq.out HB.out)); (case side4 => exact qr.out); (case side5 => refine lY ?_; exact (Kd.C_below qs.out HB.out)); (case side6 => exact qt.out); (case side7 => refine lY ?_; exact (Kd.C_below qu.out HB.out)); (case side8 => exact qv.out); rintro e w46 ⟨rfl, hb⟩; replace qA := aM (blk_below (g := qC) (lK qA) hb); replace qB := aM (blk_below (g := qE) (lK qB) hb); replace HB := aM (below_step (by have := GEc.mk qD.out; have := GEc.mk qF.out; exact lS HB) hb); (try clear hb); (try clear hb2); (try clear hk); (try clear hi); obtain ⟨qAX, qAY, qAZ, qAa, qAb, qAc, qAd, qAe, qAf, qAg, yV, yW, yX, yY, yZ⟩ := zc15 qA.out; have qAh := fun i_ : Nat => blk_frozen qA.out i_; obtain ⟨qAi, qAj, qAk, qAl, qAm, qAn, qAo, qAp, qAq, qAr, ya, yb, yc, yd, ye⟩ := zc15 qB.out; have qAs := fun i_ : Nat => blk_frozen qB.out i_) | (go_at_call 48; (with_reducible refine (swageref08_Same.calls k2 qd qe _ _ qX _ _ qG qf qg _ _ qY _ _ qH false _ ?side1 ?side2 ?side3 ?side4 ?side5 ?side6 ?side7 ?side8 A30.out).mono ?_); (case side1 => refine lY ?_; exact (Kd.C_below jd.out HB.out)); (case side2 => exact je.out); (case side3 => refine lY ?_; exact (Kd.C_below qy.out HB.out)); (case side4 => exact qz.out); (case side5 => refine lY ?_; exact (Kd.C_below jf.out HB.out)); (case side6 => exact jg.out); (case side7 => refine lY ?_; exact (Kd.C_below q0.out HB.out)); (case side8 => exact q1.out); rintro e w49 ⟨rfl, hb⟩; replace qA := aM (blk_below (g := qC) (lK qA) hb); replace qB := aM (blk_below (g := qE) (lK qB) hb); replace HB := aM (below_step (by have := GEc.mk qD.out; have := GEc.mk qF.out; exact lS HB) hb); (try clear hb); (try clear hb2); (try clear hk); (try clear hi))); try go_wp2_with (first | (go_at_call 48; (with_reducible refine (swageref08_Same.calls k2 qZ qa _ _ qT _ _ qU qb qc _ _ qV _ _ qW true _ ?side1 ?side2 ?side3 ?side4 ?side5 ?side6 ?side7 ?side8 A28.out).mono ?_); (case side1 => refine lY ?_; exact (Kd.C_below qo.out HB.out)); (case side2 => exact qp.out); (case side3 => refine lY ?_; exact (Kd.C_below qq.out HB.out)); (case side4 => exact qr.out); (case side5 => refine lY ?_; exact (Kd.C_below qs.out HB.out)); (case side6 => exact qt.out); (case side7 => refine lY ?_; exact (Kd.C_below qu.out HB.out)); (case side8 => exact qv.out); rintro e w46 ⟨rfl, hb⟩; replace qA := aM (blk_below (g := qC) (lK qA) hb); replace qB := aM (blk_below (g := qE) (lK qB) hb); replace HB := aM (below_step (by have := GEc.mk qD.out; have := GEc.mk qF.out; exact lS HB) hb); (try clear hb); (try clear hb2); (try clear hk); (try clear hi); obtain ⟨qAX, qAY, qAZ, qAa, qAb, qAc, qAd, qAe, qAf, qAg, yV, yW, yX, yY, yZ⟩ := zc15 qA.out; have qAh := fun i_ : Nat => blk_frozen qA.out i_; obtain ⟨qAi, qAj, qAk, qAl, qAm, qAn, qAo, qAp, qAq, qAr, ya, yb, yc, yd, ye⟩ := zc15 qB.out; have qAs := fun i_ : Nat => blk_frozen qB.out i_) | (go_at_call 48; (with_reducible refine (swageref08_Same.calls k2 qd qe _ _ qX _ _ qG qf qg _ _ qY _ _ qH false _ ?side1 ?side2 ?side3 ?side4 ?side5 ?side6 ?side7 ?side8 A30.out).mono ?_); (case side1 => refine lY ?_; exact (Kd.C_below jd.out HB.out)); (case side2 => exact je.out); (case side3 => refine lY ?_; exact (Kd.C_below qy.out HB.out)); (case side4 => exact qz.out); (case side5 => refine lY ?_; exact (Kd.C_below jf.out HB.out)); (case side6 => exact jg.out); (case side7 => refine lY ?_; exact (Kd.C_below q0.out HB.out)); (case side8 => exact q1.out); rintro e w49 ⟨rfl, hb⟩; replace qA := aM (blk_below (g := qC) (lK qA) hb); replace qB := aM (blk_below (g := qE) (lK qB) hb); replace HB := aM (below_step (by have := GEc.mk qD.out; have := GEc.mk qF.out; exact lS HB) hb); (try clear hb); (try clear hb2); (try clear hk); (try clear hi))))
         go_ret
         exact ⟨by first | rfl | (simp [errW_none, errW_some] <;> rfl) | (simp [*, errW_none, errW_some] <;> rfl), by repeat (first | (with_reducible first | exact HB.out | apply below_alloc | apply pw_below_drewN | apply below_drew1 | refine below_set ?_ qD.out | refine below_set ?_ qF.out) | exact HB.out)⟩
       ·replace c29 := Bool.eq_false_iff.mpr c29
        subst c29
        have H1 : (some false) = some r := by rw [if_neg (show ¬ (false = true) by decide)] at H; exact H
        clear H
        have H := H1
        clear H1
        obtain rfl := Option.some.inj H
        have qCA := ql.out
        have qCB := qm.out
        have qBq := zc15 qA.out
        have qBr := fun i_ : Nat => blk_frozen qA.out i_
        have qBs := zc15 qB.out
        have qBt := fun i_ : Nat => blk_frozen qB.out i_
        go_wp2_with (first | (go_at_call 48; (with_reducible refine (swageref08_Same.calls k2 qZ qa _ _ qT _ _ qU qb qc _ _ qV _ _ qW false _ ?side1 ?side2 ?side3 ?side4 ?side5 ?side6 ?side7 ?side8 A28.out).mono ?_); (case side1 => refine lY ?_; exact (Kd.C_below qo.out HB.out)); (case side2 => exact qp.out); (case side3 => refine lY ?_; exact (Kd.C_below qq.out HB.out)); (case side4 => exact qr.out); (case side5 => refine lY ?_; exact (Kd.C_below qs.out HB.out)); (case side6 => exact qt.out); (case side7 => refine lY ?_; exact (Kd.C_below qu.out HB.out)); (case side8 => exact qv.out); rintro e w53 ⟨rfl, hb⟩; replace qA := aM (blk_below (g := qC) (lK qA) hb); replace qB := aM (blk_below (g := qE) (lK qB) hb); replace HB := aM (below_step (by have := GEc.mk qD.out; have := GEc.mk qF.out; exact lS HB) hb); (try clear hb); (try clear hb2); (try clear hk); (try clear hi)))
        repeat (go_quiet (first | (go_at_call 48; (with_reducible refine (swageref08_Same.calls k2 qZ qa _ _ qT _ _ qU qb qc _ _ qV _ _ qW false _ ?side1 ?side2 ?side3 ?side4 ?side5 ?side6 ?side7 ?side8 A28.out).mono ?_); (case side1 => refine lY ?_; exact (Kd.C_below qo.out HB.out)); (case side2 => exact qp.out); (case side3 => refine lY ?_; exact (Kd.C_below qq.out HB.out)); (case side4 => exact qr.out); (case side5 => refine lY ?_; exact (Kd.C_below qs.out HB.out)); (case side6 => exact qt.out); (case side7 => refine lY ?_; exact (Kd.C_below qu.out HB.out)); (case side8 => exact qv.out); rintro e w53 ⟨rfl, hb⟩; replace qA := aM (blk_below (g := qC) (lK qA) hb); replace qB := aM (blk_below (g := qE) (lK qB) hb); replace HB := aM (below_step (by have := GEc.mk qD.out; have := GEc.mk qF.out; exact lS HB) hb); (try clear hb); (try clear hb2); (try clear hk); (try clear hi))); try go_wp2_with (first | (go_at_call 48; (with_reducible refine (swageref08_Same.calls k2 qZ qa _ _ qT _ _ qU qb qc _ _ qV _ _ qW false _ ?side1 ?side2 ?side3 ?side4 ?side5 ?side6 ?side7 ?side8 A28.out).mono ?_); (case side1 => refine lY ?_; exact (Kd.C_below qo.out HB.out)); (case side2 => exact qp.out); (case side3 => refine lY ?_; exact (Kd.C_below qq.out HB.out)); (case side4 => exact qr.out); (case side5 => refine lY ?_; exact (Kd.C_below qs.out HB.out)); (case side6 => exact qt.out); (case side7 => refine lY ?_; exact (Kd.C_below qu.out HB.out)); (case side8 => exact qv.out); rintro e w53 ⟨rfl, hb⟩; replace qA := aM (blk_below (g := qC) (lK qA) hb); replace qB := aM (blk_below (g := qE) (lK qB) hb); replace HB := aM (below_step (by have := GEc.mk qD.out; have := GEc.mk qF.out; exact lS HB) hb); (try clear hb); (try clear hb2); (try clear hk); (try clear hi))))
        go_ret
        exact ⟨by first | rfl | (simp [errW_none, errW_some] <;> rfl) | (simp [*, errW_none, errW_some] <;> rfl), by repeat (first | (with_reducible first | exact HB.out | apply below_alloc | apply pw_below_drewN | apply below_drew1 | refine below_set ?_ qD.out | refine below_set ?_ qF.out) | exact HB.out)⟩

end Go.Proofs.Ytccbdcbeinkjgaa.XA
end

section
namespace Go.Proofs.Ytccbdcbeinkjgaa.XA
open Go.Proofs.Ytccbdcbeinkjgaa.Lift Go.RowKit Go.Proofs.YtccbdcbeinkjgaaW.PrintWords Go.Proofs.YtccbdcbeinkjgaaW.PrintLast Go.Proofs.YtccbdcbeinkjgaaW.PrintMore
attribute [local go_sem] max2_int min2_int max_two min_two max_three min_three max_four min_four
set_option linter.unusedVariables false
set_option linter.unusedSimpArgs false

theorem eqA43 (d : Nat) (w : World) (x0 y0 : Int) (x1 y1 : Int) :
  (Op.equalIn (d + 2) 43 (.agg #[.int .i64 x0, .int .i64 x1]) (.agg #[.int .i64 y0, .int .i64 y1])).run Try.prog w = .ok (x0 == y0 && (x1 == y1)) w := by
 refine eqA_of Try.underlying43 (by kernel_rfl) ?_
 refine eqf_cons (by rfl) (by go_simp; rfl) (by go_simp; rfl) (by go_simp) ?_
 exact eqf_last (by rfl) (by go_simp; rfl) (by go_simp; rfl) (by go_simp)
end Go.Proofs.Ytccbdcbeinkjgaa.XA
end

section
namespace Go.Proofs.Ytccbdcbeinkjgaa.XA
open Go.Proofs.Ytccbdcbeinkjgaa.Lift Go.RowKit Go.Proofs.YtccbdcbeinkjgaaW.PrintWords Go.Proofs.YtccbdcbeinkjgaaW.PrintLast Go.Proofs.YtccbdcbeinkjgaaW.PrintMore
attribute [local go_sem] max2_int min2_int max_two min_two max_three min_three max_four min_four
set_option linter.unusedVariables false
set_option linter.unusedSimpArgs false

/-! ### code_programs: function 27 -/
/-- A state of type 28 at block g of W; what its slices lead to came in by w0. -/
def IsS28 (w0 W : World) (g : Nat) (f0 : Int) (f1 : Int) (f2 : List (S48)) (f3 : Int) (f4 : Int) (f5 : List (S63)) (f6 : List Int) (f7 : Int) (f8 : Int) (f9 : List (S63)) (f10 : List Int) (f11 : Int) (f12 : Int) (f13 : List (S63)) (f14 : List Int) : Prop := ∃ A2 c2, ∃ A5 c5, ∃ A6 c6, ∃ A9 c9, ∃ A10 c10, ∃ A13 c13, ∃ A14 c14, W.heap[g]? = some (.cells #[.int .i64 f0, .int .i64 f1, .slice A2 f2.length c2, .int .i64 f3, .int .i64 f4, .slice A5 f5.length c5, .slice A6 f6.length c6, .int .i64 f7, .int .i64 f8, .slice A9 f9.length c9, .slice A10 f10.length c10, .int .i64 f11, .int .i64 f12, .slice A13 f13.length c13, .slice A14 f14.length c14] 28 (0, 0)) ∧ w0.heap.size ≤ g ∧ Kd.C k48 w0 A2 f2.length f2 ∧ Kd.C k63 w0 A5 f5.length f5 ∧ Kd.C (Kd.int .i64) w0 A6 f6.length f6 ∧ Kd.C k63 w0 A9 f9.length f9 ∧ Kd.C (Kd.int .i64) w0 A10 f10.length f10 ∧ Kd.C k63 w0 A13 f13.length f13 ∧ Kd.C (Kd.int .i64) w0 A14 f14.length f14
theorem IsS28.grown {w0 W : World} {g : Nat} {f0 : Int} {f1 : Int} {f2 : List (S48)} {f3 : Int} {f4 : Int} {f5 : List (S63)} {f6 : List Int} {f7 : Int} {f8 : Int} {f9 : List (S63)} {f10 : List Int} {f11 : Int} {f12 : Int} {f13 : List (S63)} {f14 : List Int} {W1 : World} {row : Option Nat} (h : IsS28 w0 W g f0 f1 f2 f3 f4 f5 f6 f7 f8 f9 f10 f11 f12 f13 f14) (hw : W.grownBy W1 row) (hne : some g ≠ row) : IsS28 w0 W1 g f0 f1 f2 f3 f4 f5 f6 f7 f8 f9 f10 f11 f12 f13 f14 := by
 obtain ⟨A2, c2, A5, c5, A6, c6, A9, c9, A10, c10, A13, c13, A14, c14, hb, hg, hr2, hr5, hr6, hr9, hr10, hr13, hr14⟩ := h
 exact ⟨A2, c2, A5, c5, A6, c6, A9, c9, A10, c10, A13, c13, A14, c14, blk_grown hb hw hne, hg, hr2, hr5, hr6, hr9, hr10, hr13, hr14⟩
theorem IsS28.kept {w0 W : World} {g : Nat} {f0 : Int} {f1 : Int} {f2 : List (S48)} {f3 : Int} {f4 : Int} {f5 : List (S63)} {f6 : List Int} {f7 : Int} {f8 : Int} {f9 : List (S63)} {f10 : List Int} {f11 : Int} {f12 : Int} {f13 : List (S63)} {f14 : List Int} {W1 : World} {S : Nat → Prop} (h : IsS28 w0 W g f0 f1 f2 f3 f4 f5 f6 f7 f8 f9 f10 f11 f12 f13 f14) (hk : Kept W W1 S) (hne : ¬ S g) : IsS28 w0 W1 g f0 f1 f2 f3 f4 f5 f6 f7 f8 f9 f10 f11 f12 f13 f14 := by
 obtain ⟨A2, c2, A5, c5, A6, c6, A9, c9, A10, c10, A13, c13, A14, c14, hb, hg, hr2, hr5, hr6, hr9, hr10, hr13, hr14⟩ := h
 exact ⟨A2, c2, A5, c5, A6, c6, A9, c9, A10, c10, A13, c13, A14, c14, blk_kept hb hk hne, hg, hr2, hr5, hr6, hr9, hr10, hr13, hr14⟩
theorem IsS28.below {w0 W : World} {g : Nat} {f0 : Int} {f1 : Int} {f2 : List (S48)} {f3 : Int} {f4 : Int} {f5 : List (S63)} {f6 : List Int} {f7 : Int} {f8 : Int} {f9 : List (S63)} {f10 : List Int} {f11 : Int} {f12 : Int} {f13 : List (S63)} {f14 : List Int} {W1 : World} (h : IsS28 w0 W g f0 f1 f2 f3 f4 f5 f6 f7 f8 f9 f10 f11 f12 f13 f14) (hw : Below W.heap.size W W1) : IsS28 w0 W1 g f0 f1 f2 f3 f4 f5 f6 f7 f8 f9 f10 f11 f12 f13 f14 := h.grown (grown_of_below hw none) (by simp)
theorem IsS28.alloc {w0 W : World} {g : Nat} {f0 : Int} {f1 : Int} {f2 : List (S48)} {f3 : Int} {f4 : Int} {f5 : List (S63)} {f6 : List Int} {f7 : Int} {f8 : Int} {f9 : List (S63)} {f10 : List Int} {f11 : Int} {f12 : Int} {f13 : List (S63)} {f14 : List Int} (h : IsS28 w0 W g f0 f1 f2 f3 f4 f5 f6 f7 f8 f9 f10 f11 f12 f13 f14) (o : Obj) : IsS28 w0 (W.alloc o) g f0 f1 f2 f3 f4 f5 f6 f7 f8 f9 f10 f11 f12 f13 f14 := h.below (below_alloc (Below.refl _ _) o)
theorem IsS28.drewN {w0 W : World} {g : Nat} {f0 : Int} {f1 : Int} {f2 : List (S48)} {f3 : Int} {f4 : Int} {f5 : List (S63)} {f6 : List Int} {f7 : Int} {f8 : Int} {f9 : List (S63)} {f10 : List Int} {f11 : Int} {f12 : Int} {f13 : List (S63)} {f14 : List Int} (h : IsS28 w0 W g f0 f1 f2 f3 f4 f5 f6 f7 f8 f9 f10 f11 f12 f13 f14) (m : Nat) : IsS28 w0 (W.drewN m) g f0 f1 f2 f3 f4 f5 f6 f7 f8 f9 f10 f11 f12 f13 f14 := h
theorem IsS28.drew {w0 W : World} {g : Nat} {f0 : Int} {f1 : Int} {f2 : List (S48)} {f3 : Int} {f4 : Int} {f5 : List (S63)} {f6 : List Int} {f7 : Int} {f8 : Int} {f9 : List (S63)} {f10 : List Int} {f11 : Int} {f12 : Int} {f13 : List (S63)} {f14 : List Int} (h : IsS28 w0 W g f0 f1 f2 f3 f4 f5 f6 f7 f8 f9 f10 f11 f12 f13 f14) : IsS28 w0 W.drew g f0 f1 f2 f3 f4 f5 f6 f7 f8 f9 f10 f11 f12 f13 f14 := h
theorem IsS28.new (w0 W : World) (A2 : Option Addr) (c2 : Nat) (A5 : Option Addr) (c5 : Nat) (A6 : Option Addr) (c6 : Nat) (A9 : Option Addr) (c9 : Nat) (A10 : Option Addr) (c10 : Nat) (A13 : Option Addr) (c13 : Nat) (A14 : Option Addr) (c14 : Nat) (f0 : Int) (f1 : Int) (f2 : List (S48)) (f3 : Int) (f4 : Int) (f5 : List (S63)) (f6 : List Int) (f7 : Int) (f8 : Int) (f9 : List (S63)) (f10 : List Int) (f11 : Int) (f12 : Int) (f13 : List (S63)) (f14 : List Int) (hB : Below w0.heap.size w0 W) (hr2 : Kd.C k48 w0 A2 f2.length f2) (hr5 : Kd.C k63 w0 A5 f5.length f5) (hr6 : Kd.C (Kd.int .i64) w0 A6 f6.length f6) (hr9 : Kd.C k63 w0 A9 f9.length f9) (hr10 : Kd.C (Kd.int .i64) w0 A10 f10.length f10) (hr13 : Kd.C k63 w0 A13 f13.length f13) (hr14 : Kd.C (Kd.int .i64) w0 A14 f14.length f14) : IsS28 w0 (W.alloc (.cells #[.int .i64 f0, .int .i64 f1, .slice A2 f2.length c2, .int .i64 f3, .int .i64 f4, .slice A5 f5.length c5, .slice A6 f6.length c6, .int .i64 f7, .int .i64 f8, .slice A9 f9.length c9, .slice A10 f10.length c10, .int .i64 f11, .int .i64 f12, .slice A13 f13.length c13, .slice A14 f14.length c14] 28)) W.heap.size f0 f1 f2 f3 f4 f5 f6 f7 f8 f9 f10 f11 f12 f13 f14 := ⟨A2, c2, A5, c5, A6, c6, A9, c9, A10, c10, A13, c13, A14, c14, by simpa using heap_alloc_new W _, hB.size, hr2, hr5, hr6, hr9, hr10, hr13, hr14⟩
--IMPORT Derived.StillTailTactics
/-- The addresses of a unit's three programs. -/
def code_programs.f (_a : Int) : Option Int := some 0
set_option maxHeartbeats 8000000 in
set_option maxRecDepth 100000 in
theorem code_programs.calls (_a : Int) (r : Int) (g : Nat) (w : World) (_h : code_programs.f _a = some r) :
  Calls Try.prog 27 #[.pointer (some ⟨g, 0, none⟩)] w fun e w' => e = .returned (.agg #[.pointer (some ⟨g, 3, none⟩), .pointer (some ⟨g, 7, none⟩), .pointer (some ⟨g, 11, none⟩)]) ∧ Below w.heap.size w w' := by
 have hu28 := Try.underlying28
 have hu58 := Try.underlying58
 go_enter Try.func27, Try.ntmps27
 go_wp2_with (first | ((with_reducible refine gate_dst (N := 2) rfl ?_); (try (refine gate_guard (by rfl) ?_; dsimp only)); refine box_event ?hg (N := 2) ?hd (cs := #[.pointer none, .pointer none, .pointer none]) (t := 58) ?hr ?_; (case hd => rfl); (case hg => rfl); (case hr => first | (go_simp; done) | (go_simp; rfl)); intro gb hg w1 hbox hb))
 go_still_tail 10, (by kernel_rfl)
 subst hg
 have hbx := blk_drew hbox
 have hb2 := below_drew1 hb
 change wpList _ _ _ _ _ w1.drew
 generalize w1.drew = w2 at hbx hb2
 have qM : w2.cell? ⟨w.heap.size, 0, none⟩ = some (.pointer none) := (blk_cell hbx 0).trans rfl
 have qN : w2.cell? ⟨w.heap.size, 1, none⟩ = some (.pointer none) := (blk_cell hbx 1).trans rfl
 have qO : w2.cell? ⟨w.heap.size, 2, none⟩ = some (.pointer none) := (blk_cell hbx 2).trans rfl
 have qP := blk_frozen hbx 0
 have qQ := blk_frozen hbx 1
 have qR := blk_frozen hbx 2
 go_wp2
 have hbx1 := blk_put (cs' := #[.pointer (some ⟨g, 3, none⟩), .pointer none, .pointer none]) hbx 0 (.pointer (some ⟨g, 3, none⟩)) rfl
 have hbx2 := blk_put (cs' := #[.pointer (some ⟨g, 3, none⟩), .pointer (some ⟨g, 7, none⟩), .pointer none]) hbx1 1 (.pointer (some ⟨g, 7, none⟩)) rfl
 have hbx3 := blk_put (cs' := #[.pointer (some ⟨g, 3, none⟩), .pointer (some ⟨g, 7, none⟩), .pointer (some ⟨g, 11, none⟩)]) hbx2 2 (.pointer (some ⟨g, 11, none⟩)) rfl
 have hbe := below_set (j := 2) (v := .pointer (some ⟨g, 11, none⟩)) (below_set (j := 1) (v := .pointer (some ⟨g, 7, none⟩)) (below_set (j := 0) (v := .pointer (some ⟨g, 3, none⟩)) hb2 (Nat.le_refl _)) (Nat.le_refl _)) (Nat.le_refl _)
 refine bodyPost_ret (v := .agg #[.pointer (some ⟨g, 3, none⟩), .pointer (some ⟨g, 7, none⟩), .pointer (some ⟨g, 11, none⟩)]) ?_ rfl ⟨rfl, hbe⟩
 have h1 : Try.f27.results = #[.cell 2 58] := rfl
 have hi : (Try.prog.info? 58).map (·.size) = some 3 := by kernel_rfl
 simp [results, h1, asAddr, run_loadVar_row _ _ 58 58 _ (0, 0) _ hbx3 hu58 rfl hi]

/-! ### point_within: function 57 -/
def point_within.f (a0 : Int) : Option (Bool) := if a0 ≥ (-16) then (some (decide (a0 ≤ 16))) else (some false)
set_option maxHeartbeats 8000000 in
set_option maxRecDepth 100000 in
theorem point_within.calls (a0 : Int) (r : Bool) (w : World) (h : point_within.f a0 = some r) :
  Calls Try.prog 57 #[.int .i64 a0] w fun e w' => e = .returned (.bool r) ∧ Drawn0 w w' := by
 have H : (if a0 ≥ (-16) then (some (decide (a0 ≤ 16))) else (some false)) = some r := h
 clear h
 by_cases c2 : a0 ≥ (-16)
 ·rw [if_pos c2] at H
  have c2b0 : decide ((-16) ≤ a0) = true := decide_eq_true c2
  clear c2
  obtain rfl := Option.some.inj H
  go_enter Try.func57, Try.ntmps57
  go_wp2
  go_ret
  exact ⟨by first | rfl | (simp; done) | (simp [*]; done), by repeat (first | exact Drawn0.refl _ | apply Drawn0.step)⟩
 ·rw [if_neg c2] at H
  have c2b0 : decide ((-16) ≤ a0) = false := decide_eq_false c2
  clear c2
  obtain rfl := Option.some.inj H
  go_enter Try.func57, Try.ntmps57
  go_wp2
  go_ret
  exact ⟨by first | rfl | (simp; done) | (simp [*]; done), by repeat (first | exact Drawn0.refl _ | apply Drawn0.step)⟩

/-! ### point_In: function 38 -/
def point_In.f (qA : Int) (qB : Int) : Option (Bool) := (point_within.f qA).bind fun qF => (if qF = true then ((point_within.f qB).bind fun qC => (some qC)) else (some false))
set_option maxHeartbeats 8000000 in
set_option maxRecDepth 100000 in
theorem point_In.calls (qA : Int) (qB : Int) (r : Bool) (w : World) (h : point_In.f qA qB = some r) :
  Calls Try.prog 38 #[.agg #[.int .i64 qA, .int .i64 qB]] w fun e w' => e = .returned (.bool r) ∧ Below w.heap.size w w' := by
 have hu48 := Try.underlying48
 have HB := aM (Below.refl w.heap.size w)
 have H : ((point_within.f qA).bind fun qF => (if qF = true then ((point_within.f qB).bind fun qC => (some qC)) else (some false))) = some r := h
 clear h
 replace H := Option.bind_eq_some_iff.mp H
 obtain ⟨qF, A20, H⟩ := H
 replace H : (if qF = true then ((point_within.f qB).bind fun qC => (some qC)) else (some false)) = some r := H
 have A2 := aM A20
 clear A20
 by_cases c3 : qF = true
 ·subst c3
  have H1 : ((point_within.f qB).bind fun qC => (some qC)) = some r := by rw [if_pos rfl] at H; exact H
  clear H
  have H := H1
  clear H1
  replace H := Option.bind_eq_some_iff.mp H
  obtain ⟨qC, A40, H⟩ := H
  replace H : (some qC) = some r := H
  have A4 := aM A40
  clear A40
  obtain rfl := Option.some.inj H
  go_enter Try.func38, Try.ntmps38
  go_wp2_with (first | ((with_reducible refine gate_dst (N := 1) rfl ?_); refine box_event ?hg (N := 1) ?hd (cs := #[.int .i64 qA, .int .i64 qB]) (t := 48) ?hr ?_; (case hd => rfl); (case hg => rfl); (case hr => first | (go_simp; done) | (go_simp; rfl)); intro qD hg w5 hbox hb; have qE := aM (hbox); have qH := aM ((by rw [hg]; exact (below_size (lB HB)) : w.heap.size ≤ qD)); have qG := aM ((by rw [hg]; exact (below_size (lB HB)) : w.heap.size ≤ qD)); replace HB := aM (below_step (lB HB) hb); clear hb hbox hg; have qI := zc2 qE.out; have qJ := fun i_ : Nat => blk_frozen qE.out i_) | ((with_reducible refine gate_callee (f := 57) rfl ?_); refine goesL_ (some 5) rfl rfl Try.func57 (by kernel_rfl) rfl #[.int .i64 qA] rfl (by (try simp only [List.map_toArray, List.map_cons, List.map_nil]); first | done | rfl | (simp only [List.length_drop, List.length_take]; rfl)) ?_; (with_reducible refine (point_within.calls qA true _ A2.out).mono ?_); rintro e w' ⟨rfl, ⟨nd, rfl⟩⟩; refine ⟨_, rfl, ?_⟩) | (go_at_call 57; (with_reducible refine (point_within.calls qB qC _ A4.out).mono ?_); rintro e w' ⟨rfl, ⟨nd, rfl⟩⟩))
  go_ret
  exact ⟨by first | rfl | (simp [errW_none, errW_some] <;> rfl) | (simp [*, errW_none, errW_some] <;> rfl), by repeat (first | (with_reducible first | exact HB.out | apply below_alloc | apply pw_below_drewN | apply below_drew1 | refine below_set ?_ qG.out) | exact HB.out)⟩
 ·replace c3 := Bool.eq_false_iff.mpr c3
  subst c3
  have H1 : (some false) = some r := by rw [if_neg (show ¬ (false = true) by decide)] at H; exact H
  clear H
  have H := H1
  clear H1
  obtain rfl := Option.some.inj H
  go_enter Try.func38, Try.ntmps38
  go_wp2_with (first | ((with_reducible refine gate_dst (N := 1) rfl ?_); refine box_event ?hg (N := 1) ?hd (cs := #[.int .i64 qA, .int .i64 qB]) (t := 48) ?hr ?_; (case hd => rfl); (case hg => rfl); (case hr => first | (go_simp; done) | (go_simp; rfl)); intro qD hg w7 hbox hb; have qE := aM (hbox); have qH := aM ((by rw [hg]; exact (below_size (lB HB)) : w.heap.size ≤ qD)); have qG := aM ((by rw [hg]; exact (below_size (lB HB)) : w.heap.size ≤ qD)); replace HB := aM (below_step (lB HB) hb); clear hb hbox hg; have qK := zc2 qE.out; have qL := fun i_ : Nat => blk_frozen qE.out i_) | ((with_reducible refine gate_callee (f := 57) rfl ?_); refine goesL_ (some 5) rfl rfl Try.func57 (by kernel_rfl) rfl #[.int .i64 qA] rfl (by (try simp only [List.map_toArray, List.map_cons, List.map_nil]); first | done | rfl | (simp only [List.length_drop, List.length_take]; rfl)) ?_; (with_reducible refine (point_within.calls qA false _ A2.out).mono ?_); rintro e w' ⟨rfl, ⟨nd, rfl⟩⟩; refine ⟨_, rfl, ?_⟩))
  go_ret
  exact ⟨by first | rfl | (simp [errW_none, errW_some] <;> rfl) | (simp [*, errW_none, errW_some] <;> rfl), by repeat (first | (with_reducible first | exact HB.out | apply below_alloc | apply pw_below_drewN | apply below_drew1 | refine below_set ?_ qG.out) | exact HB.out)⟩

/-! ### prog_two: function 65 -/
def prog_two.f (a0 : Int) : Option (Bool) := if a0 = 3 then (some true) else (some (a0 == 4))
set_option maxHeartbeats 8000000 in
set_option maxRecDepth 100000 in
theorem prog_two.calls (a0 : Int) (r : Bool) (w : World) (h : prog_two.f a0 = some r) :
  Calls Try.prog 65 #[.int .i64 a0] w fun e w' => e = .returned (.bool r) ∧ Drawn0 w w' := by
 have H : (if a0 = 3 then (some true) else (some (a0 == 4))) = some r := h
 clear h
 by_cases c2 : a0 = 3
 ·rw [if_pos c2] at H
  have c2b0 : (a0 == 3) = true := beq_iff_eq.mpr c2
  have c2b1 : (a0 != 3) = false := bne_eq_false_iff_eq.mpr c2
  clear c2
  obtain rfl := Option.some.inj H
  go_enter Try.func65, Try.ntmps65
  go_wp2
  go_ret
  exact ⟨by first | rfl | (simp; done) | (simp [*]; done), by repeat (first | exact Drawn0.refl _ | apply Drawn0.step)⟩
 ·rw [if_neg c2] at H
  have c2b0 : (a0 == 3) = false := beq_eq_false_iff_ne.mpr c2
  have c2b1 : (a0 != 3) = true := bne_iff_ne.mpr c2
  obtain rfl := Option.some.inj H
  go_enter Try.func65, Try.ntmps65
  go_wp2
  go_ret
  exact ⟨by first | rfl | (simp; done) | (simp [*]; done), by repeat (first | exact Drawn0.refl _ | apply Drawn0.step)⟩

end Go.Proofs.Ytccbdcbeinkjgaa.XA
end

section
namespace Go.Proofs.Ytccbdcbeinkjgaa.XA
open Go.Proofs.Ytccbdcbeinkjgaa.Lift Go.RowKit Go.Proofs.YtccbdcbeinkjgaaW.PrintWords Go.Proofs.YtccbdcbeinkjgaaW.PrintLast Go.Proofs.YtccbdcbeinkjgaaW.PrintMore
attribute [local go_sem] max2_int min2_int max_two min_two max_three min_three max_four min_four
set_option linter.unusedVariables false
set_option linter.unusedSimpArgs false

/-! ### prog_constant: function 66 -/
def prog_constant.j0 : Nat → Int → Bool → Int → Int → Int → Int → Int → Option (Bool)
 | 0, _, _, _, _, _, _, _ => none
 | k + 1, x4, x5, qK, qL, qM, qN, qD => if x5 = true then (if qD = 0 then (some false) else (if qD ≥ (-512) then (some (decide (qD ≤ 512))) else (some false))) else (if x4 = 7 then (if qD ≥ 1 then (some (decide (qD ≤ 64))) else (some false)) else (if x4 = 8 then (if qD ≥ 1 then (some (decide (qD ≤ 64))) else (some false)) else (some (qD == 0))))
def prog_constant.f (k : Nat) (qA : Int) (qF : Int) (qG : Int) (qH : Int) (qB : Int) : Option (Bool) := if qA = 5 then (prog_constant.j0 k qA (qA == 5) qA qF qG qH qB) else (prog_constant.j0 k qA (qA == 6) qA qF qG qH qB)
theorem prog_constant.mono_l : ∀ k, (∀ y0 y1 y2 y3 y4 y5 y6, LeO (prog_constant.j0 k y0 y1 y2 y3 y4 y5 y6) (prog_constant.j0 (k + 1) y0 y1 y2 y3 y4 y5 y6))
 | 0 => fun _ _ _ _ _ _ _ r h => by simp [prog_constant.j0] at h
 | k + 1 => by
  have ih0 := prog_constant.mono_l k
  ·intro y0 y1 y2 y3 y4 y5 y6
   unfold prog_constant.j0
   repeat' first
   | (with_reducible exact ih0 ..)
   | (with_reducible exact LeO.refl _)
   | (with_reducible exact LeO.none _)
   | (with_reducible refine LeO.ite ?_ ?_)
   | (with_reducible refine LeO.bind ?_ (fun _ => ?_))
   | exact ih0 _ _ _ _ _ _ _
   | exact LeO.none _
   | refine LeO.ite ?_ ?_
   | refine LeO.bind ?_ (fun _ => ?_)
theorem prog_constant.mono : ∀ a0 a1 a2 a3 a4 k, LeO (prog_constant.f k a0 a1 a2 a3 a4) (prog_constant.f (k + 1) a0 a1 a2 a3 a4) := by
 intro a0 a1 a2 a3 a4 k
 have ih0 := prog_constant.mono_l k
 unfold prog_constant.f
 repeat' first
   | (with_reducible exact ih0 ..)
   | (with_reducible exact LeO.refl _)
   | (with_reducible exact LeO.none _)
   | (with_reducible refine LeO.ite ?_ ?_)
   | (with_reducible refine LeO.bind ?_ (fun _ => ?_))
   | exact ih0 _ _ _ _ _ _ _
   | exact LeO.none _
   | refine LeO.ite ?_ ?_
   | refine LeO.bind ?_ (fun _ => ?_)
set_option maxHeartbeats 8000000 in
set_option maxRecDepth 100000 in
theorem prog_constant.calls (k : Nat) (qA : Int) (qF : Int) (qG : Int) (qH : Int) (qB : Int) (r : Bool) (w : World) (h : prog_constant.f k qA qF qG qH qB = some r) :
  Calls Try.prog 66 #[.agg #[.int .i64 qA, .int .i64 qF, .int .i64 qG, .int .i64 qH, .int .i64 qB]] w fun e w' => e = .returned (.bool r) ∧ Below w.heap.size w w' := by
 have hu63 := Try.underlying63
 have HB := aM (Below.refl w.heap.size w)
 have H : (if qA = 5 then (prog_constant.j0 k qA (qA == 5) qA qF qG qH qB) else (prog_constant.j0 k qA (qA == 6) qA qF qG qH qB)) = some r := h
 clear h
 have HC2 := aM H
 clear H
 go_enter Try.func66, Try.ntmps66
 go_upto_if 5 with (first | ((with_reducible refine gate_dst (N := 1) rfl ?_); refine box_event ?hg (N := 1) ?hd (cs := #[.int .i64 qA, .int .i64 qF, .int .i64 qG, .int .i64 qH, .int .i64 qB]) (t := 63) ?hr ?_; (case hd => rfl); (case hg => rfl); (case hr => first | (go_simp; done) | (go_simp; rfl)); intro qI hg w3 hbox hb; have qC := aM (hbox); have qg := aM ((by rw [hg]; exact (below_size (lB HB)) : w.heap.size ≤ qI)); have qE := aM ((by rw [hg]; exact (below_size (lB HB)) : w.heap.size ≤ qI)); replace HB := aM (below_step (lB HB) hb); clear hb hbox hg; have qc := zc5 qC.out; have qd := fun i_ : Nat => blk_frozen qC.out i_))
 (try simp only [Act.put, List.setIfInBounds_toArray, List.set_cons_zero, List.set_cons_succ])
 go_cut [5] (fun v5 wc => ∃ (kq : Nat) (qJ : Bool), v5 = .bool qJ ∧ Aside0 (prog_constant.j0 kq qA qJ qA qF qG qH qB = some r) ∧ Aside0 (kq ≤ k) ∧ Aside0 (wc.heap[qI]? = some (.cells #[.int .i64 qA, .int .i64 qF, .int .i64 qG, .int .i64 qH, .int .i64 qB] 63 (0, 0))) ∧ Aside0 (Below w.heap.size w wc))
 case first =>
  have H := HC2.out
  clear HC2
  by_cases c5 : qA = 5
  ·rw [if_pos c5] at H
   have c5b0 : (qA == 5) = true := beq_iff_eq.mpr c5
   have c5b1 : (qA != 5) = false := bne_eq_false_iff_eq.mpr c5
   clear c5
   (first | rw [c5b0] | (simp only [i64_w, i32_w]; rw [c5b0]) | skip)
   have H' := aM H
   clear H
   go_wp2
   go_meet
   case rel => exact ⟨_, ((qA == 5)), (by first | rfl | (simp; done) | (simp [*]; done)), H', ⟨by first | omega | exact Nat.le_refl _⟩, ⟨by refine lZ ?_; exact qC.out⟩, ⟨by repeat (first | (with_reducible first | exact HB.out | apply below_alloc | apply pw_below_drewN | apply below_drew1 | refine below_set ?_ qE.out) | exact HB.out)⟩⟩
  ·rw [if_neg c5] at H
   have c5b0 : (qA == 5) = false := beq_eq_false_iff_ne.mpr c5
   have c5b1 : (qA != 5) = true := bne_iff_ne.mpr c5
   (first | rw [c5b0] | (simp only [i64_w, i32_w]; rw [c5b0]) | skip)
   have H' := aM H
   clear H
   go_wp2
   go_meet
   case rel => exact ⟨_, ((qA == 6)), (by first | rfl | (simp; done) | (simp [*]; done)), H', ⟨by first | omega | exact Nat.le_refl _⟩, ⟨by refine lZ ?_; exact qC.out⟩, ⟨by repeat (first | (with_reducible first | exact HB.out | apply below_alloc | apply pw_below_drewN | apply below_drew1 | refine below_set ?_ qE.out) | exact HB.out)⟩⟩
 case rest =>
  clear HC2
  obtain ⟨kq, qJ, rfl, HA, HJ1, qC, HB⟩ := hcut
  cases kq with
  | zero => exact absurd HA.out (by simp [prog_constant.j0])
  | succ kj1 =>
   have H := HA.out
   clear HA
   simp only [prog_constant.j0] at H
   by_cases c6 : qJ = true
   ·subst c6
    have H1 : (if qB = 0 then (some false) else (if qB ≥ (-512) then (some (decide (qB ≤ 512))) else (some false))) = some r := by rw [if_pos rfl] at H; exact H
    clear H
    have H := H1
    clear H1
    by_cases c7 : qB = 0
    ·rw [if_pos c7] at H
     have c7b0 : (qB == 0) = true := beq_iff_eq.mpr c7
     have c7b1 : (qB != 0) = false := bne_eq_false_iff_eq.mpr c7
     clear c7
     obtain rfl := Option.some.inj H
     have qe := zc5 qC.out
     have qf := fun i_ : Nat => blk_frozen qC.out i_
     go_wp2
     go_ret
     exact ⟨by first | rfl | (simp [errW_none, errW_some] <;> rfl) | (simp [*, errW_none, errW_some] <;> rfl), by repeat (first | (with_reducible first | exact HB.out | apply below_alloc | apply pw_below_drewN | apply below_drew1 | refine below_set ?_ qE.out) | exact HB.out)⟩
    ·rw [if_neg c7] at H
     have c7b0 : (qB == 0) = false := beq_eq_false_iff_ne.mpr c7
     have c7b1 : (qB != 0) = true := bne_iff_ne.mpr c7
     by_cases c9 : qB ≥ (-512)
     ·rw [if_pos c9] at H
      have c9b0 : decide ((-512) ≤ qB) = true := decide_eq_true c9
      clear c9
      obtain rfl := Option.some.inj H
      have qO := zc5 qC.out
      have qP := fun i_ : Nat => blk_frozen qC.out i_
      go_wp2
      go_ret
      exact ⟨by first | rfl | (simp [errW_none, errW_some] <;> rfl) | (simp [*, errW_none, errW_some] <;> rfl), by repeat (first | (with_reducible first | exact HB.out | apply below_alloc | apply pw_below_drewN | apply below_drew1 | refine below_set ?_ qE.out) | exact HB.out)⟩
     ·rw [if_neg c9] at H
      have c9b0 : decide ((-512) ≤ qB) = false := decide_eq_false c9
      clear c9
      obtain rfl := Option.some.inj H
      have qQ := zc5 qC.out
      have qR := fun i_ : Nat => blk_frozen qC.out i_
      go_wp2
      go_ret
      exact ⟨by first | rfl | (simp [errW_none, errW_some] <;> rfl) | (simp [*, errW_none, errW_some] <;> rfl), by repeat (first | (with_reducible first | exact HB.out | apply below_alloc | apply pw_below_drewN | apply below_drew1 | refine below_set ?_ qE.out) | exact HB.out)⟩
   ·replace c6 := Bool.eq_false_iff.mpr c6
    subst c6
    have H1 : (if qA = 7 then (if qB ≥ 1 then (some (decide (qB ≤ 64))) else (some false)) else (if qA = 8 then (if qB ≥ 1 then (some (decide (qB ≤ 64))) else (some false)) else (some (qB == 0)))) = some r := by rw [if_neg (show ¬ (false = true) by decide)] at H; exact H
    clear H
    have H := H1
    clear H1
    by_cases c12 : qA = 7
    ·rw [if_pos c12] at H
     have c12b0 : (qA == 7) = true := beq_iff_eq.mpr c12
     have c12b1 : (qA != 7) = false := bne_eq_false_iff_eq.mpr c12
     clear c12
     by_cases c13 : qB ≥ 1
     ·rw [if_pos c13] at H
      have c13b0 : decide (1 ≤ qB) = true := decide_eq_true c13
      clear c13
      obtain rfl := Option.some.inj H
      have qS := zc5 qC.out
      have qT := fun i_ : Nat => blk_frozen qC.out i_
      go_wp2
      go_ret
      exact ⟨by first | rfl | (simp [errW_none, errW_some] <;> rfl) | (simp [*, errW_none, errW_some] <;> rfl), by repeat (first | (with_reducible first | exact HB.out | apply below_alloc | apply pw_below_drewN | apply below_drew1 | refine below_set ?_ qE.out) | exact HB.out)⟩
     ·rw [if_neg c13] at H
      have c13b0 : decide (1 ≤ qB) = false := decide_eq_false c13
      clear c13
      obtain rfl := Option.some.inj H
      have qU := zc5 qC.out
      have qV := fun i_ : Nat => blk_frozen qC.out i_
      go_wp2
      go_ret
      exact ⟨by first | rfl | (simp [errW_none, errW_some] <;> rfl) | (simp [*, errW_none, errW_some] <;> rfl), by repeat (first | (with_reducible first | exact HB.out | apply below_alloc | apply pw_below_drewN | apply below_drew1 | refine below_set ?_ qE.out) | exact HB.out)⟩
    ·rw [if_neg c12] at H
     have c12b0 : (qA == 7) = false := beq_eq_false_iff_ne.mpr c12
     have c12b1 : (qA != 7) = true := bne_iff_ne.mpr c12
     by_cases c16 : qA = 8
     ·rw [if_pos c16] at H
      have c16b0 : (qA == 8) = true := beq_iff_eq.mpr c16
      have c16b1 : (qA != 8) = false := bne_eq_false_iff_eq.mpr c16
      clear c16
      by_cases c17 : qB ≥ 1
      ·rw [if_pos c17] at H
       have c17b0 : decide (1 ≤ qB) = true := decide_eq_true c17
       clear c17
       obtain rfl := Option.some.inj H
       have qW := zc5 qC.out
       have qX := fun i_ : Nat => blk_frozen qC.out i_
       go_wp2
       go_ret
       exact ⟨by first | rfl | (simp [errW_none, errW_some] <;> rfl) | (simp [*, errW_none, errW_some] <;> rfl), by repeat (first | (with_reducible first | exact HB.out | apply below_alloc | apply pw_below_drewN | apply below_drew1 | refine below_set ?_ qE.out) | exact HB.out)⟩
      ·rw [if_neg c17] at H
       have c17b0 : decide (1 ≤ qB) = false := decide_eq_false c17
       clear c17
       obtain rfl := Option.some.inj H
       have qY := zc5 qC.out
       have qZ := fun i_ : Nat => blk_frozen qC.out i_
       go_wp2
       go_ret
       exact ⟨by first | rfl | (simp [errW_none, errW_some] <;> rfl) | (simp [*, errW_none, errW_some] <;> rfl), by repeat (first | (with_reducible first | exact HB.out | apply below_alloc | apply pw_below_drewN | apply below_drew1 | refine below_set ?_ qE.out) | exact HB.out)⟩
     ·rw [if_neg c16] at H
      have c16b0 : (qA == 8) = false := beq_eq_false_iff_ne.mpr c16
      have c16b1 : (qA != 8) = true := bne_iff_ne.mpr c16
      obtain rfl := Option.some.inj H
      have qa := zc5 qC.out
      have qb := fun i_ : Nat => blk_frozen qC.out i_
      go_wp2
      go_ret
      exact ⟨by first | rfl | (simp [errW_none, errW_some] <;> rfl) | (simp [*, errW_none, errW_some] <;> rfl), by repeat (first | (with_reducible first | exact HB.out | apply below_alloc | apply pw_below_drewN | apply below_drew1 | refine below_set ?_ qE.out) | exact HB.out)⟩

end Go.Proofs.Ytccbdcbeinkjgaa.XA
end

section
namespace Go.Proofs.Ytccbdcbeinkjgaa.XA
open Go.Proofs.Ytccbdcbeinkjgaa.Lift Go.RowKit Go.Proofs.YtccbdcbeinkjgaaW.PrintWords Go.Proofs.YtccbdcbeinkjgaaW.PrintLast Go.Proofs.YtccbdcbeinkjgaaW.PrintMore
attribute [local go_sem] max2_int min2_int max_two min_two max_three min_three max_four min_four
set_option linter.unusedVariables false
set_option linter.unusedSimpArgs false

/-! ### prog_Asks: function 67 -/
def prog_Asks.j0 : Nat → Int → Bool → Int → Int → Int → Int → Int → Option (List Int)
 | 0, _, _, _, _, _, _, _ => none
 | k + 1, x4, x5, qS, qT, qF, qK, qU => if x5 = true then (some (([qF, qK] : List Int))) else (if x4 = 1 then (some (([qF] : List Int))) else (if x4 = 2 then (some (([qF] : List Int))) else (if x4 = 5 then (some (([qF] : List Int))) else (if x4 = 6 then (some (([qF] : List Int))) else (if x4 = 7 then (some (([qF] : List Int))) else (if x4 = 8 then (some (([qF] : List Int))) else (some ([] : List Int))))))))
def prog_Asks.f (k : Nat) (qA : Int) (qH : Int) (qB : Int) (qE : Int) (qI : Int) : Option (List Int) := if qA = 3 then (prog_Asks.j0 k qA (qA == 3) qA qH qB qE qI) else (prog_Asks.j0 k qA (qA == 4) qA qH qB qE qI)
theorem prog_Asks.mono_l : ∀ k, (∀ y0 y1 y2 y3 y4 y5 y6, LeO (prog_Asks.j0 k y0 y1 y2 y3 y4 y5 y6) (prog_Asks.j0 (k + 1) y0 y1 y2 y3 y4 y5 y6))
 | 0 => fun _ _ _ _ _ _ _ r h => by simp [prog_Asks.j0] at h
 | k + 1 => by
  have ih0 := prog_Asks.mono_l k
  ·intro y0 y1 y2 y3 y4 y5 y6
   unfold prog_Asks.j0
   repeat' first
   | (with_reducible exact ih0 ..)
   | (with_reducible exact LeO.refl _)
   | (with_reducible exact LeO.none _)
   | (with_reducible refine LeO.ite ?_ ?_)
   | (with_reducible refine LeO.bind ?_ (fun _ => ?_))
   | exact ih0 _ _ _ _ _ _ _
   | exact LeO.none _
   | refine LeO.ite ?_ ?_
   | refine LeO.bind ?_ (fun _ => ?_)
theorem prog_Asks.mono : ∀ a0 a1 a2 a3 a4 k, LeO (prog_Asks.f k a0 a1 a2 a3 a4) (prog_Asks.f (k + 1) a0 a1 a2 a3 a4) := by
 intro a0 a1 a2 a3 a4 k
 have ih0 := prog_Asks.mono_l k
 unfold prog_Asks.f
 repeat' first
   | (with_reducible exact ih0 ..)
   | (with_reducible exact LeO.refl _)
   | (with_reducible exact LeO.none _)
   | (with_reducible refine LeO.ite ?_ ?_)
   | (with_reducible refine LeO.bind ?_ (fun _ => ?_))
   | exact ih0 _ _ _ _ _ _ _
   | exact LeO.none _
   | refine LeO.ite ?_ ?_
   | refine LeO.bind ?_ (fun _ => ?_)
set_option maxHeartbeats 8000000 in
set_option maxRecDepth 100000 in
theorem prog_Asks.calls (k : Nat) (qA : Int) (qH : Int) (qB : Int) (qE : Int) (qI : Int) (r : List Int) (w : World) (h : prog_Asks.f k qA qH qB qE qI = some r) :
  Calls Try.prog 67 #[.agg #[.int .i64 qA, .int .i64 qH, .int .i64 qB, .int .i64 qE, .int .i64 qI]] w fun e w' => ∃ v0_ : Value, e = .returned (v0_) ∧ Kd.R (Kd.int .i64) 3 w' w.heap.size (fun _ => True) v0_ r ∧ Below w.heap.size w w' := by
 have hu63 := Try.underlying63
 have HB := aM (Below.refl w.heap.size w)
 have H : (if qA = 3 then (prog_Asks.j0 k qA (qA == 3) qA qH qB qE qI) else (prog_Asks.j0 k qA (qA == 4) qA qH qB qE qI)) = some r := h
 clear h
 have HC2 := aM H
 clear H
 go_enter Try.func67, Try.ntmps67
 go_upto_if 5 with (first | ((with_reducible refine gate_dst (N := 1) rfl ?_); refine box_event ?hg (N := 1) ?hd (cs := #[.int .i64 qA, .int .i64 qH, .int .i64 qB, .int .i64 qE, .int .i64 qI]) (t := 63) ?hr ?_; (case hd => rfl); (case hg => rfl); (case hr => first | (go_simp; done) | (go_simp; rfl)); intro qG hg w3 hbox hb; have qC := aM (hbox); have ql := aM ((by rw [hg]; exact (below_size (lB HB)) : w.heap.size ≤ qG)); have qD := aM ((by rw [hg]; exact (below_size (lB HB)) : w.heap.size ≤ qG)); replace HB := aM (below_step (lB HB) hb); clear hb hbox hg; have qh := zc5 qC.out; have qi := fun i_ : Nat => blk_frozen qC.out i_))
 (try simp only [Act.put, List.setIfInBounds_toArray, List.set_cons_zero, List.set_cons_succ])
 go_cut [5] (fun v5 wc => ∃ (kq : Nat) (qJ : Bool), v5 = .bool qJ ∧ Aside0 (prog_Asks.j0 kq qA qJ qA qH qB qE qI = some r) ∧ Aside0 (kq ≤ k) ∧ Aside0 (wc.heap[qG]? = some (.cells #[.int .i64 qA, .int .i64 qH, .int .i64 qB, .int .i64 qE, .int .i64 qI] 63 (0, 0))) ∧ Aside0 (Below w.heap.size w wc))
 case first =>
  have H := HC2.out
  clear HC2
  by_cases c5 : qA = 3
  ·rw [if_pos c5] at H
   have c5b0 : (qA == 3) = true := beq_iff_eq.mpr c5
   have c5b1 : (qA != 3) = false := bne_eq_false_iff_eq.mpr c5
   clear c5
   (first | rw [c5b0] | (simp only [i64_w, i32_w]; rw [c5b0]) | skip)
   have H' := aM H
   clear H
   go_wp2
   go_meet
   case rel => exact ⟨_, ((qA == 3)), (by first | rfl | (simp; done) | (simp [*]; done)), H', ⟨by first | omega | exact Nat.le_refl _⟩, ⟨by refine lZ ?_; exact qC.out⟩, ⟨by repeat (first | (with_reducible first | exact HB.out | apply below_alloc | apply pw_below_drewN | apply below_drew1 | refine below_set ?_ qD.out) | exact HB.out)⟩⟩
  ·rw [if_neg c5] at H
   have c5b0 : (qA == 3) = false := beq_eq_false_iff_ne.mpr c5
   have c5b1 : (qA != 3) = true := bne_iff_ne.mpr c5
   (first | rw [c5b0] | (simp only [i64_w, i32_w]; rw [c5b0]) | skip)
   have H' := aM H
   clear H
   go_wp2
   go_meet
   case rel => exact ⟨_, ((qA == 4)), (by first | rfl | (simp; done) | (simp [*]; done)), H', ⟨by first | omega | exact Nat.le_refl _⟩, ⟨by refine lZ ?_; exact qC.out⟩, ⟨by repeat (first | (with_reducible first | exact HB.out | apply below_alloc | apply pw_below_drewN | apply below_drew1 | refine below_set ?_ qD.out) | exact HB.out)⟩⟩
 case rest =>
  clear HC2
  obtain ⟨kq, qJ, rfl, HA, HJ1, qC, HB⟩ := hcut
  cases kq with
  | zero => exact absurd HA.out (by simp [prog_Asks.j0])
  | succ kj1 =>
   have H := HA.out
   clear HA
   simp only [prog_Asks.j0] at H
   by_cases c6 : qJ = true
   ·subst c6
    have H1 : (some (([qB, qE] : List Int))) = some r := by rw [if_pos rfl] at H; exact H
    clear H
    have H := H1
    clear H1
    obtain ⟨y106, hy106⟩ : ∃ y_ : List Int, y_ = (([qB, qE] : List Int)) := ⟨_, rfl⟩
    replace H : (some y106) = some r := by first | (rw [hy106]; with_reducible exact H) | (have H2_ := (Option.bind_some _ _).symm.trans H; rw [hy106]; with_reducible exact H2_) | (have H2_ := (Option.bind_some _ _).symm.trans H; with_reducible exact H2_) | with_reducible exact H | (rw [hy106]; exact H) | exact H
    have Ny106 := aM hy106
    clear hy106
    obtain rfl := Option.some.inj H
    have qj := zc5 qC.out
    have qk := fun i_ : Nat => blk_frozen qC.out i_
    go_wp2_with (first | ((with_reducible refine gate_dst (N := 12) rfl ?_); refine Kd.R_lit (Kd.int .i64) _ 3 ?hg (N := 12) ?hd (xs := ([qB, qE] : List Int)) (inner := [.int .i64 qB, .int .i64 qE]) (ok := fun _ => True) (okp := fun _ => True) ?hr ?hp (fun _ hk => hk) trivial (Below.refl _ _) (Nat.le_refl _) (by simp) ?_; (case hd => rfl); (case hg => rfl); (case hr => first | (go_simp; done) | (go_simp; rfl)); (case hp => exact (Reps.one (show Kd.M (Kd.int .i64) _ _ _ qB [.int .i64 qB] from rfl) (Reps.one (show Kd.M (Kd.int .i64) _ _ _ qE [.int .i64 qE] from rfl) (Reps.none _ _)))); intro v107 w8 ho9 hb hg_ hnew_; clear hg_ hnew_; (first | rw [← Ny106.out] at ho9 | (simp only [Int.reduceToNat] at ho9; rw [← Ny106.out] at ho9)); have qL := aM (Kd.R_lower ho9 (below_size (by have := GEc.mk qD.out; exact lS HB))); replace qC := aM (blk_below (g := qG) (lK qC) hb); replace HB := aM (below_step (by have := GEc.mk qD.out; exact lS HB) hb); clear hb ho9))
    go_ret
    exact ⟨_, by first | rfl | (simp [errW_none, errW_some] <;> rfl) | (simp [*, errW_none, errW_some] <;> rfl), by (with_reducible repeat (first | apply Kd.R_alloc | apply Kd.R_drewN | apply Kd.R_drew)); exact qL.out, by repeat (first | (with_reducible first | exact HB.out | apply below_alloc | apply pw_below_drewN | apply below_drew1 | refine below_set ?_ qD.out) | exact HB.out)⟩
   ·replace c6 := Bool.eq_false_iff.mpr c6
    subst c6
    have H1 : (if qA = 1 then (some (([qB] : List Int))) else (if qA = 2 then (some (([qB] : List Int))) else (if qA = 5 then (some (([qB] : List Int))) else (if qA = 6 then (some (([qB] : List Int))) else (if qA = 7 then (some (([qB] : List Int))) else (if qA = 8 then (some (([qB] : List Int))) else (some ([] : List Int)))))))) = some r := by rw [if_neg (show ¬ (false = true) by decide)] at H; exact H
    clear H
    have H := H1
    clear H1
    by_cases c10 : qA = 1
    ·rw [if_pos c10] at H
     have c10b0 : (qA == 1) = true := beq_iff_eq.mpr c10
     have c10b1 : (qA != 1) = false := bne_eq_false_iff_eq.mpr c10
     clear c10
     obtain ⟨y109, hy109⟩ : ∃ y_ : List Int, y_ = (([qB] : List Int)) := ⟨_, rfl⟩
     replace H : (some y109) = some r := by first | (rw [hy109]; with_reducible exact H) | (have H2_ := (Option.bind_some _ _).symm.trans H; rw [hy109]; with_reducible exact H2_) | (have H2_ := (Option.bind_some _ _).symm.trans H; with_reducible exact H2_) | with_reducible exact H | (rw [hy109]; exact H) | exact H
     have Ny109 := aM hy109
     clear hy109
     obtain rfl := Option.some.inj H
     have qV := zc5 qC.out
     have qW := fun i_ : Nat => blk_frozen qC.out i_
     go_wp2_with (first | ((with_reducible refine gate_dst (N := 22) rfl ?_); refine Kd.R_lit (Kd.int .i64) _ 3 ?hg (N := 22) ?hd (xs := ([qB] : List Int)) (inner := [.int .i64 qB]) (ok := fun _ => True) (okp := fun _ => True) ?hr ?hp (fun _ hk => hk) trivial (Below.refl _ _) (Nat.le_refl _) (by simp) ?_; (case hd => rfl); (case hg => rfl); (case hr => first | (go_simp; done) | (go_simp; rfl)); (case hp => exact (Reps.one (show Kd.M (Kd.int .i64) _ _ _ qB [.int .i64 qB] from rfl) (Reps.none _ _))); intro v110 w12 ho13 hb hg_ hnew_; clear hg_ hnew_; (first | rw [← Ny109.out] at ho13 | (simp only [Int.reduceToNat] at ho13; rw [← Ny109.out] at ho13)); have qM := aM (Kd.R_lower ho13 (below_size (by have := GEc.mk qD.out; exact lS HB))); replace qC := aM (blk_below (g := qG) (lK qC) hb); replace HB := aM (below_step (by have := GEc.mk qD.out; exact lS HB) hb); clear hb ho13))
     go_ret
     exact ⟨_, by first | rfl | (simp [errW_none, errW_some] <;> rfl) | (simp [*, errW_none, errW_some] <;> rfl), by (with_reducible repeat (first | apply Kd.R_alloc | apply Kd.R_drewN | apply Kd.R_drew)); exact qM.out, by repeat (first | (with_reducible first | exact HB.out | apply below_alloc | apply pw_below_drewN | apply below_drew1 | refine below_set ?_ qD.out) | exact HB.out)⟩
    ·rw [if_neg c10] at H
     have c10b0 : (qA == 1) = false := beq_eq_false_iff_ne.mpr c10
     have c10b1 : (qA != 1) = true := bne_iff_ne.mpr c10
     by_cases c14 : qA = 2
     ·rw [if_pos c14] at H
      have c14b0 : (qA == 2) = true := beq_iff_eq.mpr c14
      have c14b1 : (qA != 2) = false := bne_eq_false_iff_eq.mpr c14
      clear c14
      obtain ⟨y112, hy112⟩ : ∃ y_ : List Int, y_ = (([qB] : List Int)) := ⟨_, rfl⟩
      replace H : (some y112) = some r := by first | (rw [hy112]; with_reducible exact H) | (have H2_ := (Option.bind_some _ _).symm.trans H; rw [hy112]; with_reducible exact H2_) | (have H2_ := (Option.bind_some _ _).symm.trans H; with_reducible exact H2_) | with_reducible exact H | (rw [hy112]; exact H) | exact H
      have Ny112 := aM hy112
      clear hy112
      obtain rfl := Option.some.inj H
      have qX := zc5 qC.out
      have qY := fun i_ : Nat => blk_frozen qC.out i_
      go_wp2_with (first | ((with_reducible refine gate_dst (N := 22) rfl ?_); refine Kd.R_lit (Kd.int .i64) _ 3 ?hg (N := 22) ?hd (xs := ([qB] : List Int)) (inner := [.int .i64 qB]) (ok := fun _ => True) (okp := fun _ => True) ?hr ?hp (fun _ hk => hk) trivial (Below.refl _ _) (Nat.le_refl _) (by simp) ?_; (case hd => rfl); (case hg => rfl); (case hr => first | (go_simp; done) | (go_simp; rfl)); (case hp => exact (Reps.one (show Kd.M (Kd.int .i64) _ _ _ qB [.int .i64 qB] from rfl) (Reps.none _ _))); intro v113 w16 ho17 hb hg_ hnew_; clear hg_ hnew_; (first | rw [← Ny112.out] at ho17 | (simp only [Int.reduceToNat] at ho17; rw [← Ny112.out] at ho17)); have qN := aM (Kd.R_lower ho17 (below_size (by have := GEc.mk qD.out; exact lS HB))); replace qC := aM (blk_below (g := qG) (lK qC) hb); replace HB := aM (below_step (by have := GEc.mk qD.out; exact lS HB) hb); clear hb ho17))
      go_ret
      exact ⟨_, by first | rfl | (simp [errW_none, errW_some] <;> rfl) | (simp [*, errW_none, errW_some] <;> rfl), by (with_reducible repeat (first | apply Kd.R_alloc | apply Kd.R_drewN | apply Kd.R_drew)); exact qN.out, by repeat (first | (with_reducible first | exact HB.out | apply below_alloc | apply pw_below_drewN | apply below_drew1 | refine below_set ?_ qD.out) | exact HB.out)⟩
     ·rw [if_neg c14] at H
      have c14b0 : (qA == 2) = false := beq_eq_false_iff_ne.mpr c14
      have c14b1 : (qA != 2) = true := bne_iff_ne.mpr c14
      by_cases c18 : qA = 5
      ·rw [if_pos c18] at H
       have c18b0 : (qA == 5) = true := beq_iff_eq.mpr c18
       have c18b1 : (qA != 5) = false := bne_eq_false_iff_eq.mpr c18
       clear c18
       obtain ⟨y115, hy115⟩ : ∃ y_ : List Int, y_ = (([qB] : List Int)) := ⟨_, rfl⟩
       replace H : (some y115) = some r := by first | (rw [hy115]; with_reducible exact H) | (have H2_ := (Option.bind_some _ _).symm.trans H; rw [hy115]; with_reducible exact H2_) | (have H2_ := (Option.bind_some _ _).symm.trans H; with_reducible exact H2_) | with_reducible exact H | (rw [hy115]; exact H) | exact H
       have Ny115 := aM hy115
       clear hy115
       obtain rfl := Option.some.inj H
       have qZ := zc5 qC.out
       have qa := fun i_ : Nat => blk_frozen qC.out i_
       go_wp2_with (first | ((with_reducible refine gate_dst (N := 22) rfl ?_); refine Kd.R_lit (Kd.int .i64) _ 3 ?hg (N := 22) ?hd (xs := ([qB] : List Int)) (inner := [.int .i64 qB]) (ok := fun _ => True) (okp := fun _ => True) ?hr ?hp (fun _ hk => hk) trivial (Below.refl _ _) (Nat.le_refl _) (by simp) ?_; (case hd => rfl); (case hg => rfl); (case hr => first | (go_simp; done) | (go_simp; rfl)); (case hp => exact (Reps.one (show Kd.M (Kd.int .i64) _ _ _ qB [.int .i64 qB] from rfl) (Reps.none _ _))); intro v116 w20 ho21 hb hg_ hnew_; clear hg_ hnew_; (first | rw [← Ny115.out] at ho21 | (simp only [Int.reduceToNat] at ho21; rw [← Ny115.out] at ho21)); have qO := aM (Kd.R_lower ho21 (below_size (by have := GEc.mk qD.out; exact lS HB))); replace qC := aM (blk_below (g := qG) (lK qC) hb); replace HB := aM (below_step (by have := GEc.mk qD.out; exact lS HB) hb); clear hb ho21))
       go_ret
       exact ⟨_, by first | rfl | (simp [errW_none, errW_some] <;> rfl) | (simp [*, errW_none, errW_some] <;> rfl), by (with_reducible repeat (first | apply Kd.R_alloc | apply Kd.R_drewN | apply Kd.R_drew)); exact qO.out, by repeat (first | (with_reducible first | exact HB.out | apply below_alloc | apply pw_below_drewN | apply below_drew1 | refine below_set ?_ qD.out) | exact HB.out)⟩
      ·rw [if_neg c18] at H
       have c18b0 : (qA == 5) = false := beq_eq_false_iff_ne.mpr c18
       have c18b1 : (qA != 5) = true := bne_iff_ne.mpr c18
       by_cases c22 : qA = 6
       ·rw [if_pos c22] at H
        have c22b0 : (qA == 6) = true := beq_iff_eq.mpr c22
        have c22b1 : (qA != 6) = false := bne_eq_false_iff_eq.mpr c22
        clear c22
        obtain ⟨y118, hy118⟩ : ∃ y_ : List Int, y_ = (([qB] : List Int)) := ⟨_, rfl⟩
        replace H : (some y118) = some r := by first | (rw [hy118]; with_reducible exact H) | (have H2_ := (Option.bind_some _ _).symm.trans H; rw [hy118]; with_reducible exact H2_) | (have H2_ := (Option.bind_some _ _).symm.trans H; with_reducible exact H2_) | with_reducible exact H | (rw [hy118]; exact H) | exact H
        have Ny118 := aM hy118
        clear hy118
        obtain rfl := Option.some.inj H
        have qb := zc5 qC.out
        have qc := fun i_ : Nat => blk_frozen qC.out i_
        go_wp2_with (first | ((with_reducible refine gate_dst (N := 22) rfl ?_); refine Kd.R_lit (Kd.int .i64) _ 3 ?hg (N := 22) ?hd (xs := ([qB] : List Int)) (inner := [.int .i64 qB]) (ok := fun _ => True) (okp := fun _ => True) ?hr ?hp (fun _ hk => hk) trivial (Below.refl _ _) (Nat.le_refl _) (by simp) ?_; (case hd => rfl); (case hg => rfl); (case hr => first | (go_simp; done) | (go_simp; rfl)); (case hp => exact (Reps.one (show Kd.M (Kd.int .i64) _ _ _ qB [.int .i64 qB] from rfl) (Reps.none _ _))); intro v119 w24 ho25 hb hg_ hnew_; clear hg_ hnew_; (first | rw [← Ny118.out] at ho25 | (simp only [Int.reduceToNat] at ho25; rw [← Ny118.out] at ho25)); have qP := aM (Kd.R_lower ho25 (below_size (by have := GEc.mk qD.out; exact lS HB))); replace qC := aM (blk_below (g := qG) (lK qC) hb); replace HB := aM (below_step (by have := GEc.mk qD.out; exact lS HB) hb); clear hb ho25))
        go_ret
        exact ⟨_, by first | rfl | (simp [errW_none, errW_some] <;> rfl) | (simp [*, errW_none, errW_some] <;> rfl), by (with_reducible repeat (first | apply Kd.R_alloc | apply Kd.R_drewN | apply Kd.R_drew)); exact qP.out, by repeat (first | (with_reducible first | exact HB.out | apply below_alloc | apply pw_below_drewN | apply below_drew1 | refine below_set ?_ qD.out) | exact HB.out)⟩
       ·rw [if_neg c22] at H
        have c22b0 : (qA == 6) = false := beq_eq_false_iff_ne.mpr c22
        have c22b1 : (qA != 6) = true := bne_iff_ne.mpr c22
        by_cases c26 : qA = 7
        ·rw [if_pos c26] at H
         have c26b0 : (qA == 7) = true := beq_iff_eq.mpr c26
         have c26b1 : (qA != 7) = false := bne_eq_false_iff_eq.mpr c26
         clear c26
         obtain ⟨y121, hy121⟩ : ∃ y_ : List Int, y_ = (([qB] : List Int)) := ⟨_, rfl⟩
         replace H : (some y121) = some r := by first | (rw [hy121]; with_reducible exact H) | (have H2_ := (Option.bind_some _ _).symm.trans H; rw [hy121]; with_reducible exact H2_) | (have H2_ := (Option.bind_some _ _).symm.trans H; with_reducible exact H2_) | with_reducible exact H | (rw [hy121]; exact H) | exact H
         have Ny121 := aM hy121
         clear hy121
         obtain rfl := Option.some.inj H
         have qd := zc5 qC.out
         have qe := fun i_ : Nat => blk_frozen qC.out i_
         go_wp2_with (first | ((with_reducible refine gate_dst (N := 22) rfl ?_); refine Kd.R_lit (Kd.int .i64) _ 3 ?hg (N := 22) ?hd (xs := ([qB] : List Int)) (inner := [.int .i64 qB]) (ok := fun _ => True) (okp := fun _ => True) ?hr ?hp (fun _ hk => hk) trivial (Below.refl _ _) (Nat.le_refl _) (by simp) ?_; (case hd => rfl); (case hg => rfl); (case hr => first | (go_simp; done) | (go_simp; rfl)); (case hp => exact (Reps.one (show Kd.M (Kd.int .i64) _ _ _ qB [.int .i64 qB] from rfl) (Reps.none _ _))); intro v122 w28 ho29 hb hg_ hnew_; clear hg_ hnew_; (first | rw [← Ny121.out] at ho29 | (simp only [Int.reduceToNat] at ho29; rw [← Ny121.out] at ho29)); have qQ := aM (Kd.R_lower ho29 (below_size (by have := GEc.mk qD.out; exact lS HB))); replace qC := aM (blk_below (g := qG) (lK qC) hb); replace HB := aM (below_step (by have := GEc.mk qD.out; exact lS HB) hb); clear hb ho29))
         go_ret
         exact ⟨_, by first | rfl | (simp [errW_none, errW_some] <;> rfl) | (simp [*, errW_none, errW_some] <;> rfl), by (with_reducible repeat (first | apply Kd.R_alloc | apply Kd.R_drewN | apply Kd.R_drew)); exact qQ.out, by repeat (first | (with_reducible first | exact HB.out | apply below_alloc | apply pw_below_drewN | apply below_drew1 | refine below_set ?_ qD.out) | exact HB.out)⟩
        ·rw [if_neg c26] at H
         have c26b0 : (qA == 7) = false := beq_eq_false_iff_ne.mpr c26
         have c26b1 : (qA != 7) = true := bne_iff_ne.mpr c26
         by_cases c30 : qA = 8
         ·rw [if_pos c30] at H
          have c30b0 : (qA == 8) = true := beq_iff_eq.mpr c30
          have c30b1 : (qA != 8) = false := bne_eq_false_iff_eq.mpr c30
          clear c30
          obtain ⟨y124, hy124⟩ : ∃ y_ : List Int, y_ = (([qB] : List Int)) := ⟨_, rfl⟩
          replace H : (some y124) = some r := by first | (rw [hy124]; with_reducible exact H) | (have H2_ := (Option.bind_some _ _).symm.trans H; rw [hy124]; with_reducible exact H2_) | (have H2_ := (Option.bind_some _ _).symm.trans H; with_reducible exact H2_) | with_reducible exact H | (rw [hy124]; exact H) | exact H
          have Ny124 := aM hy124
          clear hy124
          obtain rfl := Option.some.inj H
          have qf := zc5 qC.out
          have qg := fun i_ : Nat => blk_frozen qC.out i_
          go_wp2_with (first | ((with_reducible refine gate_dst (N := 22) rfl ?_); refine Kd.R_lit (Kd.int .i64) _ 3 ?hg (N := 22) ?hd (xs := ([qB] : List Int)) (inner := [.int .i64 qB]) (ok := fun _ => True) (okp := fun _ => True) ?hr ?hp (fun _ hk => hk) trivial (Below.refl _ _) (Nat.le_refl _) (by simp) ?_; (case hd => rfl); (case hg => rfl); (case hr => first | (go_simp; done) | (go_simp; rfl)); (case hp => exact (Reps.one (show Kd.M (Kd.int .i64) _ _ _ qB [.int .i64 qB] from rfl) (Reps.none _ _))); intro v125 w32 ho33 hb hg_ hnew_; clear hg_ hnew_; (first | rw [← Ny124.out] at ho33 | (simp only [Int.reduceToNat] at ho33; rw [← Ny124.out] at ho33)); have qR := aM (Kd.R_lower ho33 (below_size (by have := GEc.mk qD.out; exact lS HB))); replace qC := aM (blk_below (g := qG) (lK qC) hb); replace HB := aM (below_step (by have := GEc.mk qD.out; exact lS HB) hb); clear hb ho33))
          go_ret
          exact ⟨_, by first | rfl | (simp [errW_none, errW_some] <;> rfl) | (simp [*, errW_none, errW_some] <;> rfl), by (with_reducible repeat (first | apply Kd.R_alloc | apply Kd.R_drewN | apply Kd.R_drew)); exact qR.out, by repeat (first | (with_reducible first | exact HB.out | apply below_alloc | apply pw_below_drewN | apply below_drew1 | refine below_set ?_ qD.out) | exact HB.out)⟩
         ·rw [if_neg c30] at H
          have c30b0 : (qA == 8) = false := beq_eq_false_iff_ne.mpr c30
          have c30b1 : (qA != 8) = true := bne_iff_ne.mpr c30
          obtain rfl := Option.some.inj H
          go_wp2
          go_ret
          exact ⟨_, by first | rfl | (simp [errW_none, errW_some] <;> rfl) | (simp [*, errW_none, errW_some] <;> rfl), by first | exact Kd.R_nil _ _ _ _ _ | exact Kd.N_nil _ _ _ _ _ | exact Kd.V_nil _ _ _ _ _ | exact Kd.Q_nil _ _ _ _ _ | exact Kd.S_nil _ _ _ _ _, by repeat (first | (with_reducible first | exact HB.out | apply below_alloc | apply pw_below_drewN | apply below_drew1 | refine below_set ?_ qD.out) | exact HB.out)⟩

end Go.Proofs.Ytccbdcbeinkjgaa.XA
end

section
namespace Go.Proofs.Ytccbdcbeinkjgaa.XA
open Go.Proofs.Ytccbdcbeinkjgaa.Lift Go.RowKit Go.Proofs.YtccbdcbeinkjgaaW.PrintWords Go.Proofs.YtccbdcbeinkjgaaW.PrintLast Go.Proofs.YtccbdcbeinkjgaaW.PrintMore
attribute [local go_sem] max2_int min2_int max_two min_two max_three min_three max_four min_four
set_option linter.unusedVariables false
set_option linter.unusedSimpArgs false

/-! ### prog_may: function 58 -/
mutual
def prog_may.j0 : Nat → Int → Bool → Int → Int → Int → Int → Int → Option (Bool)
 | 0, _, _, _, _, _, _, _ => none
 | k + 1, x1, x41, qQ, qR, qS, qT, qU => if x41 = true then (some false) else ((prog_Asks.f k qQ qR qS qT qU).bind fun qH => (prog_may.l0 k x1 qH (qH.length : Int) 0))
def prog_may.l0 : Nat → Int → List Int → Int → Int → Option (Bool)
 | 0, _, _, _, _ => none
 | k + 1, x1, x43, x44, x45 => if x45 < x44 then (if 0 ≤ x45 then (if x45 < (x43.length : Int) then (if (rd x43 x45) < 0 then (some false) else (if (rd x43 x45) ≥ x1 then (some false) else (prog_may.l0 k x1 x43 x44 (wrap64 (x45 + 1))))) else (none)) else (none)) else (some true)
end
def prog_may.f (k : Nat) (qA : Int) (qB : Int) (qD : Int) (qC : Int) (qE : Int) (a1 : Int) : Option (Bool) := if qA < 1 then (prog_may.j0 k a1 true qA qB qD qC qE) else (if qA > 8 then (prog_may.j0 k a1 true qA qB qD qC qE) else (if qB < 0 then (prog_may.j0 k a1 true qA qB qD qC qE) else (if qB ≥ a1 then (prog_may.j0 k a1 true qA qB qD qC qE) else ((prog_two.f qA).bind fun qM => (if qM = true then ((prog_constant.f k qA qB qD qC qE).bind fun qJ => (prog_may.j0 k a1 (!qJ) qA qB qD qC qE)) else (if qC = 0 then ((prog_constant.f k qA qB qD qC qE).bind fun qK => (prog_may.j0 k a1 (!qK) qA qB qD qC qE)) else (prog_may.j0 k a1 true qA qB qD qC qE)))))))
theorem prog_may.mono_l : ∀ k, (∀ y0 y1 y2 y3 y4 y5 y6, LeO (prog_may.j0 k y0 y1 y2 y3 y4 y5 y6) (prog_may.j0 (k + 1) y0 y1 y2 y3 y4 y5 y6)) ∧ (∀ y0 y1 y2 y3, LeO (prog_may.l0 k y0 y1 y2 y3) (prog_may.l0 (k + 1) y0 y1 y2 y3))
 | 0 => ⟨fun _ _ _ _ _ _ _ r h => by simp [prog_may.j0] at h, fun _ _ _ _ r h => by simp [prog_may.l0] at h⟩
 | k + 1 => by
  obtain ⟨ih0, ih1⟩ := prog_may.mono_l k
  refine ⟨?_, ?_⟩
  ·intro y0 y1 y2 y3 y4 y5 y6
   unfold prog_may.j0
   repeat' first
   | (with_reducible exact ih0 ..)
   | (with_reducible exact ih1 ..)
   | (with_reducible exact prog_Asks.mono _ _ _ _ _ _)
   | (with_reducible exact prog_constant.mono _ _ _ _ _ _)
   | (with_reducible exact LeO.refl _)
   | (with_reducible exact LeO.none _)
   | (with_reducible refine LeO.ite ?_ ?_)
   | (with_reducible refine LeO.bind ?_ (fun _ => ?_))
   | exact ih0 _ _ _ _ _ _ _
   | exact ih1 _ _ _ _
   | exact prog_Asks.mono _ _ _ _ _ _
   | exact prog_constant.mono _ _ _ _ _ _
   | exact LeO.none _
   | refine LeO.ite ?_ ?_
   | refine LeO.bind ?_ (fun _ => ?_)
  ·intro y0 y1 y2 y3
   unfold prog_may.l0
   repeat' first
   | (with_reducible exact ih0 ..)
   | (with_reducible exact ih1 ..)
   | (with_reducible exact prog_Asks.mono _ _ _ _ _ _)
   | (with_reducible exact prog_constant.mono _ _ _ _ _ _)
   | (with_reducible exact LeO.refl _)
   | (with_reducible exact LeO.none _)
   | (with_reducible refine LeO.ite ?_ ?_)
   | (with_reducible refine LeO.bind ?_ (fun _ => ?_))
   | exact ih0 _ _ _ _ _ _ _
   | exact ih1 _ _ _ _
   | exact prog_Asks.mono _ _ _ _ _ _
   | exact prog_constant.mono _ _ _ _ _ _
   | exact LeO.none _
   | refine LeO.ite ?_ ?_
   | refine LeO.bind ?_ (fun _ => ?_)
theorem prog_may.mono : ∀ a0 a1 a2 a3 a4 a5 k, LeO (prog_may.f k a0 a1 a2 a3 a4 a5) (prog_may.f (k + 1) a0 a1 a2 a3 a4 a5) := by
 intro a0 a1 a2 a3 a4 a5 k
 obtain ⟨ih0, ih1⟩ := prog_may.mono_l k
 unfold prog_may.f
 repeat' first
   | (with_reducible exact ih0 ..)
   | (with_reducible exact ih1 ..)
   | (with_reducible exact prog_Asks.mono _ _ _ _ _ _)
   | (with_reducible exact prog_constant.mono _ _ _ _ _ _)
   | (with_reducible exact LeO.refl _)
   | (with_reducible exact LeO.none _)
   | (with_reducible refine LeO.ite ?_ ?_)
   | (with_reducible refine LeO.bind ?_ (fun _ => ?_))
   | exact ih0 _ _ _ _ _ _ _
   | exact ih1 _ _ _ _
   | exact prog_Asks.mono _ _ _ _ _ _
   | exact prog_constant.mono _ _ _ _ _ _
   | exact LeO.none _
   | refine LeO.ite ?_ ?_
   | refine LeO.bind ?_ (fun _ => ?_)
set_option maxHeartbeats 8000000 in
set_option maxRecDepth 100000 in
theorem prog_may.calls (k : Nat) (qA : Int) (qB : Int) (qD : Int) (qC : Int) (qE : Int) (a1 : Int) (r : Bool) (w : World) (h : prog_may.f k qA qB qD qC qE a1 = some r) :
  Calls Try.prog 58 #[.agg #[.int .i64 qA, .int .i64 qB, .int .i64 qD, .int .i64 qC, .int .i64 qE], .int .i64 a1] w fun e w' => e = .returned (.bool r) ∧ Below w.heap.size w w' := by
 have hu63 := Try.underlying63
 have HB := aM (Below.refl w.heap.size w)
 have H : (if qA < 1 then (prog_may.j0 k a1 true qA qB qD qC qE) else (if qA > 8 then (prog_may.j0 k a1 true qA qB qD qC qE) else (if qB < 0 then (prog_may.j0 k a1 true qA qB qD qC qE) else (if qB ≥ a1 then (prog_may.j0 k a1 true qA qB qD qC qE) else ((prog_two.f qA).bind fun qM => (if qM = true then ((prog_constant.f k qA qB qD qC qE).bind fun qJ => (prog_may.j0 k a1 (!qJ) qA qB qD qC qE)) else (if qC = 0 then ((prog_constant.f k qA qB qD qC qE).bind fun qK => (prog_may.j0 k a1 (!qK) qA qB qD qC qE)) else (prog_may.j0 k a1 true qA qB qD qC qE)))))))) = some r := h
 clear h
 have HC3 := aM H
 clear H
 go_enter Try.func58, Try.ntmps58
 go_upto_region 1 with (first | ((with_reducible refine gate_dst (N := 2) rfl ?_); refine box_event ?hg (N := 2) ?hd (cs := #[.int .i64 qA, .int .i64 qB, .int .i64 qD, .int .i64 qC, .int .i64 qE]) (t := 63) ?hr ?_; (case hd => rfl); (case hg => rfl); (case hr => first | (go_simp; done) | (go_simp; rfl)); intro qL hg w4 hbox hb; have qF := aM (hbox); have qn := aM ((by rw [hg]; exact (below_size (lB HB)) : w.heap.size ≤ qL)); have qI := aM ((by rw [hg]; exact (below_size (lB HB)) : w.heap.size ≤ qL)); replace HB := aM (below_step (lB HB) hb); clear hb hbox hg))
 (try simp only [Act.put, List.setIfInBounds_toArray, List.set_cons_zero, List.set_cons_succ])
 go_cut [41] (fun v41 wc => ∃ (kq : Nat) (qN : Bool), v41 = .bool qN ∧ Aside0 (prog_may.j0 kq a1 qN qA qB qD qC qE = some r) ∧ Aside0 (kq ≤ k) ∧ Aside0 (wc.heap[qL]? = some (.cells #[.int .i64 qA, .int .i64 qB, .int .i64 qD, .int .i64 qC, .int .i64 qE] 63 (0, 0))) ∧ Aside0 (Below w.heap.size w wc))
 case first =>
  have H := HC3.out
  clear HC3
  by_cases c5 : qA < 1
  ·rw [if_pos c5] at H
   have c5b0 : decide (qA < 1) = true := decide_eq_true c5
   clear c5
   (first | rw [c5b0] | (simp only [i64_w, i32_w]; rw [c5b0]) | skip)
   have H' := aM H
   clear H
   have qj := zc5 qF.out
   have qk := fun i_ : Nat => blk_frozen qF.out i_
   go_wp2
   go_meet
   case rel => exact ⟨_, (true), (by first | rfl | (simp; done) | (simp [*]; done)), H', ⟨by first | omega | exact Nat.le_refl _⟩, ⟨by refine lZ ?_; exact qF.out⟩, ⟨by repeat (first | (with_reducible first | exact HB.out | apply below_alloc | apply pw_below_drewN | apply below_drew1 | refine below_set ?_ qI.out) | exact HB.out)⟩⟩
  ·rw [if_neg c5] at H
   have c5b0 : decide (qA < 1) = false := decide_eq_false c5
   clear c5
   (first | rw [c5b0] | (simp only [i64_w, i32_w]; rw [c5b0]) | skip)
   by_cases c7 : qA > 8
   ·rw [if_pos c7] at H
    have c7b0 : decide (8 < qA) = true := decide_eq_true c7
    clear c7
    have H' := aM H
    clear H
    have ql := zc5 qF.out
    have qm := fun i_ : Nat => blk_frozen qF.out i_
    go_wp2
    go_meet
    case rel => exact ⟨_, (true), (by first | rfl | (simp; done) | (simp [*]; done)), H', ⟨by first | omega | exact Nat.le_refl _⟩, ⟨by refine lZ ?_; exact qF.out⟩, ⟨by repeat (first | (with_reducible first | exact HB.out | apply below_alloc | apply pw_below_drewN | apply below_drew1 | refine below_set ?_ qI.out) | exact HB.out)⟩⟩
   ·rw [if_neg c7] at H
    have c7b0 : decide (8 < qA) = false := decide_eq_false c7
    clear c7
    by_cases c9 : qB < 0
    ·rw [if_pos c9] at H
     have c9b0 : decide (qB < 0) = true := decide_eq_true c9
     clear c9
     have H' := aM H
     clear H
     have qX := zc5 qF.out
     have qY := fun i_ : Nat => blk_frozen qF.out i_
     go_wp2
     go_meet
     case rel => exact ⟨_, (true), (by first | rfl | (simp; done) | (simp [*]; done)), H', ⟨by first | omega | exact Nat.le_refl _⟩, ⟨by refine lZ ?_; exact qF.out⟩, ⟨by repeat (first | (with_reducible first | exact HB.out | apply below_alloc | apply pw_below_drewN | apply below_drew1 | refine below_set ?_ qI.out) | exact HB.out)⟩⟩
    ·rw [if_neg c9] at H
     have c9b0 : decide (qB < 0) = false := decide_eq_false c9
     clear c9
     by_cases c11 : qB ≥ a1
     ·rw [if_pos c11] at H
      have c11b0 : decide (a1 ≤ qB) = true := decide_eq_true c11
      clear c11
      have H' := aM H
      clear H
      have qZ := zc5 qF.out
      have qa := fun i_ : Nat => blk_frozen qF.out i_
      go_wp2
      go_meet
      case rel => exact ⟨_, (true), (by first | rfl | (simp; done) | (simp [*]; done)), H', ⟨by first | omega | exact Nat.le_refl _⟩, ⟨by refine lZ ?_; exact qF.out⟩, ⟨by repeat (first | (with_reducible first | exact HB.out | apply below_alloc | apply pw_below_drewN | apply below_drew1 | refine below_set ?_ qI.out) | exact HB.out)⟩⟩
     ·rw [if_neg c11] at H
      have c11b0 : decide (a1 ≤ qB) = false := decide_eq_false c11
      clear c11
      replace H := Option.bind_eq_some_iff.mp H
      obtain ⟨qM, A130, H⟩ := H
      replace H : (if qM = true then ((prog_constant.f k qA qB qD qC qE).bind fun qJ => (prog_may.j0 k a1 (!qJ) qA qB qD qC qE)) else (if qC = 0 then ((prog_constant.f k qA qB qD qC qE).bind fun qK => (prog_may.j0 k a1 (!qK) qA qB qD qC qE)) else (prog_may.j0 k a1 true qA qB qD qC qE))) = some r := H
      have A13 := aM A130
      clear A130
      by_cases c14 : qM = true
      ·subst c14
       have H1 : ((prog_constant.f k qA qB qD qC qE).bind fun qJ => (prog_may.j0 k a1 (!qJ) qA qB qD qC qE)) = some r := by rw [if_pos rfl] at H; exact H
       clear H
       have H := H1
       clear H1
       replace H := Option.bind_eq_some_iff.mp H
       obtain ⟨qJ, A150, H⟩ := H
       replace H : (prog_may.j0 k a1 (!qJ) qA qB qD qC qE) = some r := H
       have A15 := aM A150
       clear A150
       have H' := aM H
       clear H
       have qb := zc5 qF.out
       have qc := fun i_ : Nat => blk_frozen qF.out i_
       go_wp2_with (first | (go_at_call 65; (with_reducible refine (prog_two.calls qA true _ A13.out).mono ?_); rintro e w' ⟨rfl, ⟨nd, rfl⟩⟩) | (go_at_call 66; (with_reducible refine (prog_constant.calls k qA qB qD qC qE qJ _ A15.out).mono ?_); rintro e w17 ⟨rfl, hb⟩; replace qF := aM (blk_below (g := qL) (lK qF) hb); replace HB := aM (below_step (by have := GEc.mk qI.out; exact lS HB) hb); (try clear hb); (try clear hb2); (try clear hk); (try clear hi)))
       go_meet
       case rel => exact ⟨_, (!qJ), (by first | rfl | (simp; done) | (simp [*]; done)), H', ⟨by first | omega | exact Nat.le_refl _⟩, ⟨by refine lZ ?_; exact qF.out⟩, ⟨by repeat (first | (with_reducible first | exact HB.out | apply below_alloc | apply pw_below_drewN | apply below_drew1 | refine below_set ?_ qI.out) | exact HB.out)⟩⟩
      ·replace c14 := Bool.eq_false_iff.mpr c14
       subst c14
       have H1 : (if qC = 0 then ((prog_constant.f k qA qB qD qC qE).bind fun qK => (prog_may.j0 k a1 (!qK) qA qB qD qC qE)) else (prog_may.j0 k a1 true qA qB qD qC qE)) = some r := by rw [if_neg (show ¬ (false = true) by decide)] at H; exact H
       clear H
       have H := H1
       clear H1
       by_cases c18 : qC = 0
       ·rw [if_pos c18] at H
        have c18b0 : (qC == 0) = true := beq_iff_eq.mpr c18
        have c18b1 : (qC != 0) = false := bne_eq_false_iff_eq.mpr c18
        clear c18
        replace H := Option.bind_eq_some_iff.mp H
        obtain ⟨qK, A190, H⟩ := H
        replace H : (prog_may.j0 k a1 (!qK) qA qB qD qC qE) = some r := H
        have A19 := aM A190
        clear A190
        have H' := aM H
        clear H
        have qd := zc5 qF.out
        have qe := fun i_ : Nat => blk_frozen qF.out i_
        go_wp2_with (first | (go_at_call 65; (with_reducible refine (prog_two.calls qA false _ A13.out).mono ?_); rintro e w' ⟨rfl, ⟨nd, rfl⟩⟩) | (go_at_call 66; (with_reducible refine (prog_constant.calls k qA qB qD qC qE qK _ A19.out).mono ?_); rintro e w21 ⟨rfl, hb⟩; replace qF := aM (blk_below (g := qL) (lK qF) hb); replace HB := aM (below_step (by have := GEc.mk qI.out; exact lS HB) hb); (try clear hb); (try clear hb2); (try clear hk); (try clear hi)))
        go_meet
        case rel => exact ⟨_, (!qK), (by first | rfl | (simp; done) | (simp [*]; done)), H', ⟨by first | omega | exact Nat.le_refl _⟩, ⟨by refine lZ ?_; exact qF.out⟩, ⟨by repeat (first | (with_reducible first | exact HB.out | apply below_alloc | apply pw_below_drewN | apply below_drew1 | refine below_set ?_ qI.out) | exact HB.out)⟩⟩
       ·rw [if_neg c18] at H
        have c18b0 : (qC == 0) = false := beq_eq_false_iff_ne.mpr c18
        have c18b1 : (qC != 0) = true := bne_iff_ne.mpr c18
        have H' := aM H
        clear H
        have qf := zc5 qF.out
        have qg := fun i_ : Nat => blk_frozen qF.out i_
        go_wp2_with (first | (go_at_call 65; (with_reducible refine (prog_two.calls qA false _ A13.out).mono ?_); rintro e w' ⟨rfl, ⟨nd, rfl⟩⟩))
        go_meet
        case rel => exact ⟨_, (true), (by first | rfl | (simp; done) | (simp [*]; done)), H', ⟨by first | omega | exact Nat.le_refl _⟩, ⟨by refine lZ ?_; exact qF.out⟩, ⟨by repeat (first | (with_reducible first | exact HB.out | apply below_alloc | apply pw_below_drewN | apply below_drew1 | refine below_set ?_ qI.out) | exact HB.out)⟩⟩
 case rest =>
  clear HC3
  obtain ⟨kq, qN, rfl, HA, HJ2, qF, HB⟩ := hcut
  cases kq with
  | zero => exact absurd HA.out (by simp [prog_may.j0])
  | succ kj2 =>
   have H := HA.out
   clear HA
   simp only [prog_may.j0] at H
   by_cases c23 : qN = true
   ·subst c23
    have H1 : (some false) = some r := by rw [if_pos rfl] at H; exact H
    clear H
    have H := H1
    clear H1
    obtain rfl := Option.some.inj H
    go_wp2
    go_ret
    exact ⟨by first | rfl | (simp [errW_none, errW_some] <;> rfl) | (simp [*, errW_none, errW_some] <;> rfl), by repeat (first | (with_reducible first | exact HB.out | apply below_alloc | apply pw_below_drewN | apply below_drew1 | refine below_set ?_ qI.out) | exact HB.out)⟩
   ·replace c23 := Bool.eq_false_iff.mpr c23
    subst c23
    have H1 : ((prog_Asks.f kj2 qA qB qD qC qE).bind fun qH => (prog_may.l0 kj2 a1 qH (qH.length : Int) 0)) = some r := by rw [if_neg (show ¬ (false = true) by decide)] at H; exact H
    clear H
    have H := H1
    clear H1
    replace H := Option.bind_eq_some_iff.mp H
    obtain ⟨qH, A240, H⟩ := H
    replace H : (prog_may.l0 kj2 a1 qH (qH.length : Int) 0) = some r := H
    have A24 := aM A240
    clear A240
    have H' := aM H
    clear H
    have qh := zc5 qF.out
    have qi := fun i_ : Nat => blk_frozen qF.out i_
    go_wp2_with (first | ((with_reducible refine gate_callee (f := 67) rfl ?_); refine goesL_ (some 43) rfl rfl Try.func67 (by kernel_rfl) rfl #[.agg #[.int .i64 qA, .int .i64 qB, .int .i64 qD, .int .i64 qC, .int .i64 qE]] rfl (by (try simp only [List.map_toArray, List.map_cons, List.map_nil]); first | done | rfl | (simp only [List.length_drop, List.length_take]; rfl)) ?_; (with_reducible refine (prog_Asks.calls kj2 qA qB qD qC qE qH _ A24.out).mono ?_); rintro e w26 ⟨v132, rfl, ho0, hb⟩; refine ⟨_, rfl, ?_⟩; have qP := aM (Kd.R_lower ho0 (below_size (by have := GEc.mk qI.out; exact lS HB))); replace qF := aM (blk_below (g := qL) (lK qF) hb); replace HB := aM (below_step (by have := GEc.mk qI.out; exact lS HB) hb); (try clear hb); (try clear hb2); (try clear hk); (try clear hi); (try clear ho0); obtain ⟨qV, qW, eo27⟩ := Kd.R_slice qP.out; subst eo27))
    go_loopg [45] kj2 (fun kq v45 w' => ∃ (qG : Int), v45 = .int .i64 qG ∧ Aside0 (prog_may.l0 kq a1 qH (qH.length : Int) qG = some r) ∧ Aside0 (kq ≤ kj2) ∧ Aside0 (Kd.R (Kd.int .i64) 3 w' w.heap.size (fun _ => True) (.slice qV qH.length qW) qH) ∧ Aside0 (w'.heap[qL]? = some (.cells #[.int .i64 qA, .int .i64 qB, .int .i64 qD, .int .i64 qC, .int .i64 qE] 63 (0, 0))) ∧ Aside0 (Below w.heap.size w w'))
    case atStart => exact ⟨(0), (by first | rfl | (simp; done) | (simp [*]; done)), H', ⟨Nat.le_refl _⟩, ⟨by (with_reducible repeat (first | apply Kd.R_alloc | apply Kd.R_drewN | apply Kd.R_drew)); exact qP.out⟩, ⟨by refine lZ ?_; exact qF.out⟩, ⟨by repeat (first | (with_reducible first | exact HB.out | apply below_alloc | apply pw_below_drewN | apply below_drew1 | refine below_set ?_ qI.out) | exact HB.out)⟩⟩
    case round =>
     clear H'
     try clear c23
     obtain ⟨qG, rfl, HA, HK2, qO, qF, HB⟩ := hrel
     cases gk with
     | zero => exact absurd HA.out (by simp [prog_may.l0])
     | succ k2 =>
      have H := HA.out
      clear HA
      simp only [prog_may.l0] at H
      by_cases c28 : qG < (qH.length : Int)
      ·rw [if_pos c28] at H
       have c28b0 : decide (qG < (qH.length : Int)) = true := decide_eq_true c28
       clear c28
       by_cases c29 : 0 ≤ qG
       ·rw [if_pos c29] at H
        have c29b0 : decide (0 ≤ qG) = true := decide_eq_true c29
        clear c29
        by_cases c30 : qG < (qH.length : Int)
        ·rw [if_pos c30] at H
         have c30b0 : decide (qG < (qH.length : Int)) = true := decide_eq_true c30
         clear c30
         by_cases c31 : (rd qH qG) < 0
         ·rw [if_pos c31] at H
          have c31b0 : decide ((rd qH qG) < 0) = true := decide_eq_true c31
          clear c31
          obtain rfl := Option.some.inj H
          have p134 : 0 ≤ (qG : Int) := of_decide_eq_true (by first | (with_reducible assumption) | assumption)
          have q134 : qG < (qH.length : Int) := of_decide_eq_true (by first | (with_reducible assumption) | assumption)
          obtain ⟨ad134, e134, hx134_0⟩ := Kd.at_int (Kd.R_reads' qO.out).2.2 qG p134 q134
          cases e134
          replace p134 := eq_true p134
          replace q134 := eq_true q134
          go_wp2
          go_ret
          exact ⟨by first | rfl | (simp [errW_none, errW_some] <;> rfl) | (simp [*, errW_none, errW_some] <;> rfl), by repeat (first | (with_reducible first | exact HB.out | apply below_alloc | apply pw_below_drewN | apply below_drew1 | refine below_set ?_ qI.out) | exact HB.out)⟩
         ·rw [if_neg c31] at H
          have c31b0 : decide ((rd qH qG) < 0) = false := decide_eq_false c31
          clear c31
          by_cases c32 : (rd qH qG) ≥ a1
          ·rw [if_pos c32] at H
           have c32b0 : decide (a1 ≤ (rd qH qG)) = true := decide_eq_true c32
           clear c32
           obtain rfl := Option.some.inj H
           have p134 : 0 ≤ (qG : Int) := of_decide_eq_true (by first | (with_reducible assumption) | assumption)
           have q134 : qG < (qH.length : Int) := of_decide_eq_true (by first | (with_reducible assumption) | assumption)
           obtain ⟨ad134, e134, hx134_0⟩ := Kd.at_int (Kd.R_reads' qO.out).2.2 qG p134 q134
           cases e134
           replace p134 := eq_true p134
           replace q134 := eq_true q134
           go_wp2
           go_ret
           exact ⟨by first | rfl | (simp [errW_none, errW_some] <;> rfl) | (simp [*, errW_none, errW_some] <;> rfl), by repeat (first | (with_reducible first | exact HB.out | apply below_alloc | apply pw_below_drewN | apply below_drew1 | refine below_set ?_ qI.out) | exact HB.out)⟩
          ·rw [if_neg c32] at H
           have c32b0 : decide (a1 ≤ (rd qH qG)) = false := decide_eq_false c32
           clear c32
           have H' := aM H
           clear H
           have p134 : 0 ≤ (qG : Int) := of_decide_eq_true (by first | (with_reducible assumption) | assumption)
           have q134 : qG < (qH.length : Int) := of_decide_eq_true (by first | (with_reducible assumption) | assumption)
           obtain ⟨ad134, e134, hx134_0⟩ := Kd.at_int (Kd.R_reads' qO.out).2.2 qG p134 q134
           cases e134
           replace p134 := eq_true p134
           replace q134 := eq_true q134
           go_wp2
           go_roundg k2
           case measure => have := HJ2.out; have := HK2.out; omega
           case rel => exact ⟨(wrap64 (qG + 1)), (by first | rfl | (simp; done) | (simp [*]; done)), H', ⟨by have := HJ2.out; have := HK2.out; omega⟩, ⟨by (with_reducible repeat (first | apply Kd.R_alloc | apply Kd.R_drewN | apply Kd.R_drew)); exact qO.out⟩, ⟨by refine lZ ?_; exact qF.out⟩, ⟨by repeat (first | (with_reducible first | exact HB.out | apply below_alloc | apply pw_below_drewN | apply below_drew1 | refine below_set ?_ qI.out) | exact HB.out)⟩⟩
        ·rw [if_neg c30] at H
         exact absurd H (by simp)
       ·rw [if_neg c29] at H
        exact absurd H (by simp)
      ·rw [if_neg c28] at H
       have c28b0 : decide (qG < (qH.length : Int)) = false := decide_eq_false c28
       clear c28
       obtain rfl := Option.some.inj H
       go_wp2
       go_ret
       exact ⟨by first | rfl | (simp [errW_none, errW_some] <;> rfl) | (simp [*, errW_none, errW_some] <;> rfl), by repeat (first | (with_reducible first | exact HB.out | apply below_alloc | apply pw_below_drewN | apply below_drew1 | refine below_set ?_ qI.out) | exact HB.out)⟩

end Go.Proofs.Ytccbdcbeinkjgaa.XA
end
