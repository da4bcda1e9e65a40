/- Part 6 of the proof of the law CodeCut for every input: words, walks and plain laws. No condition. -/
import Derived.Test.YtccbdcbeinkjgaaProg
import Derived.Below
import Derived.Deep.Draws
import Derived.Deep.AppendLies
import Derived.Maps.AppendAt
import Derived.OwnWalk
import Derived.Laws.BytesArg
import Derived.Laws.MakeOwn
import Derived.Laws.OwnMore
import Derived.Deep.OwnRows
import Derived.Tactics
import Derived.Lib.ConvBytes
import Derived.Laws.Slices
import Derived.WalkKit
import Derived.KernelRfl
import Derived.RowKit3
import Derived.Deep.LoopGhost
import Derived.Deep.QuietTactic
import Derived.BigQuiet
import Derived.WideLaws
import Derived.Deep.DeepCutAuto
import Derived.Deep.CutBlock
import Derived.Deep.RegionHeld3
import Derived.Laws.Rows
import Derived.Lib.AppendStr
import Derived.ArgAppend
import Derived.Laws.IdiomCopy
import Derived.OrdersHeld
import Derived.Laws.BitsLemmas
import Derived.RowKit
import Derived.WalkSpells
import Derived.StillTailTactics
import Derived.Lib.SlBytesConst
import Derived.Shelf.GgClosure.Gives
import Derived.Test.YtccbdcbeinkjgaaKCodeCut5
section
namespace Go.Proofs.Ytccbdcbeinkjgaa.XA
open Go.Proofs.Ytccbdcbeinkjgaa.Lift Go.RowKit Go.Proofs.YtccbdcbeinkjgaaW.PrintWords Go.Proofs.YtccbdcbeinkjgaaW.PrintLast Go.Proofs.YtccbdcbeinkjgaaW.PrintMore
attribute [local go_sem] max2_int min2_int max_two min_two max_three min_three max_four min_four
set_option linter.unusedVariables false
set_option linter.unusedSimpArgs false



def errW : Option Int → Value
 | none => .nilIface
 | some c => .iface 0 (.int .i64 c)
theorem errW_none : errW none = .nilIface := rfl
theorem errW_some (c : Int) : errW (some c) = .iface 0 (.int .i64 c) := rfl

theorem info3 : (Try.prog.info? 3).map (fun i => (i.zero, i.size, i.bytes)) = some (some (.int .i64 0), 1, 8) := by kernel_rfl
theorem info5 : (Try.prog.info? 5).map (fun i => (i.zero, i.size, i.bytes)) = some (some (.int .u8 0), 1, 1) := by kernel_rfl
theorem info48 : (Try.prog.info? 48).map (fun i => (i.zero, i.size, i.bytes)) = some (some (.agg #[(.int .i64 0), (.int .i64 0)]), 2, 16) := by kernel_rfl
theorem info63 : (Try.prog.info? 63).map (fun i => (i.zero, i.size, i.bytes)) = some (some (.agg #[(.int .i64 0), (.int .i64 0), (.int .i64 0), (.int .i64 0), (.int .i64 0)]), 5, 40) := by kernel_rfl
/-! #### struct type 48 -/
structure S48 where
 f0 : Int
 f1 : Int
def z48 : S48 := ⟨(0 : Int), (0 : Int)⟩
def k48 : Kd S48 := Kd.iso (Kd.pair (Kd.int .i64) (Kd.int .i64)) (fun x : S48 => (x.f0, x.f1))
theorem k48_open {w : World} {x : S48} {cs : List Value} (h : k48.K w x cs) : cs = [.int .i64 x.f0, .int .i64 x.f1] := by
 obtain ⟨_, _, rfl, rfl, rfl⟩ := h
 exact rfl
theorem k48_mkM (w : World) (base : Nat) (ok : Nat → Prop) (x : S48)  : k48.M w base ok x [.int .i64 x.f0, .int .i64 x.f1] := ⟨[.int .i64 x.f0], [.int .i64 x.f1], rfl, rfl, rfl⟩
def rd_T48 (xs : List S48) (i : Int) : S48 := xs.getD i.toNat z48
theorem at_T48 {w : World} {A : Option Addr} {n : Nat} {xs : List S48} (h : Kd.C k48 w A n xs) (i : Int) (h0 : 0 ≤ i) (h1 : i < n) : ∃ ad , A = some ad ∧ w.cell? (ad.add (i.toNat * 2)) = some (.int .i64 (rd_T48 xs i).f0) ∧ w.cell? ⟨(ad.add (i.toNat * 2)).block, (ad.add (i.toNat * 2)).off + 1, none⟩ = some (.int .i64 (rd_T48 xs i).f1) := by
 obtain ⟨ad, c, e, _, hK, hc0⟩ := Kd.C_get h z48 i h0 h1
 have hc : ∀ j u, c[j]? = some u → w.cell? (ad.add (i.toNat * 2 + j)) = some u := hc0
 obtain rfl := k48_open hK
 exact ⟨ad, e, hc 0 _ rfl, by rw [← add_field _ _ 1 (by omega)]; exact hc 1 _ rfl⟩

/-! #### struct type 63 -/
structure S63 where
 f0 : Int
 f1 : Int
 f2 : Int
 f3 : Int
 f4 : Int
def z63 : S63 := ⟨(0 : Int), (0 : Int), (0 : Int), (0 : Int), (0 : Int)⟩
def k63 : Kd S63 := Kd.iso (Kd.pair (Kd.int .i64) (Kd.pair (Kd.int .i64) (Kd.pair (Kd.int .i64) (Kd.pair (Kd.int .i64) (Kd.int .i64))))) (fun x : S63 => (x.f0, x.f1, x.f2, x.f3, x.f4))
theorem k63_open {w : World} {x : S63} {cs : List Value} (h : k63.K w x cs) : cs = [.int .i64 x.f0, .int .i64 x.f1, .int .i64 x.f2, .int .i64 x.f3, .int .i64 x.f4] := by
 obtain ⟨_, _, rfl, rfl, ⟨_, _, rfl, rfl, ⟨_, _, rfl, rfl, ⟨_, _, rfl, rfl, rfl⟩⟩⟩⟩ := h
 exact rfl
theorem k63_mkM (w : World) (base : Nat) (ok : Nat → Prop) (x : S63)  : k63.M w base ok x [.int .i64 x.f0, .int .i64 x.f1, .int .i64 x.f2, .int .i64 x.f3, .int .i64 x.f4] := ⟨[.int .i64 x.f0], [.int .i64 x.f1, .int .i64 x.f2, .int .i64 x.f3, .int .i64 x.f4], rfl, rfl, ⟨[.int .i64 x.f1], [.int .i64 x.f2, .int .i64 x.f3, .int .i64 x.f4], rfl, rfl, ⟨[.int .i64 x.f2], [.int .i64 x.f3, .int .i64 x.f4], rfl, rfl, ⟨[.int .i64 x.f3], [.int .i64 x.f4], rfl, rfl, rfl⟩⟩⟩⟩
def rd_T63 (xs : List S63) (i : Int) : S63 := xs.getD i.toNat z63
theorem at_T63 {w : World} {A : Option Addr} {n : Nat} {xs : List S63} (h : Kd.C k63 w A n xs) (i : Int) (h0 : 0 ≤ i) (h1 : i < n) : ∃ ad , A = some ad ∧ w.cell? (ad.add (i.toNat * 5)) = some (.int .i64 (rd_T63 xs i).f0) ∧ w.cell? ⟨(ad.add (i.toNat * 5)).block, (ad.add (i.toNat * 5)).off + 1, none⟩ = some (.int .i64 (rd_T63 xs i).f1) ∧ w.cell? ⟨(ad.add (i.toNat * 5)).block, (ad.add (i.toNat * 5)).off + 2, none⟩ = some (.int .i64 (rd_T63 xs i).f2) ∧ w.cell? ⟨(ad.add (i.toNat * 5)).block, (ad.add (i.toNat * 5)).off + 3, none⟩ = some (.int .i64 (rd_T63 xs i).f3) ∧ w.cell? ⟨(ad.add (i.toNat * 5)).block, (ad.add (i.toNat * 5)).off + 4, none⟩ = some (.int .i64 (rd_T63 xs i).f4) := by
 obtain ⟨ad, c, e, _, hK, hc0⟩ := Kd.C_get h z63 i h0 h1
 have hc : ∀ j u, c[j]? = some u → w.cell? (ad.add (i.toNat * 5 + j)) = some u := hc0
 obtain rfl := k63_open hK
 exact ⟨ad, e, hc 0 _ rfl, by rw [← add_field _ _ 1 (by omega)]; exact hc 1 _ rfl, by rw [← add_field _ _ 2 (by omega)]; exact hc 2 _ rfl, by rw [← add_field _ _ 3 (by omega)]; exact hc 3 _ rfl, by rw [← add_field _ _ 4 (by omega)]; exact hc 4 _ rfl⟩

/-! #### struct type 26 -/
structure S26 where
 f0 : Int
 f1 : Int
 f2 : (List S63)
 f3 : (List Int)
def k26 : Kd S26 := Kd.iso (Kd.pair (Kd.int .i64) (Kd.pair (Kd.int .i64) (Kd.pair (Kd.slice 63 k63) (Kd.slice 3 (Kd.int .i64))))) (fun x : S26 => (x.f0, x.f1, x.f2, x.f3))
/-! #### struct type 28 -/
structure S28 where
 f0 : Int
 f1 : Int
 f2 : (List S48)
 f3 : S26
 f4 : S26
 f5 : S26
def k28 : Kd S28 := Kd.iso (Kd.pair (Kd.int .i64) (Kd.pair (Kd.int .i64) (Kd.pair (Kd.slice 48 k48) (Kd.pair k26 (Kd.pair k26 k26))))) (fun x : S28 => (x.f0, x.f1, x.f2, x.f3, x.f4, x.f5))
/-! #### struct type 39 -/
structure S39 where
 f0 : (List Int)
 f1 : Int
end Go.Proofs.Ytccbdcbeinkjgaa.XA
end

section
namespace Go.Proofs.Ytccbdcbeinkjgaa.XA
open Go.Proofs.Ytccbdcbeinkjgaa.Lift Go.RowKit Go.Proofs.YtccbdcbeinkjgaaW.PrintWords Go.Proofs.YtccbdcbeinkjgaaW.PrintLast Go.Proofs.YtccbdcbeinkjgaaW.PrintMore
attribute [local go_sem] max2_int min2_int max_two min_two max_three min_three max_four min_four
set_option linter.unusedVariables false
set_option linter.unusedSimpArgs false

theorem eqA43 (d : Nat) (w : World) (x0 y0 : Int) (x1 y1 : Int) :
  (Op.equalIn (d + 2) 43 (.agg #[.int .i64 x0, .int .i64 x1]) (.agg #[.int .i64 y0, .int .i64 y1])).run Try.prog w = .ok (x0 == y0 && (x1 == y1)) w := by
 refine eqA_of Try.underlying43 zk ?_
 refine eqf_cons (by rfl) (by go_simp; rfl) (by go_simp; rfl) (by go_simp) ?_
 exact eqf_last (by rfl) (by go_simp; rfl) (by go_simp; rfl) (by go_simp)
end Go.Proofs.Ytccbdcbeinkjgaa.XA
end

section
namespace Go.Proofs.Ytccbdcbeinkjgaa.XA
open Go.Proofs.Ytccbdcbeinkjgaa.Lift Go.RowKit Go.Proofs.YtccbdcbeinkjgaaW.PrintWords Go.Proofs.YtccbdcbeinkjgaaW.PrintLast Go.Proofs.YtccbdcbeinkjgaaW.PrintMore
attribute [local go_sem] max2_int min2_int max_two min_two max_three min_three max_four min_four
set_option linter.unusedVariables false
set_option linter.unusedSimpArgs false

/-! ### code_programs: function 27 -/
/-- A state of type 28 at block g of W; what its slices lead to came in by w0. -/
def IsS28 (w0 W : World) (g : Nat) (f0 : Int) (f1 : Int) (f2 : List (S48)) (f3 : Int) (f4 : Int) (f5 : List (S63)) (f6 : List Int) (f7 : Int) (f8 : Int) (f9 : List (S63)) (f10 : List Int) (f11 : Int) (f12 : Int) (f13 : List (S63)) (f14 : List Int) : Prop := ∃ A2 c2, ∃ A5 c5, ∃ A6 c6, ∃ A9 c9, ∃ A10 c10, ∃ A13 c13, ∃ A14 c14, W.heap[g]? = some (.cells #[.int .i64 f0, .int .i64 f1, .slice A2 f2.length c2, .int .i64 f3, .int .i64 f4, .slice A5 f5.length c5, .slice A6 f6.length c6, .int .i64 f7, .int .i64 f8, .slice A9 f9.length c9, .slice A10 f10.length c10, .int .i64 f11, .int .i64 f12, .slice A13 f13.length c13, .slice A14 f14.length c14] 28 (0, 0)) ∧ w0.heap.size ≤ g ∧ Kd.C k48 w0 A2 f2.length f2 ∧ Kd.C k63 w0 A5 f5.length f5 ∧ Kd.C (Kd.int .i64) w0 A6 f6.length f6 ∧ Kd.C k63 w0 A9 f9.length f9 ∧ Kd.C (Kd.int .i64) w0 A10 f10.length f10 ∧ Kd.C k63 w0 A13 f13.length f13 ∧ Kd.C (Kd.int .i64) w0 A14 f14.length f14
theorem IsS28.grown {w0 W : World} {g : Nat} {f0 : Int} {f1 : Int} {f2 : List (S48)} {f3 : Int} {f4 : Int} {f5 : List (S63)} {f6 : List Int} {f7 : Int} {f8 : Int} {f9 : List (S63)} {f10 : List Int} {f11 : Int} {f12 : Int} {f13 : List (S63)} {f14 : List Int} {W1 : World} {row : Option Nat} (h : IsS28 w0 W g f0 f1 f2 f3 f4 f5 f6 f7 f8 f9 f10 f11 f12 f13 f14) (hw : W.grownBy W1 row) (hne : some g ≠ row) : IsS28 w0 W1 g f0 f1 f2 f3 f4 f5 f6 f7 f8 f9 f10 f11 f12 f13 f14 := by
 obtain ⟨A2, c2, A5, c5, A6, c6, A9, c9, A10, c10, A13, c13, A14, c14, hb, hg, hr2, hr5, hr6, hr9, hr10, hr13, hr14⟩ := h
 exact ⟨A2, c2, A5, c5, A6, c6, A9, c9, A10, c10, A13, c13, A14, c14, blk_grown hb hw hne, hg, hr2, hr5, hr6, hr9, hr10, hr13, hr14⟩
theorem IsS28.kept {w0 W : World} {g : Nat} {f0 : Int} {f1 : Int} {f2 : List (S48)} {f3 : Int} {f4 : Int} {f5 : List (S63)} {f6 : List Int} {f7 : Int} {f8 : Int} {f9 : List (S63)} {f10 : List Int} {f11 : Int} {f12 : Int} {f13 : List (S63)} {f14 : List Int} {W1 : World} {S : Nat → Prop} (h : IsS28 w0 W g f0 f1 f2 f3 f4 f5 f6 f7 f8 f9 f10 f11 f12 f13 f14) (hk : Kept W W1 S) (hne : ¬ S g) : IsS28 w0 W1 g f0 f1 f2 f3 f4 f5 f6 f7 f8 f9 f10 f11 f12 f13 f14 := by
 obtain ⟨A2, c2, A5, c5, A6, c6, A9, c9, A10, c10, A13, c13, A14, c14, hb, hg, hr2, hr5, hr6, hr9, hr10, hr13, hr14⟩ := h
 exact ⟨A2, c2, A5, c5, A6, c6, A9, c9, A10, c10, A13, c13, A14, c14, blk_kept hb hk hne, hg, hr2, hr5, hr6, hr9, hr10, hr13, hr14⟩
theorem IsS28.below {w0 W : World} {g : Nat} {f0 : Int} {f1 : Int} {f2 : List (S48)} {f3 : Int} {f4 : Int} {f5 : List (S63)} {f6 : List Int} {f7 : Int} {f8 : Int} {f9 : List (S63)} {f10 : List Int} {f11 : Int} {f12 : Int} {f13 : List (S63)} {f14 : List Int} {W1 : World} (h : IsS28 w0 W g f0 f1 f2 f3 f4 f5 f6 f7 f8 f9 f10 f11 f12 f13 f14) (hw : Below W.heap.size W W1) : IsS28 w0 W1 g f0 f1 f2 f3 f4 f5 f6 f7 f8 f9 f10 f11 f12 f13 f14 := h.grown (grown_of_below hw none) (by simp)
theorem IsS28.alloc {w0 W : World} {g : Nat} {f0 : Int} {f1 : Int} {f2 : List (S48)} {f3 : Int} {f4 : Int} {f5 : List (S63)} {f6 : List Int} {f7 : Int} {f8 : Int} {f9 : List (S63)} {f10 : List Int} {f11 : Int} {f12 : Int} {f13 : List (S63)} {f14 : List Int} (h : IsS28 w0 W g f0 f1 f2 f3 f4 f5 f6 f7 f8 f9 f10 f11 f12 f13 f14) (o : Obj) : IsS28 w0 (W.alloc o) g f0 f1 f2 f3 f4 f5 f6 f7 f8 f9 f10 f11 f12 f13 f14 := h.below (below_alloc (Below.refl _ _) o)
theorem IsS28.drewN {w0 W : World} {g : Nat} {f0 : Int} {f1 : Int} {f2 : List (S48)} {f3 : Int} {f4 : Int} {f5 : List (S63)} {f6 : List Int} {f7 : Int} {f8 : Int} {f9 : List (S63)} {f10 : List Int} {f11 : Int} {f12 : Int} {f13 : List (S63)} {f14 : List Int} (h : IsS28 w0 W g f0 f1 f2 f3 f4 f5 f6 f7 f8 f9 f10 f11 f12 f13 f14) (m : Nat) : IsS28 w0 (W.drewN m) g f0 f1 f2 f3 f4 f5 f6 f7 f8 f9 f10 f11 f12 f13 f14 := h
theorem IsS28.drew {w0 W : World} {g : Nat} {f0 : Int} {f1 : Int} {f2 : List (S48)} {f3 : Int} {f4 : Int} {f5 : List (S63)} {f6 : List Int} {f7 : Int} {f8 : Int} {f9 : List (S63)} {f10 : List Int} {f11 : Int} {f12 : Int} {f13 : List (S63)} {f14 : List Int} (h : IsS28 w0 W g f0 f1 f2 f3 f4 f5 f6 f7 f8 f9 f10 f11 f12 f13 f14) : IsS28 w0 W.drew g f0 f1 f2 f3 f4 f5 f6 f7 f8 f9 f10 f11 f12 f13 f14 := h
theorem IsS28.at_ {w0 W : World} {g : Nat} {f0 : Int} {f1 : Int} {f2 : List (S48)} {f3 : Int} {f4 : Int} {f5 : List (S63)} {f6 : List Int} {f7 : Int} {f8 : Int} {f9 : List (S63)} {f10 : List Int} {f11 : Int} {f12 : Int} {f13 : List (S63)} {f14 : List Int} {w' : World} {m : Nat} (hq : W.drewN m = w') (h : IsS28 w0 W g f0 f1 f2 f3 f4 f5 f6 f7 f8 f9 f10 f11 f12 f13 f14) : IsS28 w0 w' g f0 f1 f2 f3 f4 f5 f6 f7 f8 f9 f10 f11 f12 f13 f14 := by subst hq; exact IsS28.drewN h m
theorem IsS28.own_ne {w0 W : World} {g : Nat} {f0 : Int} {f1 : Int} {f2 : List (S48)} {f3 : Int} {f4 : Int} {f5 : List (S63)} {f6 : List Int} {f7 : Int} {f8 : Int} {f9 : List (S63)} {f10 : List Int} {f11 : Int} {f12 : Int} {f13 : List (S63)} {f14 : List Int} {α : Type} {d : Kd α} {e : Nat} {base : Nat} {ok : Nat → Prop} {v : Value} {xs : List α} (h : IsS28 w0 W g f0 f1 f2 f3 f4 f5 f6 f7 f8 f9 f10 f11 f12 f13 f14) (ho : d.R e W base ok v xs) (ht : e ≠ 28) : some g ≠ v.ownBlock := by
 obtain ⟨A2, c2, A5, c5, A6, c6, A9, c9, A10, c10, A13, c13, A14, c14, hb, hg, hr2, hr5, hr6, hr9, hr10, hr13, hr14⟩ := h
 exact Kd.R_ne ho hb ht
theorem IsS28.ge {w0 W : World} {g : Nat} {f0 : Int} {f1 : Int} {f2 : List (S48)} {f3 : Int} {f4 : Int} {f5 : List (S63)} {f6 : List Int} {f7 : Int} {f8 : Int} {f9 : List (S63)} {f10 : List Int} {f11 : Int} {f12 : Int} {f13 : List (S63)} {f14 : List Int} (h : IsS28 w0 W g f0 f1 f2 f3 f4 f5 f6 f7 f8 f9 f10 f11 f12 f13 f14) : w0.heap.size ≤ g := by
 obtain ⟨A2, c2, A5, c5, A6, c6, A9, c9, A10, c10, A13, c13, A14, c14, hb, hg, hr2, hr5, hr6, hr9, hr10, hr13, hr14⟩ := h
 exact hg
theorem IsS28.far {w0 W : World} {g : Nat} {f0 : Int} {f1 : Int} {f2 : List (S48)} {f3 : Int} {f4 : Int} {f5 : List (S63)} {f6 : List Int} {f7 : Int} {f8 : Int} {f9 : List (S63)} {f10 : List Int} {f11 : Int} {f12 : Int} {f13 : List (S63)} {f14 : List Int} {p : Addr} (h : IsS28 w0 W g f0 f1 f2 f3 f4 f5 f6 f7 f8 f9 f10 f11 f12 f13 f14) (hne : g ≠ p.block) (u : Value) : IsS28 w0 (W.setCell p u) g f0 f1 f2 f3 f4 f5 f6 f7 f8 f9 f10 f11 f12 f13 f14 := by
 obtain ⟨A2, c2, A5, c5, A6, c6, A9, c9, A10, c10, A13, c13, A14, c14, hb, hg, hr2, hr5, hr6, hr9, hr10, hr13, hr14⟩ := h
 exact ⟨A2, c2, A5, c5, A6, c6, A9, c9, A10, c10, A13, c13, A14, c14, blk_far hb hne u, hg, hr2, hr5, hr6, hr9, hr10, hr13, hr14⟩
theorem IsS28.set_1 {w0 W : World} {g : Nat} {f0 : Int} {f1 : Int} {f2 : List (S48)} {f3 : Int} {f4 : Int} {f5 : List (S63)} {f6 : List Int} {f7 : Int} {f8 : Int} {f9 : List (S63)} {f10 : List Int} {f11 : Int} {f12 : Int} {f13 : List (S63)} {f14 : List Int} (h : IsS28 w0 W g f0 f1 f2 f3 f4 f5 f6 f7 f8 f9 f10 f11 f12 f13 f14) (x : Int) : IsS28 w0 (W.setCell ⟨g, 1, none⟩ (.int .i64 x)) g f0 x f2 f3 f4 f5 f6 f7 f8 f9 f10 f11 f12 f13 f14 := by
 obtain ⟨A2, c2, A5, c5, A6, c6, A9, c9, A10, c10, A13, c13, A14, c14, hb, hg, hr2, hr5, hr6, hr9, hr10, hr13, hr14⟩ := h
 exact ⟨A2, c2, A5, c5, A6, c6, A9, c9, A10, c10, A13, c13, A14, c14, by simpa using blk_set hb 1 (.int .i64 x), hg, hr2, hr5, hr6, hr9, hr10, hr13, hr14⟩
theorem IsS28.new (w0 W : World) (A2 : Option Addr) (c2 : Nat) (A5 : Option Addr) (c5 : Nat) (A6 : Option Addr) (c6 : Nat) (A9 : Option Addr) (c9 : Nat) (A10 : Option Addr) (c10 : Nat) (A13 : Option Addr) (c13 : Nat) (A14 : Option Addr) (c14 : Nat) (f0 : Int) (f1 : Int) (f2 : List (S48)) (f3 : Int) (f4 : Int) (f5 : List (S63)) (f6 : List Int) (f7 : Int) (f8 : Int) (f9 : List (S63)) (f10 : List Int) (f11 : Int) (f12 : Int) (f13 : List (S63)) (f14 : List Int) (hB : Below w0.heap.size w0 W) (hr2 : Kd.C k48 w0 A2 f2.length f2) (hr5 : Kd.C k63 w0 A5 f5.length f5) (hr6 : Kd.C (Kd.int .i64) w0 A6 f6.length f6) (hr9 : Kd.C k63 w0 A9 f9.length f9) (hr10 : Kd.C (Kd.int .i64) w0 A10 f10.length f10) (hr13 : Kd.C k63 w0 A13 f13.length f13) (hr14 : Kd.C (Kd.int .i64) w0 A14 f14.length f14) : IsS28 w0 (W.alloc (.cells #[.int .i64 f0, .int .i64 f1, .slice A2 f2.length c2, .int .i64 f3, .int .i64 f4, .slice A5 f5.length c5, .slice A6 f6.length c6, .int .i64 f7, .int .i64 f8, .slice A9 f9.length c9, .slice A10 f10.length c10, .int .i64 f11, .int .i64 f12, .slice A13 f13.length c13, .slice A14 f14.length c14] 28)) W.heap.size f0 f1 f2 f3 f4 f5 f6 f7 f8 f9 f10 f11 f12 f13 f14 := ⟨A2, c2, A5, c5, A6, c6, A9, c9, A10, c10, A13, c13, A14, c14, by simpa using heap_alloc_new W _, hB.size, hr2, hr5, hr6, hr9, hr10, hr13, hr14⟩
--IMPORT Derived.StillTailTactics
/-- The addresses of a unit's three programs. -/
def code_programs.f (_a : Int) : Option Int := some 0
set_option maxHeartbeats 8000000 in
set_option maxRecDepth 100000 in
theorem code_programs.calls (_a : Int) (r : Int) (g : Nat) (w : World) (_h : code_programs.f _a = some r) :
  Calls Try.prog 27 #[.pointer (some ⟨g, 0, none⟩)] w fun e w' => e = .returned (.agg #[.pointer (some ⟨g, 3, none⟩), .pointer (some ⟨g, 7, none⟩), .pointer (some ⟨g, 11, none⟩)]) ∧ Below w.heap.size w w' := by
 have hu28 := Try.underlying28
 have hu58 := Try.underlying58
 go_enter Try.func27, Try.ntmps27
 go_wp2_with (first | ((with_reducible refine gate_dst (N := 2) rfl ?_); (try (refine gate_guard (by rfl) ?_; dsimp only)); refine box_event rfl (N := 2) rfl (cs := #[.pointer none, .pointer none, .pointer none]) (t := 58) zG ?_; intro gb hg w1 hbox hb))
 go_still_tail 10, zk
 subst hg
 have hbx := blk_drew hbox
 have hb2 := below_drew1 hb
 change wpList _ _ _ _ _ w1.drew
 generalize w1.drew = w2 at hbx hb2
 have qM : w2.cell? ⟨w.heap.size, 0, none⟩ = some (.pointer none) := (blk_cell hbx 0).trans rfl
 have qN : w2.cell? ⟨w.heap.size, 1, none⟩ = some (.pointer none) := (blk_cell hbx 1).trans rfl
 have qO : w2.cell? ⟨w.heap.size, 2, none⟩ = some (.pointer none) := (blk_cell hbx 2).trans rfl
 have qP := blk_frozen hbx 0
 have qQ := blk_frozen hbx 1
 have qR := blk_frozen hbx 2
 go_wp2
 have hbx1 := blk_put (cs' := #[.pointer (some ⟨g, 3, none⟩), .pointer none, .pointer none]) hbx 0 (.pointer (some ⟨g, 3, none⟩)) rfl
 have hbx2 := blk_put (cs' := #[.pointer (some ⟨g, 3, none⟩), .pointer (some ⟨g, 7, none⟩), .pointer none]) hbx1 1 (.pointer (some ⟨g, 7, none⟩)) rfl
 have hbx3 := blk_put (cs' := #[.pointer (some ⟨g, 3, none⟩), .pointer (some ⟨g, 7, none⟩), .pointer (some ⟨g, 11, none⟩)]) hbx2 2 (.pointer (some ⟨g, 11, none⟩)) rfl
 have hbe := below_set (j := 2) (v := .pointer (some ⟨g, 11, none⟩)) (below_set (j := 1) (v := .pointer (some ⟨g, 7, none⟩)) (below_set (j := 0) (v := .pointer (some ⟨g, 3, none⟩)) hb2 (Nat.le_refl _)) (Nat.le_refl _)) (Nat.le_refl _)
 refine bodyPost_ret (v := .agg #[.pointer (some ⟨g, 3, none⟩), .pointer (some ⟨g, 7, none⟩), .pointer (some ⟨g, 11, none⟩)]) ?_ rfl ⟨rfl, hbe⟩
 have h1 : Try.f27.results = #[.cell 2 58] := rfl
 have hi : (Try.prog.info? 58).map (·.size) = some 3 := by kernel_rfl
 simp [results, h1, asAddr, run_loadVar_row _ _ 58 58 _ (0, 0) _ hbx3 hu58 rfl hi]

/-! ### point_within: function 57 -/
def point_within.f (a0 : Int) : Option (Bool) := if a0 ≥ (-16) then (some (decide (a0 ≤ 16))) else (some false)
set_option maxHeartbeats 8000000 in
set_option maxRecDepth 100000 in
theorem point_within.calls (a0 : Int) (r : Bool) (w : World) (h : point_within.f a0 = some r) :
  Calls Try.prog 57 #[.int .i64 a0] w fun e w' => e = .returned (.bool r) ∧ Drawn0 w w' := by
 have H : (if a0 ≥ (-16) then (some (decide (a0 ≤ 16))) else (some false)) = some r := h
 clear h
 by_cases c2 : a0 ≥ (-16)
 ·rw [if_pos c2] at H
  have c2b0 := decide_eq_true c2
  clear c2
  obtain rfl := Option.some.inj H
  go_enter Try.func57, Try.ntmps57
  go_wp2
  go_ret
  exact ⟨zT, by repeat (first | exact Drawn0.refl _ | apply Drawn0.step)⟩
 ·rw [if_neg c2] at H
  have c2b0 := decide_eq_false c2
  clear c2
  obtain rfl := Option.some.inj H
  go_enter Try.func57, Try.ntmps57
  go_wp2
  go_ret
  exact ⟨zT, by repeat (first | exact Drawn0.refl _ | apply Drawn0.step)⟩

/-! ### point_In: function 38 -/
def point_In.f (qA : Int) (qB : Int) : Option (Bool) := (point_within.f qA).bind fun qF => (if qF = true then ((point_within.f qB).bind fun qC => (some qC)) else (some false))
set_option maxHeartbeats 8000000 in
set_option maxRecDepth 100000 in
theorem point_In.calls (qA : Int) (qB : Int) (r : Bool) (w : World) (h : point_In.f qA qB = some r) :
  Calls Try.prog 38 #[.agg #[.int .i64 qA, .int .i64 qB]] w fun e w' => e = .returned (.bool r) ∧ Below w.heap.size w w' := by
 have hu48 := Try.underlying48
 have HB := aM (Below.refl w.heap.size w)
 have H : ((point_within.f qA).bind fun qF => (if qF = true then ((point_within.f qB).bind fun qC => (some qC)) else (some false))) = some r := h
 clear h
 replace H := Option.bind_eq_some_iff.mp H
 obtain ⟨qF, A20, H⟩ := H
 replace H : (if qF = true then ((point_within.f qB).bind fun qC => (some qC)) else (some false)) = some r := H
 have A2 := aM A20
 clear A20
 by_cases c3 : qF = true
 ·subst c3
  have H1 : ((point_within.f qB).bind fun qC => (some qC)) = some r := by rw [if_pos rfl] at H; exact H
  clear H
  have H := H1
  clear H1
  replace H := Option.bind_eq_some_iff.mp H
  obtain ⟨qC, A40, H⟩ := H
  replace H : (some qC) = some r := H
  have A4 := aM A40
  clear A40
  obtain rfl := Option.some.inj H
  go_enter Try.func38, Try.ntmps38
  go_wp2_with (first | ((with_reducible refine gate_dst (N := 1) rfl ?_); refine box_event rfl (N := 1) rfl (cs := #[.int .i64 qA, .int .i64 qB]) (t := 48) zG ?_; intro qD hg w5 hbox hb; have qE := aM (hbox); have qG := aM ((by rw [hg]; exact (below_size (lB HB)) : w.heap.size ≤ qD)); have qH := aM ((by rw [hg]; exact (below_size (lB HB)) : w.heap.size ≤ qD)); replace HB := aM (below_step (lB HB) hb); clear hb hbox hg; have qI := zc2 qE.out; have qJ := fun i_ : Nat => blk_frozen qE.out i_) | ((with_reducible refine gate_callee (f := 57) rfl ?_); refine goesL_ (some 5) rfl rfl Try.func57 zk rfl #[.int .i64 qA] rfl zA ?_; (with_reducible refine (point_within.calls qA true _ A2.out).mono ?_); rintro e w' ⟨rfl, ⟨nd, rfl⟩⟩; refine ⟨_, rfl, ?_⟩) | (go_at_call 57; (with_reducible refine (point_within.calls qB qC _ A4.out).mono ?_); rintro e w' ⟨rfl, ⟨nd, rfl⟩⟩))
  go_ret
  exact ⟨zE, zB HB⟩
 ·replace c3 := Bool.eq_false_iff.mpr c3
  subst c3
  have H1 : (some false) = some r := by rw [if_neg (show ¬ (false = true) by decide)] at H; exact H
  clear H
  have H := H1
  clear H1
  obtain rfl := Option.some.inj H
  go_enter Try.func38, Try.ntmps38
  go_wp2_with (first | ((with_reducible refine gate_dst (N := 1) rfl ?_); refine box_event rfl (N := 1) rfl (cs := #[.int .i64 qA, .int .i64 qB]) (t := 48) zG ?_; intro qD hg w7 hbox hb; have qE := aM (hbox); have qG := aM ((by rw [hg]; exact (below_size (lB HB)) : w.heap.size ≤ qD)); have qH := aM ((by rw [hg]; exact (below_size (lB HB)) : w.heap.size ≤ qD)); replace HB := aM (below_step (lB HB) hb); clear hb hbox hg; have qK := zc2 qE.out; have qL := fun i_ : Nat => blk_frozen qE.out i_) | ((with_reducible refine gate_callee (f := 57) rfl ?_); refine goesL_ (some 5) rfl rfl Try.func57 zk rfl #[.int .i64 qA] rfl zA ?_; (with_reducible refine (point_within.calls qA false _ A2.out).mono ?_); rintro e w' ⟨rfl, ⟨nd, rfl⟩⟩; refine ⟨_, rfl, ?_⟩))
  go_ret
  exact ⟨zE, zB HB⟩

/-! ### prog_two: function 65 -/
def prog_two.f (a0 : Int) : Option (Bool) := if a0 = 3 then (some true) else (some (a0 == 4))
set_option maxHeartbeats 8000000 in
set_option maxRecDepth 100000 in
theorem prog_two.calls (a0 : Int) (r : Bool) (w : World) (h : prog_two.f a0 = some r) :
  Calls Try.prog 65 #[.int .i64 a0] w fun e w' => e = .returned (.bool r) ∧ Drawn0 w w' := by
 have H : (if a0 = 3 then (some true) else (some (a0 == 4))) = some r := h
 clear h
 by_cases c2 : a0 = 3
 ·rw [if_pos c2] at H
  have c2b0 : (a0 == 3) = true := beq_iff_eq.mpr c2
  have c2b1 : (a0 != 3) = false := bne_eq_false_iff_eq.mpr c2
  clear c2
  obtain rfl := Option.some.inj H
  go_enter Try.func65, Try.ntmps65
  go_wp2
  go_ret
  exact ⟨zT, by repeat (first | exact Drawn0.refl _ | apply Drawn0.step)⟩
 ·rw [if_neg c2] at H
  have c2b0 : (a0 == 3) = false := beq_eq_false_iff_ne.mpr c2
  have c2b1 : (a0 != 3) = true := bne_iff_ne.mpr c2
  obtain rfl := Option.some.inj H
  go_enter Try.func65, Try.ntmps65
  go_wp2
  go_ret
  exact ⟨zT, by repeat (first | exact Drawn0.refl _ | apply Drawn0.step)⟩

end Go.Proofs.Ytccbdcbeinkjgaa.XA
end

section
namespace Go.Proofs.Ytccbdcbeinkjgaa.XA
open Go.Proofs.Ytccbdcbeinkjgaa.Lift Go.RowKit Go.Proofs.YtccbdcbeinkjgaaW.PrintWords Go.Proofs.YtccbdcbeinkjgaaW.PrintLast Go.Proofs.YtccbdcbeinkjgaaW.PrintMore
attribute [local go_sem] max2_int min2_int max_two min_two max_three min_three max_four min_four
set_option linter.unusedVariables false
set_option linter.unusedSimpArgs false

/-! ### prog_constant: function 66 -/
def prog_constant.j0 : Nat → Int → Bool → Int → Int → Int → Int → Int → Option (Bool)
 | 0, _, _, _, _, _, _, _ => none
 | k + 1, x4, x5, qJ, qK, qL, qM, qD => if x5 = true then (if qD = 0 then (some false) else (if qD ≥ (-512) then (some (decide (qD ≤ 512))) else (some false))) else (if x4 = 7 then (if qD ≥ 1 then (some (decide (qD ≤ 64))) else (some false)) else (if x4 = 8 then (if qD ≥ 1 then (some (decide (qD ≤ 64))) else (some false)) else (some (qD == 0))))
def prog_constant.f (k : Nat) (qA : Int) (qE : Int) (qF : Int) (qG : Int) (qC : Int) : Option (Bool) := if qA = 5 then (prog_constant.j0 k qA (qA == 5) qA qE qF qG qC) else (prog_constant.j0 k qA (qA == 6) qA qE qF qG qC)
theorem prog_constant.mono_l : ∀ k, (∀ y0 y1 y2 y3 y4 y5 y6, LeO (prog_constant.j0 k y0 y1 y2 y3 y4 y5 y6) (prog_constant.j0 (k + 1) y0 y1 y2 y3 y4 y5 y6))
 | 0 => fun _ _ _ _ _ _ _ r h => by simp [prog_constant.j0] at h
 | k + 1 => by
  have ih0 := prog_constant.mono_l k
  ·intro y0 y1 y2 y3 y4 y5 y6
   unfold prog_constant.j0
   exact zM
theorem prog_constant.mono : ∀ a0 a1 a2 a3 a4 k, LeO (prog_constant.f k a0 a1 a2 a3 a4) (prog_constant.f (k + 1) a0 a1 a2 a3 a4) := by
 intro a0 a1 a2 a3 a4 k
 have ih0 := prog_constant.mono_l k
 unfold prog_constant.f
 exact zM
set_option maxHeartbeats 8000000 in
set_option maxRecDepth 100000 in
theorem prog_constant.calls (k : Nat) (qA : Int) (qE : Int) (qF : Int) (qG : Int) (qC : Int) (r : Bool) (w : World) (h : prog_constant.f k qA qE qF qG qC = some r) :
  Calls Try.prog 66 #[.agg #[.int .i64 qA, .int .i64 qE, .int .i64 qF, .int .i64 qG, .int .i64 qC]] w fun e w' => e = .returned (.bool r) ∧ Below w.heap.size w w' := by
 have hu63 := Try.underlying63
 have HB := aM (Below.refl w.heap.size w)
 have H : (if qA = 5 then (prog_constant.j0 k qA (qA == 5) qA qE qF qG qC) else (prog_constant.j0 k qA (qA == 6) qA qE qF qG qC)) = some r := h
 clear h
 have HC2 := aM H
 clear H
 go_enter Try.func66, Try.ntmps66
 go_upto_if 5 with (first | ((with_reducible refine gate_dst (N := 1) rfl ?_); refine box_event rfl (N := 1) rfl (cs := #[.int .i64 qA, .int .i64 qE, .int .i64 qF, .int .i64 qG, .int .i64 qC]) (t := 63) zG ?_; intro qH hg w3 hbox hb; have qB := aM (hbox); have qf := aM ((by rw [hg]; exact (below_size (lB HB)) : w.heap.size ≤ qH)); have qg := aM ((by rw [hg]; exact (below_size (lB HB)) : w.heap.size ≤ qH)); replace HB := aM (below_step (lB HB) hb); clear hb hbox hg; have qb := zc5 qB.out; have qc := fun i_ : Nat => blk_frozen qB.out i_))
 (try simp only [Act.put, List.setIfInBounds_toArray, List.set_cons_zero, List.set_cons_succ])
 go_cut [5] (fun v5 wc => ∃ (kq : Nat) (qI : Bool), v5 = .bool qI ∧ Aside0 (prog_constant.j0 kq qA qI qA qE qF qG qC = some r) ∧ Aside0 (kq ≤ k) ∧ Aside0 (wc.heap[qH]? = some (.cells #[.int .i64 qA, .int .i64 qE, .int .i64 qF, .int .i64 qG, .int .i64 qC] 63 (0, 0))) ∧ Aside0 (Below w.heap.size w wc))
 case first =>
  have H := HC2.out
  clear HC2
  by_cases c5 : qA = 5
  ·rw [if_pos c5] at H
   have c5b0 : (qA == 5) = true := beq_iff_eq.mpr c5
   have c5b1 : (qA != 5) = false := bne_eq_false_iff_eq.mpr c5
   clear c5
   (first | rw [c5b0] | (simp only [i64_w, i32_w]; rw [c5b0]) | skip)
   have H' := aM H
   clear H
   go_wp2
   go_meet
   case rel => exact ⟨_, ((qA == 5)), zT, H', ⟨zO⟩, ⟨zb qB⟩, ⟨zB HB⟩⟩
  ·rw [if_neg c5] at H
   have c5b0 : (qA == 5) = false := beq_eq_false_iff_ne.mpr c5
   have c5b1 : (qA != 5) = true := bne_iff_ne.mpr c5
   (first | rw [c5b0] | (simp only [i64_w, i32_w]; rw [c5b0]) | skip)
   have H' := aM H
   clear H
   go_wp2
   go_meet
   case rel => exact ⟨_, ((qA == 6)), zT, H', ⟨zO⟩, ⟨zb qB⟩, ⟨zB HB⟩⟩
 case rest =>
  clear HC2
  obtain ⟨kq, qI, rfl, HA, HJ1, qB, HB⟩ := hcut
  cases kq with
  | zero => exact absurd HA.out (by simp [prog_constant.j0])
  | succ kj1 =>
   have H := HA.out
   clear HA
   simp only [prog_constant.j0] at H
   by_cases c6 : qI = true
   ·subst c6
    have H1 : (if qC = 0 then (some false) else (if qC ≥ (-512) then (some (decide (qC ≤ 512))) else (some false))) = some r := by rw [if_pos rfl] at H; exact H
    clear H
    have H := H1
    clear H1
    by_cases c7 : qC = 0
    ·rw [if_pos c7] at H
     have c7b0 : (qC == 0) = true := beq_iff_eq.mpr c7
     have c7b1 : (qC != 0) = false := bne_eq_false_iff_eq.mpr c7
     clear c7
     obtain rfl := Option.some.inj H
     have qd := zc5 qB.out
     have qe := fun i_ : Nat => blk_frozen qB.out i_
     go_wp2
     go_ret
     exact ⟨zE, zB HB⟩
    ·rw [if_neg c7] at H
     have c7b0 : (qC == 0) = false := beq_eq_false_iff_ne.mpr c7
     have c7b1 : (qC != 0) = true := bne_iff_ne.mpr c7
     by_cases c9 : qC ≥ (-512)
     ·rw [if_pos c9] at H
      have c9b0 := decide_eq_true c9
      clear c9
      obtain rfl := Option.some.inj H
      have qN := zc5 qB.out
      have qO := fun i_ : Nat => blk_frozen qB.out i_
      go_wp2
      go_ret
      exact ⟨zE, zB HB⟩
     ·rw [if_neg c9] at H
      have c9b0 := decide_eq_false c9
      clear c9
      obtain rfl := Option.some.inj H
      have qP := zc5 qB.out
      have qQ := fun i_ : Nat => blk_frozen qB.out i_
      go_wp2
      go_ret
      exact ⟨zE, zB HB⟩
   ·replace c6 := Bool.eq_false_iff.mpr c6
    subst c6
    have H1 : (if qA = 7 then (if qC ≥ 1 then (some (decide (qC ≤ 64))) else (some false)) else (if qA = 8 then (if qC ≥ 1 then (some (decide (qC ≤ 64))) else (some false)) else (some (qC == 0)))) = some r := by rw [if_neg (show ¬ (false = true) by decide)] at H; exact H
    clear H
    have H := H1
    clear H1
    by_cases c12 : qA = 7
    ·rw [if_pos c12] at H
     have c12b0 : (qA == 7) = true := beq_iff_eq.mpr c12
     have c12b1 : (qA != 7) = false := bne_eq_false_iff_eq.mpr c12
     clear c12
     by_cases c13 : qC ≥ 1
     ·rw [if_pos c13] at H
      have c13b0 := decide_eq_true c13
      clear c13
      obtain rfl := Option.some.inj H
      have qR := zc5 qB.out
      have qS := fun i_ : Nat => blk_frozen qB.out i_
      go_wp2
      go_ret
      exact ⟨zE, zB HB⟩
     ·rw [if_neg c13] at H
      have c13b0 := decide_eq_false c13
      clear c13
      obtain rfl := Option.some.inj H
      have qT := zc5 qB.out
      have qU := fun i_ : Nat => blk_frozen qB.out i_
      go_wp2
      go_ret
      exact ⟨zE, zB HB⟩
    ·rw [if_neg c12] at H
     have c12b0 : (qA == 7) = false := beq_eq_false_iff_ne.mpr c12
     have c12b1 : (qA != 7) = true := bne_iff_ne.mpr c12
     by_cases c16 : qA = 8
     ·rw [if_pos c16] at H
      have c16b0 : (qA == 8) = true := beq_iff_eq.mpr c16
      have c16b1 : (qA != 8) = false := bne_eq_false_iff_eq.mpr c16
      clear c16
      by_cases c17 : qC ≥ 1
      ·rw [if_pos c17] at H
       have c17b0 := decide_eq_true c17
       clear c17
       obtain rfl := Option.some.inj H
       have qV := zc5 qB.out
       have qW := fun i_ : Nat => blk_frozen qB.out i_
       go_wp2
       go_ret
       exact ⟨zE, zB HB⟩
      ·rw [if_neg c17] at H
       have c17b0 := decide_eq_false c17
       clear c17
       obtain rfl := Option.some.inj H
       have qX := zc5 qB.out
       have qY := fun i_ : Nat => blk_frozen qB.out i_
       go_wp2
       go_ret
       exact ⟨zE, zB HB⟩
     ·rw [if_neg c16] at H
      have c16b0 : (qA == 8) = false := beq_eq_false_iff_ne.mpr c16
      have c16b1 : (qA != 8) = true := bne_iff_ne.mpr c16
      obtain rfl := Option.some.inj H
      have qZ := zc5 qB.out
      have qa := fun i_ : Nat => blk_frozen qB.out i_
      go_wp2
      go_ret
      exact ⟨zE, zB HB⟩

end Go.Proofs.Ytccbdcbeinkjgaa.XA
end

section
namespace Go.Proofs.Ytccbdcbeinkjgaa.XA
open Go.Proofs.Ytccbdcbeinkjgaa.Lift Go.RowKit Go.Proofs.YtccbdcbeinkjgaaW.PrintWords Go.Proofs.YtccbdcbeinkjgaaW.PrintLast Go.Proofs.YtccbdcbeinkjgaaW.PrintMore
attribute [local go_sem] max2_int min2_int max_two min_two max_three min_three max_four min_four
set_option linter.unusedVariables false
set_option linter.unusedSimpArgs false

/-! ### prog_Asks: function 67 -/
def prog_Asks.j0 : Nat → Int → Bool → Int → Int → Int → Int → Int → Option (List Int)
 | 0, _, _, _, _, _, _, _ => none
 | k + 1, x4, x5, qR, qS, qE, qJ, qT => if x5 = true then (some (([qE, qJ] : List Int))) else (if x4 = 1 then (some (([qE] : List Int))) else (if x4 = 2 then (some (([qE] : List Int))) else (if x4 = 5 then (some (([qE] : List Int))) else (if x4 = 6 then (some (([qE] : List Int))) else (if x4 = 7 then (some (([qE] : List Int))) else (if x4 = 8 then (some (([qE] : List Int))) else (some ([] : List Int))))))))
def prog_Asks.f (k : Nat) (qA : Int) (qG : Int) (qB : Int) (qD : Int) (qH : Int) : Option (List Int) := if qA = 3 then (prog_Asks.j0 k qA (qA == 3) qA qG qB qD qH) else (prog_Asks.j0 k qA (qA == 4) qA qG qB qD qH)
theorem prog_Asks.mono_l : ∀ k, (∀ y0 y1 y2 y3 y4 y5 y6, LeO (prog_Asks.j0 k y0 y1 y2 y3 y4 y5 y6) (prog_Asks.j0 (k + 1) y0 y1 y2 y3 y4 y5 y6))
 | 0 => fun _ _ _ _ _ _ _ r h => by simp [prog_Asks.j0] at h
 | k + 1 => by
  have ih0 := prog_Asks.mono_l k
  ·intro y0 y1 y2 y3 y4 y5 y6
   unfold prog_Asks.j0
   exact zM
theorem prog_Asks.mono : ∀ a0 a1 a2 a3 a4 k, LeO (prog_Asks.f k a0 a1 a2 a3 a4) (prog_Asks.f (k + 1) a0 a1 a2 a3 a4) := by
 intro a0 a1 a2 a3 a4 k
 have ih0 := prog_Asks.mono_l k
 unfold prog_Asks.f
 exact zM
set_option maxHeartbeats 8000000 in
set_option maxRecDepth 100000 in
theorem prog_Asks.calls (k : Nat) (qA : Int) (qG : Int) (qB : Int) (qD : Int) (qH : Int) (r : List Int) (w : World) (h : prog_Asks.f k qA qG qB qD qH = some r) :
  Calls Try.prog 67 #[.agg #[.int .i64 qA, .int .i64 qG, .int .i64 qB, .int .i64 qD, .int .i64 qH]] w fun e w' => ∃ v0_ : Value, e = .returned (v0_) ∧ Kd.R (Kd.int .i64) 3 w' w.heap.size (fun _ => True) v0_ r ∧ Below w.heap.size w w' := by
 have hu63 := Try.underlying63
 have HB := aM (Below.refl w.heap.size w)
 have H : (if qA = 3 then (prog_Asks.j0 k qA (qA == 3) qA qG qB qD qH) else (prog_Asks.j0 k qA (qA == 4) qA qG qB qD qH)) = some r := h
 clear h
 have HC2 := aM H
 clear H
 go_enter Try.func67, Try.ntmps67
 go_upto_if 5 with (first | ((with_reducible refine gate_dst (N := 1) rfl ?_); refine box_event rfl (N := 1) rfl (cs := #[.int .i64 qA, .int .i64 qG, .int .i64 qB, .int .i64 qD, .int .i64 qH]) (t := 63) zG ?_; intro qF hg w3 hbox hb; have qC := aM (hbox); have qk := aM ((by rw [hg]; exact (below_size (lB HB)) : w.heap.size ≤ qF)); have ql := aM ((by rw [hg]; exact (below_size (lB HB)) : w.heap.size ≤ qF)); replace HB := aM (below_step (lB HB) hb); clear hb hbox hg; have qg := zc5 qC.out; have qh := fun i_ : Nat => blk_frozen qC.out i_))
 (try simp only [Act.put, List.setIfInBounds_toArray, List.set_cons_zero, List.set_cons_succ])
 go_cut [5] (fun v5 wc => ∃ (kq : Nat) (qI : Bool), v5 = .bool qI ∧ Aside0 (prog_Asks.j0 kq qA qI qA qG qB qD qH = some r) ∧ Aside0 (kq ≤ k) ∧ Aside0 (wc.heap[qF]? = some (.cells #[.int .i64 qA, .int .i64 qG, .int .i64 qB, .int .i64 qD, .int .i64 qH] 63 (0, 0))) ∧ Aside0 (Below w.heap.size w wc))
 case first =>
  have H := HC2.out
  clear HC2
  by_cases c5 : qA = 3
  ·rw [if_pos c5] at H
   have c5b0 : (qA == 3) = true := beq_iff_eq.mpr c5
   have c5b1 : (qA != 3) = false := bne_eq_false_iff_eq.mpr c5
   clear c5
   (first | rw [c5b0] | (simp only [i64_w, i32_w]; rw [c5b0]) | skip)
   have H' := aM H
   clear H
   go_wp2
   go_meet
   case rel => exact ⟨_, ((qA == 3)), zT, H', ⟨zO⟩, ⟨zb qC⟩, ⟨zB HB⟩⟩
  ·rw [if_neg c5] at H
   have c5b0 : (qA == 3) = false := beq_eq_false_iff_ne.mpr c5
   have c5b1 : (qA != 3) = true := bne_iff_ne.mpr c5
   (first | rw [c5b0] | (simp only [i64_w, i32_w]; rw [c5b0]) | skip)
   have H' := aM H
   clear H
   go_wp2
   go_meet
   case rel => exact ⟨_, ((qA == 4)), zT, H', ⟨zO⟩, ⟨zb qC⟩, ⟨zB HB⟩⟩
 case rest =>
  clear HC2
  obtain ⟨kq, qI, rfl, HA, HJ1, qC, HB⟩ := hcut
  cases kq with
  | zero => exact absurd HA.out (by simp [prog_Asks.j0])
  | succ kj1 =>
   have H := HA.out
   clear HA
   simp only [prog_Asks.j0] at H
   by_cases c6 : qI = true
   ·subst c6
    have H1 : (some (([qB, qD] : List Int))) = some r := by rw [if_pos rfl] at H; exact H
    clear H
    have H := H1
    clear H1
    obtain ⟨y106, hy106⟩ : ∃ y_ : List Int, y_ = (([qB, qD] : List Int)) := ⟨_, rfl⟩
    replace H : (some y106) = some r := zH hy106 H
    have Ny106 := aM hy106
    clear hy106
    obtain rfl := Option.some.inj H
    have qi := zc5 qC.out
    have qj := fun i_ : Nat => blk_frozen qC.out i_
    go_wp2_with (first | ((with_reducible refine gate_dst (N := 12) rfl ?_); refine Kd.R_lit (Kd.int .i64) _ 3 ?hg (N := 12) ?hd (xs := ([qB, qD] : List Int)) (inner := [.int .i64 qB, .int .i64 qD]) (ok := fun _ => True) (okp := fun _ => True) ?hr ?hp (fun _ hk => hk) trivial (Below.refl _ _) (Nat.le_refl _) (by simp) ?_; (case hd => rfl); (case hg => rfl); (case hr => first | (go_simp; done) | (go_simp; rfl)); (case hp => exact (Reps.one (show Kd.M (Kd.int .i64) _ _ _ qB [.int .i64 qB] from rfl) (Reps.one (show Kd.M (Kd.int .i64) _ _ _ qD [.int .i64 qD] from rfl) (Reps.none _ _)))); intro v107 w8 ho9 hb hg_ hnew_; clear hg_ hnew_; (first | rw [← Ny106.out] at ho9 | (simp only [Int.reduceToNat] at ho9; rw [← Ny106.out] at ho9)); have qK := aM (Kd.R_lower ho9 (below_size (zB HB))); replace qC := aM (blk_below (g := qF) (lK qC) hb); replace HB := aM (below_step (zB HB) hb); clear hb ho9))
    go_ret
    exact ⟨_, zE, by apply rX; exact qK.out, zB HB⟩
   ·replace c6 := Bool.eq_false_iff.mpr c6
    subst c6
    have H1 : (if qA = 1 then (some (([qB] : List Int))) else (if qA = 2 then (some (([qB] : List Int))) else (if qA = 5 then (some (([qB] : List Int))) else (if qA = 6 then (some (([qB] : List Int))) else (if qA = 7 then (some (([qB] : List Int))) else (if qA = 8 then (some (([qB] : List Int))) else (some ([] : List Int)))))))) = some r := by rw [if_neg (show ¬ (false = true) by decide)] at H; exact H
    clear H
    have H := H1
    clear H1
    by_cases c10 : qA = 1
    ·rw [if_pos c10] at H
     have c10b0 : (qA == 1) = true := beq_iff_eq.mpr c10
     have c10b1 : (qA != 1) = false := bne_eq_false_iff_eq.mpr c10
     clear c10
     obtain ⟨y109, hy109⟩ : ∃ y_ : List Int, y_ = (([qB] : List Int)) := ⟨_, rfl⟩
     replace H : (some y109) = some r := zH hy109 H
     have Ny109 := aM hy109
     clear hy109
     obtain rfl := Option.some.inj H
     have qU := zc5 qC.out
     have qV := fun i_ : Nat => blk_frozen qC.out i_
     go_wp2_with (first | ((with_reducible refine gate_dst (N := 22) rfl ?_); refine Kd.R_lit (Kd.int .i64) _ 3 ?hg (N := 22) ?hd (xs := ([qB] : List Int)) (inner := [.int .i64 qB]) (ok := fun _ => True) (okp := fun _ => True) ?hr ?hp (fun _ hk => hk) trivial (Below.refl _ _) (Nat.le_refl _) (by simp) ?_; (case hd => rfl); (case hg => rfl); (case hr => first | (go_simp; done) | (go_simp; rfl)); (case hp => exact (Reps.one (show Kd.M (Kd.int .i64) _ _ _ qB [.int .i64 qB] from rfl) (Reps.none _ _))); intro v110 w12 ho13 hb hg_ hnew_; clear hg_ hnew_; (first | rw [← Ny109.out] at ho13 | (simp only [Int.reduceToNat] at ho13; rw [← Ny109.out] at ho13)); have qL := aM (Kd.R_lower ho13 (below_size (zB HB))); replace qC := aM (blk_below (g := qF) (lK qC) hb); replace HB := aM (below_step (zB HB) hb); clear hb ho13))
     go_ret
     exact ⟨_, zE, by apply rX; exact qL.out, zB HB⟩
    ·rw [if_neg c10] at H
     have c10b0 : (qA == 1) = false := beq_eq_false_iff_ne.mpr c10
     have c10b1 : (qA != 1) = true := bne_iff_ne.mpr c10
     by_cases c14 : qA = 2
     ·rw [if_pos c14] at H
      have c14b0 : (qA == 2) = true := beq_iff_eq.mpr c14
      have c14b1 : (qA != 2) = false := bne_eq_false_iff_eq.mpr c14
      clear c14
      obtain ⟨y112, hy112⟩ : ∃ y_ : List Int, y_ = (([qB] : List Int)) := ⟨_, rfl⟩
      replace H : (some y112) = some r := zH hy112 H
      have Ny112 := aM hy112
      clear hy112
      obtain rfl := Option.some.inj H
      have qW := zc5 qC.out
      have qX := fun i_ : Nat => blk_frozen qC.out i_
      go_wp2_with (first | ((with_reducible refine gate_dst (N := 22) rfl ?_); refine Kd.R_lit (Kd.int .i64) _ 3 ?hg (N := 22) ?hd (xs := ([qB] : List Int)) (inner := [.int .i64 qB]) (ok := fun _ => True) (okp := fun _ => True) ?hr ?hp (fun _ hk => hk) trivial (Below.refl _ _) (Nat.le_refl _) (by simp) ?_; (case hd => rfl); (case hg => rfl); (case hr => first | (go_simp; done) | (go_simp; rfl)); (case hp => exact (Reps.one (show Kd.M (Kd.int .i64) _ _ _ qB [.int .i64 qB] from rfl) (Reps.none _ _))); intro v113 w16 ho17 hb hg_ hnew_; clear hg_ hnew_; (first | rw [← Ny112.out] at ho17 | (simp only [Int.reduceToNat] at ho17; rw [← Ny112.out] at ho17)); have qM := aM (Kd.R_lower ho17 (below_size (zB HB))); replace qC := aM (blk_below (g := qF) (lK qC) hb); replace HB := aM (below_step (zB HB) hb); clear hb ho17))
      go_ret
      exact ⟨_, zE, by apply rX; exact qM.out, zB HB⟩
     ·rw [if_neg c14] at H
      have c14b0 : (qA == 2) = false := beq_eq_false_iff_ne.mpr c14
      have c14b1 : (qA != 2) = true := bne_iff_ne.mpr c14
      by_cases c18 : qA = 5
      ·rw [if_pos c18] at H
       have c18b0 : (qA == 5) = true := beq_iff_eq.mpr c18
       have c18b1 : (qA != 5) = false := bne_eq_false_iff_eq.mpr c18
       clear c18
       obtain ⟨y115, hy115⟩ : ∃ y_ : List Int, y_ = (([qB] : List Int)) := ⟨_, rfl⟩
       replace H : (some y115) = some r := zH hy115 H
       have Ny115 := aM hy115
       clear hy115
       obtain rfl := Option.some.inj H
       have qY := zc5 qC.out
       have qZ := fun i_ : Nat => blk_frozen qC.out i_
       go_wp2_with (first | ((with_reducible refine gate_dst (N := 22) rfl ?_); refine Kd.R_lit (Kd.int .i64) _ 3 ?hg (N := 22) ?hd (xs := ([qB] : List Int)) (inner := [.int .i64 qB]) (ok := fun _ => True) (okp := fun _ => True) ?hr ?hp (fun _ hk => hk) trivial (Below.refl _ _) (Nat.le_refl _) (by simp) ?_; (case hd => rfl); (case hg => rfl); (case hr => first | (go_simp; done) | (go_simp; rfl)); (case hp => exact (Reps.one (show Kd.M (Kd.int .i64) _ _ _ qB [.int .i64 qB] from rfl) (Reps.none _ _))); intro v116 w20 ho21 hb hg_ hnew_; clear hg_ hnew_; (first | rw [← Ny115.out] at ho21 | (simp only [Int.reduceToNat] at ho21; rw [← Ny115.out] at ho21)); have qN := aM (Kd.R_lower ho21 (below_size (zB HB))); replace qC := aM (blk_below (g := qF) (lK qC) hb); replace HB := aM (below_step (zB HB) hb); clear hb ho21))
       go_ret
       exact ⟨_, zE, by apply rX; exact qN.out, zB HB⟩
      ·rw [if_neg c18] at H
       have c18b0 : (qA == 5) = false := beq_eq_false_iff_ne.mpr c18
       have c18b1 : (qA != 5) = true := bne_iff_ne.mpr c18
       by_cases c22 : qA = 6
       ·rw [if_pos c22] at H
        have c22b0 : (qA == 6) = true := beq_iff_eq.mpr c22
        have c22b1 : (qA != 6) = false := bne_eq_false_iff_eq.mpr c22
        clear c22
        obtain ⟨y118, hy118⟩ : ∃ y_ : List Int, y_ = (([qB] : List Int)) := ⟨_, rfl⟩
        replace H : (some y118) = some r := zH hy118 H
        have Ny118 := aM hy118
        clear hy118
        obtain rfl := Option.some.inj H
        have qa := zc5 qC.out
        have qb := fun i_ : Nat => blk_frozen qC.out i_
        go_wp2_with (first | ((with_reducible refine gate_dst (N := 22) rfl ?_); refine Kd.R_lit (Kd.int .i64) _ 3 ?hg (N := 22) ?hd (xs := ([qB] : List Int)) (inner := [.int .i64 qB]) (ok := fun _ => True) (okp := fun _ => True) ?hr ?hp (fun _ hk => hk) trivial (Below.refl _ _) (Nat.le_refl _) (by simp) ?_; (case hd => rfl); (case hg => rfl); (case hr => first | (go_simp; done) | (go_simp; rfl)); (case hp => exact (Reps.one (show Kd.M (Kd.int .i64) _ _ _ qB [.int .i64 qB] from rfl) (Reps.none _ _))); intro v119 w24 ho25 hb hg_ hnew_; clear hg_ hnew_; (first | rw [← Ny118.out] at ho25 | (simp only [Int.reduceToNat] at ho25; rw [← Ny118.out] at ho25)); have qO := aM (Kd.R_lower ho25 (below_size (zB HB))); replace qC := aM (blk_below (g := qF) (lK qC) hb); replace HB := aM (below_step (zB HB) hb); clear hb ho25))
        go_ret
        exact ⟨_, zE, by apply rX; exact qO.out, zB HB⟩
       ·rw [if_neg c22] at H
        have c22b0 : (qA == 6) = false := beq_eq_false_iff_ne.mpr c22
        have c22b1 : (qA != 6) = true := bne_iff_ne.mpr c22
        by_cases c26 : qA = 7
        ·rw [if_pos c26] at H
         have c26b0 : (qA == 7) = true := beq_iff_eq.mpr c26
         have c26b1 : (qA != 7) = false := bne_eq_false_iff_eq.mpr c26
         clear c26
         obtain ⟨y121, hy121⟩ : ∃ y_ : List Int, y_ = (([qB] : List Int)) := ⟨_, rfl⟩
         replace H : (some y121) = some r := zH hy121 H
         have Ny121 := aM hy121
         clear hy121
         obtain rfl := Option.some.inj H
         have qc := zc5 qC.out
         have qd := fun i_ : Nat => blk_frozen qC.out i_
         go_wp2_with (first | ((with_reducible refine gate_dst (N := 22) rfl ?_); refine Kd.R_lit (Kd.int .i64) _ 3 ?hg (N := 22) ?hd (xs := ([qB] : List Int)) (inner := [.int .i64 qB]) (ok := fun _ => True) (okp := fun _ => True) ?hr ?hp (fun _ hk => hk) trivial (Below.refl _ _) (Nat.le_refl _) (by simp) ?_; (case hd => rfl); (case hg => rfl); (case hr => first | (go_simp; done) | (go_simp; rfl)); (case hp => exact (Reps.one (show Kd.M (Kd.int .i64) _ _ _ qB [.int .i64 qB] from rfl) (Reps.none _ _))); intro v122 w28 ho29 hb hg_ hnew_; clear hg_ hnew_; (first | rw [← Ny121.out] at ho29 | (simp only [Int.reduceToNat] at ho29; rw [← Ny121.out] at ho29)); have qP := aM (Kd.R_lower ho29 (below_size (zB HB))); replace qC := aM (blk_below (g := qF) (lK qC) hb); replace HB := aM (below_step (zB HB) hb); clear hb ho29))
         go_ret
         exact ⟨_, zE, by apply rX; exact qP.out, zB HB⟩
        ·rw [if_neg c26] at H
         have c26b0 : (qA == 7) = false := beq_eq_false_iff_ne.mpr c26
         have c26b1 : (qA != 7) = true := bne_iff_ne.mpr c26
         by_cases c30 : qA = 8
         ·rw [if_pos c30] at H
          have c30b0 : (qA == 8) = true := beq_iff_eq.mpr c30
          have c30b1 : (qA != 8) = false := bne_eq_false_iff_eq.mpr c30
          clear c30
          obtain ⟨y124, hy124⟩ : ∃ y_ : List Int, y_ = (([qB] : List Int)) := ⟨_, rfl⟩
          replace H : (some y124) = some r := zH hy124 H
          have Ny124 := aM hy124
          clear hy124
          obtain rfl := Option.some.inj H
          have qe := zc5 qC.out
          have qf := fun i_ : Nat => blk_frozen qC.out i_
          go_wp2_with (first | ((with_reducible refine gate_dst (N := 22) rfl ?_); refine Kd.R_lit (Kd.int .i64) _ 3 ?hg (N := 22) ?hd (xs := ([qB] : List Int)) (inner := [.int .i64 qB]) (ok := fun _ => True) (okp := fun _ => True) ?hr ?hp (fun _ hk => hk) trivial (Below.refl _ _) (Nat.le_refl _) (by simp) ?_; (case hd => rfl); (case hg => rfl); (case hr => first | (go_simp; done) | (go_simp; rfl)); (case hp => exact (Reps.one (show Kd.M (Kd.int .i64) _ _ _ qB [.int .i64 qB] from rfl) (Reps.none _ _))); intro v125 w32 ho33 hb hg_ hnew_; clear hg_ hnew_; (first | rw [← Ny124.out] at ho33 | (simp only [Int.reduceToNat] at ho33; rw [← Ny124.out] at ho33)); have qQ := aM (Kd.R_lower ho33 (below_size (zB HB))); replace qC := aM (blk_below (g := qF) (lK qC) hb); replace HB := aM (below_step (zB HB) hb); clear hb ho33))
          go_ret
          exact ⟨_, zE, by apply rX; exact qQ.out, zB HB⟩
         ·rw [if_neg c30] at H
          have c30b0 : (qA == 8) = false := beq_eq_false_iff_ne.mpr c30
          have c30b1 : (qA != 8) = true := bne_iff_ne.mpr c30
          obtain rfl := Option.some.inj H
          go_wp2
          go_ret
          exact ⟨_, zE, by first | exact Kd.R_nil _ _ _ _ _ | exact Kd.N_nil _ _ _ _ _ | exact Kd.V_nil _ _ _ _ _ | exact Kd.Q_nil _ _ _ _ _ | exact Kd.S_nil _ _ _ _ _, zB HB⟩

end Go.Proofs.Ytccbdcbeinkjgaa.XA
end

section
namespace Go.Proofs.Ytccbdcbeinkjgaa.XA
open Go.Proofs.Ytccbdcbeinkjgaa.Lift Go.RowKit Go.Proofs.YtccbdcbeinkjgaaW.PrintWords Go.Proofs.YtccbdcbeinkjgaaW.PrintLast Go.Proofs.YtccbdcbeinkjgaaW.PrintMore
attribute [local go_sem] max2_int min2_int max_two min_two max_three min_three max_four min_four
set_option linter.unusedVariables false
set_option linter.unusedSimpArgs false

/-! ### prog_may: function 58 -/
mutual
def prog_may.j0 : Nat → Int → Bool → Int → Int → Int → Int → Int → Option (Bool)
 | 0, _, _, _, _, _, _, _ => none
 | k + 1, x1, x41, qP, qQ, qR, qS, qT => if x41 = true then (some false) else ((prog_Asks.f k qP qQ qR qS qT).bind fun qH => (prog_may.l0 k x1 qH (qH.length : Int) 0))
def prog_may.l0 : Nat → Int → List Int → Int → Int → Option (Bool)
 | 0, _, _, _, _ => none
 | k + 1, x1, x43, x44, x45 => if x45 < x44 then (if 0 ≤ x45 then (if x45 < (x43.length : Int) then (if (rd x43 x45) < 0 then (some false) else (if (rd x43 x45) ≥ x1 then (some false) else (prog_may.l0 k x1 x43 x44 (wrap64 (x45 + 1))))) else (none)) else (none)) else (some true)
end
def prog_may.f (k : Nat) (qA : Int) (qC : Int) (qD : Int) (qB : Int) (qE : Int) (a1 : Int) : Option (Bool) := if qA < 1 then (prog_may.j0 k a1 true qA qC qD qB qE) else (if qA > 8 then (prog_may.j0 k a1 true qA qC qD qB qE) else (if qC < 0 then (prog_may.j0 k a1 true qA qC qD qB qE) else (if qC ≥ a1 then (prog_may.j0 k a1 true qA qC qD qB qE) else ((prog_two.f qA).bind fun qL => (if qL = true then ((prog_constant.f k qA qC qD qB qE).bind fun qI => (prog_may.j0 k a1 (!qI) qA qC qD qB qE)) else (if qB = 0 then ((prog_constant.f k qA qC qD qB qE).bind fun qJ => (prog_may.j0 k a1 (!qJ) qA qC qD qB qE)) else (prog_may.j0 k a1 true qA qC qD qB qE)))))))
theorem prog_may.mono_l : ∀ k, (∀ y0 y1 y2 y3 y4 y5 y6, LeO (prog_may.j0 k y0 y1 y2 y3 y4 y5 y6) (prog_may.j0 (k + 1) y0 y1 y2 y3 y4 y5 y6)) ∧ (∀ y0 y1 y2 y3, LeO (prog_may.l0 k y0 y1 y2 y3) (prog_may.l0 (k + 1) y0 y1 y2 y3))
 | 0 => ⟨fun _ _ _ _ _ _ _ r h => by simp [prog_may.j0] at h, fun _ _ _ _ r h => by simp [prog_may.l0] at h⟩
 | k + 1 => by
  obtain ⟨ih0, ih1⟩ := prog_may.mono_l k
  refine ⟨?_, ?_⟩
  ·intro y0 y1 y2 y3 y4 y5 y6
   unfold prog_may.j0
   have im0 := @prog_Asks.mono; have im1 := @prog_constant.mono; exact zM
  ·intro y0 y1 y2 y3
   unfold prog_may.l0
   have im0 := @prog_Asks.mono; have im1 := @prog_constant.mono; exact zM
theorem prog_may.mono : ∀ a0 a1 a2 a3 a4 a5 k, LeO (prog_may.f k a0 a1 a2 a3 a4 a5) (prog_may.f (k + 1) a0 a1 a2 a3 a4 a5) := by
 intro a0 a1 a2 a3 a4 a5 k
 obtain ⟨ih0, ih1⟩ := prog_may.mono_l k
 unfold prog_may.f
 have im0 := @prog_Asks.mono; have im1 := @prog_constant.mono; exact zM
set_option maxHeartbeats 8000000 in
set_option maxRecDepth 100000 in
theorem prog_may.calls (k : Nat) (qA : Int) (qC : Int) (qD : Int) (qB : Int) (qE : Int) (a1 : Int) (r : Bool) (w : World) (h : prog_may.f k qA qC qD qB qE a1 = some r) :
  Calls Try.prog 58 #[.agg #[.int .i64 qA, .int .i64 qC, .int .i64 qD, .int .i64 qB, .int .i64 qE], .int .i64 a1] w fun e w' => e = .returned (.bool r) ∧ Below w.heap.size w w' := by
 have hu63 := Try.underlying63
 have HB := aM (Below.refl w.heap.size w)
 have H : (if qA < 1 then (prog_may.j0 k a1 true qA qC qD qB qE) else (if qA > 8 then (prog_may.j0 k a1 true qA qC qD qB qE) else (if qC < 0 then (prog_may.j0 k a1 true qA qC qD qB qE) else (if qC ≥ a1 then (prog_may.j0 k a1 true qA qC qD qB qE) else ((prog_two.f qA).bind fun qL => (if qL = true then ((prog_constant.f k qA qC qD qB qE).bind fun qI => (prog_may.j0 k a1 (!qI) qA qC qD qB qE)) else (if qB = 0 then ((prog_constant.f k qA qC qD qB qE).bind fun qJ => (prog_may.j0 k a1 (!qJ) qA qC qD qB qE)) else (prog_may.j0 k a1 true qA qC qD qB qE)))))))) = some r := h
 clear h
 have HC3 := aM H
 clear H
 go_enter Try.func58, Try.ntmps58
 go_upto_region 1 with (first | ((with_reducible refine gate_dst (N := 2) rfl ?_); refine box_event rfl (N := 2) rfl (cs := #[.int .i64 qA, .int .i64 qC, .int .i64 qD, .int .i64 qB, .int .i64 qE]) (t := 63) zG ?_; intro qK hg w4 hbox hb; have qF := aM (hbox); have qm := aM ((by rw [hg]; exact (below_size (lB HB)) : w.heap.size ≤ qK)); have qn := aM ((by rw [hg]; exact (below_size (lB HB)) : w.heap.size ≤ qK)); replace HB := aM (below_step (lB HB) hb); clear hb hbox hg))
 (try simp only [Act.put, List.setIfInBounds_toArray, List.set_cons_zero, List.set_cons_succ])
 go_cut [41] (fun v41 wc => ∃ (kq : Nat) (qM : Bool), v41 = .bool qM ∧ Aside0 (prog_may.j0 kq a1 qM qA qC qD qB qE = some r) ∧ Aside0 (kq ≤ k) ∧ Aside0 (wc.heap[qK]? = some (.cells #[.int .i64 qA, .int .i64 qC, .int .i64 qD, .int .i64 qB, .int .i64 qE] 63 (0, 0))) ∧ Aside0 (Below w.heap.size w wc))
 case first =>
  have H := HC3.out
  clear HC3
  by_cases c5 : qA < 1
  ·rw [if_pos c5] at H
   have c5b0 := decide_eq_true c5
   clear c5
   (first | rw [c5b0] | (simp only [i64_w, i32_w]; rw [c5b0]) | skip)
   have H' := aM H
   clear H
   have qi := zc5 qF.out
   have qj := fun i_ : Nat => blk_frozen qF.out i_
   go_wp2
   go_meet
   case rel => exact ⟨_, (true), zT, H', ⟨zO⟩, ⟨zb qF⟩, ⟨zB HB⟩⟩
  ·rw [if_neg c5] at H
   have c5b0 := decide_eq_false c5
   clear c5
   (first | rw [c5b0] | (simp only [i64_w, i32_w]; rw [c5b0]) | skip)
   by_cases c7 : qA > 8
   ·rw [if_pos c7] at H
    have c7b0 := decide_eq_true c7
    clear c7
    have H' := aM H
    clear H
    have qk := zc5 qF.out
    have ql := fun i_ : Nat => blk_frozen qF.out i_
    go_wp2
    go_meet
    case rel => exact ⟨_, (true), zT, H', ⟨zO⟩, ⟨zb qF⟩, ⟨zB HB⟩⟩
   ·rw [if_neg c7] at H
    have c7b0 := decide_eq_false c7
    clear c7
    by_cases c9 : qC < 0
    ·rw [if_pos c9] at H
     have c9b0 := decide_eq_true c9
     clear c9
     have H' := aM H
     clear H
     have qW := zc5 qF.out
     have qX := fun i_ : Nat => blk_frozen qF.out i_
     go_wp2
     go_meet
     case rel => exact ⟨_, (true), zT, H', ⟨zO⟩, ⟨zb qF⟩, ⟨zB HB⟩⟩
    ·rw [if_neg c9] at H
     have c9b0 := decide_eq_false c9
     clear c9
     by_cases c11 : qC ≥ a1
     ·rw [if_pos c11] at H
      have c11b0 := decide_eq_true c11
      clear c11
      have H' := aM H
      clear H
      have qY := zc5 qF.out
      have qZ := fun i_ : Nat => blk_frozen qF.out i_
      go_wp2
      go_meet
      case rel => exact ⟨_, (true), zT, H', ⟨zO⟩, ⟨zb qF⟩, ⟨zB HB⟩⟩
     ·rw [if_neg c11] at H
      have c11b0 := decide_eq_false c11
      clear c11
      replace H := Option.bind_eq_some_iff.mp H
      obtain ⟨qL, A130, H⟩ := H
      replace H : (if qL = true then ((prog_constant.f k qA qC qD qB qE).bind fun qI => (prog_may.j0 k a1 (!qI) qA qC qD qB qE)) else (if qB = 0 then ((prog_constant.f k qA qC qD qB qE).bind fun qJ => (prog_may.j0 k a1 (!qJ) qA qC qD qB qE)) else (prog_may.j0 k a1 true qA qC qD qB qE))) = some r := H
      have A13 := aM A130
      clear A130
      by_cases c14 : qL = true
      ·subst c14
       have H1 : ((prog_constant.f k qA qC qD qB qE).bind fun qI => (prog_may.j0 k a1 (!qI) qA qC qD qB qE)) = some r := by rw [if_pos rfl] at H; exact H
       clear H
       have H := H1
       clear H1
       replace H := Option.bind_eq_some_iff.mp H
       obtain ⟨qI, A150, H⟩ := H
       replace H : (prog_may.j0 k a1 (!qI) qA qC qD qB qE) = some r := H
       have A15 := aM A150
       clear A150
       have H' := aM H
       clear H
       have qa := zc5 qF.out
       have qb := fun i_ : Nat => blk_frozen qF.out i_
       go_wp2_with (first | (go_at_call 65; (with_reducible refine (prog_two.calls qA true _ A13.out).mono ?_); rintro e w' ⟨rfl, ⟨nd, rfl⟩⟩) | (go_at_call 66; (with_reducible refine (prog_constant.calls k qA qC qD qB qE qI _ A15.out).mono ?_); rintro e w17 ⟨rfl, hb⟩; replace qF := aM (blk_below (g := qK) (lK qF) hb); replace HB := aM (below_step (zB HB) hb); (try clear hb)))
       go_meet
       case rel => exact ⟨_, (!qI), zT, H', ⟨zO⟩, ⟨zb qF⟩, ⟨zB HB⟩⟩
      ·replace c14 := Bool.eq_false_iff.mpr c14
       subst c14
       have H1 : (if qB = 0 then ((prog_constant.f k qA qC qD qB qE).bind fun qJ => (prog_may.j0 k a1 (!qJ) qA qC qD qB qE)) else (prog_may.j0 k a1 true qA qC qD qB qE)) = some r := by rw [if_neg (show ¬ (false = true) by decide)] at H; exact H
       clear H
       have H := H1
       clear H1
       by_cases c18 : qB = 0
       ·rw [if_pos c18] at H
        have c18b0 : (qB == 0) = true := beq_iff_eq.mpr c18
        have c18b1 : (qB != 0) = false := bne_eq_false_iff_eq.mpr c18
        clear c18
        replace H := Option.bind_eq_some_iff.mp H
        obtain ⟨qJ, A190, H⟩ := H
        replace H : (prog_may.j0 k a1 (!qJ) qA qC qD qB qE) = some r := H
        have A19 := aM A190
        clear A190
        have H' := aM H
        clear H
        have qc := zc5 qF.out
        have qd := fun i_ : Nat => blk_frozen qF.out i_
        go_wp2_with (first | (go_at_call 65; (with_reducible refine (prog_two.calls qA false _ A13.out).mono ?_); rintro e w' ⟨rfl, ⟨nd, rfl⟩⟩) | (go_at_call 66; (with_reducible refine (prog_constant.calls k qA qC qD qB qE qJ _ A19.out).mono ?_); rintro e w21 ⟨rfl, hb⟩; replace qF := aM (blk_below (g := qK) (lK qF) hb); replace HB := aM (below_step (zB HB) hb); (try clear hb)))
        go_meet
        case rel => exact ⟨_, (!qJ), zT, H', ⟨zO⟩, ⟨zb qF⟩, ⟨zB HB⟩⟩
       ·rw [if_neg c18] at H
        have c18b0 : (qB == 0) = false := beq_eq_false_iff_ne.mpr c18
        have c18b1 : (qB != 0) = true := bne_iff_ne.mpr c18
        have H' := aM H
        clear H
        have qe := zc5 qF.out
        have qf := fun i_ : Nat => blk_frozen qF.out i_
        go_wp2_with (first | (go_at_call 65; (with_reducible refine (prog_two.calls qA false _ A13.out).mono ?_); rintro e w' ⟨rfl, ⟨nd, rfl⟩⟩))
        go_meet
        case rel => exact ⟨_, (true), zT, H', ⟨zO⟩, ⟨zb qF⟩, ⟨zB HB⟩⟩
 case rest =>
  clear HC3
  obtain ⟨kq, qM, rfl, HA, HJ2, qF, HB⟩ := hcut
  cases kq with
  | zero => exact absurd HA.out (by simp [prog_may.j0])
  | succ kj2 =>
   have H := HA.out
   clear HA
   simp only [prog_may.j0] at H
   by_cases c23 : qM = true
   ·subst c23
    have H1 : (some false) = some r := by rw [if_pos rfl] at H; exact H
    clear H
    have H := H1
    clear H1
    obtain rfl := Option.some.inj H
    go_wp2
    go_ret
    exact ⟨zE, zB HB⟩
   ·replace c23 := Bool.eq_false_iff.mpr c23
    subst c23
    have H1 : ((prog_Asks.f kj2 qA qC qD qB qE).bind fun qH => (prog_may.l0 kj2 a1 qH (qH.length : Int) 0)) = some r := by rw [if_neg (show ¬ (false = true) by decide)] at H; exact H
    clear H
    have H := H1
    clear H1
    replace H := Option.bind_eq_some_iff.mp H
    obtain ⟨qH, A240, H⟩ := H
    replace H : (prog_may.l0 kj2 a1 qH (qH.length : Int) 0) = some r := H
    have A24 := aM A240
    clear A240
    have H' := aM H
    clear H
    have qg := zc5 qF.out
    have qh := fun i_ : Nat => blk_frozen qF.out i_
    go_wp2_with (first | ((with_reducible refine gate_callee (f := 67) rfl ?_); refine goesL_ (some 43) rfl rfl Try.func67 zk rfl #[.agg #[.int .i64 qA, .int .i64 qC, .int .i64 qD, .int .i64 qB, .int .i64 qE]] rfl zA ?_; (with_reducible refine (prog_Asks.calls kj2 qA qC qD qB qE qH _ A24.out).mono ?_); rintro e w26 ⟨v132, rfl, ho0, hb⟩; refine ⟨_, rfl, ?_⟩; have qO := aM (Kd.R_lower ho0 (below_size (zB HB))); replace qF := aM (blk_below (g := qK) (lK qF) hb); replace HB := aM (below_step (zB HB) hb); (try clear hb); (try clear ho0); obtain ⟨qU, qV, eo27⟩ := Kd.R_slice qO.out; subst eo27))
    go_loopg [45] kj2 (fun kq v45 w' => ∃ (qG : Int), v45 = .int .i64 qG ∧ Aside0 (prog_may.l0 kq a1 qH (qH.length : Int) qG = some r) ∧ Aside0 (kq ≤ kj2) ∧ Aside0 (Kd.R (Kd.int .i64) 3 w' w.heap.size (fun _ => True) (.slice qU qH.length qV) qH) ∧ Aside0 (w'.heap[qK]? = some (.cells #[.int .i64 qA, .int .i64 qC, .int .i64 qD, .int .i64 qB, .int .i64 qE] 63 (0, 0))) ∧ Aside0 (Below w.heap.size w w'))
    case atStart => exact ⟨(0), zT, H', ⟨Nat.le_refl _⟩, ⟨lR qO⟩, ⟨zb qF⟩, ⟨zB HB⟩⟩
    case round =>
     clear H'
     try clear c23
     obtain ⟨qG, rfl, HA, HK2, qN, qF, HB⟩ := hrel
     cases gk with
     | zero => exact absurd HA.out (by simp [prog_may.l0])
     | succ k2 =>
      have H := HA.out
      clear HA
      simp only [prog_may.l0] at H
      by_cases c28 : qG < (qH.length : Int)
      ·rw [if_pos c28] at H
       have c28b0 := decide_eq_true c28
       clear c28
       by_cases c29 : 0 ≤ qG
       ·rw [if_pos c29] at H
        have c29b0 := decide_eq_true c29
        clear c29
        by_cases c30 : qG < (qH.length : Int)
        ·rw [if_pos c30] at H
         have c30b0 := decide_eq_true c30
         clear c30
         by_cases c31 : (rd qH qG) < 0
         ·rw [if_pos c31] at H
          have c31b0 := decide_eq_true c31
          clear c31
          obtain rfl := Option.some.inj H
          have p134 : 0 ≤ (qG : Int) := of_decide_eq_true za
          have q134 : qG < (qH.length : Int) := of_decide_eq_true za
          obtain ⟨ad134, e134, hx134_0⟩ := Kd.at_int (Kd.R_reads' qN.out).2.2 qG p134 q134
          cases e134
          replace p134 := eq_true p134
          replace q134 := eq_true q134
          go_wp2
          go_ret
          exact ⟨zE, zB HB⟩
         ·rw [if_neg c31] at H
          have c31b0 := decide_eq_false c31
          clear c31
          by_cases c32 : (rd qH qG) ≥ a1
          ·rw [if_pos c32] at H
           have c32b0 := decide_eq_true c32
           clear c32
           obtain rfl := Option.some.inj H
           have p134 : 0 ≤ (qG : Int) := of_decide_eq_true za
           have q134 : qG < (qH.length : Int) := of_decide_eq_true za
           obtain ⟨ad134, e134, hx134_0⟩ := Kd.at_int (Kd.R_reads' qN.out).2.2 qG p134 q134
           cases e134
           replace p134 := eq_true p134
           replace q134 := eq_true q134
           go_wp2
           go_ret
           exact ⟨zE, zB HB⟩
          ·rw [if_neg c32] at H
           have c32b0 := decide_eq_false c32
           clear c32
           have H' := aM H
           clear H
           have p134 : 0 ≤ (qG : Int) := of_decide_eq_true za
           have q134 : qG < (qH.length : Int) := of_decide_eq_true za
           obtain ⟨ad134, e134, hx134_0⟩ := Kd.at_int (Kd.R_reads' qN.out).2.2 qG p134 q134
           cases e134
           replace p134 := eq_true p134
           replace q134 := eq_true q134
           go_wp2
           go_roundg k2
           case measure => have := HJ2.out; have := HK2.out; omega
           case rel => exact ⟨(wrap64 (qG + 1)), zT, H', ⟨by have := HJ2.out; have := HK2.out; omega⟩, ⟨lR qN⟩, ⟨zb qF⟩, ⟨zB HB⟩⟩
        ·rw [if_neg c30] at H
         exact absurd H (by simp)
       ·rw [if_neg c29] at H
        exact absurd H (by simp)
      ·rw [if_neg c28] at H
       have c28b0 := decide_eq_false c28
       clear c28
       obtain rfl := Option.some.inj H
       go_wp2
       go_ret
       exact ⟨zE, zB HB⟩

end Go.Proofs.Ytccbdcbeinkjgaa.XA
end

section
namespace Go.Proofs.Ytccbdcbeinkjgaa.XA
open Go.Proofs.Ytccbdcbeinkjgaa.Lift Go.RowKit Go.Proofs.YtccbdcbeinkjgaaW.PrintWords Go.Proofs.YtccbdcbeinkjgaaW.PrintLast Go.Proofs.YtccbdcbeinkjgaaW.PrintMore
attribute [local go_sem] max2_int min2_int max_two min_two max_three min_three max_four min_four
set_option linter.unusedVariables false
set_option linter.unusedSimpArgs false

/-! ### prog_Check: function 39 -/
mutual
def prog_Check.j0 : Nat → Bool → Int → Int → List (S63) → List Int → Option (Int × Int)
 | 0, _, _, _, _, _ => none
 | k + 1, x40, qN, qI, qJ, qK => if x40 = true then (some ((-1), 80)) else (prog_Check.l0 k qK (qK.length : Int) 0 qN qI qJ qK)
def prog_Check.l0 : Nat → List Int → Int → Int → Int → Int → List (S63) → List Int → Option (Int × Int)
 | 0, _, _, _, _, _, _, _ => none
 | k + 1, x42, x43, x44, qN, qI, qJ, qK => if x44 < x43 then (if 0 ≤ x44 then (if x44 < (x42.length : Int) then (if (rd x42 x44) < 0 then (some ((-1), 80)) else (if (rd x42 x44) ≥ qI then (some ((-1), 80)) else (prog_Check.l0 k x42 x43 (wrap64 (x44 + 1)) qN qI qJ qK))) else (none)) else (none)) else (prog_Check.l1 k qJ (qJ.length : Int) 0 qN qI qJ qK)
def prog_Check.l1 : Nat → List (S63) → Int → Int → Int → Int → List (S63) → List Int → Option (Int × Int)
 | 0, _, _, _, _, _, _, _ => none
 | k + 1, x58, x59, x60, qN, qI, qJ, qK => if x60 < x59 then (if 0 ≤ x60 then (if x60 < (x58.length : Int) then ((prog_may.f k ((rd_T63 x58 x60).f0) ((rd_T63 x58 x60).f1) ((rd_T63 x58 x60).f2) ((rd_T63 x58 x60).f3) ((rd_T63 x58 x60).f4) qI).bind fun qV => (if qV = true then (prog_Check.l1 k x58 x59 (wrap64 (x60 + 1)) qN qI qJ qK) else (some (x60, 80)))) else (none)) else (none)) else (some (0, 0))
end
def prog_Check.f (k : Nat) (qF : Int) (qE : Int) (qA : List (S63)) (qD : List Int) : Option (Int × Int) := if qF < 1 then (prog_Check.j0 k true qF qE qA qD) else (if qF > qE then (prog_Check.j0 k true qF qE qA qD) else (if qE > 128 then (prog_Check.j0 k true qF qE qA qD) else (if (qA.length : Int) > 16384 then (prog_Check.j0 k true qF qE qA qD) else (if (qD.length : Int) < 1 then (prog_Check.j0 k true qF qE qA qD) else (prog_Check.j0 k (decide (128 < qD.length)) qF qE qA qD)))))
theorem prog_Check.mono_l : ∀ k, (∀ y0 y1 y2 y3 y4, LeO (prog_Check.j0 k y0 y1 y2 y3 y4) (prog_Check.j0 (k + 1) y0 y1 y2 y3 y4)) ∧ (∀ y0 y1 y2 y3 y4 y5 y6, LeO (prog_Check.l0 k y0 y1 y2 y3 y4 y5 y6) (prog_Check.l0 (k + 1) y0 y1 y2 y3 y4 y5 y6)) ∧ (∀ y0 y1 y2 y3 y4 y5 y6, LeO (prog_Check.l1 k y0 y1 y2 y3 y4 y5 y6) (prog_Check.l1 (k + 1) y0 y1 y2 y3 y4 y5 y6))
 | 0 => ⟨fun _ _ _ _ _ r h => by simp [prog_Check.j0] at h, fun _ _ _ _ _ _ _ r h => by simp [prog_Check.l0] at h, fun _ _ _ _ _ _ _ r h => by simp [prog_Check.l1] at h⟩
 | k + 1 => by
  obtain ⟨ih0, ih1, ih2⟩ := prog_Check.mono_l k
  refine ⟨?_, ?_, ?_⟩
  ·intro y0 y1 y2 y3 y4
   unfold prog_Check.j0
   have im0 := @prog_may.mono; exact zM
  ·intro y0 y1 y2 y3 y4 y5 y6
   unfold prog_Check.l0
   have im0 := @prog_may.mono; exact zM
  ·intro y0 y1 y2 y3 y4 y5 y6
   unfold prog_Check.l1
   have im0 := @prog_may.mono; exact zM
theorem prog_Check.mono : ∀ a0 a1 a2 a3 k, LeO (prog_Check.f k a0 a1 a2 a3) (prog_Check.f (k + 1) a0 a1 a2 a3) := by
 intro a0 a1 a2 a3 k
 obtain ⟨ih0, ih1, ih2⟩ := prog_Check.mono_l k
 unfold prog_Check.f
 have im0 := @prog_may.mono; exact zM
set_option maxHeartbeats 8000000 in
set_option maxRecDepth 100000 in
theorem prog_Check.calls (k : Nat) (qF : Int) (qE : Int) (qQ : Option Addr) (qR : Nat) (qA : List (S63)) (qS : Option Addr) (qT : Nat) (qD : List Int) (r1 : Int) (r2 : Int) (w : World) (qX : Kd.C k63 w qQ qA.length qA) (qY : qA.length ≤ qR) (qZ : Kd.C (Kd.int .i64) w qS qD.length qD) (qa : qD.length ≤ qT) (h : prog_Check.f k qF qE qA qD = some (r1, r2)) :
  Calls Try.prog 39 #[.agg #[.int .i64 qF, .int .i64 qE, .slice qQ qA.length qR, .slice qS qD.length qT]] w fun e w' => e = .returned (.tuple #[.int .i64 r1, .int .i64 r2]) ∧ Below w.heap.size w w' := by
 have hu26 := Try.underlying26
 have hu63 := Try.underlying63
 have qb := aM qX
 have q6 := aM qY
 clear qX qY
 have qW := aM qZ
 have q7 := aM qa
 clear qZ qa
 have HB := aM (Below.refl w.heap.size w)
 have H : (if qF < 1 then (prog_Check.j0 k true qF qE qA qD) else (if qF > qE then (prog_Check.j0 k true qF qE qA qD) else (if qE > 128 then (prog_Check.j0 k true qF qE qA qD) else (if (qA.length : Int) > 16384 then (prog_Check.j0 k true qF qE qA qD) else (if (qD.length : Int) < 1 then (prog_Check.j0 k true qF qE qA qD) else (prog_Check.j0 k (decide (128 < qD.length)) qF qE qA qD)))))) = some (r1, r2) := h
 clear h
 have HC2 := aM H
 clear H
 go_enter Try.func39, Try.ntmps39
 go_upto_region 1 with (first | ((with_reducible refine gate_dst (N := 1) rfl ?_); (try (refine gate_guard (by rfl) ?_; dsimp only)); refine box_event rfl (N := 1) rfl (cs := #[.int .i64 qF, .int .i64 qE, .slice qQ qA.length qR, .slice qS qD.length qT]) (t := 26) zG ?_; intro qH hg w3 hbox hb; have qC := aM (hbox); have q8 := aM ((by rw [hg]; exact (below_size (lB HB)) : w.heap.size ≤ qH)); have q9 := aM ((by rw [hg]; exact (below_size (lB HB)) : w.heap.size ≤ qH)); replace HB := aM (below_step (lB HB) hb); clear hb hbox hg))
 (try simp only [Act.put, List.setIfInBounds_toArray, List.set_cons_zero, List.set_cons_succ])
 go_cut [40] (fun v40 wc => ∃ (kq : Nat) (qU : Bool), v40 = .bool qU ∧ Aside0 (prog_Check.j0 kq qU qF qE qA qD = some (r1, r2)) ∧ Aside0 (kq ≤ k) ∧ Aside0 (wc.heap[qH]? = some (.cells #[.int .i64 qF, .int .i64 qE, (.slice qQ qA.length qR), (.slice qS qD.length qT)] 26 (0, 0))) ∧ Aside0 (Below w.heap.size w wc))
 case first =>
  have H := HC2.out
  clear HC2
  by_cases c4 : qF < 1
  ·rw [if_pos c4] at H
   have c4b0 := decide_eq_true c4
   clear c4
   (first | rw [c4b0] | (simp only [i64_w, i32_w]; rw [c4b0]) | skip)
   have H' := aM H
   clear H
   have q0 := zc4 qC.out
   have q1 := fun i_ : Nat => blk_frozen qC.out i_
   go_wp2
   go_meet
   case rel => exact ⟨_, (true), zT, H', ⟨zO⟩, ⟨zb qC⟩, ⟨zB HB⟩⟩
  ·rw [if_neg c4] at H
   have c4b0 := decide_eq_false c4
   clear c4
   (first | rw [c4b0] | (simp only [i64_w, i32_w]; rw [c4b0]) | skip)
   by_cases c6 : qF > qE
   ·rw [if_pos c6] at H
    have c6b0 := decide_eq_true c6
    clear c6
    have H' := aM H
    clear H
    have q2 := zc4 qC.out
    have q3 := fun i_ : Nat => blk_frozen qC.out i_
    go_wp2
    go_meet
    case rel => exact ⟨_, (true), zT, H', ⟨zO⟩, ⟨zb qC⟩, ⟨zB HB⟩⟩
   ·rw [if_neg c6] at H
    have c6b0 := decide_eq_false c6
    clear c6
    by_cases c8 : qE > 128
    ·rw [if_pos c8] at H
     have c8b0 := decide_eq_true c8
     clear c8
     have H' := aM H
     clear H
     have q4 := zc4 qC.out
     have q5 := fun i_ : Nat => blk_frozen qC.out i_
     go_wp2
     go_meet
     case rel => exact ⟨_, (true), zT, H', ⟨zO⟩, ⟨zb qC⟩, ⟨zB HB⟩⟩
    ·rw [if_neg c8] at H
     have c8b0 := decide_eq_false c8
     clear c8
     by_cases c10 : (qA.length : Int) > 16384
     ·rw [if_pos c10] at H
      have c10b0 := decide_eq_true c10
      have c10b1 : decide (16384 < qA.length) = true := decide_eq_true (by omega)
      clear c10
      have H' := aM H
      clear H
      have qe := zc4 qC.out
      have qf := fun i_ : Nat => blk_frozen qC.out i_
      go_wp2
      go_meet
      case rel => exact ⟨_, (true), zT, H', ⟨zO⟩, ⟨zb qC⟩, ⟨zB HB⟩⟩
     ·rw [if_neg c10] at H
      have c10b0 := decide_eq_false c10
      have c10b1 : decide (16384 < qA.length) = false := decide_eq_false (by omega)
      clear c10
      by_cases c12 : (qD.length : Int) < 1
      ·rw [if_pos c12] at H
       have c12b0 := decide_eq_true c12
       have c12b1 : decide (qD.length < 1) = true := decide_eq_true (by omega)
       clear c12
       have H' := aM H
       clear H
       have qg := zc4 qC.out
       have qh := fun i_ : Nat => blk_frozen qC.out i_
       go_wp2
       go_meet
       case rel => exact ⟨_, (true), zT, H', ⟨zO⟩, ⟨zb qC⟩, ⟨zB HB⟩⟩
      ·rw [if_neg c12] at H
       have c12b0 := decide_eq_false c12
       have c12b1 : decide (qD.length < 1) = false := decide_eq_false (by omega)
       clear c12
       have H' := aM H
       clear H
       have qi := zc4 qC.out
       have qj := fun i_ : Nat => blk_frozen qC.out i_
       go_wp2
       go_meet
       case rel => exact ⟨_, (decide (128 < qD.length)), (by first | rfl | (simp; done) | (simp [*]; done) | (simp; omega)), H', ⟨zO⟩, ⟨zb qC⟩, ⟨zB HB⟩⟩
 case rest =>
  clear HC2
  obtain ⟨kq, qU, rfl, HA, HJ1, qC, HB⟩ := hcut
  cases kq with
  | zero => exact absurd HA.out (by simp [prog_Check.j0])
  | succ kj1 =>
   have H := HA.out
   clear HA
   simp only [prog_Check.j0] at H
   by_cases c15 : qU = true
   ·subst c15
    have H1 : (some ((-1), 80)) = some (r1, r2) := by rw [if_pos rfl] at H; exact H
    clear H
    have H := H1
    clear H1
    simp only [Option.some.injEq, Prod.mk.injEq] at H
    obtain ⟨rfl, rfl⟩ := H
    go_wp2
    go_ret2
    exact ⟨zE, zB HB⟩
   ·replace c15 := Bool.eq_false_iff.mpr c15
    subst c15
    have H1 : (prog_Check.l0 kj1 qD (qD.length : Int) 0 qF qE qA qD) = some (r1, r2) := by rw [if_neg (show ¬ (false = true) by decide)] at H; exact H
    clear H
    have H := H1
    clear H1
    have H' := aM H
    clear H
    have qk := zc4 qC.out
    have ql := fun i_ : Nat => blk_frozen qC.out i_
    go_wp2
    go_loopg [44] kj1 (fun kq v44 w' => ∃ (qG : Int), v44 = .int .i64 qG ∧ Aside0 (prog_Check.l0 kq qD (qD.length : Int) qG qF qE qA qD = some (r1, r2)) ∧ Aside0 (kq ≤ kj1) ∧ Aside0 (w'.heap[qH]? = some (.cells #[.int .i64 qF, .int .i64 qE, (.slice qQ qA.length qR), (.slice qS qD.length qT)] 26 (0, 0))) ∧ Aside0 (Below w.heap.size w w'))
    case atStart => exact ⟨(0), zT, H', ⟨Nat.le_refl _⟩, ⟨zb qC⟩, ⟨zB HB⟩⟩
    case round =>
     clear H'
     try clear c15
     obtain ⟨qG, rfl, HA, HK2, qC, HB⟩ := hrel
     cases gk with
     | zero => exact absurd HA.out (by simp [prog_Check.l0])
     | succ k2 =>
      have H := HA.out
      clear HA
      simp only [prog_Check.l0] at H
      by_cases c17 : qG < (qD.length : Int)
      ·rw [if_pos c17] at H
       have c17b0 := decide_eq_true c17
       clear c17
       by_cases c18 : 0 ≤ qG
       ·rw [if_pos c18] at H
        have c18b0 := decide_eq_true c18
        clear c18
        by_cases c19 : qG < (qD.length : Int)
        ·rw [if_pos c19] at H
         have c19b0 := decide_eq_true c19
         clear c19
         by_cases c20 : (rd qD qG) < 0
         ·rw [if_pos c20] at H
          have c20b0 := decide_eq_true c20
          clear c20
          simp only [Option.some.injEq, Prod.mk.injEq] at H
          obtain ⟨rfl, rfl⟩ := H
          have p136 : 0 ≤ (qG : Int) := of_decide_eq_true za
          have q136 : qG < (qD.length : Int) := of_decide_eq_true za
          obtain ⟨ad136, e136, hx136_0⟩ := Kd.at_int qW.out qG p136 q136
          cases e136
          replace hx136_0 := (HB.out.cell (World.block_lt_of_cell? w _ hx136_0)).trans hx136_0
          replace p136 := eq_true p136
          replace q136 := eq_true q136
          go_wp2
          go_ret2
          exact ⟨zE, zB HB⟩
         ·rw [if_neg c20] at H
          have c20b0 := decide_eq_false c20
          clear c20
          by_cases c21 : (rd qD qG) ≥ qE
          ·rw [if_pos c21] at H
           have c21b0 := decide_eq_true c21
           clear c21
           simp only [Option.some.injEq, Prod.mk.injEq] at H
           obtain ⟨rfl, rfl⟩ := H
           have p136 : 0 ≤ (qG : Int) := of_decide_eq_true za
           have q136 : qG < (qD.length : Int) := of_decide_eq_true za
           obtain ⟨ad136, e136, hx136_0⟩ := Kd.at_int qW.out qG p136 q136
           cases e136
           replace hx136_0 := (HB.out.cell (World.block_lt_of_cell? w _ hx136_0)).trans hx136_0
           replace p136 := eq_true p136
           replace q136 := eq_true q136
           have qm := zc4 qC.out
           have qn := fun i_ : Nat => blk_frozen qC.out i_
           go_wp2
           go_ret2
           exact ⟨zE, zB HB⟩
          ·rw [if_neg c21] at H
           have c21b0 := decide_eq_false c21
           clear c21
           have H' := aM H
           clear H
           have p136 : 0 ≤ (qG : Int) := of_decide_eq_true za
           have q136 : qG < (qD.length : Int) := of_decide_eq_true za
           obtain ⟨ad136, e136, hx136_0⟩ := Kd.at_int qW.out qG p136 q136
           cases e136
           replace hx136_0 := (HB.out.cell (World.block_lt_of_cell? w _ hx136_0)).trans hx136_0
           replace p136 := eq_true p136
           replace q136 := eq_true q136
           have qo := zc4 qC.out
           have qp := fun i_ : Nat => blk_frozen qC.out i_
           go_wp2
           go_roundg k2
           case measure => have := HJ1.out; have := HK2.out; omega
           case rel => exact ⟨(wrap64 (qG + 1)), zT, H', ⟨by have := HJ1.out; have := HK2.out; omega⟩, ⟨zb qC⟩, ⟨zB HB⟩⟩
        ·rw [if_neg c19] at H
         exact absurd H (by simp)
       ·rw [if_neg c18] at H
        exact absurd H (by simp)
      ·rw [if_neg c17] at H
       have c17b0 := decide_eq_false c17
       clear c17
       have H' := aM H
       clear H
       have qq := zc4 qC.out
       have qr := fun i_ : Nat => blk_frozen qC.out i_
       go_wp2
       go_loopg [60] k2 (fun kq v60 w' => ∃ (qB : Int), v60 = .int .i64 qB ∧ Aside0 (prog_Check.l1 kq qA (qA.length : Int) qB qF qE qA qD = some (r1, r2)) ∧ Aside0 (kq ≤ k2) ∧ Aside0 (w'.heap[qH]? = some (.cells #[.int .i64 qF, .int .i64 qE, (.slice qQ qA.length qR), (.slice qS qD.length qT)] 26 (0, 0))) ∧ Aside0 (Below w.heap.size w w'))
       case atStart => exact ⟨(0), zT, H', ⟨Nat.le_refl _⟩, ⟨zb qC⟩, ⟨zB HB⟩⟩
       case round =>
        clear H'
        try clear c15
        try clear c17
        obtain ⟨qB, rfl, HA, HK3, qC, HB⟩ := hrel
        cases gk with
        | zero => exact absurd HA.out (by simp [prog_Check.l1])
        | succ k3 =>
         have H := HA.out
         clear HA
         simp only [prog_Check.l1] at H
         by_cases c25 : qB < (qA.length : Int)
         ·rw [if_pos c25] at H
          have c25b0 := decide_eq_true c25
          clear c25
          by_cases c26 : 0 ≤ qB
          ·rw [if_pos c26] at H
           have c26b0 := decide_eq_true c26
           clear c26
           by_cases c27 : qB < (qA.length : Int)
           ·rw [if_pos c27] at H
            have c27b0 := decide_eq_true c27
            clear c27
            replace H := Option.bind_eq_some_iff.mp H
            obtain ⟨qV, A280, H⟩ := H
            replace H : (if qV = true then (prog_Check.l1 k3 qA (qA.length : Int) (wrap64 (qB + 1)) qF qE qA qD) else (some (qB, 80))) = some (r1, r2) := H
            have A28 := aM A280
            clear A280
            by_cases c29 : qV = true
            ·subst c29
             have H1 : (prog_Check.l1 k3 qA (qA.length : Int) (wrap64 (qB + 1)) qF qE qA qD) = some (r1, r2) := by rw [if_pos rfl] at H; exact H
             clear H
             have H := H1
             clear H1
             have H' := aM H
             clear H
             have p137 : 0 ≤ (qB : Int) := of_decide_eq_true za
             have q137 : qB < (qA.length : Int) := of_decide_eq_true za
             obtain ⟨ad137, e137, hx137_0, hx137_1, hx137_2, hx137_3, hx137_4⟩ := at_T63 qb.out qB p137 q137
             cases e137
             replace hx137_0 := (HB.out.cell (World.block_lt_of_cell? w _ hx137_0)).trans hx137_0
             replace hx137_1 := (HB.out.cell (World.block_lt_of_cell? w _ hx137_1)).trans hx137_1
             replace hx137_2 := (HB.out.cell (World.block_lt_of_cell? w _ hx137_2)).trans hx137_2
             replace hx137_3 := (HB.out.cell (World.block_lt_of_cell? w _ hx137_3)).trans hx137_3
             replace hx137_4 := (HB.out.cell (World.block_lt_of_cell? w _ hx137_4)).trans hx137_4
             replace p137 := eq_true p137
             replace q137 := eq_true q137
             go_wp2_with (first | ((with_reducible refine gate_dst (N := 7) rfl ?_); (try (refine gate_guard (by rfl) ?_; dsimp only)); refine box_event rfl (N := 7) rfl (cs := #[.int .i64 0, .int .i64 0, .int .i64 0, .int .i64 0, .int .i64 0]) (t := 63) zG ?_; intro qL hg w30 hbox hb; have qM := aM (hbox); have qc := aM ((by rw [hg]; exact (below_size (zB HB)) : w.heap.size ≤ qL)); have qd := aM ((by rw [hg]; exact (below_size (zB HB)) : w.heap.size ≤ qL)); replace HB := aM (below_step (zB HB) hb); have qO := aM ((by rw [hg]; exact Nat.ne_of_lt (blk_lt (g := qH) (lK qC)) : qH ≠ qL)); have qP := aM ((by rw [hg]; exact Nat.ne_of_gt (blk_lt (g := qH) (lK qC)) : qL ≠ qH)); replace qC := aM (blk_below (g := qH) (lK qC) hb); clear hb hbox hg; have jA := qP.out; have jB := qO.out; have qs := zc5 qM.out; have qt := fun i_ : Nat => blk_frozen qM.out i_; have qu := zc4 qC.out; have qv := fun i_ : Nat => blk_frozen qC.out i_) | ((with_reducible refine gate_callee (f := 58) rfl ?_); refine goesL_ (some 68) rfl rfl Try.func58 zk rfl #[.agg #[.int .i64 ((rd_T63 qA qB).f0), .int .i64 ((rd_T63 qA qB).f1), .int .i64 ((rd_T63 qA qB).f2), .int .i64 ((rd_T63 qA qB).f3), .int .i64 ((rd_T63 qA qB).f4)], .int .i64 qE] rfl zA ?_; (with_reducible refine (prog_may.calls k3 ((rd_T63 qA qB).f0) ((rd_T63 qA qB).f1) ((rd_T63 qA qB).f2) ((rd_T63 qA qB).f3) ((rd_T63 qA qB).f4) qE true _ A28.out).mono ?_); rintro e w34 ⟨rfl, hb⟩; refine ⟨_, rfl, ?_⟩; replace qC := aM (blk_below (g := qH) (zb qC) hb); replace qM := aM (blk_below (g := qL) (o := .cells #[.int .i64 ((rd_T63 qA qB).f0), .int .i64 ((rd_T63 qA qB).f1), .int .i64 ((rd_T63 qA qB).f2), .int .i64 ((rd_T63 qA qB).f3), .int .i64 ((rd_T63 qA qB).f4)] 63 (0, 0)) (by refine lZ ?_; refine blk_put (cs := #[.int .i64 ((rd_T63 qA qB).f0), .int .i64 ((rd_T63 qA qB).f1), .int .i64 ((rd_T63 qA qB).f2), .int .i64 ((rd_T63 qA qB).f3), .int .i64 0]) ?_ 4 _ rfl; refine lZ ?_; refine blk_put (cs := #[.int .i64 ((rd_T63 qA qB).f0), .int .i64 ((rd_T63 qA qB).f1), .int .i64 ((rd_T63 qA qB).f2), .int .i64 0, .int .i64 0]) ?_ 3 _ rfl; refine lZ ?_; refine blk_put (cs := #[.int .i64 ((rd_T63 qA qB).f0), .int .i64 ((rd_T63 qA qB).f1), .int .i64 0, .int .i64 0, .int .i64 0]) ?_ 2 _ rfl; refine lZ ?_; refine blk_put (cs := #[.int .i64 ((rd_T63 qA qB).f0), .int .i64 0, .int .i64 0, .int .i64 0, .int .i64 0]) ?_ 1 _ rfl; refine lZ ?_; refine blk_put (cs := #[.int .i64 0, .int .i64 0, .int .i64 0, .int .i64 0, .int .i64 0]) ?_ 0 _ rfl; refine lZ ?_; exact qM.out) hb); replace HB := aM (below_step (zB HB) hb); (try clear hb)))
             go_roundg k3
             case measure => have := HJ1.out; have := HK2.out; have := HK3.out; omega
             case rel => exact ⟨(wrap64 (qB + 1)), zT, H', ⟨by have := HJ1.out; have := HK2.out; have := HK3.out; omega⟩, ⟨zb qC⟩, ⟨zB HB⟩⟩
            ·replace c29 := Bool.eq_false_iff.mpr c29
             subst c29
             have H1 : (some (qB, 80)) = some (r1, r2) := by rw [if_neg (show ¬ (false = true) by decide)] at H; exact H
             clear H
             have H := H1
             clear H1
             simp only [Option.some.injEq, Prod.mk.injEq] at H
             obtain ⟨rfl, rfl⟩ := H
             have p137 : 0 ≤ (qB : Int) := of_decide_eq_true za
             have q137 : qB < (qA.length : Int) := of_decide_eq_true za
             obtain ⟨ad137, e137, hx137_0, hx137_1, hx137_2, hx137_3, hx137_4⟩ := at_T63 qb.out qB p137 q137
             cases e137
             replace hx137_0 := (HB.out.cell (World.block_lt_of_cell? w _ hx137_0)).trans hx137_0
             replace hx137_1 := (HB.out.cell (World.block_lt_of_cell? w _ hx137_1)).trans hx137_1
             replace hx137_2 := (HB.out.cell (World.block_lt_of_cell? w _ hx137_2)).trans hx137_2
             replace hx137_3 := (HB.out.cell (World.block_lt_of_cell? w _ hx137_3)).trans hx137_3
             replace hx137_4 := (HB.out.cell (World.block_lt_of_cell? w _ hx137_4)).trans hx137_4
             replace p137 := eq_true p137
             replace q137 := eq_true q137
             go_wp2_with (first | ((with_reducible refine gate_dst (N := 7) rfl ?_); (try (refine gate_guard (by rfl) ?_; dsimp only)); refine box_event rfl (N := 7) rfl (cs := #[.int .i64 0, .int .i64 0, .int .i64 0, .int .i64 0, .int .i64 0]) (t := 63) zG ?_; intro qL hg w35 hbox hb; have qM := aM (hbox); have qc := aM ((by rw [hg]; exact (below_size (zB HB)) : w.heap.size ≤ qL)); have qd := aM ((by rw [hg]; exact (below_size (zB HB)) : w.heap.size ≤ qL)); replace HB := aM (below_step (zB HB) hb); have qO := aM ((by rw [hg]; exact Nat.ne_of_lt (blk_lt (g := qH) (lK qC)) : qH ≠ qL)); have qP := aM ((by rw [hg]; exact Nat.ne_of_gt (blk_lt (g := qH) (lK qC)) : qL ≠ qH)); replace qC := aM (blk_below (g := qH) (lK qC) hb); clear hb hbox hg; have jC := qP.out; have jD := qO.out; have qw := zc5 qM.out; have qx := fun i_ : Nat => blk_frozen qM.out i_; have qy := zc4 qC.out; have qz := fun i_ : Nat => blk_frozen qC.out i_) | ((with_reducible refine gate_callee (f := 58) rfl ?_); refine goesL_ (some 68) rfl rfl Try.func58 zk rfl #[.agg #[.int .i64 ((rd_T63 qA qB).f0), .int .i64 ((rd_T63 qA qB).f1), .int .i64 ((rd_T63 qA qB).f2), .int .i64 ((rd_T63 qA qB).f3), .int .i64 ((rd_T63 qA qB).f4)], .int .i64 qE] rfl zA ?_; (with_reducible refine (prog_may.calls k3 ((rd_T63 qA qB).f0) ((rd_T63 qA qB).f1) ((rd_T63 qA qB).f2) ((rd_T63 qA qB).f3) ((rd_T63 qA qB).f4) qE false _ A28.out).mono ?_); rintro e w39 ⟨rfl, hb⟩; refine ⟨_, rfl, ?_⟩; replace qC := aM (blk_below (g := qH) (zb qC) hb); replace qM := aM (blk_below (g := qL) (o := .cells #[.int .i64 ((rd_T63 qA qB).f0), .int .i64 ((rd_T63 qA qB).f1), .int .i64 ((rd_T63 qA qB).f2), .int .i64 ((rd_T63 qA qB).f3), .int .i64 ((rd_T63 qA qB).f4)] 63 (0, 0)) (by refine lZ ?_; refine blk_put (cs := #[.int .i64 ((rd_T63 qA qB).f0), .int .i64 ((rd_T63 qA qB).f1), .int .i64 ((rd_T63 qA qB).f2), .int .i64 ((rd_T63 qA qB).f3), .int .i64 0]) ?_ 4 _ rfl; refine lZ ?_; refine blk_put (cs := #[.int .i64 ((rd_T63 qA qB).f0), .int .i64 ((rd_T63 qA qB).f1), .int .i64 ((rd_T63 qA qB).f2), .int .i64 0, .int .i64 0]) ?_ 3 _ rfl; refine lZ ?_; refine blk_put (cs := #[.int .i64 ((rd_T63 qA qB).f0), .int .i64 ((rd_T63 qA qB).f1), .int .i64 0, .int .i64 0, .int .i64 0]) ?_ 2 _ rfl; refine lZ ?_; refine blk_put (cs := #[.int .i64 ((rd_T63 qA qB).f0), .int .i64 0, .int .i64 0, .int .i64 0, .int .i64 0]) ?_ 1 _ rfl; refine lZ ?_; refine blk_put (cs := #[.int .i64 0, .int .i64 0, .int .i64 0, .int .i64 0, .int .i64 0]) ?_ 0 _ rfl; refine lZ ?_; exact qM.out) hb); replace HB := aM (below_step (zB HB) hb); (try clear hb)))
             go_ret2
             exact ⟨zE, zB HB⟩
           ·rw [if_neg c27] at H
            exact absurd H (by simp)
          ·rw [if_neg c26] at H
           exact absurd H (by simp)
         ·rw [if_neg c25] at H
          have c25b0 := decide_eq_false c25
          clear c25
          simp only [Option.some.injEq, Prod.mk.injEq] at H
          obtain ⟨rfl, rfl⟩ := H
          go_wp2
          go_ret2
          exact ⟨zE, zB HB⟩

end Go.Proofs.Ytccbdcbeinkjgaa.XA
end

section
namespace Go.Proofs.Ytccbdcbeinkjgaa.XA
open Go.Proofs.Ytccbdcbeinkjgaa.Lift Go.RowKit Go.Proofs.YtccbdcbeinkjgaaW.PrintWords Go.Proofs.YtccbdcbeinkjgaaW.PrintLast Go.Proofs.YtccbdcbeinkjgaaW.PrintMore
attribute [local go_sem] max2_int min2_int max_two min_two max_three min_three max_four min_four
set_option linter.unusedVariables false
set_option linter.unusedSimpArgs false

/-! ### code_May: function 20 -/
mutual
def code_May.j0 : Nat → Bool → Int → Int → List (S48) → Int → Int → List (S63) → List Int → Int → Int → List (S63) → List Int → Int → Int → List (S63) → List Int → Option (Int)
 | 0, _, _, _, _, _, _, _, _, _, _, _, _, _, _, _, _ => none
 | k + 1, x32, qf, qg, qS, qT, qU, qV, qW, qX, qY, qZ, qa, qb, qc, qd, qe => if x32 = true then (some 2) else (code_May.l0 k qS (qS.length : Int) 0 qf qg qS qT qU qV qW qX qY qZ qa qb qc qd qe)
def code_May.l0 : Nat → List (S48) → Int → Int → Int → Int → List (S48) → Int → Int → List (S63) → List Int → Int → Int → List (S63) → List Int → Int → Int → List (S63) → List Int → Option (Int)
 | 0, _, _, _, _, _, _, _, _, _, _, _, _, _, _, _, _, _, _ => none
 | k + 1, x34, x35, x36, qf, qg, qS, qT, qU, qV, qW, qX, qY, qZ, qa, qb, qc, qd, qe => if x36 < x35 then (if 0 ≤ x36 then (if x36 < (x34.length : Int) then ((point_In.f ((rd_T48 x34 x36).f0) ((rd_T48 x34 x36).f1)).bind fun q4 => (if q4 = true then (code_May.l0 k x34 x35 (wrap64 (x36 + 1)) qf qg qS qT qU qV qW qX qY qZ qa qb qc qd qe) else (some 2))) else (none)) else (none)) else ((code_programs.f 140).bind fun jW => (code_May.l1 k 0 qf qg qS qT qU qV qW qX qY qZ qa qb qc qd qe))
def code_May.l1 : Nat → Int → Int → Int → List (S48) → Int → Int → List (S63) → List Int → Int → Int → List (S63) → List Int → Int → Int → List (S63) → List Int → Option (Int)
 | 0, _, _, _, _, _, _, _, _, _, _, _, _, _, _, _, _ => none
 | k + 1, x45, qf, qg, qS, qT, qU, qV, qW, qX, qY, qZ, qa, qb, qc, qd, qe => if x45 < 3 then (if x45 = 0 then ((prog_Check.f k qT qU qV qW).bind fun bt145 => (if bt145.2 = 0 then (code_May.l1 k (0 + 1) qf qg qS qT qU qV qW qX qY qZ qa qb qc qd qe) else (some bt145.2))) else (if x45 = 1 then ((prog_Check.f k qX qY qZ qa).bind fun bt147 => (if bt147.2 = 0 then (code_May.l1 k (1 + 1) qf qg qS qT qU qV qW qX qY qZ qa qb qc qd qe) else (some bt147.2))) else (if x45 = 2 then ((prog_Check.f k qb qc qd qe).bind fun bt149 => (if bt149.2 = 0 then (code_May.l1 k (2 + 1) qf qg qS qT qU qV qW qX qY qZ qa qb qc qd qe) else (some bt149.2))) else (none)))) else (some 0)
end
def code_May.f (k : Nat) (qL : Int) (qM : Int) (qB : List (S48)) (qO : Int) (qP : Int) (qI : List (S63)) (qJ : List Int) (qQ : Int) (qR : Int) (qK : List (S63)) (qC : List Int) (qF : Int) (qG : Int) (qD : List (S63)) (qE : List Int) : Option (Int) := if qL < 1 then (code_May.j0 k true qL qM qB qO qP qI qJ qQ qR qK qC qF qG qD qE) else (if qM < 1 then (code_May.j0 k true qL qM qB qO qP qI qJ qQ qR qK qC qF qG qD qE) else (if qL > 8 then (code_May.j0 k true qL qM qB qO qP qI qJ qQ qR qK qC qF qG qD qE) else (if qM > 8 then (code_May.j0 k true qL qM qB qO qP qI qJ qQ qR qK qC qF qG qD qE) else (code_May.j0 k (decide (255 < qB.length)) qL qM qB qO qP qI qJ qQ qR qK qC qF qG qD qE))))
theorem code_May.mono_l : ∀ k, (∀ y0 y1 y2 y3 y4 y5 y6 y7 y8 y9 y10 y11 y12 y13 y14 y15, LeO (code_May.j0 k y0 y1 y2 y3 y4 y5 y6 y7 y8 y9 y10 y11 y12 y13 y14 y15) (code_May.j0 (k + 1) y0 y1 y2 y3 y4 y5 y6 y7 y8 y9 y10 y11 y12 y13 y14 y15)) ∧ (∀ y0 y1 y2 y3 y4 y5 y6 y7 y8 y9 y10 y11 y12 y13 y14 y15 y16 y17, LeO (code_May.l0 k y0 y1 y2 y3 y4 y5 y6 y7 y8 y9 y10 y11 y12 y13 y14 y15 y16 y17) (code_May.l0 (k + 1) y0 y1 y2 y3 y4 y5 y6 y7 y8 y9 y10 y11 y12 y13 y14 y15 y16 y17)) ∧ (∀ y0 y1 y2 y3 y4 y5 y6 y7 y8 y9 y10 y11 y12 y13 y14 y15, LeO (code_May.l1 k y0 y1 y2 y3 y4 y5 y6 y7 y8 y9 y10 y11 y12 y13 y14 y15) (code_May.l1 (k + 1) y0 y1 y2 y3 y4 y5 y6 y7 y8 y9 y10 y11 y12 y13 y14 y15))
 | 0 => ⟨fun _ _ _ _ _ _ _ _ _ _ _ _ _ _ _ _ r h => by simp [code_May.j0] at h, fun _ _ _ _ _ _ _ _ _ _ _ _ _ _ _ _ _ _ r h => by simp [code_May.l0] at h, fun _ _ _ _ _ _ _ _ _ _ _ _ _ _ _ _ r h => by simp [code_May.l1] at h⟩
 | k + 1 => by
  obtain ⟨ih0, ih1, ih2⟩ := code_May.mono_l k
  refine ⟨?_, ?_, ?_⟩
  ·intro y0 y1 y2 y3 y4 y5 y6 y7 y8 y9 y10 y11 y12 y13 y14 y15
   unfold code_May.j0
   have im0 := @prog_Check.mono; exact zM
  ·intro y0 y1 y2 y3 y4 y5 y6 y7 y8 y9 y10 y11 y12 y13 y14 y15 y16 y17
   unfold code_May.l0
   have im0 := @prog_Check.mono; exact zM
  ·intro y0 y1 y2 y3 y4 y5 y6 y7 y8 y9 y10 y11 y12 y13 y14 y15
   unfold code_May.l1
   have im0 := @prog_Check.mono; exact zM
theorem code_May.mono : ∀ a0 a1 a2 a3 a4 a5 a6 a7 a8 a9 a10 a11 a12 a13 a14 k, LeO (code_May.f k a0 a1 a2 a3 a4 a5 a6 a7 a8 a9 a10 a11 a12 a13 a14) (code_May.f (k + 1) a0 a1 a2 a3 a4 a5 a6 a7 a8 a9 a10 a11 a12 a13 a14) := by
 intro a0 a1 a2 a3 a4 a5 a6 a7 a8 a9 a10 a11 a12 a13 a14 k
 obtain ⟨ih0, ih1, ih2⟩ := code_May.mono_l k
 unfold code_May.f
 have im0 := @prog_Check.mono; exact zM
set_option maxHeartbeats 8000000 in
set_option maxRecDepth 100000 in
theorem code_May.calls (k : Nat) (qL : Int) (qM : Int) (q1 : Option Addr) (q2 : Nat) (qB : List (S48)) (qO : Int) (qP : Int) (qt : Option Addr) (qu : Nat) (qI : List (S63)) (qv : Option Addr) (qw : Nat) (qJ : List Int) (qQ : Int) (qR : Int) (qx : Option Addr) (qy : Nat) (qK : List (S63)) (qj : Option Addr) (qk : Nat) (qC : List Int) (qF : Int) (qG : Int) (ql : Option Addr) (qm : Nat) (qD : List (S63)) (qn : Option Addr) (qo : Nat) (qE : List Int) (r : Int) (w : World) (jH : Kd.C k48 w q1 qB.length qB) (jI : qB.length ≤ q2) (jJ : Kd.C k63 w qt qI.length qI) (jK : qI.length ≤ qu) (jL : Kd.C (Kd.int .i64) w qv qJ.length qJ) (jM : qJ.length ≤ qw) (jN : Kd.C k63 w qx qK.length qK) (jO : qK.length ≤ qy) (q5 : Kd.C (Kd.int .i64) w qj qC.length qC) (q6 : qC.length ≤ qk) (q7 : Kd.C k63 w ql qD.length qD) (q8 : qD.length ≤ qm) (q9 : Kd.C (Kd.int .i64) w qn qE.length qE) (jA : qE.length ≤ qo) (h : code_May.f k qL qM qB qO qP qI qJ qQ qR qK qC qF qG qD qE = some r) :
  Calls Try.prog 20 #[.agg #[.int .i64 qL, .int .i64 qM, .slice q1 qB.length q2, .int .i64 qO, .int .i64 qP, .slice qt qI.length qu, .slice qv qJ.length qw, .int .i64 qQ, .int .i64 qR, .slice qx qK.length qy, .slice qj qC.length qk, .int .i64 qF, .int .i64 qG, .slice ql qD.length qm, .slice qn qE.length qo]] w fun e w' => e = .returned (.int .i64 r) ∧ Below w.heap.size w w' := by
 have hu28 := Try.underlying28
 have hu48 := Try.underlying48
 have hu26 := Try.underlying26
 have jP := aM jH
 have j8 := aM jI
 clear jH jI
 have jQ := aM jJ
 have jR := aM jK
 clear jJ jK
 have jS := aM jL
 have jT := aM jM
 clear jL jM
 have jU := aM jN
 have jV := aM jO
 clear jN jO
 have jB := aM q5
 have jC := aM q6
 clear q5 q6
 have jD := aM q7
 have jE := aM q8
 clear q7 q8
 have jF := aM q9
 have jG := aM jA
 clear q9 jA
 have HB := aM (Below.refl w.heap.size w)
 have H : (if qL < 1 then (code_May.j0 k true qL qM qB qO qP qI qJ qQ qR qK qC qF qG qD qE) else (if qM < 1 then (code_May.j0 k true qL qM qB qO qP qI qJ qQ qR qK qC qF qG qD qE) else (if qL > 8 then (code_May.j0 k true qL qM qB qO qP qI qJ qQ qR qK qC qF qG qD qE) else (if qM > 8 then (code_May.j0 k true qL qM qB qO qP qI qJ qQ qR qK qC qF qG qD qE) else (code_May.j0 k (decide (255 < qB.length)) qL qM qB qO qP qI qJ qQ qR qK qC qF qG qD qE))))) = some r := h
 clear h
 have HC2 := aM H
 clear H
 have jc : ∀ (g_ : Nat) (W : World), Sem.run Try.prog (Instr.index 58 (.agg #[.pointer (some ⟨g_, 3, none⟩), .pointer (some ⟨g_, 7, none⟩), .pointer (some ⟨g_, 11, none⟩)]) (.int .i64 0)) W = .ok (.pointer (some ⟨g_, 3, none⟩)) W := fun _ _ => by kernel_rfl
 have jd : ∀ (g_ : Nat) (W : World), Sem.run Try.prog (Instr.index 58 (.agg #[.pointer (some ⟨g_, 3, none⟩), .pointer (some ⟨g_, 7, none⟩), .pointer (some ⟨g_, 11, none⟩)]) (.int .i64 1)) W = .ok (.pointer (some ⟨g_, 7, none⟩)) W := fun _ _ => by kernel_rfl
 have je : ∀ (g_ : Nat) (W : World), Sem.run Try.prog (Instr.index 58 (.agg #[.pointer (some ⟨g_, 3, none⟩), .pointer (some ⟨g_, 7, none⟩), .pointer (some ⟨g_, 11, none⟩)]) (.int .i64 2)) W = .ok (.pointer (some ⟨g_, 11, none⟩)) W := fun _ _ => by kernel_rfl
 go_enter Try.func20, Try.ntmps20
 go_upto_region 1 with (first | ((with_reducible refine gate_dst (N := 1) rfl ?_); (try (refine gate_guard (by rfl) ?_; dsimp only)); refine box_event rfl (N := 1) rfl (cs := #[.int .i64 qL, .int .i64 qM, .slice q1 qB.length q2, .int .i64 qO, .int .i64 qP, .slice qt qI.length qu, .slice qv qJ.length qw, .int .i64 qQ, .int .i64 qR, .slice qx qK.length qy, .slice qj qC.length qk, .int .i64 qF, .int .i64 qG, .slice ql qD.length qm, .slice qn qE.length qo]) (t := 28) zG ?_; intro qN hg w3 hbox hb; have qA := aM (hbox); have j9 := aM ((by rw [hg]; exact (below_size (lB HB)) : w.heap.size ≤ qN)); have yA := aM ((by rw [hg]; exact (below_size (lB HB)) : w.heap.size ≤ qN)); replace HB := aM (below_step (lB HB) hb); clear hb hbox hg))
 (try simp only [Act.put, List.setIfInBounds_toArray, List.set_cons_zero, List.set_cons_succ])
 go_cut [32] (fun v32 wc => ∃ (kq : Nat) (q3 : Bool), v32 = .bool q3 ∧ Aside0 (code_May.j0 kq q3 qL qM qB qO qP qI qJ qQ qR qK qC qF qG qD qE = some r) ∧ Aside0 (kq ≤ k) ∧ Aside0 (wc.heap[qN]? = some (.cells #[.int .i64 qL, .int .i64 qM, (.slice q1 qB.length q2), .int .i64 qO, .int .i64 qP, (.slice qt qI.length qu), (.slice qv qJ.length qw), .int .i64 qQ, .int .i64 qR, (.slice qx qK.length qy), (.slice qj qC.length qk), .int .i64 qF, .int .i64 qG, (.slice ql qD.length qm), (.slice qn qE.length qo)] 28 (0, 0))) ∧ Aside0 (Below w.heap.size w wc))
 case first =>
  have H := HC2.out
  clear HC2
  by_cases c4 : qL < 1
  ·rw [if_pos c4] at H
   have c4b0 := decide_eq_true c4
   clear c4
   (first | rw [c4b0] | (simp only [i64_w, i32_w]; rw [c4b0]) | skip)
   have H' := aM H
   clear H
   have j2 := zc15 qA.out
   have j3 := fun i_ : Nat => blk_frozen qA.out i_
   go_wp2
   go_meet
   case rel => exact ⟨_, (true), zT, H', ⟨zO⟩, ⟨zb qA⟩, ⟨zB HB⟩⟩
  ·rw [if_neg c4] at H
   have c4b0 := decide_eq_false c4
   clear c4
   (first | rw [c4b0] | (simp only [i64_w, i32_w]; rw [c4b0]) | skip)
   by_cases c6 : qM < 1
   ·rw [if_pos c6] at H
    have c6b0 := decide_eq_true c6
    clear c6
    have H' := aM H
    clear H
    have j4 := zc15 qA.out
    have j5 := fun i_ : Nat => blk_frozen qA.out i_
    go_wp2
    go_meet
    case rel => exact ⟨_, (true), zT, H', ⟨zO⟩, ⟨zb qA⟩, ⟨zB HB⟩⟩
   ·rw [if_neg c6] at H
    have c6b0 := decide_eq_false c6
    clear c6
    by_cases c8 : qL > 8
    ·rw [if_pos c8] at H
     have c8b0 := decide_eq_true c8
     clear c8
     have H' := aM H
     clear H
     have j6 := zc15 qA.out
     have j7 := fun i_ : Nat => blk_frozen qA.out i_
     go_wp2
     go_meet
     case rel => exact ⟨_, (true), zT, H', ⟨zO⟩, ⟨zb qA⟩, ⟨zB HB⟩⟩
    ·rw [if_neg c8] at H
     have c8b0 := decide_eq_false c8
     clear c8
     by_cases c10 : qM > 8
     ·rw [if_pos c10] at H
      have c10b0 := decide_eq_true c10
      clear c10
      have H' := aM H
      clear H
      have jf := zc15 qA.out
      have jg := fun i_ : Nat => blk_frozen qA.out i_
      go_wp2
      go_meet
      case rel => exact ⟨_, (true), zT, H', ⟨zO⟩, ⟨zb qA⟩, ⟨zB HB⟩⟩
     ·rw [if_neg c10] at H
      have c10b0 := decide_eq_false c10
      clear c10
      have H' := aM H
      clear H
      have jh := zc15 qA.out
      have ji := fun i_ : Nat => blk_frozen qA.out i_
      go_wp2
      go_meet
      case rel => exact ⟨_, (decide (255 < qB.length)), (by first | rfl | (simp; done) | (simp [*]; done) | (simp; omega)), H', ⟨zO⟩, ⟨zb qA⟩, ⟨zB HB⟩⟩
 case rest =>
  clear HC2
  obtain ⟨kq, q3, rfl, HA, HJ1, qA, HB⟩ := hcut
  cases kq with
  | zero => exact absurd HA.out (by simp [code_May.j0])
  | succ kj1 =>
   have H := HA.out
   clear HA
   simp only [code_May.j0] at H
   by_cases c13 : q3 = true
   ·subst c13
    have H1 : (some 2) = some r := by rw [if_pos rfl] at H; exact H
    clear H
    have H := H1
    clear H1
    obtain rfl := Option.some.inj H
    go_wp2
    go_ret
    exact ⟨zE, zB HB⟩
   ·replace c13 := Bool.eq_false_iff.mpr c13
    subst c13
    have H1 : (code_May.l0 kj1 qB (qB.length : Int) 0 qL qM qB qO qP qI qJ qQ qR qK qC qF qG qD qE) = some r := by rw [if_neg (show ¬ (false = true) by decide)] at H; exact H
    clear H
    have H := H1
    clear H1
    have H' := aM H
    clear H
    have jj := zc15 qA.out
    have jk := fun i_ : Nat => blk_frozen qA.out i_
    go_wp2
    go_loopg [36] kj1 (fun kq v36 w' => ∃ (qH : Int), v36 = .int .i64 qH ∧ Aside0 (code_May.l0 kq qB (qB.length : Int) qH qL qM qB qO qP qI qJ qQ qR qK qC qF qG qD qE = some r) ∧ Aside0 (kq ≤ kj1) ∧ Aside0 (w'.heap[qN]? = some (.cells #[.int .i64 qL, .int .i64 qM, (.slice q1 qB.length q2), .int .i64 qO, .int .i64 qP, (.slice qt qI.length qu), (.slice qv qJ.length qw), .int .i64 qQ, .int .i64 qR, (.slice qx qK.length qy), (.slice qj qC.length qk), .int .i64 qF, .int .i64 qG, (.slice ql qD.length qm), (.slice qn qE.length qo)] 28 (0, 0))) ∧ Aside0 (Below w.heap.size w w'))
    case atStart => exact ⟨(0), zT, H', ⟨Nat.le_refl _⟩, ⟨zb qA⟩, ⟨zB HB⟩⟩
    case round =>
     clear H'
     try clear c13
     obtain ⟨qH, rfl, HA, HK2, qA, HB⟩ := hrel
     cases gk with
     | zero => exact absurd HA.out (by simp [code_May.l0])
     | succ k2 =>
      have H := HA.out
      clear HA
      simp only [code_May.l0] at H
      by_cases c15 : qH < (qB.length : Int)
      ·rw [if_pos c15] at H
       have c15b0 := decide_eq_true c15
       clear c15
       by_cases c16 : 0 ≤ qH
       ·rw [if_pos c16] at H
        have c16b0 := decide_eq_true c16
        clear c16
        by_cases c17 : qH < (qB.length : Int)
        ·rw [if_pos c17] at H
         have c17b0 := decide_eq_true c17
         clear c17
         replace H := Option.bind_eq_some_iff.mp H
         obtain ⟨q4, A180, H⟩ := H
         replace H : (if q4 = true then (code_May.l0 k2 qB (qB.length : Int) (wrap64 (qH + 1)) qL qM qB qO qP qI qJ qQ qR qK qC qF qG qD qE) else (some 2)) = some r := H
         have A18 := aM A180
         clear A180
         by_cases c19 : q4 = true
         ·subst c19
          have H1 : (code_May.l0 k2 qB (qB.length : Int) (wrap64 (qH + 1)) qL qM qB qO qP qI qJ qQ qR qK qC qF qG qD qE) = some r := by rw [if_pos rfl] at H; exact H
          clear H
          have H := H1
          clear H1
          have H' := aM H
          clear H
          have p141 : 0 ≤ (qH : Int) := of_decide_eq_true za
          have q141 : qH < (qB.length : Int) := of_decide_eq_true za
          obtain ⟨ad141, e141, hx141_0, hx141_1⟩ := at_T48 jP.out qH p141 q141
          cases e141
          replace hx141_0 := (HB.out.cell (World.block_lt_of_cell? w _ hx141_0)).trans hx141_0
          replace hx141_1 := (HB.out.cell (World.block_lt_of_cell? w _ hx141_1)).trans hx141_1
          replace p141 := eq_true p141
          replace q141 := eq_true q141
          go_wp2_with (first | ((with_reducible refine gate_dst (N := 4) rfl ?_); (try (refine gate_guard (by rfl) ?_; dsimp only)); refine box_event rfl (N := 4) rfl (cs := #[.int .i64 0, .int .i64 0]) (t := 48) zG ?_; intro qh hg w20 hbox hb; have qi := aM (hbox); have ja := aM ((by rw [hg]; exact (below_size (zB HB)) : w.heap.size ≤ qh)); have jb := aM ((by rw [hg]; exact (below_size (zB HB)) : w.heap.size ≤ qh)); replace HB := aM (below_step (zB HB) hb); have qz := aM ((by rw [hg]; exact Nat.ne_of_lt (blk_lt (g := qN) (lK qA)) : qN ≠ qh)); have q0 := aM ((by rw [hg]; exact Nat.ne_of_gt (blk_lt (g := qN) (lK qA)) : qh ≠ qN)); replace qA := aM (blk_below (g := qN) (lK qA) hb); clear hb hbox hg; have yB := q0.out; have yC := qz.out; have jl := zc2 qi.out; have jm := fun i_ : Nat => blk_frozen qi.out i_) | ((with_reducible refine gate_callee (f := 38) rfl ?_); refine goesL_ (some 41) rfl rfl Try.func38 zk rfl #[.agg #[.int .i64 ((rd_T48 qB qH).f0), .int .i64 ((rd_T48 qB qH).f1)]] rfl zA ?_; (with_reducible refine (point_In.calls ((rd_T48 qB qH).f0) ((rd_T48 qB qH).f1) true _ A18.out).mono ?_); rintro e w23 ⟨rfl, hb⟩; refine ⟨_, rfl, ?_⟩; replace qA := aM (blk_below (g := qN) (zb qA) hb); replace qi := aM (blk_below (g := qh) (o := .cells #[.int .i64 ((rd_T48 qB qH).f0), .int .i64 ((rd_T48 qB qH).f1)] 48 (0, 0)) (by refine lZ ?_; refine blk_put (cs := #[.int .i64 ((rd_T48 qB qH).f0), .int .i64 0]) ?_ 1 _ rfl; refine lZ ?_; refine blk_put (cs := #[.int .i64 0, .int .i64 0]) ?_ 0 _ rfl; refine lZ ?_; exact qi.out) hb); replace HB := aM (below_step (zB HB) hb); (try clear hb)))
          go_roundg k2
          case measure => have := HJ1.out; have := HK2.out; omega
          case rel => exact ⟨(wrap64 (qH + 1)), zT, H', ⟨by have := HJ1.out; have := HK2.out; omega⟩, ⟨zb qA⟩, ⟨zB HB⟩⟩
         ·replace c19 := Bool.eq_false_iff.mpr c19
          subst c19
          have H1 : (some 2) = some r := by rw [if_neg (show ¬ (false = true) by decide)] at H; exact H
          clear H
          have H := H1
          clear H1
          obtain rfl := Option.some.inj H
          have p141 : 0 ≤ (qH : Int) := of_decide_eq_true za
          have q141 : qH < (qB.length : Int) := of_decide_eq_true za
          obtain ⟨ad141, e141, hx141_0, hx141_1⟩ := at_T48 jP.out qH p141 q141
          cases e141
          replace hx141_0 := (HB.out.cell (World.block_lt_of_cell? w _ hx141_0)).trans hx141_0
          replace hx141_1 := (HB.out.cell (World.block_lt_of_cell? w _ hx141_1)).trans hx141_1
          replace p141 := eq_true p141
          replace q141 := eq_true q141
          go_wp2_with (first | ((with_reducible refine gate_dst (N := 4) rfl ?_); (try (refine gate_guard (by rfl) ?_; dsimp only)); refine box_event rfl (N := 4) rfl (cs := #[.int .i64 0, .int .i64 0]) (t := 48) zG ?_; intro qh hg w24 hbox hb; have qi := aM (hbox); have ja := aM ((by rw [hg]; exact (below_size (zB HB)) : w.heap.size ≤ qh)); have jb := aM ((by rw [hg]; exact (below_size (zB HB)) : w.heap.size ≤ qh)); replace HB := aM (below_step (zB HB) hb); have qz := aM ((by rw [hg]; exact Nat.ne_of_lt (blk_lt (g := qN) (lK qA)) : qN ≠ qh)); have q0 := aM ((by rw [hg]; exact Nat.ne_of_gt (blk_lt (g := qN) (lK qA)) : qh ≠ qN)); replace qA := aM (blk_below (g := qN) (lK qA) hb); clear hb hbox hg; have yD := q0.out; have yE := qz.out; have jn := zc2 qi.out; have jo := fun i_ : Nat => blk_frozen qi.out i_) | ((with_reducible refine gate_callee (f := 38) rfl ?_); refine goesL_ (some 41) rfl rfl Try.func38 zk rfl #[.agg #[.int .i64 ((rd_T48 qB qH).f0), .int .i64 ((rd_T48 qB qH).f1)]] rfl zA ?_; (with_reducible refine (point_In.calls ((rd_T48 qB qH).f0) ((rd_T48 qB qH).f1) false _ A18.out).mono ?_); rintro e w27 ⟨rfl, hb⟩; refine ⟨_, rfl, ?_⟩; replace qA := aM (blk_below (g := qN) (zb qA) hb); replace qi := aM (blk_below (g := qh) (o := .cells #[.int .i64 ((rd_T48 qB qH).f0), .int .i64 ((rd_T48 qB qH).f1)] 48 (0, 0)) (by refine lZ ?_; refine blk_put (cs := #[.int .i64 ((rd_T48 qB qH).f0), .int .i64 0]) ?_ 1 _ rfl; refine lZ ?_; refine blk_put (cs := #[.int .i64 0, .int .i64 0]) ?_ 0 _ rfl; refine lZ ?_; exact qi.out) hb); replace HB := aM (below_step (zB HB) hb); (try clear hb)))
          go_ret
          exact ⟨zE, zB HB⟩
        ·rw [if_neg c17] at H
         exact absurd H (by simp)
       ·rw [if_neg c16] at H
        exact absurd H (by simp)
      ·rw [if_neg c15] at H
       have c15b0 := decide_eq_false c15
       clear c15
       replace H := Option.bind_eq_some_iff.mp H
       obtain ⟨jW, A280, H⟩ := H
       replace H : (code_May.l1 k2 0 qL qM qB qO qP qI qJ qQ qR qK qC qF qG qD qE) = some r := H
       have A28 := aM A280
       clear A280
       have H' := aM H
       clear H
       go_wp2_with (first | ((with_reducible refine gate_callee (f := 27) rfl ?_); refine goesL_ (some 44) rfl rfl Try.func27 zk rfl #[.pointer (some ⟨qN, 0, none⟩)] rfl zA ?_; (with_reducible refine (code_programs.calls 140 jW qN _ A28.out).mono ?_); rintro e w29 ⟨rfl, hb⟩; refine ⟨_, rfl, ?_⟩; replace qA := aM (blk_below (g := qN) (lK qA) hb); replace HB := aM (below_step (zB HB) hb); (try clear hb)))
       go_loopg [45] k2 (fun kq v45 w' => ∃ (qp : Int), v45 = .int .i64 qp ∧ Aside0 (code_May.l1 kq qp qL qM qB qO qP qI qJ qQ qR qK qC qF qG qD qE = some r) ∧ Aside0 (kq ≤ k2) ∧ Aside0 (w'.heap[qN]? = some (.cells #[.int .i64 qL, .int .i64 qM, (.slice q1 qB.length q2), .int .i64 qO, .int .i64 qP, (.slice qt qI.length qu), (.slice qv qJ.length qw), .int .i64 qQ, .int .i64 qR, (.slice qx qK.length qy), (.slice qj qC.length qk), .int .i64 qF, .int .i64 qG, (.slice ql qD.length qm), (.slice qn qE.length qo)] 28 (0, 0))) ∧ Aside0 (Below w.heap.size w w'))
       case atStart => exact ⟨(0), zT, H', ⟨Nat.le_refl _⟩, ⟨zb qA⟩, ⟨zB HB⟩⟩
       case round =>
        clear H'
        try clear c13
        try clear c15
        obtain ⟨qp, rfl, HA, HK3, qA, HB⟩ := hrel
        cases gk with
        | zero => exact absurd HA.out (by simp [code_May.l1])
        | succ k3 =>
         have H := HA.out
         clear HA
         simp only [code_May.l1] at H
         by_cases c30 : qp < 3
         ·rw [if_pos c30] at H
          have c30b0 := decide_eq_true c30
          clear c30
          by_cases c31 : qp = 0
          ·rw [if_pos c31] at H
           (first | rw [c31] | skip)
           replace H := Option.bind_eq_some_iff.mp H
           obtain ⟨⟨jX, qq⟩, A320, H⟩ := H
           replace H : (if qq = 0 then (code_May.l1 k3 (0 + 1) qL qM qB qO qP qI qJ qQ qR qK qC qF qG qD qE) else (some qq)) = some r := H
           have A32 := aM A320
           clear A320
           by_cases c33 : qq = 0
           ·rw [if_pos c33] at H
            have c33b0 : (qq == 0) = true := beq_iff_eq.mpr c33
            have c33b1 : (qq != 0) = false := bne_eq_false_iff_eq.mpr c33
            clear c33
            have H' := aM H
            clear H
            have jp := zc15 qA.out
            have jq := fun i_ : Nat => blk_frozen qA.out i_
            go_wp2_with (first | ((with_reducible refine gate_callee (f := 39) rfl ?_); refine goesL_ (some 52) rfl rfl Try.func39 zk rfl #[.agg #[.int .i64 qO, .int .i64 qP, .slice qt qI.length qu, .slice qv qJ.length qw]] rfl zA ?_; (with_reducible refine (prog_Check.calls k3 qO qP _ _ qI _ _ qJ jX qq _ ?side1 ?side2 ?side3 ?side4 A32.out).mono ?_); (case side1 => refine lY ?_; exact (Kd.C_below jQ.out HB.out)); (case side2 => exact jR.out); (case side3 => refine lY ?_; exact (Kd.C_below jS.out HB.out)); (case side4 => exact jT.out); rintro e w35 ⟨rfl, hb⟩; refine ⟨_, rfl, ?_⟩; replace qA := aM (blk_below (g := qN) (lK qA) hb); replace HB := aM (below_step (zB HB) hb); (try clear hb)))
            go_roundg k3
            case measure => have := HJ1.out; have := HK2.out; have := HK3.out; omega
            case rel => exact ⟨(0 + 1), zT, H', ⟨by have := HJ1.out; have := HK2.out; have := HK3.out; omega⟩, ⟨zb qA⟩, ⟨zB HB⟩⟩
           ·rw [if_neg c33] at H
            have c33b0 : (qq == 0) = false := beq_eq_false_iff_ne.mpr c33
            have c33b1 : (qq != 0) = true := bne_iff_ne.mpr c33
            obtain rfl := Option.some.inj H
            have jr := zc15 qA.out
            have js := fun i_ : Nat => blk_frozen qA.out i_
            go_wp2_with (first | ((with_reducible refine gate_callee (f := 39) rfl ?_); refine goesL_ (some 52) rfl rfl Try.func39 zk rfl #[.agg #[.int .i64 qO, .int .i64 qP, .slice qt qI.length qu, .slice qv qJ.length qw]] rfl zA ?_; (with_reducible refine (prog_Check.calls k3 qO qP _ _ qI _ _ qJ jX qq _ ?side1 ?side2 ?side3 ?side4 A32.out).mono ?_); (case side1 => refine lY ?_; exact (Kd.C_below jQ.out HB.out)); (case side2 => exact jR.out); (case side3 => refine lY ?_; exact (Kd.C_below jS.out HB.out)); (case side4 => exact jT.out); rintro e w37 ⟨rfl, hb⟩; refine ⟨_, rfl, ?_⟩; replace qA := aM (blk_below (g := qN) (lK qA) hb); replace HB := aM (below_step (zB HB) hb); (try clear hb)))
            go_ret
            exact ⟨zE, zB HB⟩
          ·rw [if_neg c31] at H
           by_cases c38 : qp = 1
           ·rw [if_pos c38] at H
            (first | rw [c38] | skip)
            replace H := Option.bind_eq_some_iff.mp H
            obtain ⟨⟨jY, qr⟩, A390, H⟩ := H
            replace H : (if qr = 0 then (code_May.l1 k3 (1 + 1) qL qM qB qO qP qI qJ qQ qR qK qC qF qG qD qE) else (some qr)) = some r := H
            have A39 := aM A390
            clear A390
            by_cases c40 : qr = 0
            ·rw [if_pos c40] at H
             have c40b0 : (qr == 0) = true := beq_iff_eq.mpr c40
             have c40b1 : (qr != 0) = false := bne_eq_false_iff_eq.mpr c40
             clear c40
             have H' := aM H
             clear H
             have jt := zc15 qA.out
             have ju := fun i_ : Nat => blk_frozen qA.out i_
             go_wp2_with (first | ((with_reducible refine gate_callee (f := 39) rfl ?_); refine goesL_ (some 52) rfl rfl Try.func39 zk rfl #[.agg #[.int .i64 qQ, .int .i64 qR, .slice qx qK.length qy, .slice qj qC.length qk]] rfl zA ?_; (with_reducible refine (prog_Check.calls k3 qQ qR _ _ qK _ _ qC jY qr _ ?side1 ?side2 ?side3 ?side4 A39.out).mono ?_); (case side1 => refine lY ?_; exact (Kd.C_below jU.out HB.out)); (case side2 => exact jV.out); (case side3 => refine lY ?_; exact (Kd.C_below jB.out HB.out)); (case side4 => exact jC.out); rintro e w42 ⟨rfl, hb⟩; refine ⟨_, rfl, ?_⟩; replace qA := aM (blk_below (g := qN) (lK qA) hb); replace HB := aM (below_step (zB HB) hb); (try clear hb)))
             go_roundg k3
             case measure => have := HJ1.out; have := HK2.out; have := HK3.out; omega
             case rel => exact ⟨(1 + 1), zT, H', ⟨by have := HJ1.out; have := HK2.out; have := HK3.out; omega⟩, ⟨zb qA⟩, ⟨zB HB⟩⟩
            ·rw [if_neg c40] at H
             have c40b0 : (qr == 0) = false := beq_eq_false_iff_ne.mpr c40
             have c40b1 : (qr != 0) = true := bne_iff_ne.mpr c40
             obtain rfl := Option.some.inj H
             have jv := zc15 qA.out
             have jw := fun i_ : Nat => blk_frozen qA.out i_
             go_wp2_with (first | ((with_reducible refine gate_callee (f := 39) rfl ?_); refine goesL_ (some 52) rfl rfl Try.func39 zk rfl #[.agg #[.int .i64 qQ, .int .i64 qR, .slice qx qK.length qy, .slice qj qC.length qk]] rfl zA ?_; (with_reducible refine (prog_Check.calls k3 qQ qR _ _ qK _ _ qC jY qr _ ?side1 ?side2 ?side3 ?side4 A39.out).mono ?_); (case side1 => refine lY ?_; exact (Kd.C_below jU.out HB.out)); (case side2 => exact jV.out); (case side3 => refine lY ?_; exact (Kd.C_below jB.out HB.out)); (case side4 => exact jC.out); rintro e w44 ⟨rfl, hb⟩; refine ⟨_, rfl, ?_⟩; replace qA := aM (blk_below (g := qN) (lK qA) hb); replace HB := aM (below_step (zB HB) hb); (try clear hb)))
             go_ret
             exact ⟨zE, zB HB⟩
           ·rw [if_neg c38] at H
            by_cases c45 : qp = 2
            ·rw [if_pos c45] at H
             (first | rw [c45] | skip)
             replace H := Option.bind_eq_some_iff.mp H
             obtain ⟨⟨jZ, qs⟩, A460, H⟩ := H
             replace H : (if qs = 0 then (code_May.l1 k3 (2 + 1) qL qM qB qO qP qI qJ qQ qR qK qC qF qG qD qE) else (some qs)) = some r := H
             have A46 := aM A460
             clear A460
             by_cases c47 : qs = 0
             ·rw [if_pos c47] at H
              have c47b0 : (qs == 0) = true := beq_iff_eq.mpr c47
              have c47b1 : (qs != 0) = false := bne_eq_false_iff_eq.mpr c47
              clear c47
              have H' := aM H
              clear H
              have jx := zc15 qA.out
              have jy := fun i_ : Nat => blk_frozen qA.out i_
              go_wp2_with (first | ((with_reducible refine gate_callee (f := 39) rfl ?_); refine goesL_ (some 52) rfl rfl Try.func39 zk rfl #[.agg #[.int .i64 qF, .int .i64 qG, .slice ql qD.length qm, .slice qn qE.length qo]] rfl zA ?_; (with_reducible refine (prog_Check.calls k3 qF qG _ _ qD _ _ qE jZ qs _ ?side1 ?side2 ?side3 ?side4 A46.out).mono ?_); (case side1 => refine lY ?_; exact (Kd.C_below jD.out HB.out)); (case side2 => exact jE.out); (case side3 => refine lY ?_; exact (Kd.C_below jF.out HB.out)); (case side4 => exact jG.out); rintro e w49 ⟨rfl, hb⟩; refine ⟨_, rfl, ?_⟩; replace qA := aM (blk_below (g := qN) (lK qA) hb); replace HB := aM (below_step (zB HB) hb); (try clear hb)))
              go_roundg k3
              case measure => have := HJ1.out; have := HK2.out; have := HK3.out; omega
              case rel => exact ⟨(2 + 1), zT, H', ⟨by have := HJ1.out; have := HK2.out; have := HK3.out; omega⟩, ⟨zb qA⟩, ⟨zB HB⟩⟩
             ·rw [if_neg c47] at H
              have c47b0 : (qs == 0) = false := beq_eq_false_iff_ne.mpr c47
              have c47b1 : (qs != 0) = true := bne_iff_ne.mpr c47
              obtain rfl := Option.some.inj H
              have jz := zc15 qA.out
              have j1 := fun i_ : Nat => blk_frozen qA.out i_
              go_wp2_with (first | ((with_reducible refine gate_callee (f := 39) rfl ?_); refine goesL_ (some 52) rfl rfl Try.func39 zk rfl #[.agg #[.int .i64 qF, .int .i64 qG, .slice ql qD.length qm, .slice qn qE.length qo]] rfl zA ?_; (with_reducible refine (prog_Check.calls k3 qF qG _ _ qD _ _ qE jZ qs _ ?side1 ?side2 ?side3 ?side4 A46.out).mono ?_); (case side1 => refine lY ?_; exact (Kd.C_below jD.out HB.out)); (case side2 => exact jE.out); (case side3 => refine lY ?_; exact (Kd.C_below jF.out HB.out)); (case side4 => exact jG.out); rintro e w51 ⟨rfl, hb⟩; refine ⟨_, rfl, ?_⟩; replace qA := aM (blk_below (g := qN) (lK qA) hb); replace HB := aM (below_step (zB HB) hb); (try clear hb)))
              go_ret
              exact ⟨zE, zB HB⟩
            ·rw [if_neg c45] at H
             exact absurd H (by simp)
         ·rw [if_neg c30] at H
          have c30b0 := decide_eq_false c30
          clear c30
          obtain rfl := Option.some.inj H
          go_wp2
          go_ret
          exact ⟨zE, zB HB⟩

end Go.Proofs.Ytccbdcbeinkjgaa.XA
end

section
namespace Go.Proofs.Ytccbdcbeinkjgaa.XA
open Go.Proofs.Ytccbdcbeinkjgaa.Lift Go.RowKit Go.Proofs.YtccbdcbeinkjgaaW.PrintWords Go.Proofs.YtccbdcbeinkjgaaW.PrintLast Go.Proofs.YtccbdcbeinkjgaaW.PrintMore
attribute [local go_sem] max2_int min2_int max_two min_two max_three min_three max_four min_four
set_option linter.unusedVariables false
set_option linter.unusedSimpArgs false

/-! ### code_pair: function 28 -/
def code_pair.f (l0 : List Int) (a1 : Int) : Option (List Int) := (some (([(a1 / 256) % 256, (a1) % 256] : List Int) : List Int)).bind fun y151 => (if l0.length + y151.length < 140737488355328 then (some (l0 ++ y151)) else (none))
set_option maxHeartbeats 8000000 in
set_option maxRecDepth 100000 in
theorem code_pair.calls (P0_ : Nat → Prop) (u9000_ : Value) (l0 : List Int) (a1 : Int) (r : List Int) (w0 w : World) (hB : Below w0.heap.size w0 w) (ho0 : Kd.R (Kd.int .u8) 5 w w0.heap.size P0_ u9000_ l0) (h : code_pair.f l0 a1 = some r) :
  Calls Try.prog 28 #[u9000_, .int .i64 a1] w fun e w' => ∃ v0_ : Value, e = .returned (v0_) ∧ Kd.R (Kd.int .u8) 5 w' w0.heap.size (fun k_ => (P0_ k_ ∨ w.heap.size ≤ k_)) v0_ r ∧ Below w0.heap.size w0 w' ∧ Kept w w' (fun k_ => P0_ k_) := by
 have HO0 := aM (show Kd.R (Kd.int .u8) 5 w w0.heap.size (fun k_ => (P0_ k_ ∨ w.heap.size ≤ k_)) u9000_ l0 from Kd.R_mono ho0 (fun k_ hk => (.inl hk)))
 have HK := aM (Kept.refl w (fun k_ => P0_ k_))
 have HW0 := aM hB.size
 have HB := aM hB
 clear hB
 have H : ((some (([(a1 / 256) % 256, (a1) % 256] : List Int) : List Int)).bind fun y151 => (if l0.length + y151.length < 140737488355328 then (some (l0 ++ y151)) else (none))) = some r := h
 clear h
 obtain ⟨y151, hy151⟩ : ∃ y_ : List Int, y_ = (([(a1 / 256) % 256, (a1) % 256] : List Int)) := ⟨_, rfl⟩
 replace H : (if l0.length + y151.length < 140737488355328 then (some (l0 ++ y151)) else (none)) = some r := zH hy151 H
 have Ny151 := aM hy151
 clear hy151
 by_cases c3 : l0.length + y151.length < 140737488355328
 ·rw [if_pos c3] at H
  have LMc3 := aM c3
  clear c3
  obtain ⟨y154, hy154⟩ : ∃ y_ : List Int, y_ = (l0 ++ y151) := ⟨_, rfl⟩
  replace H : (some y154) = some r := zH hy154 H
  have Ny154 := aM hy154
  clear hy154
  obtain rfl := Option.some.inj H
  go_enter Try.func28, Try.ntmps28
  go_wp2_with (first | ((with_reducible refine gate_dst (N := 11) rfl ?_); refine Kd.R_lit (Kd.int .u8) _ 5 ?hg (N := 11) ?hd (xs := ([(a1 / 256) % 256, (a1) % 256] : List Int)) (inner := [.int .u8 ((a1 / 256) % 256), .int .u8 ((a1) % 256)]) (ok := fun _ => True) (okp := fun _ => True) ?hr ?hp (fun _ hk => hk) trivial (Below.refl _ _) (Nat.le_refl _) (by simp) ?_; (case hd => rfl); (case hg => rfl); (case hr => first | (go_simp; done) | (go_simp; rfl)); (case hp => exact (Reps.one (show Kd.M (Kd.int .u8) _ _ _ ((a1 / 256) % 256) [.int .u8 ((a1 / 256) % 256)] from rfl) (Reps.one (show Kd.M (Kd.int .u8) _ _ _ ((a1) % 256) [.int .u8 ((a1) % 256)] from rfl) (Reps.none _ _)))); intro v152 w4 ho5 hb hg_ hnew_; clear hg_ hnew_; (first | rw [← Ny151.out] at ho5 | (simp only [Int.reduceToNat] at ho5; rw [← Ny151.out] at ho5)); have qB := aM (Kd.R_lower (Kd.R_new' (Kd.R_newM (M := fun k_ => (P0_ k_ ∨ w.heap.size ≤ k_)) ho5 (by first | exact HK.out.1 | exact (show Kept w _ (fun k_ => P0_ k_) from by repeat (first | (with_reducible first | exact HK.out | apply Kept.alloc | apply Kept.drewN | apply Kept.drew) | exact HK.out)).1) (fun k_ h_ => .inr h_)) (Kd.R_lt (lR HO0))) (below_size (lB HB))); replace HO0 := aM (Kd.R_elder' (lR HO0) (Kd.R_base ho5) hb); replace HK := aM (Kept.below (S := (fun k_ => P0_ k_)) (by repeat (first | (with_reducible first | exact HK.out | apply Kept.alloc | apply Kept.drewN | apply Kept.drew) | exact HK.out)) hb); replace HB := aM (below_step (lB HB) hb); clear hb ho5; obtain ⟨Ao7, co7, eo7⟩ := Kd.R_slice qB.out; subst eo7) | ((with_reducible refine gate_builtin (b := .append) (xs := #[.tmp 5, .tmp 11]) rfl ?_); at_builtin; refine Kd.R_append_rows (Kd.int .u8) (w0 := w0) w0.heap.size rfl (.tmp 5) (.tmp 11) 31 5 (.int .u8 0) 1 rfl Try.underlying31 info5 rfl (by decide) (by omega) u9000_ l0 y151 _ _ _ (fun k_ => (P0_ k_ ∨ w.heap.size ≤ k_) ∧ some k_ ≠ (.slice Ao7 y151.length co7 : Value).ownBlock) (fun _ => False) rfl rfl ?aO ?aR (fun _ _ h => h) (fun _ h => h.elim) ?aF ?aB ?aS ?aL ?_; (case aR => repeat (first | exact (Kd.R_reads' qB.out).2.2 | (with_reducible refine Kd.C_alloc ?_ _) | (with_reducible refine Kd.C_drewN ?_ _) | (with_reducible refine Kd.C_drew ?_))); (case aB => exact (lB HB)); (case aF => exact (fun k_ hk => ⟨(.inr (Nat.le_trans (by first | exact HK.out.1 | exact (show Kept w _ (fun k_ => P0_ k_) from by repeat (first | (with_reducible first | exact HK.out | apply Kept.alloc | apply Kept.drewN | apply Kept.drew) | exact HK.out)).1) hk)), Kd.fresh' (Kd.R_lt (lR qB)) k_ hk⟩)); (case aO => exact (lR HO0)); (case aS => exact (below_size (lB HB))); (case aL => have := LMc3.out; omega); intro v155 w6 ho hb hg hat; rw [← Ny154.out] at ho; replace qB := aM (Kd.R_after (ok := (fun k_ => (P0_ k_ ∨ w.heap.size ≤ k_))) (by apply rX; exact Kd.R_mono qB.out (fun _ hk => ⟨hk.1.1, hk.2⟩)) hg hat); replace HB := aM (hb); replace HK := aM (Kept.of_grown (S := (fun k_ => P0_ k_)) hg (by repeat (first | (with_reducible first | exact HK.out | apply Kept.alloc | apply Kept.drewN | apply Kept.drew) | exact HK.out)) (fun k_ e_ => (HO0.out.1 k_ e_).1)); have qD := aM (ho); clear HO0; clear ho hb hg hat))
  go_ret
  exact ⟨_, zE, by apply rX; exact Kd.R_mono qD.out (fun _ hk => hk.1), zB HB, by repeat (first | (with_reducible first | exact HK.out | apply Kept.alloc | apply Kept.drewN | apply Kept.drew) | exact HK.out)⟩
 ·rw [if_neg c3] at H
  exact absurd H (by simp)

/-! ### code_check: function 29 -/
def code_check.l0 : Nat → Int → List Int → Int → Int → Option (Int)
 | 0, _, _, _, _ => none
 | k + 1, x3, x6, x7, x8 => if x8 < x7 then (if 0 ≤ x8 then (if x8 < (x6.length : Int) then (code_check.l0 k (Int.tmod (wrap64 (x3 + (wrap64 ((Int.tmod (wrap64 (x8 + 1)) 65521) * (wrap64 (rd x6 x8)))))) 65521) x6 x7 (wrap64 (x8 + 1))) else (none)) else (none)) else (some x3)
def code_check.f (k : Nat) (l0 : List Int) : Option (Int) := code_check.l0 k 0 l0 (l0.length : Int) 0
theorem code_check.mono_l : ∀ k, (∀ y0 y1 y2 y3, LeO (code_check.l0 k y0 y1 y2 y3) (code_check.l0 (k + 1) y0 y1 y2 y3))
 | 0 => fun _ _ _ _ r h => by simp [code_check.l0] at h
 | k + 1 => by
  have ih0 := code_check.mono_l k
  ·intro y0 y1 y2 y3
   unfold code_check.l0
   exact zM
theorem code_check.mono : ∀ a0 k, LeO (code_check.f k a0) (code_check.f (k + 1) a0) := by
 intro a0 k
 have ih0 := code_check.mono_l k
 unfold code_check.f
 exact zM
set_option maxHeartbeats 8000000 in
set_option maxRecDepth 100000 in
theorem code_check.calls (k : Nat) (A0 : Option Addr) (c0 : Nat) (l0 : List Int) (r : Int) (w : World) (hr0 : Kd.C (Kd.int .u8) w A0 l0.length l0) (hc0 : l0.length ≤ c0) (h : code_check.f k l0 = some r) :
  Calls Try.prog 29 #[.slice A0 l0.length c0] w fun e w' => e = .returned (.int .i64 r) ∧ Drawn0 w w' := by
 have HR0 := aM hr0
 have HC0 := aM hc0
 clear hr0 hc0
 have H : (code_check.l0 k 0 l0 (l0.length : Int) 0) = some r := h
 clear h
 have H' := aM H
 clear H
 go_enter Try.func29, Try.ntmps29
 go_wp2
 go_loopg [3, 8] k (fun kq v3 v8 w' => ∃ (qC : Int) (qA : Int), v3 = .int .i64 qC ∧ v8 = .int .i64 qA ∧ Aside0 (code_check.l0 kq qC l0 (l0.length : Int) qA = some r) ∧ Aside0 (kq ≤ k) ∧ Drawn0 w w')
 case atStart => exact ⟨(0), (0), zT, zT, H', ⟨Nat.le_refl _⟩, by repeat (first | exact Drawn0.refl _ | apply Drawn0.step)⟩
 case round =>
  clear H'
  obtain ⟨qC, qA, rfl, rfl, HA, HK1, ⟨m1, rfl⟩⟩ := hrel
  cases gk with
  | zero => exact absurd HA.out (by simp [code_check.l0])
  | succ k1 =>
   have H := HA.out
   clear HA
   simp only [code_check.l0] at H
   by_cases c2 : qA < (l0.length : Int)
   ·rw [if_pos c2] at H
    have c2b0 := decide_eq_true c2
    clear c2
    by_cases c3 : 0 ≤ qA
    ·rw [if_pos c3] at H
     have c3b0 := decide_eq_true c3
     clear c3
     by_cases c4 : qA < (l0.length : Int)
     ·rw [if_pos c4] at H
      have c4b0 := decide_eq_true c4
      clear c4
      have H' := aM H
      clear H
      have p157 : 0 ≤ (qA : Int) := of_decide_eq_true za
      have q157 : qA < (l0.length : Int) := of_decide_eq_true za
      obtain ⟨ad157, e157, hx157_0⟩ := Kd.at_int HR0.out qA p157 q157
      cases e157
      replace p157 := eq_true p157
      replace q157 := eq_true q157
      go_wp2
      go_roundg k1
      case measure => have := HK1.out; omega
      case rel => exact ⟨(Int.tmod (wrap64 (qC + (wrap64 ((Int.tmod (wrap64 (qA + 1)) 65521) * (wrap64 (rd l0 qA)))))) 65521), (wrap64 (qA + 1)), zT, zT, H', ⟨by have := HK1.out; omega⟩, by repeat (first | exact Drawn0.refl _ | apply Drawn0.step)⟩
     ·rw [if_neg c4] at H
      exact absurd H (by simp)
    ·rw [if_neg c3] at H
     exact absurd H (by simp)
   ·rw [if_neg c2] at H
    have c2b0 := decide_eq_false c2
    clear c2
    obtain rfl := Option.some.inj H
    go_wp2
    go_ret
    exact ⟨zT, by repeat (first | exact Drawn0.refl _ | apply Drawn0.step)⟩

/-! ### code_marked: function 85 -/
--IMPORT Derived.Lib.SlBytesConst
/-- The four bytes that a unit's bytes begin with, as they are made of the constant. (No function of the program: what the region that makes them leaves.) -/
def code_marked.f : Option (List Int) := some [65, 78, 86, 49]
section
variable {P : Program} {ops : Array Oper} {rest : List Oper} {o : Oper} {a : Act} {Q : Exit → Act → World → Prop}
theorem code_marked.reads (W : World) (g : Nat) (fr : Nat × Nat) (h : W.heap[g]? = some (.cells #[.int .u8 65, .int .u8 78, .int .u8 86, .int .u8 49] 5 fr)) :
  Kd.C (Kd.int .u8) W (some ⟨g, 0, none⟩) 4 [65, 78, 86, 49] := by
 refine ⟨rfl, by decide, fun _ => ⟨_, rfl, fun j p hp => ⟨[.int .u8 p], rfl, rfl, fun i u hu => ?_⟩⟩⟩
 have hi : i = 0 ∧ u = .int .u8 p := by
  cases i with
  | zero => exact ⟨rfl, (Option.some.inj hu).symm⟩
  | succ i => simp at hu
 obtain ⟨rfl, rfl⟩ := hi
 have hadd : (⟨g, 0, none⟩ : Addr).add (j * 1 + 0) = ⟨g, j, none⟩ := by unfold Addr.add; split <;> simp_all
 show W.cell? ((⟨g, 0, none⟩ : Addr).add (j * 1 + 0)) = _
 rw [hadd, cell_of_row W g j _ 5 fr h]
 match j, hp with
 | 0, hp => cases hp; rfl
 | 1, hp => cases hp; rfl
 | 2, hp => cases hp; rfl
 | 3, hp => cases hp; rfl
 | j + 4, hp => simp at hp
theorem code_marked.event {W0 : World} {r : List Int} (hgd : o.guard = none) (hr : code_marked.f = some r)
  (hrun : (execOp a.eval o).run P (W0.alloc (.cells #[.int .u8 65, .int .u8 78, .int .u8 86, .int .u8 49] 5)) = .ok (.value (.slice (some ⟨W0.heap.size, 0, none⟩) 4 4)) (W0.alloc (.cells #[.int .u8 65, .int .u8 78, .int .u8 86, .int .u8 49] 5 (4, 5))))
  (h : ∀ e w', (∃ v0_ : Value, e = Ending.returned v0_ ∧ Kd.V (Kd.int .u8) 5 w' W0.heap.size (fun k_ => W0.heap.size ≤ k_) v0_ r ∧ Below W0.heap.size W0 w') → ∃ v, e = Ending.returned v ∧ wpList P ops Q rest (a.put o.dst v) w') :
  wpList P ops Q (o :: rest) a (W0.alloc (.cells #[.int .u8 65, .int .u8 78, .int .u8 86, .int .u8 49] 5)) := by
 obtain rfl := Option.some.inj hr
 refine Kd.event_run hgd hrun ?_
 obtain ⟨v, hv, hw⟩ := h (.returned (.slice (some ⟨W0.heap.size, 0, none⟩) 4 4)) (W0.alloc (.cells #[.int .u8 65, .int .u8 78, .int .u8 86, .int .u8 49] 5 (4, 5)))
  ⟨_, rfl, ⟨some ⟨W0.heap.size, 0, none⟩, 4, rfl, by decide, fun W' hW => code_marked.reads W' W0.heap.size (4, 5) ((hW _ (Nat.le_refl _) (by show _ < (W0.heap.push _).size; simp)).trans (heap_alloc_new W0 _))⟩, below_alloc (Below.refl _ _) _⟩
 injection hv with hv
 subst hv
 exact hw
theorem code_marked.app {W0 : World} {x y z : Int} (hgd : o.guard = none) (s t : Operand) (ho : o.op = .call { callee := .builtin .append, args := #[s, t], argTypes := #[31, 31] })
  (ht : P.underlying 31 = some (.slice 5)) (hinfo : (P.info? 5).map (fun i => (i.zero, i.size, i.bytes)) = some (some (.int .u8 0), 1, 1))
  (hs : a.eval s = .slice (some ⟨W0.heap.size, 0, none⟩) 4 4) (hx : a.eval t = .slice (some ⟨W0.heap.size + 1, 0, none⟩) 3 3)
  (h : ∀ v1 w1, Kd.R (Kd.int .u8) 5 w1 W0.heap.size (fun _ => True) v1 [65, 78, 86, 49, x, y, z] → Below W0.heap.size W0 w1 → W0.grownBy w1 none → (∃ b, v1.ownBlock = some b ∧ W0.heap.size ≤ b) → wpList P ops Q rest (a.put o.dst v1) w1) :
  wpList P ops Q (o :: rest) a ((W0.alloc (.cells #[.int .u8 65, .int .u8 78, .int .u8 86, .int .u8 49] 5 (4, 5))).alloc (.cells #[.int .u8 x, .int .u8 y, .int .u8 z] 5)) := by
 obtain ⟨i, hi, hi2⟩ := Option.map_eq_some_iff.1 hinfo
 simp only [Prod.mk.injEq] at hi2
 obtain ⟨hz, hsz, hby⟩ := hi2
 generalize hW : (W0.alloc (.cells #[.int .u8 65, .int .u8 78, .int .u8 86, .int .u8 49] 5 (4, 5))).alloc (.cells #[.int .u8 x, .int .u8 y, .int .u8 z] 5) = W
 have hA : W.heap[W0.heap.size]? = some (.cells #[.int .u8 65, .int .u8 78, .int .u8 86, .int .u8 49] 5 (4, 5)) := by
  rw [← hW, heap_alloc_old _ _ (by show _ < (W0.heap.push _).size; simp)]
  exact heap_alloc_new W0 _
 have hB : W.heap[W0.heap.size + 1]? = some (.cells #[.int .u8 x, .int .u8 y, .int .u8 z] 5) := by
  rw [← hW]
  have := heap_alloc_new (W0.alloc (.cells #[.int .u8 65, .int .u8 78, .int .u8 86, .int .u8 49] 5 (4, 5))) (.cells #[.int .u8 x, .int .u8 y, .int .u8 z] 5)
  have hsize : (W0.alloc (.cells #[.int .u8 65, .int .u8 78, .int .u8 86, .int .u8 49] 5 (4, 5))).heap.size = W0.heap.size + 1 := by show (W0.heap.push _).size = _; simp
  rw [hsize] at this
  exact this
 have hS : W.heap.size = W0.heap.size + 2 := by rw [← hW]; show ((W0.heap.push _).push _).size = _; simp
 have hadd : ∀ (g j : Nat), (⟨g, 0, none⟩ : Addr).add j = ⟨g, j, none⟩ := fun g j => by unfold Addr.add; split <;> simp_all
 have hr := run_append_grow (P := P) W 31 o.type 5 i (.int .u8 0) ht hi hz ⟨W0.heap.size, 0, none⟩ 4 4 [.int .u8 65, .int .u8 78, .int .u8 86, .int .u8 49] (by rw [hsz]; rfl)
  (fun j u hu => by
   rw [hadd, cell_of_row W _ j _ 5 (4, 5) hA]
   match j, hu with
   | 0, hu => cases hu; rfl
   | 1, hu => cases hu; rfl
   | 2, hu => cases hu; rfl
   | 3, hu => cases hu; rfl
   | j + 4, hu => simp at hu)
  ⟨W0.heap.size + 1, 0, none⟩ 3 3 [.int .u8 x, .int .u8 y, .int .u8 z] (by rw [hsz]; rfl)
  (fun j u hu => by
   rw [hadd, cell_of_row W _ j _ 5 (0, 0) hB]
   match j, hu with
   | 0, hu => cases hu; rfl
   | 1, hu => cases hu; rfl
   | 2, hu => cases hu; rfl
   | j + 3, hu => simp at hu)
  (by decide) (by decide) (by rw [hby]; decide)
 have hge := grownCap_ge W (4 + 3) 4 5
 have hcm := grownCap_le_maxLen W (4 + 3) 4 5 (by decide)
 have hb0 : Below W0.heap.size W0 W := by rw [← hW]; exact below_alloc (below_alloc (Below.refl _ _) _) _
 refine Kd.event_run hgd (v := .slice (some ⟨W.heap.size, 0, none⟩) (4 + 3) (grownCap W (4 + 3) 4 5)) (w1 := W.drew.alloc (.cells ([.int .u8 65, .int .u8 78, .int .u8 86, .int .u8 49].toArray ++ [.int .u8 x, .int .u8 y, .int .u8 z].toArray ++ Builtin.zeroCells (Value.int .u8 0).cells (grownCap W (4 + 3) 4 5 - (4 + 3))) 5)) ?_ (h _ _ ?_ ?_ ?_ ⟨W.heap.size, by simp [Value.ownBlock], by omega⟩)
 ·unfold execOp
  simp only [ho, resolve, invoke, builtin, Sem.run_bind, Sem.run_pure, Result.andThen_ok, List.map_toArray, List.map_cons, List.map_nil, hs, hx, hr]
 ·refine ⟨fun _ _ => trivial, [.int .u8 65, .int .u8 78, .int .u8 86, .int .u8 49, .int .u8 x, .int .u8 y, .int .u8 z], ⟨rfl, .inr ⟨W.heap.size, _, _, rfl, by omega, heap_alloc_new W.drew _, hge, hcm, ?_, ?_⟩⟩, ?_⟩
  ·simp only [Array.size_append, List.size_toArray, size_zeroCells]
   show 4 + 3 + (grownCap W (4 + 3) 4 5 - (4 + 3)) * 1 = grownCap W (4 + 3) 4 5 * 1
   omega
  ·simp
   rfl
  ·exact (Reps.one (show Kd.M (Kd.int .u8) _ _ _ 65 [.int .u8 65] from rfl) (Reps.one (show Kd.M (Kd.int .u8) _ _ _ 78 [.int .u8 78] from rfl) (Reps.one (show Kd.M (Kd.int .u8) _ _ _ 86 [.int .u8 86] from rfl) (Reps.one (show Kd.M (Kd.int .u8) _ _ _ 49 [.int .u8 49] from rfl) (Reps.one (show Kd.M (Kd.int .u8) _ _ _ x [.int .u8 x] from rfl) (Reps.one (show Kd.M (Kd.int .u8) _ _ _ y [.int .u8 y] from rfl) (Reps.one (show Kd.M (Kd.int .u8) _ _ _ z [.int .u8 z] from rfl) (Reps.none _ _))))))))
 ·exact below_alloc (below_drew1 hb0) _
 ·have h0 : W0.grownBy W none := ⟨hb0.os, hb0.tape, hb0.output, hb0.size, fun k hk _ => hb0.block k hk⟩
  exact ⟨hb0.os, hb0.tape, hb0.output, by show _ ≤ (W.drew.heap.push _).size; have := hb0.size; simp; show _ ≤ W.heap.size + 1; omega, fun k hk _ => (heap_alloc_old W.drew _ (by show k < W.heap.size; omega)).trans (hb0.block k hk)⟩
end

end Go.Proofs.Ytccbdcbeinkjgaa.XA
end

section
namespace Go.Proofs.Ytccbdcbeinkjgaa.XA
open Go.Proofs.Ytccbdcbeinkjgaa.Lift Go.RowKit Go.Proofs.YtccbdcbeinkjgaaW.PrintWords Go.Proofs.YtccbdcbeinkjgaaW.PrintLast Go.Proofs.YtccbdcbeinkjgaaW.PrintMore
attribute [local go_sem] max2_int min2_int max_two min_two max_three min_three max_four min_four
set_option linter.unusedVariables false
set_option linter.unusedSimpArgs false

/-! ### code_reader_within: function 33 -/
/-- A state of type 70 at block g of W; what its slices lead to came in by w0. -/
def IsS70 (w0 W : World) (g : Nat) (f0 : List Int) (f1 : Int) (f2 : Bool) : Prop := ∃ A0 c0, W.heap[g]? = some (.cells #[.slice A0 f0.length c0, .int .i64 f1, .bool f2] 70 (0, 0)) ∧ w0.heap.size ≤ g ∧ Kd.C (Kd.int .u8) w0 A0 f0.length f0
theorem IsS70.grown {w0 W : World} {g : Nat} {f0 : List Int} {f1 : Int} {f2 : Bool} {W1 : World} {row : Option Nat} (h : IsS70 w0 W g f0 f1 f2) (hw : W.grownBy W1 row) (hne : some g ≠ row) : IsS70 w0 W1 g f0 f1 f2 := by
 obtain ⟨A0, c0, hb, hg, hr0⟩ := h
 exact ⟨A0, c0, blk_grown hb hw hne, hg, hr0⟩
theorem IsS70.fresh {w0 W : World} {g : Nat} {f0 : List Int} {f1 : Int} {f2 : Bool} (h : IsS70 w0 W g f0 f1 f2) : ∀ k, W.heap.size ≤ k → k ≠ g := by
 obtain ⟨A0, c0, hb, hg, hr0⟩ := h
 exact Kd.freshB hb
theorem IsS70.kept {w0 W : World} {g : Nat} {f0 : List Int} {f1 : Int} {f2 : Bool} {W1 : World} {S : Nat → Prop} (h : IsS70 w0 W g f0 f1 f2) (hk : Kept W W1 S) (hne : ¬ S g) : IsS70 w0 W1 g f0 f1 f2 := by
 obtain ⟨A0, c0, hb, hg, hr0⟩ := h
 exact ⟨A0, c0, blk_kept hb hk hne, hg, hr0⟩
theorem IsS70.below {w0 W : World} {g : Nat} {f0 : List Int} {f1 : Int} {f2 : Bool} {W1 : World} (h : IsS70 w0 W g f0 f1 f2) (hw : Below W.heap.size W W1) : IsS70 w0 W1 g f0 f1 f2 := h.grown (grown_of_below hw none) (by simp)
theorem IsS70.alloc {w0 W : World} {g : Nat} {f0 : List Int} {f1 : Int} {f2 : Bool} (h : IsS70 w0 W g f0 f1 f2) (o : Obj) : IsS70 w0 (W.alloc o) g f0 f1 f2 := h.below (below_alloc (Below.refl _ _) o)
theorem IsS70.drewN {w0 W : World} {g : Nat} {f0 : List Int} {f1 : Int} {f2 : Bool} (h : IsS70 w0 W g f0 f1 f2) (m : Nat) : IsS70 w0 (W.drewN m) g f0 f1 f2 := h
theorem IsS70.drew {w0 W : World} {g : Nat} {f0 : List Int} {f1 : Int} {f2 : Bool} (h : IsS70 w0 W g f0 f1 f2) : IsS70 w0 W.drew g f0 f1 f2 := h
theorem IsS70.at_ {w0 W : World} {g : Nat} {f0 : List Int} {f1 : Int} {f2 : Bool} {w' : World} {m : Nat} (hq : W.drewN m = w') (h : IsS70 w0 W g f0 f1 f2) : IsS70 w0 w' g f0 f1 f2 := by subst hq; exact IsS70.drewN h m
theorem IsS70.apart {w0 W : World} {g : Nat} {f0 : List Int} {f1 : Int} {f2 : Bool} {α : Type} {d : Kd α} {e : Nat} {base : Nat} {ok : Nat → Prop} {v : Value} {xs : List α} (h : IsS70 w0 W g f0 f1 f2) (ho : d.R e W base ok v xs) (ht : ∀ q, q ∈ e :: d.E → q ≠ 70) : d.R e W base (fun k => ok k ∧ k ≠ g) v xs := by
 obtain ⟨A0, c0, hb, hg, hr0⟩ := h
 exact Kd.R_types ho hb ht
theorem IsS70.own_ne {w0 W : World} {g : Nat} {f0 : List Int} {f1 : Int} {f2 : Bool} {α : Type} {d : Kd α} {e : Nat} {base : Nat} {ok : Nat → Prop} {v : Value} {xs : List α} (h : IsS70 w0 W g f0 f1 f2) (ho : d.R e W base ok v xs) (ht : e ≠ 70) : some g ≠ v.ownBlock := by
 obtain ⟨A0, c0, hb, hg, hr0⟩ := h
 exact Kd.R_ne ho hb ht
theorem IsS70.lt {w0 W : World} {g : Nat} {f0 : List Int} {f1 : Int} {f2 : Bool} (h : IsS70 w0 W g f0 f1 f2) : g < W.heap.size := by
 obtain ⟨A0, c0, hb, hg, hr0⟩ := h
 exact blk_lt hb
theorem IsS70.ge {w0 W : World} {g : Nat} {f0 : List Int} {f1 : Int} {f2 : Bool} (h : IsS70 w0 W g f0 f1 f2) : w0.heap.size ≤ g := by
 obtain ⟨A0, c0, hb, hg, hr0⟩ := h
 exact hg
theorem IsS70.ne_blk {w0 W : World} {g : Nat} {f0 : List Int} {f1 : Int} {f2 : Bool} {a : Nat} {cs : Array Value} {t : TypeId} {fr : Nat × Nat} (h : IsS70 w0 W g f0 f1 f2) (hb2 : W.heap[a]? = some (.cells cs t fr)) (ht : t ≠ 70) : g ≠ a := by
 obtain ⟨A0, c0, hb, hg, hr0⟩ := h
 rintro rfl
 rw [hb] at hb2
 injection hb2 with hb2
 injection hb2 with _ ht2
 exact ht ht2.symm
theorem IsS70.far {w0 W : World} {g : Nat} {f0 : List Int} {f1 : Int} {f2 : Bool} {p : Addr} (h : IsS70 w0 W g f0 f1 f2) (hne : g ≠ p.block) (u : Value) : IsS70 w0 (W.setCell p u) g f0 f1 f2 := by
 obtain ⟨A0, c0, hb, hg, hr0⟩ := h
 exact ⟨A0, c0, blk_far hb hne u, hg, hr0⟩
theorem cellS70_0 {W : World} {g : Nat} {A0 : Option Addr} {c0 : Nat} {f0 : List Int} {f1 : Int} {f2 : Bool} (h : W.heap[g]? = some (.cells #[.slice A0 f0.length c0, .int .i64 f1, .bool f2] 70 (0, 0))) : W.cell? ⟨g, 0, none⟩ = some (.slice A0 f0.length c0) := (blk_cell h 0).trans rfl
theorem cellS70_1 {W : World} {g : Nat} {A0 : Option Addr} {c0 : Nat} {f0 : List Int} {f1 : Int} {f2 : Bool} (h : W.heap[g]? = some (.cells #[.slice A0 f0.length c0, .int .i64 f1, .bool f2] 70 (0, 0))) : W.cell? ⟨g, 1, none⟩ = some (.int .i64 f1) := (blk_cell h 1).trans rfl
theorem IsS70.set_1 {w0 W : World} {g : Nat} {f0 : List Int} {f1 : Int} {f2 : Bool} (h : IsS70 w0 W g f0 f1 f2) (x : Int) : IsS70 w0 (W.setCell ⟨g, 1, none⟩ (.int .i64 x)) g f0 x f2 := by
 obtain ⟨A0, c0, hb, hg, hr0⟩ := h
 exact ⟨A0, c0, by simpa using blk_set hb 1 (.int .i64 x), hg, hr0⟩
theorem cellS70_2 {W : World} {g : Nat} {A0 : Option Addr} {c0 : Nat} {f0 : List Int} {f1 : Int} {f2 : Bool} (h : W.heap[g]? = some (.cells #[.slice A0 f0.length c0, .int .i64 f1, .bool f2] 70 (0, 0))) : W.cell? ⟨g, 2, none⟩ = some (.bool f2) := (blk_cell h 2).trans rfl
theorem IsS70.set_2 {w0 W : World} {g : Nat} {f0 : List Int} {f1 : Int} {f2 : Bool} (h : IsS70 w0 W g f0 f1 f2) (x : Bool) : IsS70 w0 (W.setCell ⟨g, 2, none⟩ (.bool x)) g f0 f1 x := by
 obtain ⟨A0, c0, hb, hg, hr0⟩ := h
 exact ⟨A0, c0, by simpa using blk_set hb 2 (.bool x), hg, hr0⟩
theorem IsS70.new (w0 W : World) (A0 : Option Addr) (c0 : Nat) (f0 : List Int) (f1 : Int) (f2 : Bool) (hB : Below w0.heap.size w0 W) (hr0 : Kd.C (Kd.int .u8) w0 A0 f0.length f0) : IsS70 w0 (W.alloc (.cells #[.slice A0 f0.length c0, .int .i64 f1, .bool f2] 70)) W.heap.size f0 f1 f2 := ⟨A0, c0, by simpa using heap_alloc_new W _, hB.size, hr0⟩
--IMPORT Derived.Shelf.GgClosure.Gives
/-- What a byte is read as: a byte that is as it must be, or the reader goes wrong. -/
def byteF (good : Int → Bool) (s : List Int) (at_ : Int) (wrong : Bool) : Option (Int × Int × Bool) :=
 if wrong = true then some (0, at_, true) else if at_ = (s.length : Int) then some (0, at_, true) else
 if 0 ≤ at_ ∧ at_ < (s.length : Int) ∧ s.length ≤ 281474976710656 ∧ 0 ≤ rd s at_ ∧ rd s at_ ≤ 255 then (if good (rd s at_) = true then some (rd s at_, at_ + 1, false) else some (0, at_, true)) else none
/-- What a byte's test answers, wherever all that lay lies. -/
def PredB (P : Program) (fn : Nat) (lb : Array Value) (good : Int → Bool) (w : World) : Prop := ∀ (W : World) (x : Int), 0 ≤ x → x ≤ 255 → Below w.heap.size w W → FnGives P fn lb #[.int .i64 x] (.bool (good x)) W
theorem pred_reads {P : Program} {fn : Nat} {lb : Array Value} {good : Int → Bool} {w : World} (hp : PredB P fn lb good w) (x : Int) (h0 : 0 ≤ x) (h1 : x ≤ 255) (q : Nat) (b : Bool) (hb : good x = b) :
  Calls P fn (#[.int .i64 x] ++ lb) (w.drewN q) fun e w' => e = .returned (.bool b) ∧ ∃ m, w' = (w.drewN q).drewN m := by
 subst hb
 exact hp _ x h0 h1 (below_drewN' (Below.refl _ _) q)
set_option maxHeartbeats 4000000 in
set_option maxRecDepth 100000 in
theorem code_reader_byte {fn : Nat} {lb : Array Value} {good : Int → Bool} (eg : ∀ args w, (callFunc fn args).run Try.prog w = .ok (.enter fn args) w) (g : Nat) (s0_0 : List Int) (s0_1 : Int) (s0_2 : Bool) (r1 r2 : Int) (r3 : Bool) (w0 w : World)
  (hp : PredB Try.prog fn lb good w) (hI : IsS70 w0 w g s0_0 s0_1 s0_2) (hB : Below w0.heap.size w0 w) (h : byteF good s0_0 s0_1 s0_2 = some (r1, r2, r3)) :
  Calls Try.prog 51 #[.pointer (some ⟨g, 0, none⟩), .func (.func fn) #[] lb] w fun e w' => e = .returned (.int .i64 r1) ∧ IsS70 w0 w' g s0_0 r2 r3 ∧ Below w0.heap.size w0 w' ∧ KeepBut w w' g none := by
 unfold byteF at h
 have HI0 := aM hI
 have HK := aM (KeepBut.refl w g none)
 have HB := aM hB
 obtain ⟨A0, c0, HG, hg, HS0⟩ := hI
 have hc0 := cellS70_0 HG
 have hc1 := cellS70_1 HG
 have hc2 := cellS70_2 HG
 have hf1 := blk_frozen HG 1
 have hf2 := blk_frozen HG 2
 clear HG hg hB
 by_cases c1 : s0_2 = true
 ·rw [if_pos c1] at h
  subst c1
  simp only [Option.some.injEq, Prod.mk.injEq] at h
  obtain ⟨rfl, rfl, rfl⟩ := h
  clear hp eg HS0
  go_enter Try.func51, Try.ntmps51
  go_wp2
  repeat (go_quiet (fail); try go_wp2)
  go_ret
  exact ⟨rfl, zS HI0, zB HB, zK HK⟩
 ·rw [if_neg c1] at h
  obtain rfl : s0_2 = false := by simpa using c1
  clear c1
  by_cases c2 : s0_1 = (s0_0.length : Int)
  ·rw [if_pos c2] at h
   simp only [Option.some.injEq, Prod.mk.injEq] at h
   obtain ⟨rfl, rfl, rfl⟩ := h
   have c2b : (s0_1 == (s0_0.length : Int)) = true := beq_iff_eq.2 c2
   clear hp eg HS0 c2
   go_enter Try.func51, Try.ntmps51
   go_wp2
   repeat (go_quiet (fail); try go_wp2)
   go_ret
   exact ⟨rfl, zS HI0, zB HB, zK HK⟩
  ·rw [if_neg c2] at h
   have c2b : (s0_1 == (s0_0.length : Int)) = false := beq_eq_false_iff_ne.2 c2
   by_cases c3 : 0 ≤ s0_1 ∧ s0_1 < (s0_0.length : Int) ∧ s0_0.length ≤ 281474976710656 ∧ 0 ≤ rd s0_0 s0_1 ∧ rd s0_0 s0_1 ≤ 255
   ·rw [if_pos c3] at h
    obtain ⟨d1, d2, d3, d4, d5⟩ := c3
    obtain ⟨ad, e1, hx⟩ := Kd.at_int HS0 s0_1 d1 d2
    cases e1
    have hx0 := hx
    replace hx := pw_cell_below HB.out hx
    have p1 := eq_true d1
    have p2 := eq_true d2
    cases hgd : good (rd s0_0 s0_1)
    ·rw [hgd] at h
     simp only [Option.some.injEq, Prod.mk.injEq, if_neg (show ¬ (false = true) by decide)] at h
     obtain ⟨rfl, rfl, rfl⟩ := h
     have hgd' := aM hgd
     clear hgd c2 hx0
     generalize hv : rd s0_0 s0_1 = v at *
     clear hv
     go_enter Try.func51, Try.ntmps51
     go_wp2
     repeat (go_quiet ((go_at_fn fn; exact Calls.quiet_of (pred_reads hp _ d4 d5 _ _ hgd'.out))); try go_wp2)
     go_ret
     exact ⟨rfl, zS HI0, zB HB, zK HK⟩
    ·rw [hgd] at h
     simp only [Option.some.injEq, Prod.mk.injEq, if_true] at h
     obtain ⟨rfl, rfl, rfl⟩ := h
     have hgd' := aM hgd
     have hn : ad.block ≠ g := Nat.ne_of_lt (Nat.lt_of_lt_of_le (by have := World.block_lt_of_cell? _ _ hx0; first | rwa [add_block] at this | exact this) (IsS70.ge HI0.out))
     have hx2 := (cell_far (p := ⟨g, 1, none⟩) (by first | (rw [add_block]; exact hn) | (show (Addr.add _ _).block ≠ _; rw [add_block]; exact hn) | exact hn) (.int .i64 (s0_1 + 1))).trans hx
     have hy2 := fun (n_ : Nat) => (show (((w.drewN n_).setCell ⟨g, 1, none⟩ (.int .i64 (s0_1 + 1)))).cell? _ = some _ from hx2)
     have hw1 : IntKind.i64.wrap (s0_1 + 1) = s0_1 + 1 := by rw [i64_w]; unfold wrap64; omega
     have hw2 : IntKind.i64.wrap (s0_1 + 1 - 1) = s0_1 := by rw [i64_w]; unfold wrap64; omega
     have hw3 : wrap64 (s0_1 + 1) = s0_1 + 1 := by unfold wrap64; omega
     have hw4 : s0_1 + 1 - 1 = s0_1 := by omega
     clear hgd c2 hx0 hn
     generalize hv : rd s0_0 s0_1 = v at *
     clear hv
     go_enter Try.func51, Try.ntmps51
     go_wp2
     repeat (go_quiet ((go_at_fn fn; exact Calls.quiet_of (pred_reads hp _ d4 d5 _ _ hgd'.out))); try go_wp2)
     go_ret
     exact ⟨rfl, zS HI0, zB HB, zK HK⟩
   ·rw [if_neg c3] at h
    cases h
theorem within_pred (l m : Int) (g1 g2 : Nat) (w : World) (h1 : w.cell? ⟨g1, 0, none⟩ = some (.int .i64 l)) (h2 : w.cell? ⟨g2, 0, none⟩ = some (.int .i64 m)) (b1 : g1 < w.heap.size) (b2 : g2 < w.heap.size) :
  PredB Try.prog 52 #[.pointer (some ⟨g1, 0, none⟩), .pointer (some ⟨g2, 0, none⟩)] (fun x => decide (l ≤ x) && decide (x ≤ m)) w := by
 intro W x x0 x1 hb
 have h1' := (hb.cell (p := ⟨g1, 0, none⟩) b1).trans h1
 have h2' := (hb.cell (p := ⟨g2, 0, none⟩) b2).trans h2
 clear h1 h2 b1 b2
 unfold FnGives
 by_cases c : l ≤ x
 ·have cb : decide (l ≤ x) = true := decide_eq_true c
  clear c
  go_enter Try.func52, Try.ntmps52
  go_wp2
  repeat (go_quiet (fail); try go_wp2)
  go_ret
  exact ⟨by simp [cb], 0, rfl⟩
 ·have cb : decide (l ≤ x) = false := decide_eq_false c
  clear c
  go_enter Try.func52, Try.ntmps52
  go_wp2
  repeat (go_quiet (fail); try go_wp2)
  go_ret
  exact ⟨by simp [cb], 0, rfl⟩
def code_reader_within.f (s0_0 : List Int) (s0_1 : Int) (s0_2 : Bool) (a1 : Int) (a2 : Int) : Option (Int × Int × Bool) := byteF (fun x => decide (a1 ≤ x) && decide (x ≤ a2)) s0_0 s0_1 s0_2
set_option maxHeartbeats 4000000 in
set_option maxRecDepth 100000 in
theorem code_reader_within.calls (g : Nat) (s0_0 : List Int) (s0_1 : Int) (s0_2 : Bool) (a1 : Int) (a2 : Int) (r1 : Int) (r2 : Int) (r3 : Bool) (w0 w : World) (hI : IsS70 w0 w g s0_0 s0_1 s0_2) (hB : Below w0.heap.size w0 w) (h : code_reader_within.f s0_0 s0_1 s0_2 a1 a2 = some (r1, r2, r3)) :
  Calls Try.prog 33 #[.pointer (some ⟨g, 0, none⟩), .int .i64 a1, .int .i64 a2] w fun e w' => e = .returned (.int .i64 r1) ∧ IsS70 w0 w' g s0_0 r2 r3 ∧ Below w0.heap.size w0 w' ∧ KeepBut w w' g none := by
 have eg := enters_of Try.func52 zk rfl
 have hI2 := IsS70.alloc (IsS70.alloc hI (.cells #[.int .i64 a1] 3)) (.cells #[.int .i64 a2] 3)
 have hB2 := below_alloc (below_alloc hB (.cells #[.int .i64 a1] 3)) (.cells #[.int .i64 a2] 3)
 have hK2 : KeepBut w ((w.alloc (.cells #[.int .i64 a1] 3)).alloc (.cells #[.int .i64 a2] 3)) g none := by repeat (first | (with_reducible first | exact KeepBut.refl w g none | apply keep_alloc) | exact KeepBut.refl w g none)
 have hp := within_pred a1 a2 w.heap.size (w.heap.size + 1) ((w.alloc (.cells #[.int .i64 a1] 3)).alloc (.cells #[.int .i64 a2] 3)) (by go_simp) (by go_simp) (by simp; omega) (by simp)
 have C := code_reader_byte eg g s0_0 s0_1 s0_2 r1 r2 r3 w0 _ hp hI2 hB2 h
 clear hI hB hI2 hB2 hp h
 go_enter Try.func33, Try.ntmps33
 go_wp2_with (go_at_call 51; refine C.mono ?_; rintro e w1 ⟨rfl, hI1, hB1, hK1⟩)
 go_ret
 exact ⟨rfl, hI1, hB1, hK2.trans hK1 (Or.inl rfl)⟩

end Go.Proofs.Ytccbdcbeinkjgaa.XA
end
