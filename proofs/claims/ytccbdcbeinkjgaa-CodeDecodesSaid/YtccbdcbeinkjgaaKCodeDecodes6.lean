/- Part 6 of the proof of the law CodeDecodes for every input: words, walks and plain laws. No condition. -/
import Derived.Test.YtccbdcbeinkjgaaProg
import Derived.Below
import Derived.Deep.Draws
import Derived.Deep.AppendLies
import Derived.Maps.AppendAt
import Derived.OwnWalk
import Derived.Laws.BytesArg
import Derived.Laws.MakeOwn
import Derived.Laws.OwnMore
import Derived.Deep.OwnRows
import Derived.Tactics
import Derived.Lib.ConvBytes
import Derived.Laws.Slices
import Derived.WalkKit
import Derived.KernelRfl
import Derived.RowKit3
import Derived.Deep.LoopGhost
import Derived.Deep.QuietTactic
import Derived.BigQuiet
import Derived.WideLaws
import Derived.Deep.DeepCutAuto
import Derived.Deep.CutBlock
import Derived.Deep.RegionHeld3
import Derived.Laws.Rows
import Derived.Lib.AppendStr
import Derived.ArgAppend
import Derived.Laws.IdiomCopy
import Derived.OrdersHeld
import Derived.Laws.BitsLemmas
import Derived.RowKit
import Derived.WalkSpells
import Derived.StillTailTactics
import Derived.Lib.SlBytesConst
import Derived.Shelf.GgClosure.Gives
import Derived.Laws.EntriesVeiled
import Derived.Test.YtccbdcbeinkjgaaKCodeDecodes5
set_option linter.unusedVariables false
set_option linter.unusedSimpArgs false
set_option maxHeartbeats 8000000
set_option maxRecDepth 100000
section
namespace Go.Proofs.Ytccbdcbeinkjgaa.XA
open Go.Proofs.Ytccbdcbeinkjgaa.Lift Go.RowKit Go.Proofs.YtccbdcbeinkjgaaW.PrintWords Go.Proofs.YtccbdcbeinkjgaaW.PrintLast Go.Proofs.YtccbdcbeinkjgaaW.PrintMore
attribute [local go_sem] max2_int min2_int max_two min_two max_three min_three max_four min_four
def errW : Option Int → Value
 | none => .nilIface
 | some c => .iface 0 (.int .i64 c)
theorem errW_none : errW none = .nilIface := rfl
theorem errW_some (c : Int) : errW (some c) = .iface 0 (.int .i64 c) := rfl
theorem info3 : (Try.prog.info? 3).map (fun i => (i.zero, i.size, i.bytes)) = some (some (.int .i64 0), 1, 8) := by kernel_rfl
theorem info5 : (Try.prog.info? 5).map (fun i => (i.zero, i.size, i.bytes)) = some (some (.int .u8 0), 1, 1) := by kernel_rfl
theorem info48 : (Try.prog.info? 48).map (fun i => (i.zero, i.size, i.bytes)) = some (some (.agg #[(.int .i64 0), (.int .i64 0)]), 2, 16) := by kernel_rfl
theorem info63 : (Try.prog.info? 63).map (fun i => (i.zero, i.size, i.bytes)) = some (some (.agg #[(.int .i64 0), (.int .i64 0), (.int .i64 0), (.int .i64 0), (.int .i64 0)]), 5, 40) := by kernel_rfl
structure S48 where
 f0 : Int
 f1 : Int
def z48 : S48 := ⟨(0 : Int), (0 : Int)⟩
def k48 : Kd S48 := Kd.iso (Kd.pair (Kd.int .i64) (Kd.int .i64)) (fun x : S48 => (x.f0, x.f1))
theorem k48_open {w : World} {x : S48} {cs : List Value} (h : k48.K w x cs) : cs = [.int .i64 x.f0, .int .i64 x.f1] := by
 obtain ⟨_, _, rfl, rfl, rfl⟩ := h
 exact rfl
theorem k48_mkM (w : World) (base : Nat) (ok : Nat → Prop) (x : S48)  : k48.M w base ok x [.int .i64 x.f0, .int .i64 x.f1] := ⟨[.int .i64 x.f0], [.int .i64 x.f1], rfl, rfl, rfl⟩
def rd_T48 (xs : List S48) (i : Int) : S48 := xs.getD i.toNat z48
theorem at_T48 {w : World} {A : Option Addr} {n : Nat} {xs : List S48} (h : Kd.C k48 w A n xs) (i : Int) (h0 : 0 ≤ i) (h1 : i < n) : ∃ ad , A = some ad ∧ w.cell? (ad.add (i.toNat * 2)) = some (.int .i64 (rd_T48 xs i).f0) ∧ w.cell? ⟨(ad.add (i.toNat * 2)).block, (ad.add (i.toNat * 2)).off + 1, none⟩ = some (.int .i64 (rd_T48 xs i).f1) := by
 obtain ⟨ad, c, e, _, hK, hc0⟩ := Kd.C_get h z48 i h0 h1
 have hc : ∀ j u, c[j]? = some u → w.cell? (ad.add (i.toNat * 2 + j)) = some u := hc0
 obtain rfl := k48_open hK
 exact ⟨ad, e, hc 0 _ rfl, by rw [← add_field _ _ 1 (by omega)]; exact hc 1 _ rfl⟩
structure S63 where
 f0 : Int
 f1 : Int
 f2 : Int
 f3 : Int
 f4 : Int
def z63 : S63 := ⟨(0 : Int), (0 : Int), (0 : Int), (0 : Int), (0 : Int)⟩
def k63 : Kd S63 := Kd.iso (Kd.pair (Kd.int .i64) (Kd.pair (Kd.int .i64) (Kd.pair (Kd.int .i64) (Kd.pair (Kd.int .i64) (Kd.int .i64))))) (fun x : S63 => (x.f0, x.f1, x.f2, x.f3, x.f4))
theorem k63_open {w : World} {x : S63} {cs : List Value} (h : k63.K w x cs) : cs = [.int .i64 x.f0, .int .i64 x.f1, .int .i64 x.f2, .int .i64 x.f3, .int .i64 x.f4] := by
 obtain ⟨_, _, rfl, rfl, ⟨_, _, rfl, rfl, ⟨_, _, rfl, rfl, ⟨_, _, rfl, rfl, rfl⟩⟩⟩⟩ := h
 exact rfl
theorem k63_mkM (w : World) (base : Nat) (ok : Nat → Prop) (x : S63)  : k63.M w base ok x [.int .i64 x.f0, .int .i64 x.f1, .int .i64 x.f2, .int .i64 x.f3, .int .i64 x.f4] := ⟨[.int .i64 x.f0], [.int .i64 x.f1, .int .i64 x.f2, .int .i64 x.f3, .int .i64 x.f4], rfl, rfl, ⟨[.int .i64 x.f1], [.int .i64 x.f2, .int .i64 x.f3, .int .i64 x.f4], rfl, rfl, ⟨[.int .i64 x.f2], [.int .i64 x.f3, .int .i64 x.f4], rfl, rfl, ⟨[.int .i64 x.f3], [.int .i64 x.f4], rfl, rfl, rfl⟩⟩⟩⟩
def rd_T63 (xs : List S63) (i : Int) : S63 := xs.getD i.toNat z63
theorem at_T63 {w : World} {A : Option Addr} {n : Nat} {xs : List S63} (h : Kd.C k63 w A n xs) (i : Int) (h0 : 0 ≤ i) (h1 : i < n) : ∃ ad , A = some ad ∧ w.cell? (ad.add (i.toNat * 5)) = some (.int .i64 (rd_T63 xs i).f0) ∧ w.cell? ⟨(ad.add (i.toNat * 5)).block, (ad.add (i.toNat * 5)).off + 1, none⟩ = some (.int .i64 (rd_T63 xs i).f1) ∧ w.cell? ⟨(ad.add (i.toNat * 5)).block, (ad.add (i.toNat * 5)).off + 2, none⟩ = some (.int .i64 (rd_T63 xs i).f2) ∧ w.cell? ⟨(ad.add (i.toNat * 5)).block, (ad.add (i.toNat * 5)).off + 3, none⟩ = some (.int .i64 (rd_T63 xs i).f3) ∧ w.cell? ⟨(ad.add (i.toNat * 5)).block, (ad.add (i.toNat * 5)).off + 4, none⟩ = some (.int .i64 (rd_T63 xs i).f4) := by
 obtain ⟨ad, c, e, _, hK, hc0⟩ := Kd.C_get h z63 i h0 h1
 have hc : ∀ j u, c[j]? = some u → w.cell? (ad.add (i.toNat * 5 + j)) = some u := hc0
 obtain rfl := k63_open hK
 exact ⟨ad, e, hc 0 _ rfl, by rw [← add_field _ _ 1 (by omega)]; exact hc 1 _ rfl, by rw [← add_field _ _ 2 (by omega)]; exact hc 2 _ rfl, by rw [← add_field _ _ 3 (by omega)]; exact hc 3 _ rfl, by rw [← add_field _ _ 4 (by omega)]; exact hc 4 _ rfl⟩
structure S26 where
 f0 : Int
 f1 : Int
 f2 : (List S63)
 f3 : (List Int)
structure S28 where
 f0 : Int
 f1 : Int
 f2 : (List S48)
 f3 : S26
 f4 : S26
 f5 : S26
structure S39 where
 f0 : (List Int)
 f1 : Int
theorem eqA43 (d : Nat) (w : World) (x0 y0 : Int) (x1 y1 : Int) :
  (Op.equalIn (d + 2) 43 (.agg #[.int .i64 x0, .int .i64 x1]) (.agg #[.int .i64 y0, .int .i64 y1])).run Try.prog w = .ok (x0 == y0 && (x1 == y1)) w := by
 refine eqA_of Try.underlying43 zk ?_
 refine eqf_cons (by rfl) (by go_simp; rfl) (by go_simp; rfl) (by go_simp) ?_
 exact eqf_last (by rfl) (by go_simp; rfl) (by go_simp; rfl) (by go_simp)
def IsS28 (w0 W : World) (g : Nat) (f0 : Int) (f1 : Int) (f2 : List (S48)) (f3 : Int) (f4 : Int) (f5 : List (S63)) (f6 : List Int) (f7 : Int) (f8 : Int) (f9 : List (S63)) (f10 : List Int) (f11 : Int) (f12 : Int) (f13 : List (S63)) (f14 : List Int) : Prop := ∃ A2 c2, ∃ A5 c5, ∃ A6 c6, ∃ A9 c9, ∃ A10 c10, ∃ A13 c13, ∃ A14 c14, W.heap[g]? = some (.cells #[.int .i64 f0, .int .i64 f1, .slice A2 f2.length c2, .int .i64 f3, .int .i64 f4, .slice A5 f5.length c5, .slice A6 f6.length c6, .int .i64 f7, .int .i64 f8, .slice A9 f9.length c9, .slice A10 f10.length c10, .int .i64 f11, .int .i64 f12, .slice A13 f13.length c13, .slice A14 f14.length c14] 28 (0, 0)) ∧ w0.heap.size ≤ g ∧ Kd.C k48 w0 A2 f2.length f2 ∧ Kd.C k63 w0 A5 f5.length f5 ∧ Kd.C (Kd.int .i64) w0 A6 f6.length f6 ∧ Kd.C k63 w0 A9 f9.length f9 ∧ Kd.C (Kd.int .i64) w0 A10 f10.length f10 ∧ Kd.C k63 w0 A13 f13.length f13 ∧ Kd.C (Kd.int .i64) w0 A14 f14.length f14
theorem IsS28.grown {w0 W : World} {g : Nat} {f0 : Int} {f1 : Int} {f2 : List (S48)} {f3 : Int} {f4 : Int} {f5 : List (S63)} {f6 : List Int} {f7 : Int} {f8 : Int} {f9 : List (S63)} {f10 : List Int} {f11 : Int} {f12 : Int} {f13 : List (S63)} {f14 : List Int} {W1 : World} {row : Option Nat} (h : IsS28 w0 W g f0 f1 f2 f3 f4 f5 f6 f7 f8 f9 f10 f11 f12 f13 f14) (hw : W.grownBy W1 row) (hne : some g ≠ row) : IsS28 w0 W1 g f0 f1 f2 f3 f4 f5 f6 f7 f8 f9 f10 f11 f12 f13 f14 := by
 obtain ⟨A2, c2, A5, c5, A6, c6, A9, c9, A10, c10, A13, c13, A14, c14, hb, hg, hr2, hr5, hr6, hr9, hr10, hr13, hr14⟩ := h
 exact ⟨A2, c2, A5, c5, A6, c6, A9, c9, A10, c10, A13, c13, A14, c14, blk_grown hb hw hne, hg, hr2, hr5, hr6, hr9, hr10, hr13, hr14⟩
theorem IsS28.kept {w0 W : World} {g : Nat} {f0 : Int} {f1 : Int} {f2 : List (S48)} {f3 : Int} {f4 : Int} {f5 : List (S63)} {f6 : List Int} {f7 : Int} {f8 : Int} {f9 : List (S63)} {f10 : List Int} {f11 : Int} {f12 : Int} {f13 : List (S63)} {f14 : List Int} {W1 : World} {S : Nat → Prop} (h : IsS28 w0 W g f0 f1 f2 f3 f4 f5 f6 f7 f8 f9 f10 f11 f12 f13 f14) (hk : Kept W W1 S) (hne : ¬ S g) : IsS28 w0 W1 g f0 f1 f2 f3 f4 f5 f6 f7 f8 f9 f10 f11 f12 f13 f14 := by
 obtain ⟨A2, c2, A5, c5, A6, c6, A9, c9, A10, c10, A13, c13, A14, c14, hb, hg, hr2, hr5, hr6, hr9, hr10, hr13, hr14⟩ := h
 exact ⟨A2, c2, A5, c5, A6, c6, A9, c9, A10, c10, A13, c13, A14, c14, blk_kept hb hk hne, hg, hr2, hr5, hr6, hr9, hr10, hr13, hr14⟩
theorem IsS28.below {w0 W : World} {g : Nat} {f0 : Int} {f1 : Int} {f2 : List (S48)} {f3 : Int} {f4 : Int} {f5 : List (S63)} {f6 : List Int} {f7 : Int} {f8 : Int} {f9 : List (S63)} {f10 : List Int} {f11 : Int} {f12 : Int} {f13 : List (S63)} {f14 : List Int} {W1 : World} (h : IsS28 w0 W g f0 f1 f2 f3 f4 f5 f6 f7 f8 f9 f10 f11 f12 f13 f14) (hw : Below W.heap.size W W1) : IsS28 w0 W1 g f0 f1 f2 f3 f4 f5 f6 f7 f8 f9 f10 f11 f12 f13 f14 := h.grown (grown_of_below hw none) (by simp)
theorem IsS28.alloc {w0 W : World} {g : Nat} {f0 : Int} {f1 : Int} {f2 : List (S48)} {f3 : Int} {f4 : Int} {f5 : List (S63)} {f6 : List Int} {f7 : Int} {f8 : Int} {f9 : List (S63)} {f10 : List Int} {f11 : Int} {f12 : Int} {f13 : List (S63)} {f14 : List Int} (h : IsS28 w0 W g f0 f1 f2 f3 f4 f5 f6 f7 f8 f9 f10 f11 f12 f13 f14) (o : Obj) : IsS28 w0 (W.alloc o) g f0 f1 f2 f3 f4 f5 f6 f7 f8 f9 f10 f11 f12 f13 f14 := h.below (below_alloc (Below.refl _ _) o)
theorem IsS28.drewN {w0 W : World} {g : Nat} {f0 : Int} {f1 : Int} {f2 : List (S48)} {f3 : Int} {f4 : Int} {f5 : List (S63)} {f6 : List Int} {f7 : Int} {f8 : Int} {f9 : List (S63)} {f10 : List Int} {f11 : Int} {f12 : Int} {f13 : List (S63)} {f14 : List Int} (h : IsS28 w0 W g f0 f1 f2 f3 f4 f5 f6 f7 f8 f9 f10 f11 f12 f13 f14) (m : Nat) : IsS28 w0 (W.drewN m) g f0 f1 f2 f3 f4 f5 f6 f7 f8 f9 f10 f11 f12 f13 f14 := h
theorem IsS28.drew {w0 W : World} {g : Nat} {f0 : Int} {f1 : Int} {f2 : List (S48)} {f3 : Int} {f4 : Int} {f5 : List (S63)} {f6 : List Int} {f7 : Int} {f8 : Int} {f9 : List (S63)} {f10 : List Int} {f11 : Int} {f12 : Int} {f13 : List (S63)} {f14 : List Int} (h : IsS28 w0 W g f0 f1 f2 f3 f4 f5 f6 f7 f8 f9 f10 f11 f12 f13 f14) : IsS28 w0 W.drew g f0 f1 f2 f3 f4 f5 f6 f7 f8 f9 f10 f11 f12 f13 f14 := h
theorem IsS28.own_ne {w0 W : World} {g : Nat} {f0 : Int} {f1 : Int} {f2 : List (S48)} {f3 : Int} {f4 : Int} {f5 : List (S63)} {f6 : List Int} {f7 : Int} {f8 : Int} {f9 : List (S63)} {f10 : List Int} {f11 : Int} {f12 : Int} {f13 : List (S63)} {f14 : List Int} {α : Type} {d : Kd α} {e : Nat} {base : Nat} {ok : Nat → Prop} {v : Value} {xs : List α} (h : IsS28 w0 W g f0 f1 f2 f3 f4 f5 f6 f7 f8 f9 f10 f11 f12 f13 f14) (ho : d.R e W base ok v xs) (ht : e ≠ 28) : some g ≠ v.ownBlock := by
 obtain ⟨A2, c2, A5, c5, A6, c6, A9, c9, A10, c10, A13, c13, A14, c14, hb, hg, hr2, hr5, hr6, hr9, hr10, hr13, hr14⟩ := h
 exact Kd.R_ne ho hb ht
theorem IsS28.ge {w0 W : World} {g : Nat} {f0 : Int} {f1 : Int} {f2 : List (S48)} {f3 : Int} {f4 : Int} {f5 : List (S63)} {f6 : List Int} {f7 : Int} {f8 : Int} {f9 : List (S63)} {f10 : List Int} {f11 : Int} {f12 : Int} {f13 : List (S63)} {f14 : List Int} (h : IsS28 w0 W g f0 f1 f2 f3 f4 f5 f6 f7 f8 f9 f10 f11 f12 f13 f14) : w0.heap.size ≤ g := by
 obtain ⟨A2, c2, A5, c5, A6, c6, A9, c9, A10, c10, A13, c13, A14, c14, hb, hg, hr2, hr5, hr6, hr9, hr10, hr13, hr14⟩ := h
 exact hg
theorem IsS28.far {w0 W : World} {g : Nat} {f0 : Int} {f1 : Int} {f2 : List (S48)} {f3 : Int} {f4 : Int} {f5 : List (S63)} {f6 : List Int} {f7 : Int} {f8 : Int} {f9 : List (S63)} {f10 : List Int} {f11 : Int} {f12 : Int} {f13 : List (S63)} {f14 : List Int} {p : Addr} (h : IsS28 w0 W g f0 f1 f2 f3 f4 f5 f6 f7 f8 f9 f10 f11 f12 f13 f14) (hne : g ≠ p.block) (u : Value) : IsS28 w0 (W.setCell p u) g f0 f1 f2 f3 f4 f5 f6 f7 f8 f9 f10 f11 f12 f13 f14 := by
 obtain ⟨A2, c2, A5, c5, A6, c6, A9, c9, A10, c10, A13, c13, A14, c14, hb, hg, hr2, hr5, hr6, hr9, hr10, hr13, hr14⟩ := h
 exact ⟨A2, c2, A5, c5, A6, c6, A9, c9, A10, c10, A13, c13, A14, c14, z18_ hb hne u, hg, hr2, hr5, hr6, hr9, hr10, hr13, hr14⟩
theorem IsS28.set_1 {w0 W : World} {g : Nat} {f0 : Int} {f1 : Int} {f2 : List (S48)} {f3 : Int} {f4 : Int} {f5 : List (S63)} {f6 : List Int} {f7 : Int} {f8 : Int} {f9 : List (S63)} {f10 : List Int} {f11 : Int} {f12 : Int} {f13 : List (S63)} {f14 : List Int} (h : IsS28 w0 W g f0 f1 f2 f3 f4 f5 f6 f7 f8 f9 f10 f11 f12 f13 f14) (x : Int) : IsS28 w0 (W.setCell ⟨g, 1, none⟩ (.int .i64 x)) g f0 x f2 f3 f4 f5 f6 f7 f8 f9 f10 f11 f12 f13 f14 := by
 obtain ⟨A2, c2, A5, c5, A6, c6, A9, c9, A10, c10, A13, c13, A14, c14, hb, hg, hr2, hr5, hr6, hr9, hr10, hr13, hr14⟩ := h
 exact ⟨A2, c2, A5, c5, A6, c6, A9, c9, A10, c10, A13, c13, A14, c14, by simpa using blk_set hb 1 (.int .i64 x), hg, hr2, hr5, hr6, hr9, hr10, hr13, hr14⟩
theorem IsS28.new (w0 W : World) (A2 : Option Addr) (c2 : Nat) (A5 : Option Addr) (c5 : Nat) (A6 : Option Addr) (c6 : Nat) (A9 : Option Addr) (c9 : Nat) (A10 : Option Addr) (c10 : Nat) (A13 : Option Addr) (c13 : Nat) (A14 : Option Addr) (c14 : Nat) (f0 : Int) (f1 : Int) (f2 : List (S48)) (f3 : Int) (f4 : Int) (f5 : List (S63)) (f6 : List Int) (f7 : Int) (f8 : Int) (f9 : List (S63)) (f10 : List Int) (f11 : Int) (f12 : Int) (f13 : List (S63)) (f14 : List Int) (hB : Below w0.heap.size w0 W) (hr2 : Kd.C k48 w0 A2 f2.length f2) (hr5 : Kd.C k63 w0 A5 f5.length f5) (hr6 : Kd.C (Kd.int .i64) w0 A6 f6.length f6) (hr9 : Kd.C k63 w0 A9 f9.length f9) (hr10 : Kd.C (Kd.int .i64) w0 A10 f10.length f10) (hr13 : Kd.C k63 w0 A13 f13.length f13) (hr14 : Kd.C (Kd.int .i64) w0 A14 f14.length f14) : IsS28 w0 (W.alloc (.cells #[.int .i64 f0, .int .i64 f1, .slice A2 f2.length c2, .int .i64 f3, .int .i64 f4, .slice A5 f5.length c5, .slice A6 f6.length c6, .int .i64 f7, .int .i64 f8, .slice A9 f9.length c9, .slice A10 f10.length c10, .int .i64 f11, .int .i64 f12, .slice A13 f13.length c13, .slice A14 f14.length c14] 28)) W.heap.size f0 f1 f2 f3 f4 f5 f6 f7 f8 f9 f10 f11 f12 f13 f14 := ⟨A2, c2, A5, c5, A6, c6, A9, c9, A10, c10, A13, c13, A14, c14, by simpa using heap_alloc_new W _, hB.size, hr2, hr5, hr6, hr9, hr10, hr13, hr14⟩
--IMPORT Derived.StillTailTactics
def code_programs.f (_a : Int) : Option Int := some 0
theorem code_programs.calls (_a : Int) (r : Int) (g : Nat) (w : World) (_h : code_programs.f _a = some r) :
  Calls Try.prog 27 #[.pointer (some ⟨g, 0, none⟩)] w fun e w' => e = .returned (.agg #[.pointer (some ⟨g, 3, none⟩), .pointer (some ⟨g, 7, none⟩), .pointer (some ⟨g, 11, none⟩)]) ∧ Below w.heap.size w w' := by
 have hu28 := Try.underlying28
 have hu58 := Try.underlying58
 go_enter Try.func27, Try.ntmps27
 go_wp2_with (first | ((with_reducible refine gate_dst (N := 2) rfl ?_); (try (refine gate_guard (by rfl) ?_; dsimp only)); refine z16_ rfl (N := 2) rfl (cs := #[.pointer none, .pointer none, .pointer none]) (t := 58) zG ?_; intro gb hg w1 hbox hb))
 go_still_tail 10, zk
 subst hg
 have hbx := blk_drew hbox
 have hb2 := below_drew1 hb
 change wpList _ _ _ _ _ w1.drew
 generalize w1.drew = w2 at hbx hb2
 have qM : w2.cell? ⟨w.heap.size, 0, none⟩ = some (.pointer none) := (z2_ hbx 0).trans rfl
 have qN : w2.cell? ⟨w.heap.size, 1, none⟩ = some (.pointer none) := (z2_ hbx 1).trans rfl
 have qO : w2.cell? ⟨w.heap.size, 2, none⟩ = some (.pointer none) := (z2_ hbx 2).trans rfl
 have qP := z1_ hbx 0
 have qQ := z1_ hbx 1
 have qR := z1_ hbx 2
 go_wp2
 have hbx1 := blk_put (cs' := #[.pointer (some ⟨g, 3, none⟩), .pointer none, .pointer none]) hbx 0 (.pointer (some ⟨g, 3, none⟩)) rfl
 have hbx2 := blk_put (cs' := #[.pointer (some ⟨g, 3, none⟩), .pointer (some ⟨g, 7, none⟩), .pointer none]) hbx1 1 (.pointer (some ⟨g, 7, none⟩)) rfl
 have hbx3 := blk_put (cs' := #[.pointer (some ⟨g, 3, none⟩), .pointer (some ⟨g, 7, none⟩), .pointer (some ⟨g, 11, none⟩)]) hbx2 2 (.pointer (some ⟨g, 11, none⟩)) rfl
 have hbe := below_set (j := 2) (v := .pointer (some ⟨g, 11, none⟩)) (below_set (j := 1) (v := .pointer (some ⟨g, 7, none⟩)) (below_set (j := 0) (v := .pointer (some ⟨g, 3, none⟩)) hb2 (Nat.le_refl _)) (Nat.le_refl _)) (Nat.le_refl _)
 refine bodyPost_ret (v := .agg #[.pointer (some ⟨g, 3, none⟩), .pointer (some ⟨g, 7, none⟩), .pointer (some ⟨g, 11, none⟩)]) ?_ rfl ⟨rfl, hbe⟩
 have h1 : Try.f27.results = #[.cell 2 58] := rfl
 have hi : (Try.prog.info? 58).map (·.size) = some 3 := by kernel_rfl
 simp [results, h1, asAddr, run_loadVar_row _ _ 58 58 _ (0, 0) _ hbx3 hu58 rfl hi]
def point_within.f (a0 : Int) : Option (Bool) := if a0 ≥ (-16) then (some (decide (a0 ≤ 16))) else (some false)
theorem point_within.calls (a0 : Int) (r : Bool) (w : World) (h : point_within.f a0 = some r) :
  Calls Try.prog 57 #[.int .i64 a0] w fun e w' => e = .returned (.bool r) ∧ Drawn0 w w' := by
 have H : (if a0 ≥ (-16) then (some (decide (a0 ≤ 16))) else (some false)) = some r := h
 clear h
 by_cases c2 : a0 ≥ (-16)
 ·rw [if_pos c2] at H
  have c2b0 := decide_eq_true c2
  clear c2
  obtain rfl := Option.some.inj H
  go_enter Try.func57, Try.ntmps57
  go_wp2
  go_ret
  exact ⟨zT, by repeat (first | exact Drawn0.refl _ | apply Drawn0.step)⟩
 ·rw [if_neg c2] at H
  have c2b0 := decide_eq_false c2
  clear c2
  obtain rfl := Option.some.inj H
  go_enter Try.func57, Try.ntmps57
  go_wp2
  go_ret
  exact ⟨zT, by repeat (first | exact Drawn0.refl _ | apply Drawn0.step)⟩
def point_In.f (qA : Int) (qB : Int) : Option (Bool) := (point_within.f qA).bind fun qF => (if qF = true then ((point_within.f qB).bind fun qC => (some qC)) else (some false))
theorem point_In.calls (qA : Int) (qB : Int) (r : Bool) (w : World) (h : point_In.f qA qB = some r) :
  Calls Try.prog 38 #[.agg #[.int .i64 qA, .int .i64 qB]] w fun e w' => e = .returned (.bool r) ∧ Below w.heap.size w w' := by
 have hu48 := Try.underlying48
 have HB := aM (Below.refl w.heap.size w)
 have H : ((point_within.f qA).bind fun qF => (if qF = true then ((point_within.f qB).bind fun qC => (some qC)) else (some false))) = some r := h
 clear h
 replace H := zbs H
 obtain ⟨qF, A20, H⟩ := H
 replace H : (if qF = true then ((point_within.f qB).bind fun qC => (some qC)) else (some false)) = some r := H
 have A2 := aM A20
 clear A20
 by_cases c3 : qF = true
 ·subst c3
  have H1 : ((point_within.f qB).bind fun qC => (some qC)) = some r := by rw [if_pos rfl] at H; exact H
  clear H
  have H := H1
  clear H1
  replace H := zbs H
  obtain ⟨qC, A40, H⟩ := H
  replace H : (some qC) = some r := H
  have A4 := aM A40
  clear A40
  obtain rfl := Option.some.inj H
  go_enter Try.func38, Try.ntmps38
  go_wp2_with (first | ((with_reducible refine gate_dst (N := 1) rfl ?_); refine z16_ rfl (N := 1) rfl (cs := #[.int .i64 qA, .int .i64 qB]) (t := 48) zG ?_; intro qD hg w5 hbox hb; have qE := aM (hbox); have qG := aM ((by rw [hg]; exact (z4_ (lB HB)) : w.heap.size ≤ qD)); have qH := aM ((by rw [hg]; exact (z4_ (lB HB)) : w.heap.size ≤ qD)); replace HB := aM (z6_ (lB HB) hb); clear hb hbox hg; have qI := zc2 qE.out; have qJ := fun i_ : Nat => z1_ qE.out i_) | ((with_reducible refine gate_callee (f := 57) rfl ?_); refine z13_ (some 5) rfl rfl Try.func57 zk rfl #[.int .i64 qA] rfl zA ?_; (with_reducible refine (point_within.calls qA true _ A2.out).mono ?_); rintro e w' ⟨rfl, ⟨nd, rfl⟩⟩; refine ⟨_, rfl, ?_⟩) | (go_at_call 57; (with_reducible refine (point_within.calls qB qC _ A4.out).mono ?_); rintro e w' ⟨rfl, ⟨nd, rfl⟩⟩))
  go_ret
  exact ⟨zE, zB HB⟩
 ·replace c3 := Bool.eq_false_iff.mpr c3
  subst c3
  have H1 : (some false) = some r := by rw [if_neg (show ¬ (false = true) by decide)] at H; exact H
  clear H
  have H := H1
  clear H1
  obtain rfl := Option.some.inj H
  go_enter Try.func38, Try.ntmps38
  go_wp2_with (first | ((with_reducible refine gate_dst (N := 1) rfl ?_); refine z16_ rfl (N := 1) rfl (cs := #[.int .i64 qA, .int .i64 qB]) (t := 48) zG ?_; intro qD hg w7 hbox hb; have qE := aM (hbox); have qG := aM ((by rw [hg]; exact (z4_ (lB HB)) : w.heap.size ≤ qD)); have qH := aM ((by rw [hg]; exact (z4_ (lB HB)) : w.heap.size ≤ qD)); replace HB := aM (z6_ (lB HB) hb); clear hb hbox hg; have qK := zc2 qE.out; have qL := fun i_ : Nat => z1_ qE.out i_) | ((with_reducible refine gate_callee (f := 57) rfl ?_); refine z13_ (some 5) rfl rfl Try.func57 zk rfl #[.int .i64 qA] rfl zA ?_; (with_reducible refine (point_within.calls qA false _ A2.out).mono ?_); rintro e w' ⟨rfl, ⟨nd, rfl⟩⟩; refine ⟨_, rfl, ?_⟩))
  go_ret
  exact ⟨zE, zB HB⟩
def prog_two.f (a0 : Int) : Option (Bool) := if a0 = 3 then (some true) else (some (a0 == 4))
theorem prog_two.calls (a0 : Int) (r : Bool) (w : World) (h : prog_two.f a0 = some r) :
  Calls Try.prog 65 #[.int .i64 a0] w fun e w' => e = .returned (.bool r) ∧ Drawn0 w w' := by
 have H : (if a0 = 3 then (some true) else (some (a0 == 4))) = some r := h
 clear h
 by_cases c2 : a0 = 3
 ·rw [if_pos c2] at H
  have c2b0 : (a0 == 3) = true := beq_iff_eq.mpr c2
  have c2b1 : (a0 != 3) = false := bne_eq_false_iff_eq.mpr c2
  clear c2
  obtain rfl := Option.some.inj H
  go_enter Try.func65, Try.ntmps65
  go_wp2
  go_ret
  exact ⟨zT, by repeat (first | exact Drawn0.refl _ | apply Drawn0.step)⟩
 ·rw [if_neg c2] at H
  have c2b0 : (a0 == 3) = false := beq_eq_false_iff_ne.mpr c2
  have c2b1 : (a0 != 3) = true := bne_iff_ne.mpr c2
  obtain rfl := Option.some.inj H
  go_enter Try.func65, Try.ntmps65
  go_wp2
  go_ret
  exact ⟨zT, by repeat (first | exact Drawn0.refl _ | apply Drawn0.step)⟩
end Go.Proofs.Ytccbdcbeinkjgaa.XA
end
section
namespace Go.Proofs.Ytccbdcbeinkjgaa.XA
open Go.Proofs.Ytccbdcbeinkjgaa.Lift Go.RowKit Go.Proofs.YtccbdcbeinkjgaaW.PrintWords Go.Proofs.YtccbdcbeinkjgaaW.PrintLast Go.Proofs.YtccbdcbeinkjgaaW.PrintMore
attribute [local go_sem] max2_int min2_int max_two min_two max_three min_three max_four min_four
def code_pair.f (l0 : List Int) (a1 : Int) : Option (List Int) := (some (([(a1 / 256) % 256, (a1) % 256] : List Int) : List Int)).bind fun y151 => (if l0.length + y151.length < 140737488355328 then (some (l0 ++ y151)) else (none))
theorem code_pair.calls (P0_ : Nat → Prop) (u9000_ : Value) (l0 : List Int) (a1 : Int) (r : List Int) (w0 w : World) (hB : Below w0.heap.size w0 w) (ho0 : Kd.R (Kd.int .u8) 5 w w0.heap.size P0_ u9000_ l0) (h : code_pair.f l0 a1 = some r) :
  Calls Try.prog 28 #[u9000_, .int .i64 a1] w fun e w' => ∃ v0_ : Value, e = .returned (v0_) ∧ Kd.R (Kd.int .u8) 5 w' w0.heap.size (fun k_ => (P0_ k_ ∨ w.heap.size ≤ k_)) v0_ r ∧ Below w0.heap.size w0 w' ∧ Kept w w' (fun k_ => P0_ k_) := by
 have HO0 := aM (show Kd.R (Kd.int .u8) 5 w w0.heap.size (fun k_ => (P0_ k_ ∨ w.heap.size ≤ k_)) u9000_ l0 from Kd.z0_ ho0 (fun k_ hk => (.inl hk)))
 have HK := aM (Kept.refl w (fun k_ => P0_ k_))
 have HW0 := aM hB.size
 have HB := aM hB
 clear hB
 have H : ((some (([(a1 / 256) % 256, (a1) % 256] : List Int) : List Int)).bind fun y151 => (if l0.length + y151.length < 140737488355328 then (some (l0 ++ y151)) else (none))) = some r := h
 clear h
 obtain ⟨y151, hy151⟩ : ∃ y_ : List Int, y_ = (([(a1 / 256) % 256, (a1) % 256] : List Int)) := ⟨_, rfl⟩
 replace H : (if l0.length + y151.length < 140737488355328 then (some (l0 ++ y151)) else (none)) = some r := zH hy151 H
 have Ny151 := aM hy151
 clear hy151
 by_cases c3 : l0.length + y151.length < 140737488355328
 ·rw [if_pos c3] at H
  have LMc3 := aM c3
  clear c3
  obtain ⟨y154, hy154⟩ : ∃ y_ : List Int, y_ = (l0 ++ y151) := ⟨_, rfl⟩
  replace H : (some y154) = some r := zH hy154 H
  have Ny154 := aM hy154
  clear hy154
  obtain rfl := Option.some.inj H
  go_enter Try.func28, Try.ntmps28
  go_wp2_with (first | ((with_reducible refine gate_dst (N := 11) rfl ?_); refine Kd.R_lit (Kd.int .u8) _ 5 ?hg (N := 11) ?hd (xs := ([(a1 / 256) % 256, (a1) % 256] : List Int)) (inner := [.int .u8 ((a1 / 256) % 256), .int .u8 ((a1) % 256)]) (ok := fun _ => True) (okp := fun _ => True) ?hr ?hp (fun _ hk => hk) trivial (Below.refl _ _) (Nat.le_refl _) (by simp) ?_; (case hd => rfl); (case hg => rfl); (case hr => first | (go_simp; done) | (go_simp; rfl)); (case hp => exact (Reps.one (show Kd.M (Kd.int .u8) _ _ _ ((a1 / 256) % 256) [.int .u8 ((a1 / 256) % 256)] from rfl) (Reps.one (show Kd.M (Kd.int .u8) _ _ _ ((a1) % 256) [.int .u8 ((a1) % 256)] from rfl) (Reps.none _ _)))); intro v152 w4 ho5 hb hg_ hnew_; clear hg_ hnew_; (first | rw [← Ny151.out] at ho5 | (simp only [Int.reduceToNat] at ho5; rw [← Ny151.out] at ho5)); have qB := aM (Kd.z20_ (Kd.z21_ (Kd.R_newM (M := fun k_ => (P0_ k_ ∨ w.heap.size ≤ k_)) ho5 (by first | exact HK.out.1 | exact (show Kept w _ (fun k_ => P0_ k_) from by repeat (first | (with_reducible first | exact HK.out | apply Kept.alloc | apply Kept.drewN | apply Kept.drew) | exact HK.out)).1) (fun k_ h_ => .inr h_)) (Kd.R_lt (lR HO0))) (z4_ (lB HB))); replace HO0 := aM (Kd.z17_ (lR HO0) (Kd.R_base ho5) hb); replace HK := aM (Kept.below (S := (fun k_ => P0_ k_)) (by repeat (first | (with_reducible first | exact HK.out | apply Kept.alloc | apply Kept.drewN | apply Kept.drew) | exact HK.out)) hb); replace HB := aM (z6_ (lB HB) hb); clear hb ho5; obtain ⟨Ao7, co7, eo7⟩ := Kd.R_slice qB.out; subst eo7) | ((with_reducible refine gate_builtin (b := .append) (xs := #[.tmp 5, .tmp 11]) rfl ?_); at_builtin; refine Kd.R_append_rows (Kd.int .u8) (w0 := w0) w0.heap.size rfl (.tmp 5) (.tmp 11) 31 5 (.int .u8 0) 1 rfl Try.underlying31 info5 rfl (by decide) (by omega) u9000_ l0 y151 _ _ _ (fun k_ => (P0_ k_ ∨ w.heap.size ≤ k_) ∧ some k_ ≠ (.slice Ao7 y151.length co7 : Value).ownBlock) (fun _ => False) rfl rfl ?aO ?aR (fun _ _ h => h) (fun _ h => h.elim) ?aF ?aB ?aS ?aL ?_; (case aR => repeat (first | exact (Kd.z9_ qB.out).2.2 | (with_reducible refine Kd.C_alloc ?_ _) | (with_reducible refine Kd.C_drewN ?_ _) | (with_reducible refine Kd.C_drew ?_))); (case aB => exact (lB HB)); (case aF => exact (fun k_ hk => ⟨(.inr (Nat.le_trans (by first | exact HK.out.1 | exact (show Kept w _ (fun k_ => P0_ k_) from by repeat (first | (with_reducible first | exact HK.out | apply Kept.alloc | apply Kept.drewN | apply Kept.drew) | exact HK.out)).1) hk)), Kd.fresh' (Kd.R_lt (lR qB)) k_ hk⟩)); (case aO => exact (lR HO0)); (case aS => exact (z4_ (lB HB))); (case aL => have := LMc3.out; omega); intro v155 w6 ho hb hg hat; rw [← Ny154.out] at ho; replace qB := aM (Kd.R_after (ok := (fun k_ => (P0_ k_ ∨ w.heap.size ≤ k_))) (by apply rX; exact Kd.z0_ qB.out (fun _ hk => ⟨hk.1.1, hk.2⟩)) hg hat); replace HB := aM (hb); replace HK := aM (Kept.of_grown (S := (fun k_ => P0_ k_)) hg (by repeat (first | (with_reducible first | exact HK.out | apply Kept.alloc | apply Kept.drewN | apply Kept.drew) | exact HK.out)) (fun k_ e_ => (HO0.out.1 k_ e_).1)); have qD := aM (ho); clear HO0; clear ho hb hg hat))
  go_ret
  exact ⟨_, zE, by apply rX; exact Kd.z0_ qD.out (fun _ hk => hk.1), zB HB, by repeat (first | (with_reducible first | exact HK.out | apply Kept.alloc | apply Kept.drewN | apply Kept.drew) | exact HK.out)⟩
 ·rw [if_neg c3] at H
  exact absurd H (by simp)
def code_check.l0 : Nat → Int → List Int → Int → Int → Option (Int)
 | 0, _, _, _, _ => none
 | k + 1, x3, x6, x7, x8 => if x8 < x7 then (if 0 ≤ x8 then (if x8 < (x6.length : Int) then (code_check.l0 k (Int.tmod (wrap64 (x3 + (wrap64 ((Int.tmod (wrap64 (x8 + 1)) 65521) * (wrap64 (rd x6 x8)))))) 65521) x6 x7 (wrap64 (x8 + 1))) else (none)) else (none)) else (some x3)
def code_check.f (k : Nat) (l0 : List Int) : Option (Int) := code_check.l0 k 0 l0 (l0.length : Int) 0
theorem code_check.mono_l : ∀ k, (∀ y0 y1 y2 y3, LeO (code_check.l0 k y0 y1 y2 y3) (code_check.l0 (k + 1) y0 y1 y2 y3))
 | 0 => fun _ _ _ _ r h => by simp [code_check.l0] at h
 | k + 1 => by
  have ih0 := code_check.mono_l k
  ·intro y0 y1 y2 y3
   unfold code_check.l0
   exact zM
theorem code_check.mono : ∀ a0 k, LeO (code_check.f k a0) (code_check.f (k + 1) a0) := by
 intro a0 k
 have ih0 := code_check.mono_l k
 unfold code_check.f
 exact zM
theorem code_check.calls (k : Nat) (A0 : Option Addr) (c0 : Nat) (l0 : List Int) (r : Int) (w : World) (hr0 : Kd.C (Kd.int .u8) w A0 l0.length l0) (hc0 : l0.length ≤ c0) (h : code_check.f k l0 = some r) :
  Calls Try.prog 29 #[.slice A0 l0.length c0] w fun e w' => e = .returned (.int .i64 r) ∧ Drawn0 w w' := by
 have HR0 := aM hr0
 have HC0 := aM hc0
 clear hr0 hc0
 have H : (code_check.l0 k 0 l0 (l0.length : Int) 0) = some r := h
 clear h
 have H' := aM H
 clear H
 go_enter Try.func29, Try.ntmps29
 go_wp2
 go_loopg [3, 8] k (fun kq v3 v8 w' => ∃ (qC : Int) (qA : Int), v3 = .int .i64 qC ∧ v8 = .int .i64 qA ∧ Aside0 (code_check.l0 kq qC l0 (l0.length : Int) qA = some r) ∧ Aside0 (kq ≤ k) ∧ Drawn0 w w')
 case atStart => exact ⟨(0), (0), zT, zT, H', ⟨Nat.le_refl _⟩, by repeat (first | exact Drawn0.refl _ | apply Drawn0.step)⟩
 case round =>
  clear H'
  obtain ⟨qC, qA, rfl, rfl, HA, HK1, ⟨m1, rfl⟩⟩ := hrel
  cases gk with
  | zero => exact absurd HA.out (by simp [code_check.l0])
  | succ k1 =>
   have H := HA.out
   clear HA
   simp only [code_check.l0] at H
   by_cases c2 : qA < (l0.length : Int)
   ·rw [if_pos c2] at H
    have c2b0 := decide_eq_true c2
    clear c2
    by_cases c3 : 0 ≤ qA
    ·rw [if_pos c3] at H
     have c3b0 := decide_eq_true c3
     clear c3
     by_cases c4 : qA < (l0.length : Int)
     ·rw [if_pos c4] at H
      have c4b0 := decide_eq_true c4
      clear c4
      have H' := aM H
      clear H
      have p157 : 0 ≤ (qA : Int) := of_decide_eq_true za
      have q157 : qA < (l0.length : Int) := of_decide_eq_true za
      obtain ⟨ad157, e157, hx157_0⟩ := Kd.at_int HR0.out qA p157 q157
      cases e157
      replace p157 := eq_true p157
      replace q157 := eq_true q157
      go_wp2
      go_roundg k1
      case measure => have := HK1.out; omega
      case rel => exact ⟨(Int.tmod (wrap64 (qC + (wrap64 ((Int.tmod (wrap64 (qA + 1)) 65521) * (wrap64 (rd l0 qA)))))) 65521), (wrap64 (qA + 1)), zT, zT, H', ⟨by have := HK1.out; omega⟩, by repeat (first | exact Drawn0.refl _ | apply Drawn0.step)⟩
     ·rw [if_neg c4] at H
      exact absurd H (by simp)
    ·rw [if_neg c3] at H
     exact absurd H (by simp)
   ·rw [if_neg c2] at H
    have c2b0 := decide_eq_false c2
    clear c2
    obtain rfl := Option.some.inj H
    go_wp2
    go_ret
    exact ⟨zT, by repeat (first | exact Drawn0.refl _ | apply Drawn0.step)⟩
--IMPORT Derived.Lib.SlBytesConst
def code_marked.f : Option (List Int) := some [65, 78, 86, 49]
section
variable {P : Program} {ops : Array Oper} {rest : List Oper} {o : Oper} {a : Act} {Q : Exit → Act → World → Prop}
theorem code_marked.reads (W : World) (g : Nat) (fr : Nat × Nat) (h : W.heap[g]? = some (.cells #[.int .u8 65, .int .u8 78, .int .u8 86, .int .u8 49] 5 fr)) :
  Kd.C (Kd.int .u8) W (some ⟨g, 0, none⟩) 4 [65, 78, 86, 49] := by
 refine ⟨rfl, by decide, fun _ => ⟨_, rfl, fun j p hp => ⟨[.int .u8 p], rfl, rfl, fun i u hu => ?_⟩⟩⟩
 have hi : i = 0 ∧ u = .int .u8 p := by
  cases i with
  | zero => exact ⟨rfl, (Option.some.inj hu).symm⟩
  | succ i => simp at hu
 obtain ⟨rfl, rfl⟩ := hi
 have hadd : (⟨g, 0, none⟩ : Addr).add (j * 1 + 0) = ⟨g, j, none⟩ := by unfold Addr.add; split <;> simp_all
 show W.cell? ((⟨g, 0, none⟩ : Addr).add (j * 1 + 0)) = _
 rw [hadd, cell_of_row W g j _ 5 fr h]
 match j, hp with
 | 0, hp => cases hp; rfl
 | 1, hp => cases hp; rfl
 | 2, hp => cases hp; rfl
 | 3, hp => cases hp; rfl
 | j + 4, hp => simp at hp
theorem code_marked.event {W0 : World} {r : List Int} (hgd : o.guard = none) (hr : code_marked.f = some r)
  (hrun : (execOp a.eval o).run P (W0.alloc (.cells #[.int .u8 65, .int .u8 78, .int .u8 86, .int .u8 49] 5)) = .ok (.value (.slice (some ⟨W0.heap.size, 0, none⟩) 4 4)) (W0.alloc (.cells #[.int .u8 65, .int .u8 78, .int .u8 86, .int .u8 49] 5 (4, 5))))
  (h : ∀ e w', (∃ v0_ : Value, e = Ending.returned v0_ ∧ Kd.V (Kd.int .u8) 5 w' W0.heap.size (fun k_ => W0.heap.size ≤ k_) v0_ r ∧ Below W0.heap.size W0 w') → ∃ v, e = Ending.returned v ∧ wpList P ops Q rest (a.put o.dst v) w') :
  wpList P ops Q (o :: rest) a (W0.alloc (.cells #[.int .u8 65, .int .u8 78, .int .u8 86, .int .u8 49] 5)) := by
 obtain rfl := Option.some.inj hr
 refine Kd.event_run hgd hrun ?_
 obtain ⟨v, hv, hw⟩ := h (.returned (.slice (some ⟨W0.heap.size, 0, none⟩) 4 4)) (W0.alloc (.cells #[.int .u8 65, .int .u8 78, .int .u8 86, .int .u8 49] 5 (4, 5)))
  ⟨_, rfl, ⟨some ⟨W0.heap.size, 0, none⟩, 4, rfl, by decide, fun W' hW => code_marked.reads W' W0.heap.size (4, 5) ((hW _ (Nat.le_refl _) (by show _ < (W0.heap.push _).size; simp)).trans (heap_alloc_new W0 _))⟩, below_alloc (Below.refl _ _) _⟩
 injection hv with hv
 subst hv
 exact hw
theorem code_marked.app {W0 : World} {x y z : Int} (hgd : o.guard = none) (s t : Operand) (ho : o.op = .call { callee := .builtin .append, args := #[s, t], argTypes := #[31, 31] })
  (ht : P.underlying 31 = some (.slice 5)) (hinfo : (P.info? 5).map (fun i => (i.zero, i.size, i.bytes)) = some (some (.int .u8 0), 1, 1))
  (hs : a.eval s = .slice (some ⟨W0.heap.size, 0, none⟩) 4 4) (hx : a.eval t = .slice (some ⟨W0.heap.size + 1, 0, none⟩) 3 3)
  (h : ∀ v1 w1, Kd.R (Kd.int .u8) 5 w1 W0.heap.size (fun _ => True) v1 [65, 78, 86, 49, x, y, z] → Below W0.heap.size W0 w1 → W0.grownBy w1 none → (∃ b, v1.ownBlock = some b ∧ W0.heap.size ≤ b) → wpList P ops Q rest (a.put o.dst v1) w1) :
  wpList P ops Q (o :: rest) a ((W0.alloc (.cells #[.int .u8 65, .int .u8 78, .int .u8 86, .int .u8 49] 5 (4, 5))).alloc (.cells #[.int .u8 x, .int .u8 y, .int .u8 z] 5)) := by
 obtain ⟨i, hi, hi2⟩ := Option.map_eq_some_iff.1 hinfo
 simp only [Prod.mk.injEq] at hi2
 obtain ⟨hz, hsz, hby⟩ := hi2
 generalize hW : (W0.alloc (.cells #[.int .u8 65, .int .u8 78, .int .u8 86, .int .u8 49] 5 (4, 5))).alloc (.cells #[.int .u8 x, .int .u8 y, .int .u8 z] 5) = W
 have hA : W.heap[W0.heap.size]? = some (.cells #[.int .u8 65, .int .u8 78, .int .u8 86, .int .u8 49] 5 (4, 5)) := by
  rw [← hW, heap_alloc_old _ _ (by show _ < (W0.heap.push _).size; simp)]
  exact heap_alloc_new W0 _
 have hB : W.heap[W0.heap.size + 1]? = some (.cells #[.int .u8 x, .int .u8 y, .int .u8 z] 5) := by
  rw [← hW]
  have := heap_alloc_new (W0.alloc (.cells #[.int .u8 65, .int .u8 78, .int .u8 86, .int .u8 49] 5 (4, 5))) (.cells #[.int .u8 x, .int .u8 y, .int .u8 z] 5)
  have hsize : (W0.alloc (.cells #[.int .u8 65, .int .u8 78, .int .u8 86, .int .u8 49] 5 (4, 5))).heap.size = W0.heap.size + 1 := by show (W0.heap.push _).size = _; simp
  rw [hsize] at this
  exact this
 have hS : W.heap.size = W0.heap.size + 2 := by rw [← hW]; show ((W0.heap.push _).push _).size = _; simp
 have hadd : ∀ (g j : Nat), (⟨g, 0, none⟩ : Addr).add j = ⟨g, j, none⟩ := fun g j => by unfold Addr.add; split <;> simp_all
 have hr := run_append_grow (P := P) W 31 o.type 5 i (.int .u8 0) ht hi hz ⟨W0.heap.size, 0, none⟩ 4 4 [.int .u8 65, .int .u8 78, .int .u8 86, .int .u8 49] (by rw [hsz]; rfl)
  (fun j u hu => by
   rw [hadd, cell_of_row W _ j _ 5 (4, 5) hA]
   match j, hu with
   | 0, hu => cases hu; rfl
   | 1, hu => cases hu; rfl
   | 2, hu => cases hu; rfl
   | 3, hu => cases hu; rfl
   | j + 4, hu => simp at hu)
  ⟨W0.heap.size + 1, 0, none⟩ 3 3 [.int .u8 x, .int .u8 y, .int .u8 z] (by rw [hsz]; rfl)
  (fun j u hu => by
   rw [hadd, cell_of_row W _ j _ 5 (0, 0) hB]
   match j, hu with
   | 0, hu => cases hu; rfl
   | 1, hu => cases hu; rfl
   | 2, hu => cases hu; rfl
   | j + 3, hu => simp at hu)
  (by decide) (by decide) (by rw [hby]; decide)
 have hge := grownCap_ge W (4 + 3) 4 5
 have hcm := grownCap_le_maxLen W (4 + 3) 4 5 (by decide)
 have hb0 : Below W0.heap.size W0 W := by rw [← hW]; exact below_alloc (below_alloc (Below.refl _ _) _) _
 refine Kd.event_run hgd (v := .slice (some ⟨W.heap.size, 0, none⟩) (4 + 3) (grownCap W (4 + 3) 4 5)) (w1 := W.drew.alloc (.cells ([.int .u8 65, .int .u8 78, .int .u8 86, .int .u8 49].toArray ++ [.int .u8 x, .int .u8 y, .int .u8 z].toArray ++ Builtin.zeroCells (Value.int .u8 0).cells (grownCap W (4 + 3) 4 5 - (4 + 3))) 5)) ?_ (h _ _ ?_ ?_ ?_ ⟨W.heap.size, by simp [Value.ownBlock], by omega⟩)
 ·unfold execOp
  simp only [ho, resolve, invoke, builtin, Sem.run_bind, Sem.run_pure, Result.andThen_ok, List.map_toArray, List.map_cons, List.map_nil, hs, hx, hr]
 ·refine ⟨fun _ _ => trivial, [.int .u8 65, .int .u8 78, .int .u8 86, .int .u8 49, .int .u8 x, .int .u8 y, .int .u8 z], ⟨rfl, .inr ⟨W.heap.size, _, _, rfl, by omega, heap_alloc_new W.drew _, hge, hcm, ?_, ?_⟩⟩, ?_⟩
  ·simp only [Array.size_append, List.size_toArray, size_zeroCells]
   show 4 + 3 + (grownCap W (4 + 3) 4 5 - (4 + 3)) * 1 = grownCap W (4 + 3) 4 5 * 1
   omega
  ·simp
   rfl
  ·exact (Reps.one (show Kd.M (Kd.int .u8) _ _ _ 65 [.int .u8 65] from rfl) (Reps.one (show Kd.M (Kd.int .u8) _ _ _ 78 [.int .u8 78] from rfl) (Reps.one (show Kd.M (Kd.int .u8) _ _ _ 86 [.int .u8 86] from rfl) (Reps.one (show Kd.M (Kd.int .u8) _ _ _ 49 [.int .u8 49] from rfl) (Reps.one (show Kd.M (Kd.int .u8) _ _ _ x [.int .u8 x] from rfl) (Reps.one (show Kd.M (Kd.int .u8) _ _ _ y [.int .u8 y] from rfl) (Reps.one (show Kd.M (Kd.int .u8) _ _ _ z [.int .u8 z] from rfl) (Reps.none _ _))))))))
 ·exact below_alloc (below_drew1 hb0) _
 ·have h0 : W0.grownBy W none := ⟨hb0.os, hb0.tape, hb0.output, hb0.size, fun k hk _ => hb0.block k hk⟩
  exact ⟨hb0.os, hb0.tape, hb0.output, by show _ ≤ (W.drew.heap.push _).size; have := hb0.size; simp; show _ ≤ W.heap.size + 1; omega, fun k hk _ => (heap_alloc_old W.drew _ (by show k < W.heap.size; omega)).trans (hb0.block k hk)⟩
end
end Go.Proofs.Ytccbdcbeinkjgaa.XA
end
section
namespace Go.Proofs.Ytccbdcbeinkjgaa.XA
open Go.Proofs.Ytccbdcbeinkjgaa.Lift Go.RowKit Go.Proofs.YtccbdcbeinkjgaaW.PrintWords Go.Proofs.YtccbdcbeinkjgaaW.PrintLast Go.Proofs.YtccbdcbeinkjgaaW.PrintMore
attribute [local go_sem] max2_int min2_int max_two min_two max_three min_three max_four min_four
def I7 (w0 W : World) (g : Nat) (f0 : List Int) (f1 : Int) (f2 : Bool) : Prop := ∃ A0 c0, W.heap[g]? = some (.cells #[.slice A0 f0.length c0, .int .i64 f1, .bool f2] 70 (0, 0)) ∧ w0.heap.size ≤ g ∧ Kd.C (Kd.int .u8) w0 A0 f0.length f0
theorem I7.grown {w0 W : World} {g : Nat} {f0 : List Int} {f1 : Int} {f2 : Bool} {W1 : World} {row : Option Nat} (h : I7 w0 W g f0 f1 f2) (hw : W.grownBy W1 row) (hne : some g ≠ row) : I7 w0 W1 g f0 f1 f2 := by
 obtain ⟨A0, c0, hb, hg, hr0⟩ := h
 exact ⟨A0, c0, blk_grown hb hw hne, hg, hr0⟩
theorem I7.fresh {w0 W : World} {g : Nat} {f0 : List Int} {f1 : Int} {f2 : Bool} (h : I7 w0 W g f0 f1 f2) : ∀ k, W.heap.size ≤ k → k ≠ g := by
 obtain ⟨A0, c0, hb, hg, hr0⟩ := h
 exact Kd.freshB hb
theorem I7.kept {w0 W : World} {g : Nat} {f0 : List Int} {f1 : Int} {f2 : Bool} {W1 : World} {S : Nat → Prop} (h : I7 w0 W g f0 f1 f2) (hk : Kept W W1 S) (hne : ¬ S g) : I7 w0 W1 g f0 f1 f2 := by
 obtain ⟨A0, c0, hb, hg, hr0⟩ := h
 exact ⟨A0, c0, blk_kept hb hk hne, hg, hr0⟩
theorem I7.below {w0 W : World} {g : Nat} {f0 : List Int} {f1 : Int} {f2 : Bool} {W1 : World} (h : I7 w0 W g f0 f1 f2) (hw : Below W.heap.size W W1) : I7 w0 W1 g f0 f1 f2 := h.grown (grown_of_below hw none) (by simp)
theorem I7.alloc {w0 W : World} {g : Nat} {f0 : List Int} {f1 : Int} {f2 : Bool} (h : I7 w0 W g f0 f1 f2) (o : Obj) : I7 w0 (W.alloc o) g f0 f1 f2 := h.below (below_alloc (Below.refl _ _) o)
theorem I7.drewN {w0 W : World} {g : Nat} {f0 : List Int} {f1 : Int} {f2 : Bool} (h : I7 w0 W g f0 f1 f2) (m : Nat) : I7 w0 (W.drewN m) g f0 f1 f2 := h
theorem I7.drew {w0 W : World} {g : Nat} {f0 : List Int} {f1 : Int} {f2 : Bool} (h : I7 w0 W g f0 f1 f2) : I7 w0 W.drew g f0 f1 f2 := h
theorem I7.apart {w0 W : World} {g : Nat} {f0 : List Int} {f1 : Int} {f2 : Bool} {α : Type} {d : Kd α} {e : Nat} {base : Nat} {ok : Nat → Prop} {v : Value} {xs : List α} (h : I7 w0 W g f0 f1 f2) (ho : d.R e W base ok v xs) (ht : ∀ q, q ∈ e :: d.E → q ≠ 70) : d.R e W base (fun k => ok k ∧ k ≠ g) v xs := by
 obtain ⟨A0, c0, hb, hg, hr0⟩ := h
 exact Kd.z3_ ho hb ht
theorem I7.own_ne {w0 W : World} {g : Nat} {f0 : List Int} {f1 : Int} {f2 : Bool} {α : Type} {d : Kd α} {e : Nat} {base : Nat} {ok : Nat → Prop} {v : Value} {xs : List α} (h : I7 w0 W g f0 f1 f2) (ho : d.R e W base ok v xs) (ht : e ≠ 70) : some g ≠ v.ownBlock := by
 obtain ⟨A0, c0, hb, hg, hr0⟩ := h
 exact Kd.R_ne ho hb ht
theorem I7.lt {w0 W : World} {g : Nat} {f0 : List Int} {f1 : Int} {f2 : Bool} (h : I7 w0 W g f0 f1 f2) : g < W.heap.size := by
 obtain ⟨A0, c0, hb, hg, hr0⟩ := h
 exact z19_ hb
theorem I7.ge {w0 W : World} {g : Nat} {f0 : List Int} {f1 : Int} {f2 : Bool} (h : I7 w0 W g f0 f1 f2) : w0.heap.size ≤ g := by
 obtain ⟨A0, c0, hb, hg, hr0⟩ := h
 exact hg
theorem I7.ne_blk {w0 W : World} {g : Nat} {f0 : List Int} {f1 : Int} {f2 : Bool} {a : Nat} {cs : Array Value} {t : TypeId} {fr : Nat × Nat} (h : I7 w0 W g f0 f1 f2) (hb2 : W.heap[a]? = some (.cells cs t fr)) (ht : t ≠ 70) : g ≠ a := by
 obtain ⟨A0, c0, hb, hg, hr0⟩ := h
 rintro rfl
 rw [hb] at hb2
 injection hb2 with hb2
 injection hb2 with _ ht2
 exact ht ht2.symm
theorem I7.far {w0 W : World} {g : Nat} {f0 : List Int} {f1 : Int} {f2 : Bool} {p : Addr} (h : I7 w0 W g f0 f1 f2) (hne : g ≠ p.block) (u : Value) : I7 w0 (W.setCell p u) g f0 f1 f2 := by
 obtain ⟨A0, c0, hb, hg, hr0⟩ := h
 exact ⟨A0, c0, z18_ hb hne u, hg, hr0⟩
theorem cellS70_0 {W : World} {g : Nat} {A0 : Option Addr} {c0 : Nat} {f0 : List Int} {f1 : Int} {f2 : Bool} (h : W.heap[g]? = some (.cells #[.slice A0 f0.length c0, .int .i64 f1, .bool f2] 70 (0, 0))) : W.cell? ⟨g, 0, none⟩ = some (.slice A0 f0.length c0) := (z2_ h 0).trans rfl
theorem cellS70_1 {W : World} {g : Nat} {A0 : Option Addr} {c0 : Nat} {f0 : List Int} {f1 : Int} {f2 : Bool} (h : W.heap[g]? = some (.cells #[.slice A0 f0.length c0, .int .i64 f1, .bool f2] 70 (0, 0))) : W.cell? ⟨g, 1, none⟩ = some (.int .i64 f1) := (z2_ h 1).trans rfl
theorem I7.set_1 {w0 W : World} {g : Nat} {f0 : List Int} {f1 : Int} {f2 : Bool} (h : I7 w0 W g f0 f1 f2) (x : Int) : I7 w0 (W.setCell ⟨g, 1, none⟩ (.int .i64 x)) g f0 x f2 := by
 obtain ⟨A0, c0, hb, hg, hr0⟩ := h
 exact ⟨A0, c0, by simpa using blk_set hb 1 (.int .i64 x), hg, hr0⟩
theorem cellS70_2 {W : World} {g : Nat} {A0 : Option Addr} {c0 : Nat} {f0 : List Int} {f1 : Int} {f2 : Bool} (h : W.heap[g]? = some (.cells #[.slice A0 f0.length c0, .int .i64 f1, .bool f2] 70 (0, 0))) : W.cell? ⟨g, 2, none⟩ = some (.bool f2) := (z2_ h 2).trans rfl
theorem I7.set_2 {w0 W : World} {g : Nat} {f0 : List Int} {f1 : Int} {f2 : Bool} (h : I7 w0 W g f0 f1 f2) (x : Bool) : I7 w0 (W.setCell ⟨g, 2, none⟩ (.bool x)) g f0 f1 x := by
 obtain ⟨A0, c0, hb, hg, hr0⟩ := h
 exact ⟨A0, c0, by simpa using blk_set hb 2 (.bool x), hg, hr0⟩
theorem I7.new (w0 W : World) (A0 : Option Addr) (c0 : Nat) (f0 : List Int) (f1 : Int) (f2 : Bool) (hB : Below w0.heap.size w0 W) (hr0 : Kd.C (Kd.int .u8) w0 A0 f0.length f0) : I7 w0 (W.alloc (.cells #[.slice A0 f0.length c0, .int .i64 f1, .bool f2] 70)) W.heap.size f0 f1 f2 := ⟨A0, c0, by simpa using heap_alloc_new W _, hB.size, hr0⟩
--IMPORT Derived.Shelf.GgClosure.Gives
def byteF (good : Int → Bool) (s : List Int) (at_ : Int) (wrong : Bool) : Option (Int × Int × Bool) :=
 if wrong = true then some (0, at_, true) else if at_ = (s.length : Int) then some (0, at_, true) else
 if 0 ≤ at_ ∧ at_ < (s.length : Int) ∧ s.length ≤ 281474976710656 ∧ 0 ≤ rd s at_ ∧ rd s at_ ≤ 255 then (if good (rd s at_) = true then some (rd s at_, at_ + 1, false) else some (0, at_, true)) else none
def PredB (P : Program) (fn : Nat) (lb : Array Value) (good : Int → Bool) (w : World) : Prop := ∀ (W : World) (x : Int), 0 ≤ x → x ≤ 255 → Below w.heap.size w W → FnGives P fn lb #[.int .i64 x] (.bool (good x)) W
theorem pred_reads {P : Program} {fn : Nat} {lb : Array Value} {good : Int → Bool} {w : World} (hp : PredB P fn lb good w) (x : Int) (h0 : 0 ≤ x) (h1 : x ≤ 255) (q : Nat) (b : Bool) (hb : good x = b) :
  Calls P fn (#[.int .i64 x] ++ lb) (w.drewN q) fun e w' => e = .returned (.bool b) ∧ ∃ m, w' = (w.drewN q).drewN m := by
 subst hb
 exact hp _ x h0 h1 (below_drewN' (Below.refl _ _) q)
theorem cR_byte {fn : Nat} {lb : Array Value} {good : Int → Bool} (eg : ∀ args w, (callFunc fn args).run Try.prog w = .ok (.enter fn args) w) (g : Nat) (s0_0 : List Int) (s0_1 : Int) (s0_2 : Bool) (r1 r2 : Int) (r3 : Bool) (w0 w : World)
  (hp : PredB Try.prog fn lb good w) (hI : I7 w0 w g s0_0 s0_1 s0_2) (hB : Below w0.heap.size w0 w) (h : byteF good s0_0 s0_1 s0_2 = some (r1, r2, r3)) :
  Calls Try.prog 51 #[.pointer (some ⟨g, 0, none⟩), .func (.func fn) #[] lb] w fun e w' => e = .returned (.int .i64 r1) ∧ I7 w0 w' g s0_0 r2 r3 ∧ Below w0.heap.size w0 w' ∧ KeepBut w w' g none := by
 unfold byteF at h
 have HI0 := aM hI
 have HK := aM (KeepBut.refl w g none)
 have HB := aM hB
 obtain ⟨A0, c0, HG, hg, HS0⟩ := hI
 have hc0 := cellS70_0 HG
 have hc1 := cellS70_1 HG
 have hc2 := cellS70_2 HG
 have hf1 := z1_ HG 1
 have hf2 := z1_ HG 2
 clear HG hg hB
 by_cases c1 : s0_2 = true
 ·rw [if_pos c1] at h
  subst c1
  simp only [Option.some.injEq, Prod.mk.injEq] at h
  obtain ⟨rfl, rfl, rfl⟩ := h
  clear hp eg HS0
  go_enter Try.func51, Try.ntmps51
  go_wp2
  repeat (go_quiet (fail); try go_wp2)
  go_ret
  exact ⟨rfl, zS HI0, zB HB, zK HK⟩
 ·rw [if_neg c1] at h
  obtain rfl : s0_2 = false := by simpa using c1
  clear c1
  by_cases c2 : s0_1 = (s0_0.length : Int)
  ·rw [if_pos c2] at h
   simp only [Option.some.injEq, Prod.mk.injEq] at h
   obtain ⟨rfl, rfl, rfl⟩ := h
   have c2b : (s0_1 == (s0_0.length : Int)) = true := beq_iff_eq.2 c2
   clear hp eg HS0 c2
   go_enter Try.func51, Try.ntmps51
   go_wp2
   repeat (go_quiet (fail); try go_wp2)
   go_ret
   exact ⟨rfl, zS HI0, zB HB, zK HK⟩
  ·rw [if_neg c2] at h
   have c2b : (s0_1 == (s0_0.length : Int)) = false := beq_eq_false_iff_ne.2 c2
   by_cases c3 : 0 ≤ s0_1 ∧ s0_1 < (s0_0.length : Int) ∧ s0_0.length ≤ 281474976710656 ∧ 0 ≤ rd s0_0 s0_1 ∧ rd s0_0 s0_1 ≤ 255
   ·rw [if_pos c3] at h
    obtain ⟨d1, d2, d3, d4, d5⟩ := c3
    obtain ⟨ad, e1, hx⟩ := Kd.at_int HS0 s0_1 d1 d2
    cases e1
    have hx0 := hx
    replace hx := pw_cell_below HB.out hx
    have p1 := eq_true d1
    have p2 := eq_true d2
    cases hgd : good (rd s0_0 s0_1)
    ·rw [hgd] at h
     simp only [Option.some.injEq, Prod.mk.injEq, if_neg (show ¬ (false = true) by decide)] at h
     obtain ⟨rfl, rfl, rfl⟩ := h
     have hgd' := aM hgd
     clear hgd c2 hx0
     generalize hv : rd s0_0 s0_1 = v at *
     clear hv
     go_enter Try.func51, Try.ntmps51
     go_wp2
     repeat (go_quiet ((go_at_fn fn; exact Calls.quiet_of (pred_reads hp _ d4 d5 _ _ hgd'.out))); try go_wp2)
     go_ret
     exact ⟨rfl, zS HI0, zB HB, zK HK⟩
    ·rw [hgd] at h
     simp only [Option.some.injEq, Prod.mk.injEq, if_true] at h
     obtain ⟨rfl, rfl, rfl⟩ := h
     have hgd' := aM hgd
     have hn : ad.block ≠ g := Nat.ne_of_lt (Nat.lt_of_lt_of_le (by have := World.block_lt_of_cell? _ _ hx0; first | rwa [add_block] at this | exact this) (I7.ge HI0.out))
     have hx2 := (z14_ (p := ⟨g, 1, none⟩) (by first | (rw [add_block]; exact hn) | (show (Addr.add _ _).block ≠ _; rw [add_block]; exact hn) | exact hn) (.int .i64 (s0_1 + 1))).trans hx
     have hy2 := fun (n_ : Nat) => (show (((w.drewN n_).setCell ⟨g, 1, none⟩ (.int .i64 (s0_1 + 1)))).cell? _ = some _ from hx2)
     have hw1 : IntKind.i64.wrap (s0_1 + 1) = s0_1 + 1 := by rw [i64_w]; unfold wrap64; omega
     have hw2 : IntKind.i64.wrap (s0_1 + 1 - 1) = s0_1 := by rw [i64_w]; unfold wrap64; omega
     have hw3 : wrap64 (s0_1 + 1) = s0_1 + 1 := by unfold wrap64; omega
     have hw4 : s0_1 + 1 - 1 = s0_1 := by omega
     clear hgd c2 hx0 hn
     generalize hv : rd s0_0 s0_1 = v at *
     clear hv
     go_enter Try.func51, Try.ntmps51
     go_wp2
     repeat (go_quiet ((go_at_fn fn; exact Calls.quiet_of (pred_reads hp _ d4 d5 _ _ hgd'.out))); try go_wp2)
     go_ret
     exact ⟨rfl, zS HI0, zB HB, zK HK⟩
   ·rw [if_neg c3] at h
    cases h
theorem within_pred (l m : Int) (g1 g2 : Nat) (w : World) (h1 : w.cell? ⟨g1, 0, none⟩ = some (.int .i64 l)) (h2 : w.cell? ⟨g2, 0, none⟩ = some (.int .i64 m)) (b1 : g1 < w.heap.size) (b2 : g2 < w.heap.size) :
  PredB Try.prog 52 #[.pointer (some ⟨g1, 0, none⟩), .pointer (some ⟨g2, 0, none⟩)] (fun x => decide (l ≤ x) && decide (x ≤ m)) w := by
 intro W x x0 x1 hb
 have h1' := (hb.cell (p := ⟨g1, 0, none⟩) b1).trans h1
 have h2' := (hb.cell (p := ⟨g2, 0, none⟩) b2).trans h2
 clear h1 h2 b1 b2
 unfold FnGives
 by_cases c : l ≤ x
 ·have cb : decide (l ≤ x) = true := decide_eq_true c
  clear c
  go_enter Try.func52, Try.ntmps52
  go_wp2
  repeat (go_quiet (fail); try go_wp2)
  go_ret
  exact ⟨by simp [cb], 0, rfl⟩
 ·have cb : decide (l ≤ x) = false := decide_eq_false c
  clear c
  go_enter Try.func52, Try.ntmps52
  go_wp2
  repeat (go_quiet (fail); try go_wp2)
  go_ret
  exact ⟨by simp [cb], 0, rfl⟩
def cR_within.f (s0_0 : List Int) (s0_1 : Int) (s0_2 : Bool) (a1 : Int) (a2 : Int) : Option (Int × Int × Bool) := byteF (fun x => decide (a1 ≤ x) && decide (x ≤ a2)) s0_0 s0_1 s0_2
theorem cR_within.calls (g : Nat) (s0_0 : List Int) (s0_1 : Int) (s0_2 : Bool) (a1 : Int) (a2 : Int) (r1 : Int) (r2 : Int) (r3 : Bool) (w0 w : World) (hI : I7 w0 w g s0_0 s0_1 s0_2) (hB : Below w0.heap.size w0 w) (h : cR_within.f s0_0 s0_1 s0_2 a1 a2 = some (r1, r2, r3)) :
  Calls Try.prog 33 #[.pointer (some ⟨g, 0, none⟩), .int .i64 a1, .int .i64 a2] w fun e w' => e = .returned (.int .i64 r1) ∧ I7 w0 w' g s0_0 r2 r3 ∧ Below w0.heap.size w0 w' ∧ KeepBut w w' g none := by
 have eg := enters_of Try.func52 zk rfl
 have hI2 := I7.alloc (I7.alloc hI (.cells #[.int .i64 a1] 3)) (.cells #[.int .i64 a2] 3)
 have hB2 := below_alloc (below_alloc hB (.cells #[.int .i64 a1] 3)) (.cells #[.int .i64 a2] 3)
 have hK2 : KeepBut w ((w.alloc (.cells #[.int .i64 a1] 3)).alloc (.cells #[.int .i64 a2] 3)) g none := by repeat (first | (with_reducible first | exact KeepBut.refl w g none | apply keep_alloc) | exact KeepBut.refl w g none)
 have hp := within_pred a1 a2 w.heap.size (w.heap.size + 1) ((w.alloc (.cells #[.int .i64 a1] 3)).alloc (.cells #[.int .i64 a2] 3)) (by go_simp) (by go_simp) (by simp; omega) (by simp)
 have C := cR_byte eg g s0_0 s0_1 s0_2 r1 r2 r3 w0 _ hp hI2 hB2 h
 clear hI hB hI2 hB2 hp h
 go_enter Try.func33, Try.ntmps33
 go_wp2_with (go_at_call 51; refine C.mono ?_; rintro e w1 ⟨rfl, hI1, hB1, hK1⟩)
 go_ret
 exact ⟨rfl, hI1, hB1, hK2.trans hK1 (Or.inl rfl)⟩
theorem signed_pred (w : World) : PredB Try.prog 53 #[] (fun x => decide (x ≤ 16) || decide (240 ≤ x)) w := by
 intro W x x0 x1 hb
 unfold FnGives
 by_cases c : x ≤ 16
 ·have cb : decide (x ≤ 16) = true := decide_eq_true c
  clear c
  go_enter Try.func53, Try.ntmps53
  go_wp2
  repeat (go_quiet (fail); try go_wp2)
  go_ret
  exact ⟨by simp [cb], 0, rfl⟩
 ·have cb : decide (x ≤ 16) = false := decide_eq_false c
  clear c
  go_enter Try.func53, Try.ntmps53
  go_wp2
  repeat (go_quiet (fail); try go_wp2)
  go_ret
  exact ⟨by simp [cb], 0, rfl⟩
theorem byteF_rng {good : Int → Bool} {s : List Int} {at_ : Int} {wrong : Bool} {r1 r2 : Int} {r3 : Bool} (h : byteF good s at_ wrong = some (r1, r2, r3)) : 0 ≤ r1 ∧ r1 ≤ 255 := by
 unfold byteF at h
 split at h
 ·cases h; decide
 ·split at h
  ·cases h; decide
  ·split at h
   ·rename_i hc
    split at h
    ·cases h; exact ⟨hc.2.2.2.1, hc.2.2.2.2⟩
    ·cases h; decide
   ·cases h
def s8 (x : Int) : Int := if x ≤ 127 then x else x - 256
def cR_signed.f (s0_0 : List Int) (s0_1 : Int) (s0_2 : Bool) : Option (Int × Int × Bool) := (byteF (fun x => decide (x ≤ 16) || decide (240 ≤ x)) s0_0 s0_1 s0_2).bind fun b => some (s8 b.1, b.2.1, b.2.2)
theorem cR_signed.calls (g : Nat) (s0_0 : List Int) (s0_1 : Int) (s0_2 : Bool) (r1 : Int) (r2 : Int) (r3 : Bool) (w0 w : World) (hI : I7 w0 w g s0_0 s0_1 s0_2) (hB : Below w0.heap.size w0 w) (h : cR_signed.f s0_0 s0_1 s0_2 = some (r1, r2, r3)) :
  Calls Try.prog 34 #[.pointer (some ⟨g, 0, none⟩)] w fun e w' => e = .returned (.int .i64 r1) ∧ I7 w0 w' g s0_0 r2 r3 ∧ Below w0.heap.size w0 w' ∧ KeepBut w w' g none := by
 unfold cR_signed.f at h
 obtain ⟨⟨x, y, z⟩, hb, h⟩ := Option.bind_eq_some_iff.mp h
 simp only [Option.some.injEq, Prod.mk.injEq] at h
 obtain ⟨rfl, rfl, rfl⟩ := h
 have eg := enters_of Try.func53 zk rfl
 have C := cR_byte eg g s0_0 s0_1 s0_2 x y z w0 w (signed_pred w) hI hB hb
 have hr := byteF_rng hb
 obtain ⟨hr0, hr1⟩ := hr
 have h8 : IntKind.i8.wrap x = s8 x := by
  obtain ⟨n, rfl⟩ : ∃ n : Nat, x = (n : Int) := ⟨x.toNat, by omega⟩
  exact (by decide +kernel : ∀ n, n < 256 → IntKind.i8.wrap ((n : Nat) : Int) = s8 ((n : Nat) : Int)) n (by omega)
 have h64 : IntKind.i64.wrap (s8 x) = s8 x := by rw [i64_w]; unfold s8 wrap64; split <;> omega
 have h64b : wrap64 (s8 x) = s8 x := by rw [← i64_w]; exact h64
 clear hI hB hb
 go_enter Try.func34, Try.ntmps34
 go_wp2_with (go_at_call 51; refine C.mono ?_; rintro e w1 ⟨rfl, hI1, hB1, hK1⟩)
 go_ret
 exact ⟨rfl, hI1, hB1, hK1⟩
--IMPORT Derived.Laws.EntriesVeiled
def mayC (op c : Int) : Bool := if op = 5 ∨ op = 6 then (!(c == 0)) && (decide (-512 ≤ c) && decide (c ≤ 512)) else if op = 7 ∨ op = 8 then decide (1 ≤ c) && decide (c ≤ 64) else c == 0
def both16 (h l : Int) : Int := if h ≤ 127 then h * 256 + l else h * 256 + l - 65536
def anyLow (op x : Int) : Bool := (List.range 256).any fun l => mayC op (both16 x (l : Int))
theorem may_any (op c : Int) (g1 : Nat) (W : World) (h1 : W.cell? ⟨g1, 0, none⟩ = some (.int .i64 op)) :
  Calls Try.prog 61 #[.int .i64 c, .pointer (some ⟨g1, 0, none⟩)] W fun e w' => e = .returned (.bool (mayC op c)) ∧ w' = W := by
 unfold mayC
 by_cases c5 : op = 5
 ·subst c5
  cases h0 : c == 0 <;> cases h2 : decide (-512 ≤ c)
  all_goals
   have h0n : (c != 0) = !(c == 0) := rfl
   rw [h0] at h0n
   go_enter Try.func61, Try.ntmps61
   go_wp2
   repeat (go_quiet (fail); try go_wp2)
   go_ret
   exact ⟨by simp [h0, h2], rfl⟩
 ·have c5b : (op == 5) = false := beq_eq_false_iff_ne.2 c5
  by_cases c6 : op = 6
  ·subst c6
   clear c5
   cases h0 : c == 0 <;> cases h2 : decide (-512 ≤ c)
   all_goals
    have h0n : (c != 0) = !(c == 0) := rfl
    rw [h0] at h0n
    go_enter Try.func61, Try.ntmps61
    go_wp2
    repeat (go_quiet (fail); try go_wp2)
    go_ret
    exact ⟨by simp [h0, h2], rfl⟩
  ·have c6b : (op == 6) = false := beq_eq_false_iff_ne.2 c6
   rw [if_neg (by omega)]
   by_cases c7 : op = 7
   ·subst c7
    clear c5 c6
    cases h2 : decide (1 ≤ c)
    all_goals
     go_enter Try.func61, Try.ntmps61
     go_wp2
     repeat (go_quiet (fail); try go_wp2)
     go_ret
     exact ⟨by simp [h2], rfl⟩
   ·have c7b : (op == 7) = false := beq_eq_false_iff_ne.2 c7
    by_cases c8 : op = 8
    ·subst c8
     clear c5 c6 c7
     cases h2 : decide (1 ≤ c)
     all_goals
      go_enter Try.func61, Try.ntmps61
      go_wp2
      repeat (go_quiet (fail); try go_wp2)
      go_ret
      exact ⟨by simp [h2], rfl⟩
    ·have c8b : (op == 8) = false := beq_eq_false_iff_ne.2 c8
     rw [if_neg (by omega)]
     clear c5 c6 c7 c8
     go_enter Try.func61, Try.ntmps61
     go_wp2
     repeat (go_quiet (fail); try go_wp2)
     go_ret
     exact ⟨rfl, rfl⟩
theorem or256 {h l : Int} (h0 : 0 ≤ h) (h1 : h ≤ 255) (l0 : 0 ≤ l) (l1 : l ≤ 255) : Go.bits .or .i64 (h * 256) l = h * 256 + l := by
 have e32 : (2 : Int) ^ 32 = 4294967296 := by decide
 have e8 : (2 : Int) ^ 8 = 256 := by decide
 refine bits_join .i64 32 (by decide) (fun n a b => ?_) 8 (h * 256) l (by omega) (by rw [e8]; omega) (by rw [e32]; omega) l0 (by rw [e8]; omega) (by rw [e32]; omega)
 rw [e32] at b
 rw [i64_w]; unfold wrap64; omega
theorem both_any (h l : Int) (h0 : 0 ≤ h) (h1 : h ≤ 255) (l0 : 0 ≤ l) (l1 : l ≤ 255) (W : World) :
  Calls Try.prog 62 #[.int .i64 h, .int .i64 l] W fun e w' => e = .returned (.int .i64 (both16 h l)) ∧ w' = W := by
 have ho := or256 h0 h1 l0 l1
 have h16 : IntKind.i16.wrap (h * 256 + l) = both16 h l := by
  unfold both16
  simp [IntKind.wrap, IntKind.bits, IntKind.signed]
  split <;> omega
 have h64 : IntKind.i64.wrap (both16 h l) = both16 h l := by rw [i64_w]; unfold both16 wrap64; split <;> omega
 have h64b : wrap64 (both16 h l) = both16 h l := by rw [← i64_w]; exact h64
 go_enter Try.func62, Try.ntmps62
 go_wp2
 go_ret
 exact ⟨rfl, rfl⟩
theorem drawn_on {W w : World} (h : ∃ q, w = W.drewN q) (n : Nat) : ∃ q, w.drewN n = W.drewN q := by
 obtain ⟨q, rfl⟩ := h
 exact ⟨q + n, World.drewN_drewN ..⟩
theorem any_before (op x : Int) (k : Nat) (h : ∀ j : Nat, j < k → mayC op (both16 x (j : Int)) = false) (hk : k = 256) : anyLow op x = false := by
 subst hk
 unfold anyLow
 rw [List.any_eq_false]
 intro l hl
 rw [h l (List.mem_range.1 hl)]
 decide
theorem any_here (op x : Int) (k : Nat) (hk : k < 256) (h : mayC op (both16 x (k : Int)) = true) : anyLow op x = true := List.any_eq_true.2 ⟨k, List.mem_range.2 hk, h⟩
theorem high_pred (op : Int) (gm gb g1 : Nat) (w : World) (hm : w.cell? ⟨gm, 0, none⟩ = some (.func (.func 61) #[] #[.pointer (some ⟨g1, 0, none⟩)])) (hb : w.cell? ⟨gb, 0, none⟩ = some (.func (.func 62) #[] #[])) (ho : w.cell? ⟨g1, 0, none⟩ = some (.int .i64 op)) (b1 : gm < w.heap.size) (b2 : gb < w.heap.size) (b3 : g1 < w.heap.size) :
  PredB Try.prog 63 #[.pointer (some ⟨gm, 0, none⟩), .pointer (some ⟨gb, 0, none⟩)] (anyLow op) w := by
 intro W x x0 x1 hB
 have cm := (hB.cell (p := ⟨gm, 0, none⟩) b1).trans hm
 have cb := (hB.cell (p := ⟨gb, 0, none⟩) b2).trans hb
 have co := (hB.cell (p := ⟨g1, 0, none⟩) b3).trans ho
 clear hm hb ho b1 b2 b3 hB
 unfold FnGives
 go_enter Try.func63, Try.ntmps63
 go_wp2
 go_loopw [6] (fun i wr => ∃ k : Nat, k ≤ 256 ∧ i = .int .i64 k ∧ (∀ j : Nat, j < k → mayC op (both16 x (j : Int)) = false) ∧ ∃ q, wr = W.drewN q) (fun i _ => 256 - (intOf i).toNat)
 case atStart => exact ⟨0, by omega, rfl, fun j hj => absurd hj (Nat.not_lt_zero _), 0, rfl⟩
 case round =>
  obtain ⟨k, hk, rfl, hall, hq⟩ := hrel
  have HA := aM hall
  have HQ := aM hq
  have cm' : wr.cell? ⟨gm, 0, none⟩ = some (.func (.func 61) #[] #[.pointer (some ⟨g1, 0, none⟩)]) := by obtain ⟨q, rfl⟩ := hq; exact cm
  have cb' : wr.cell? ⟨gb, 0, none⟩ = some (.func (.func 62) #[] #[]) := by obtain ⟨q, rfl⟩ := hq; exact cb
  have co' : wr.cell? ⟨g1, 0, none⟩ = some (.int .i64 op) := by obtain ⟨q, rfl⟩ := hq; exact co
  clear hall hq cm cb co
  by_cases hlt : k < 256
  ·have k0 : (0 : Int) ≤ (k : Int) := Int.natCast_nonneg k
   have k1 : (k : Int) ≤ 255 := by omega
   cases hmc : mayC op (both16 x (k : Int))
   ·have HM := aM hmc
    clear hmc
    go_wp2
    go_quiet ((first | (go_at_call 62; exact Calls.quiet_of_same (both_any x k x0 x1 k0 k1 _)) | (go_at_call 61; exact Calls.quiet_of_same ((may_any op _ g1 _ (by go_simp)).mono (fun e w' h => by rw [HM.out] at h; exact h)))))
    go_wp2
    go_roundw
    case rel =>
     refine ⟨k + 1, by omega, by go_num, fun j hj => ?_, drawn_on HQ.out _⟩
     by_cases e : j = k
     ·rw [e]; exact HM.out
     ·exact HA.out j (by omega)
    case measure => simp [intOf]; omega
   ·have HM := aM hmc
    have HR := aM (any_here op x k hlt hmc)
    clear hmc
    go_wp2
    go_quiet ((first | (go_at_call 62; exact Calls.quiet_of_same (both_any x k x0 x1 k0 k1 _)) | (go_at_call 61; exact Calls.quiet_of_same ((may_any op _ g1 _ (by go_simp)).mono (fun e w' h => by rw [HM.out] at h; exact h)))))
    go_wp2
    go_ret
    exact ⟨by rw [HR.out]; rfl, drawn_on HQ.out _⟩
  ·have HR := aM (any_before op x k HA.out (by omega))
   go_wp2
   go_ret
   exact ⟨by rw [HR.out]; rfl, HQ.out⟩
theorem low_pred (op h : Int) (h0 : 0 ≤ h) (h1 : h ≤ 255) (gm gb g1 gh : Nat) (w : World) (hm : w.cell? ⟨gm, 0, none⟩ = some (.func (.func 61) #[] #[.pointer (some ⟨g1, 0, none⟩)])) (hb : w.cell? ⟨gb, 0, none⟩ = some (.func (.func 62) #[] #[])) (ho : w.cell? ⟨g1, 0, none⟩ = some (.int .i64 op)) (hh : w.cell? ⟨gh, 0, none⟩ = some (.int .i64 h)) (b1 : gm < w.heap.size) (b2 : gb < w.heap.size) (b3 : g1 < w.heap.size) (b4 : gh < w.heap.size) :
  PredB Try.prog 64 #[.pointer (some ⟨gm, 0, none⟩), .pointer (some ⟨gb, 0, none⟩), .pointer (some ⟨gh, 0, none⟩)] (fun x => mayC op (both16 h x)) w := by
 intro W x x0 x1 hB
 have cm := (hB.cell (p := ⟨gm, 0, none⟩) b1).trans hm
 have cb := (hB.cell (p := ⟨gb, 0, none⟩) b2).trans hb
 have co := (hB.cell (p := ⟨g1, 0, none⟩) b3).trans ho
 have ch := (hB.cell (p := ⟨gh, 0, none⟩) b4).trans hh
 clear hm hb ho hh b1 b2 b3 b4 hB
 unfold FnGives
 cases hmc : mayC op (both16 h x)
 all_goals
  have HM := aM hmc
  clear hmc
  go_enter Try.func64, Try.ntmps64
  go_wp2
  go_quiet ((first | (go_at_call 62; exact Calls.quiet_of_same (both_any h x h0 h1 x0 x1 _)) | (go_at_call 61; exact Calls.quiet_of_same ((may_any op _ g1 _ (by go_simp)).mono (fun e w' h => by rw [HM.out] at h; exact h)))))
  go_wp2
  go_ret
  exact ⟨by rw [HM.out]; rfl, _, rfl⟩
def cR_constant.f (s0_0 : List Int) (s0_1 : Int) (s0_2 : Bool) (a1 : Int) : Option (Int × Int × Bool) := (byteF (anyLow a1) s0_0 s0_1 s0_2).bind fun b => (byteF (fun x => mayC a1 (both16 b.1 x)) s0_0 b.2.1 b.2.2).bind fun c => some (both16 b.1 c.1, c.2.1, c.2.2)
theorem keep_cellc {w w1 : World} {g b : Nat} {row : Option Nat} {v : Value} (hk : KeepBut w w1 g row) (hr : row = none) (hc : w.cell? ⟨b, 0, none⟩ = some v) (hb : b < w.heap.size) (hne : b ≠ g) : w1.cell? ⟨b, 0, none⟩ = some v := by
 subst hr
 obtain ⟨o, ho⟩ : ∃ o, w.heap[b]? = some o := ⟨_, Array.getElem?_eq_getElem hb⟩
 have h1 := hk.blk ho hne (by simp)
 rw [← hc]
 unfold World.cell?
 simp only [h1, ho]
theorem cell_on {w : World} {b : Nat} {v : Value} (o : Obj) (h : w.cell? ⟨b, 0, none⟩ = some v) (hb : b < w.heap.size) : (w.alloc o).cell? ⟨b, 0, none⟩ = some v :=
 ((below_alloc (Below.refl w.heap.size w) o).cell (p := ⟨b, 0, none⟩) hb).trans h
theorem cR_constant.calls (g : Nat) (s0_0 : List Int) (s0_1 : Int) (s0_2 : Bool) (a1 : Int) (r1 : Int) (r2 : Int) (r3 : Bool) (w0 w : World) (hI : I7 w0 w g s0_0 s0_1 s0_2) (hB : Below w0.heap.size w0 w) (h : cR_constant.f s0_0 s0_1 s0_2 a1 = some (r1, r2, r3)) :
  Calls Try.prog 56 #[.pointer (some ⟨g, 0, none⟩), .int .i64 a1] w fun e w' => e = .returned (.int .i64 r1) ∧ I7 w0 w' g s0_0 r2 r3 ∧ Below w0.heap.size w0 w' ∧ KeepBut w w' g none := by
 unfold cR_constant.f at h
 obtain ⟨⟨x, y, z⟩, hb, h⟩ := Option.bind_eq_some_iff.mp h
 obtain ⟨⟨x2, y2, z2⟩, hb2, h⟩ := Option.bind_eq_some_iff.mp h
 simp only [Option.some.injEq, Prod.mk.injEq] at h
 obtain ⟨rfl, rfl, rfl⟩ := h
 obtain ⟨x0, x1⟩ := byteF_rng hb
 obtain ⟨u0, u1⟩ := byteF_rng hb2
 have HB2 := aM hb2
 have HB1 := aM hb
 have egH := enters_of Try.func63 zk rfl
 have egL := enters_of Try.func64 zk rfl
 have hlt := I7.lt hI
 have hI1 := I7.alloc (I7.alloc (I7.alloc hI (.cells #[.int .i64 a1] 3)) (.cells #[.func (.func 61) #[] #[.pointer (some ⟨w.heap.size, 0, none⟩)]] 89)) (.cells #[.func (.func 62) #[] #[]] 71)
 have hB1 := below_alloc (below_alloc (below_alloc hB (.cells #[.int .i64 a1] 3)) (.cells #[.func (.func 61) #[] #[.pointer (some ⟨w.heap.size, 0, none⟩)]] 89)) (.cells #[.func (.func 62) #[] #[]] 71)
 obtain ⟨W1, hW1⟩ : ∃ W1, W1 = ((w.alloc (.cells #[.int .i64 a1] 3)).alloc (.cells #[.func (.func 61) #[] #[.pointer (some ⟨w.heap.size, 0, none⟩)]] 89)).alloc (.cells #[.func (.func 62) #[] #[]] 71) := ⟨_, rfl⟩
 have hK1 : KeepBut w W1 g none := by rw [hW1]; repeat (first | (with_reducible first | exact KeepBut.refl w g none | apply keep_alloc) | exact KeepBut.refl w g none)
 have hz1 : W1.heap.size = w.heap.size + 3 := by rw [hW1]; simp
 have c1 : W1.cell? ⟨w.heap.size + 1, 0, none⟩ = some (.func (.func 61) #[] #[.pointer (some ⟨w.heap.size, 0, none⟩)]) := by rw [hW1]; go_simp
 have c2 : W1.cell? ⟨w.heap.size + 1 + 1, 0, none⟩ = some (.func (.func 62) #[] #[]) := by rw [hW1]; go_simp
 have c3 : W1.cell? ⟨w.heap.size, 0, none⟩ = some (.int .i64 a1) := by rw [hW1]; go_simp
 rw [← hW1] at hI1 hB1
 have C1 := cR_byte egH g s0_0 s0_1 s0_2 x y z w0 W1 (high_pred a1 (w.heap.size + 1) (w.heap.size + 1 + 1) w.heap.size W1 c1 c2 c3 (by omega) (by omega) (by omega)) hI1 hB1 hb
 have C2 : ∀ w1, I7 w0 w1 g s0_0 y z → Below w0.heap.size w0 w1 → KeepBut W1 w1 g none → ∀ gh, w1.heap.size = gh → (Calls Try.prog 51 #[.pointer (some ⟨g, 0, none⟩), .func (.func 64) #[] #[.pointer (some ⟨w.heap.size + 1, 0, none⟩), .pointer (some ⟨w.heap.size + 1 + 1, 0, none⟩), .pointer (some ⟨gh, 0, none⟩)]] (w1.alloc (.cells #[.int .i64 x] 3)) fun e w' => e = .returned (.int .i64 x2) ∧ I7 w0 w' g s0_0 y2 z2 ∧ Below w0.heap.size w0 w' ∧ KeepBut W1 w' g none ∧ w'.cell? ⟨w.heap.size + 1 + 1, 0, none⟩ = some (.func (.func 62) #[] #[]) ∧ w'.cell? ⟨gh, 0, none⟩ = some (.int .i64 x)) := by
  intro w1 hI2 hB2 hK2 gh hgh
  subst hgh
  have hz2 := hK2.1
  have d1 := cell_on (.cells #[.int .i64 x] 3) (keep_cellc hK2 rfl c1 (by omega) (by omega)) (by omega)
  have d2 := cell_on (.cells #[.int .i64 x] 3) (keep_cellc hK2 rfl c2 (by omega) (by omega)) (by omega)
  have d3 := cell_on (.cells #[.int .i64 x] 3) (keep_cellc hK2 rfl c3 (by omega) (by omega)) (by omega)
  have d4 : (w1.alloc (.cells #[.int .i64 x] 3)).cell? ⟨w1.heap.size, 0, none⟩ = some (.int .i64 x) := by go_simp
  have hK3 := keep_alloc hK2 (.cells #[.int .i64 x] 3)
  refine (cR_byte egL g s0_0 y z x2 y2 z2 w0 _ (low_pred a1 x x0 x1 (w.heap.size + 1) (w.heap.size + 1 + 1) w.heap.size w1.heap.size _ d1 d2 d3 d4 (by simp; omega) (by simp; omega) (by simp; omega) (by simp)) (I7.alloc hI2 _) (below_alloc hB2 _) hb2).mono ?_
  rintro e w' ⟨he, q1, q2, q3⟩
  exact ⟨he, q1, q2, hK3.trans q3 (Or.inl rfl), keep_cellc q3 rfl d2 (by simp; omega) (by omega), keep_cellc q3 rfl d4 (by simp) (by omega)⟩
 have HC2 := aM C2
 have HK1 := aM hK1
 subst hW1
 clear hb hb2 hI hB hI1 hB1 C2 hK1 c1 c2 c3 hz1 hlt
 go_enter Try.func56, Try.ntmps56
 go_wp2_with (first | (go_at_call 51; refine C1.mono ?_; rintro e w1 ⟨rfl, hI2, hB2, hK2⟩; have HN := aM (HC2.out w1 hI2 hB2 hK2 _ rfl); clear C1 hI2 hB2 hK2) | (go_at_call 51; refine HN.out.mono ?_; rintro e w2 ⟨rfl, hI3, hB3, hK3, e1, e2⟩) | (go_at_call 62; refine (both_any x x2 x0 x1 u0 u1 _).mono ?_; rintro e w' ⟨rfl, rfl⟩))
 go_ret
 exact ⟨rfl, hI3, hB3, HK1.out.trans hK3 (Or.inl rfl)⟩
theorem program1_pred (w : World) : PredB Try.prog 54 #[] (fun x => decide (x * 256 ≤ 16384)) w := by
 intro W x x0 x1 hb
 unfold FnGives
 go_enter Try.func54, Try.ntmps54
 go_wp2
 go_ret
 exact ⟨rfl, 0, rfl⟩
def cR_program_1.f (s0_0 : List Int) (s0_1 : Int) (s0_2 : Bool) : Option (Int × Int × Bool) := byteF (fun x => decide (x * 256 ≤ 16384)) s0_0 s0_1 s0_2
theorem cR_program_1.calls (g : Nat) (s0_0 : List Int) (s0_1 : Int) (s0_2 : Bool) (r1 : Int) (r2 : Int) (r3 : Bool) (w0 w : World) (hI : I7 w0 w g s0_0 s0_1 s0_2) (hB : Below w0.heap.size w0 w) (h : cR_program_1.f s0_0 s0_1 s0_2 = some (r1, r2, r3)) :
  Calls Try.prog 51 #[.pointer (some ⟨g, 0, none⟩), .func (.func 54) #[] #[]] w fun e w' => e = .returned (.int .i64 r1) ∧ I7 w0 w' g s0_0 r2 r3 ∧ Below w0.heap.size w0 w' ∧ KeepBut w w' g none :=
 cR_byte (enters_of Try.func54 zk rfl) g s0_0 s0_1 s0_2 r1 r2 r3 w0 w (program1_pred w) hI hB h
theorem program2_pred (h : Int) (h0 : 0 ≤ h) (h1 : h ≤ 255) (g1 : Nat) (w : World) (hc : w.cell? ⟨g1, 0, none⟩ = some (.int .i64 h)) (b1 : g1 < w.heap.size) : PredB Try.prog 55 #[.pointer (some ⟨g1, 0, none⟩)] (fun x => decide (h * 256 + x ≤ 16384)) w := by
 intro W x x0 x1 hb
 have cc := (hb.cell (p := ⟨g1, 0, none⟩) b1).trans hc
 have ho := or256 h0 h1 x0 x1
 clear hc b1 hb
 unfold FnGives
 go_enter Try.func55, Try.ntmps55
 go_wp2
 go_ret
 exact ⟨rfl, 0, rfl⟩
def cR_program_2.f (s0_0 : List Int) (s0_1 : Int) (s0_2 : Bool) (a1 : Int) : Option (Int × Int × Bool) := if 0 ≤ a1 ∧ a1 ≤ 255 then byteF (fun x => decide (a1 * 256 + x ≤ 16384)) s0_0 s0_1 s0_2 else none
theorem cR_program_2.calls (g : Nat) (s0_0 : List Int) (s0_1 : Int) (s0_2 : Bool) (a1 : Int) (r1 : Int) (r2 : Int) (r3 : Bool) (w0 w : World) (hI : I7 w0 w g s0_0 s0_1 s0_2) (hB : Below w0.heap.size w0 w) (h : cR_program_2.f s0_0 s0_1 s0_2 a1 = some (r1, r2, r3)) (g1 : Nat) (hc : w.cell? ⟨g1, 0, none⟩ = some (.int .i64 a1)) (b1 : g1 < w.heap.size) :
  Calls Try.prog 51 #[.pointer (some ⟨g, 0, none⟩), .func (.func 55) #[] #[.pointer (some ⟨g1, 0, none⟩)]] w fun e w' => e = .returned (.int .i64 r1) ∧ I7 w0 w' g s0_0 r2 r3 ∧ Below w0.heap.size w0 w' ∧ KeepBut w w' g none := by
 unfold cR_program_2.f at h
 by_cases c : 0 ≤ a1 ∧ a1 ≤ 255
 ·rw [if_pos c] at h
  exact cR_byte (enters_of Try.func55 zk rfl) g s0_0 s0_1 s0_2 r1 r2 r3 w0 w (program2_pred a1 c.1 c.2 g1 w hc b1) hI hB h
 ·rw [if_neg c] at h; cases h
end Go.Proofs.Ytccbdcbeinkjgaa.XA
end
