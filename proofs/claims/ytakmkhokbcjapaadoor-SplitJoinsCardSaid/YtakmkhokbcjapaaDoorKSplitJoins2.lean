/- Part 2 of the proof of the law SplitJoins for every input: words, walks and plain laws. No condition. -/
import Derived.Test.YtakmkhokbcjapaaDoorKSplitJoins1
set_option linter.unusedVariables false
set_option linter.unusedSimpArgs false
set_option maxHeartbeats 8000000
set_option maxRecDepth 100000
section
namespace Go.Proofs.YtakmkhokbcjapaaDoor.Lift
open Go
open Go.RowKit Go.Proofs.YtakmkhokbcjapaaDoorW.PrintWords Go.Proofs.YtakmkhokbcjapaaDoorW.PrintLast Go.Proofs.YtakmkhokbcjapaaDoorW.PrintMore
class LW (w w1 : World) : Prop where
  b : Below w.heap.size w w1
instance lw_refl (w : World) : LW w w := ⟨Below.refl _ _⟩
instance lw_alloc (w w1 : World) (o : Obj) [h : LW w w1] : LW w (w1.alloc o) := ⟨below_alloc h.b o⟩
instance lw_drew (w w1 : World) [h : LW w w1] : LW w w1.drew := ⟨below_drew h.b⟩
instance lw_drewN (w w1 : World) (n : Nat) [h : LW w w1] : LW w (w1.drewN n) := ⟨pw_below_drewN h.b n⟩
section
variable {α : Type} {d : Kd α} {e base B : Nat} {ok : Nat → Prop} {w w0 w1 w2 : World} {v u : Value} {xs : List α} {A : Option Addr} {n : Nat}
theorem lR [l : LW w w1] (h : Aside0 (d.R e w base ok v xs)) : d.R e w1 base ok v xs := Kd.z7_ h.out l.b
theorem lN [l : LW w w1] (h : Aside0 (Kd.N d e w base ok v xs)) : Kd.N d e w1 base ok v xs := Kd.N_below h.out l.b
theorem lB [l : LW w w1] (h : Aside0 (Below w0.heap.size w0 w)) : Below w0.heap.size w0 w1 := z6_ h.out l.b
theorem lV [l : LW w w1] (h : Aside0 (Kd.V d e w base ok v xs)) : Kd.V d e w1 base ok v xs := Kd.V_below h.out l.b
theorem lK [l : LW w w1] {g : Nat} {o : Obj} (h : Aside0 (w.heap[g]? = some o)) : w1.heap[g]? = some o := (l.b.block _ (Array.getElem?_eq_some_iff.1 h.out).1).trans h.out
theorem lC [l : LW w w1] (h : Kd.C d w A n xs) : Kd.C d w1 A n xs := Kd.z8_ h l.b
theorem fA {g i : Nat} {y : Value} {Q : Nat → Prop} (h : d.R e w base (fun k => Q k ∧ k ≠ g) v xs) : d.R e (w.setCell ⟨g, i, none⟩ y) base (fun k => Q k ∧ k ≠ g) v xs := Kd.R_far h (fun _ hk => hk.2) y
theorem fB {g i : Nat} {y : Value} {Q Z : Nat → Prop} (h : d.R e w base (fun k => (Q k ∧ k ≠ g) ∧ Z k) v xs) : d.R e (w.setCell ⟨g, i, none⟩ y) base (fun k => (Q k ∧ k ≠ g) ∧ Z k) v xs := Kd.R_far h (fun _ hk => hk.1.2) y
theorem bR [l : LW w w1] (h : Aside0 (d.R e w base ok v xs)) (hb : Below w1.heap.size w1 w2) : Aside0 (d.R e w2 base ok v xs) := ⟨Kd.z7_ (lR h) hb⟩
theorem eN [l : LW w w1] (h : Aside0 (Kd.N d e w base ok v xs)) (hu : ∀ k, u.ownBlock = some k → w1.heap.size ≤ k) (hb : Below w1.heap.size w1 w2) : Aside0 (Kd.N d e w2 base (fun k => ok k ∧ some k ≠ u.ownBlock) v xs) := ⟨Kd.N_elder' (lN h) hu hb⟩
end
class LX (w : outParam World) (w1 : World) : Prop where
  l : LW w w1
instance (priority := low) lx_refl (w : World) : LX w w := ⟨lw_refl w⟩
instance lx_alloc (w w1 : World) (o : Obj) [h : LX w w1] : LX w (w1.alloc o) := ⟨@lw_alloc w w1 o h.l⟩
instance lx_drew (w w1 : World) [h : LX w w1] : LX w w1.drew := ⟨@lw_drew w w1 h.l⟩
instance lx_drewN (w w1 : World) (n : Nat) [h : LX w w1] : LX w (w1.drewN n) := ⟨@lw_drewN w w1 n h.l⟩
theorem lZ {w w1 : World} [l : LX w w1] {g : Nat} {o : Obj} (h : w.heap[g]? = some o) : w1.heap[g]? = some o := @lK w w1 l.l g o ⟨h⟩
theorem lY {α : Type} {d : Kd α} {w w1 : World} {A : Option Addr} {n : Nat} {xs : List α} [l : LX w w1] (h : Kd.C d w A n xs) : Kd.C d w1 A n xs := Kd.z8_ h l.l.b
theorem zc15 {w : World} {g : Nat} {t : TypeId} {a0 a1 a2 a3 a4 a5 a6 a7 a8 a9 a10 a11 a12 a13 a14 : Value} (h : w.heap[g]? = some (.cells #[a0, a1, a2, a3, a4, a5, a6, a7, a8, a9, a10, a11, a12, a13, a14] t (0, 0))) : w.cell? ⟨g, 0, none⟩ = some a0 ∧ w.cell? ⟨g, 1, none⟩ = some a1 ∧ w.cell? ⟨g, 2, none⟩ = some a2 ∧ w.cell? ⟨g, 3, none⟩ = some a3 ∧ w.cell? ⟨g, 4, none⟩ = some a4 ∧ w.cell? ⟨g, 5, none⟩ = some a5 ∧ w.cell? ⟨g, 6, none⟩ = some a6 ∧ w.cell? ⟨g, 7, none⟩ = some a7 ∧ w.cell? ⟨g, 8, none⟩ = some a8 ∧ w.cell? ⟨g, 9, none⟩ = some a9 ∧ w.cell? ⟨g, 10, none⟩ = some a10 ∧ w.cell? ⟨g, 11, none⟩ = some a11 ∧ w.cell? ⟨g, 12, none⟩ = some a12 ∧ w.cell? ⟨g, 13, none⟩ = some a13 ∧ w.cell? ⟨g, 14, none⟩ = some a14 := ⟨(z2_ h 0).trans rfl, (z2_ h 1).trans rfl, (z2_ h 2).trans rfl, (z2_ h 3).trans rfl, (z2_ h 4).trans rfl, (z2_ h 5).trans rfl, (z2_ h 6).trans rfl, (z2_ h 7).trans rfl, (z2_ h 8).trans rfl, (z2_ h 9).trans rfl, (z2_ h 10).trans rfl, (z2_ h 11).trans rfl, (z2_ h 12).trans rfl, (z2_ h 13).trans rfl, (z2_ h 14).trans rfl⟩
theorem zc4 {w : World} {g : Nat} {t : TypeId} {a0 a1 a2 a3 : Value} (h : w.heap[g]? = some (.cells #[a0, a1, a2, a3] t (0, 0))) : w.cell? ⟨g, 0, none⟩ = some a0 ∧ w.cell? ⟨g, 1, none⟩ = some a1 ∧ w.cell? ⟨g, 2, none⟩ = some a2 ∧ w.cell? ⟨g, 3, none⟩ = some a3 := ⟨(z2_ h 0).trans rfl, (z2_ h 1).trans rfl, (z2_ h 2).trans rfl, (z2_ h 3).trans rfl⟩
theorem zc2 {w : World} {g : Nat} {t : TypeId} {a0 a1 : Value} (h : w.heap[g]? = some (.cells #[a0, a1] t (0, 0))) : w.cell? ⟨g, 0, none⟩ = some a0 ∧ w.cell? ⟨g, 1, none⟩ = some a1 := ⟨(z2_ h 0).trans rfl, (z2_ h 1).trans rfl⟩
theorem aM {p : Prop} (h : p) : Aside0 p := ⟨h⟩
class GEc (n g : Nat) : Prop where
  h : n ≤ g
class LS (w0 w w1 : World) : Prop where
  h : Below w0.heap.size w0 w → Below w0.heap.size w0 w1
instance ls_refl (w0 w : World) : LS w0 w w := ⟨id⟩
instance ls_alloc (w0 w w1 : World) (o : Obj) [l : LS w0 w w1] : LS w0 w (w1.alloc o) := ⟨fun h => below_alloc (l.h h) o⟩
instance ls_drew (w0 w w1 : World) [l : LS w0 w w1] : LS w0 w w1.drew := ⟨fun h => below_drew1 (l.h h)⟩
instance ls_drewN (w0 w w1 : World) (n : Nat) [l : LS w0 w w1] : LS w0 w (w1.drewN n) := ⟨fun h => pw_below_drewN (l.h h) n⟩
instance ls_set (w0 w w1 : World) (g j : Nat) (v : Value) [hg : GEc w0.heap.size g] [l : LS w0 w w1] : LS w0 w (w1.setCell ⟨g, j, none⟩ v) := ⟨fun h => below_set (l.h h) hg.h⟩
theorem lS {w0 w w1 : World} [l : LS w0 w w1] (h : Aside0 (Below w0.heap.size w0 w)) : Below w0.heap.size w0 w1 := l.h h.out
class LK (w0 w w1 : World) (g : Nat) : Prop where
  h : KeepBut w0 w g none → KeepBut w0 w1 g none
instance lk_refl (w0 w : World) (g : Nat) : LK w0 w w g := ⟨id⟩
instance lk_alloc (w0 w w1 : World) (g : Nat) (o : Obj) [l : LK w0 w w1 g] : LK w0 w (w1.alloc o) g := ⟨fun h => keep_alloc (l.h h) o⟩
instance lk_drew (w0 w w1 : World) (g : Nat) [l : LK w0 w w1 g] : LK w0 w w1.drew g := ⟨fun h => keep_drew (l.h h)⟩
instance lk_drewN (w0 w w1 : World) (g : Nat) (n : Nat) [l : LK w0 w w1 g] : LK w0 w (w1.drewN n) g := ⟨fun h => keep_drewN (l.h h) n⟩
instance lk_set (w0 w w1 : World) (g j : Nat) (v : Value) [l : LK w0 w w1 g] : LK w0 w (w1.setCell ⟨g, j, none⟩ v) g := ⟨fun h => (l.h h).set_ j v⟩
instance (priority := low) lk_far (w0 w w1 : World) (g b j : Nat) (v : Value) [hg : GEc w0.heap.size b] [l : LK w0 w w1 g] : LK w0 w (w1.setCell ⟨b, j, none⟩ v) g := ⟨fun h => z10_ (l.h h) hg.h v⟩
theorem kS {w0 w w1 : World} {g : Nat} [l : LK w0 w w1 g] (h : Aside0 (KeepBut w0 w g none)) : KeepBut w0 w1 g none := l.h h.out
theorem zc1 {w : World} {g : Nat} {t : TypeId} {a0 : Value} (h : w.heap[g]? = some (.cells #[a0] t (0, 0))) : w.cell? ⟨g, 0, none⟩ = some a0 := (z2_ h 0).trans rfl
theorem zc3 {w : World} {g : Nat} {t : TypeId} {a0 a1 a2 : Value} (h : w.heap[g]? = some (.cells #[a0, a1, a2] t (0, 0))) : w.cell? ⟨g, 0, none⟩ = some a0 ∧ w.cell? ⟨g, 1, none⟩ = some a1 ∧ w.cell? ⟨g, 2, none⟩ = some a2 := ⟨(z2_ h 0).trans rfl, (z2_ h 1).trans rfl, (z2_ h 2).trans rfl⟩
theorem zc5 {w : World} {g : Nat} {t : TypeId} {a0 a1 a2 a3 a4 : Value} (h : w.heap[g]? = some (.cells #[a0, a1, a2, a3, a4] t (0, 0))) : w.cell? ⟨g, 0, none⟩ = some a0 ∧ w.cell? ⟨g, 1, none⟩ = some a1 ∧ w.cell? ⟨g, 2, none⟩ = some a2 ∧ w.cell? ⟨g, 3, none⟩ = some a3 ∧ w.cell? ⟨g, 4, none⟩ = some a4 := ⟨(z2_ h 0).trans rfl, (z2_ h 1).trans rfl, (z2_ h 2).trans rfl, (z2_ h 3).trans rfl, (z2_ h 4).trans rfl⟩
theorem zp15 {w : World} {g : Nat} {t : TypeId} {a0 a1 a2 a3 a4 a5 a6 a7 a8 a9 a10 a11 a12 a13 a14 b0 b1 b2 b3 b4 b5 b6 b7 b8 b9 b10 b11 b12 b13 b14 : Value} (h : w.heap[g]? = some (.cells #[a0, a1, a2, a3, a4, a5, a6, a7, a8, a9, a10, a11, a12, a13, a14] t (0, 0))) : (((((((((((((((w.setCell ⟨g, 0, none⟩ b0).setCell ⟨g, 1, none⟩ b1).setCell ⟨g, 2, none⟩ b2).setCell ⟨g, 3, none⟩ b3).setCell ⟨g, 4, none⟩ b4).setCell ⟨g, 5, none⟩ b5).setCell ⟨g, 6, none⟩ b6).setCell ⟨g, 7, none⟩ b7).setCell ⟨g, 8, none⟩ b8).setCell ⟨g, 9, none⟩ b9).setCell ⟨g, 10, none⟩ b10).setCell ⟨g, 11, none⟩ b11).setCell ⟨g, 12, none⟩ b12).setCell ⟨g, 13, none⟩ b13).setCell ⟨g, 14, none⟩ b14).heap[g]? = some (.cells #[b0, b1, b2, b3, b4, b5, b6, b7, b8, b9, b10, b11, b12, b13, b14] t (0, 0)) := (blk_put (cs := #[b0, b1, b2, b3, b4, b5, b6, b7, b8, b9, b10, b11, b12, b13, a14]) (cs' := #[b0, b1, b2, b3, b4, b5, b6, b7, b8, b9, b10, b11, b12, b13, b14]) (blk_put (cs := #[b0, b1, b2, b3, b4, b5, b6, b7, b8, b9, b10, b11, b12, a13, a14]) (cs' := #[b0, b1, b2, b3, b4, b5, b6, b7, b8, b9, b10, b11, b12, b13, a14]) (blk_put (cs := #[b0, b1, b2, b3, b4, b5, b6, b7, b8, b9, b10, b11, a12, a13, a14]) (cs' := #[b0, b1, b2, b3, b4, b5, b6, b7, b8, b9, b10, b11, b12, a13, a14]) (blk_put (cs := #[b0, b1, b2, b3, b4, b5, b6, b7, b8, b9, b10, a11, a12, a13, a14]) (cs' := #[b0, b1, b2, b3, b4, b5, b6, b7, b8, b9, b10, b11, a12, a13, a14]) (blk_put (cs := #[b0, b1, b2, b3, b4, b5, b6, b7, b8, b9, a10, a11, a12, a13, a14]) (cs' := #[b0, b1, b2, b3, b4, b5, b6, b7, b8, b9, b10, a11, a12, a13, a14]) (blk_put (cs := #[b0, b1, b2, b3, b4, b5, b6, b7, b8, a9, a10, a11, a12, a13, a14]) (cs' := #[b0, b1, b2, b3, b4, b5, b6, b7, b8, b9, a10, a11, a12, a13, a14]) (blk_put (cs := #[b0, b1, b2, b3, b4, b5, b6, b7, a8, a9, a10, a11, a12, a13, a14]) (cs' := #[b0, b1, b2, b3, b4, b5, b6, b7, b8, a9, a10, a11, a12, a13, a14]) (blk_put (cs := #[b0, b1, b2, b3, b4, b5, b6, a7, a8, a9, a10, a11, a12, a13, a14]) (cs' := #[b0, b1, b2, b3, b4, b5, b6, b7, a8, a9, a10, a11, a12, a13, a14]) (blk_put (cs := #[b0, b1, b2, b3, b4, b5, a6, a7, a8, a9, a10, a11, a12, a13, a14]) (cs' := #[b0, b1, b2, b3, b4, b5, b6, a7, a8, a9, a10, a11, a12, a13, a14]) (blk_put (cs := #[b0, b1, b2, b3, b4, a5, a6, a7, a8, a9, a10, a11, a12, a13, a14]) (cs' := #[b0, b1, b2, b3, b4, b5, a6, a7, a8, a9, a10, a11, a12, a13, a14]) (blk_put (cs := #[b0, b1, b2, b3, a4, a5, a6, a7, a8, a9, a10, a11, a12, a13, a14]) (cs' := #[b0, b1, b2, b3, b4, a5, a6, a7, a8, a9, a10, a11, a12, a13, a14]) (blk_put (cs := #[b0, b1, b2, a3, a4, a5, a6, a7, a8, a9, a10, a11, a12, a13, a14]) (cs' := #[b0, b1, b2, b3, a4, a5, a6, a7, a8, a9, a10, a11, a12, a13, a14]) (blk_put (cs := #[b0, b1, a2, a3, a4, a5, a6, a7, a8, a9, a10, a11, a12, a13, a14]) (cs' := #[b0, b1, b2, a3, a4, a5, a6, a7, a8, a9, a10, a11, a12, a13, a14]) (blk_put (cs := #[b0, a1, a2, a3, a4, a5, a6, a7, a8, a9, a10, a11, a12, a13, a14]) (cs' := #[b0, b1, a2, a3, a4, a5, a6, a7, a8, a9, a10, a11, a12, a13, a14]) (blk_put (cs := #[a0, a1, a2, a3, a4, a5, a6, a7, a8, a9, a10, a11, a12, a13, a14]) (cs' := #[b0, a1, a2, a3, a4, a5, a6, a7, a8, a9, a10, a11, a12, a13, a14]) h 0 b0 rfl) 1 b1 rfl) 2 b2 rfl) 3 b3 rfl) 4 b4 rfl) 5 b5 rfl) 6 b6 rfl) 7 b7 rfl) 8 b8 rfl) 9 b9 rfl) 10 b10 rfl) 11 b11 rfl) 12 b12 rfl) 13 b13 rfl) 14 b14 rfl)
theorem zf15 {w : World} {g : Nat} {b0 b1 b2 b3 b4 b5 b6 b7 b8 b9 b10 b11 b12 b13 b14 : Value} {p : Addr} (h : p.block ≠ g) : (((((((((((((((w.setCell ⟨g, 0, none⟩ b0).setCell ⟨g, 1, none⟩ b1).setCell ⟨g, 2, none⟩ b2).setCell ⟨g, 3, none⟩ b3).setCell ⟨g, 4, none⟩ b4).setCell ⟨g, 5, none⟩ b5).setCell ⟨g, 6, none⟩ b6).setCell ⟨g, 7, none⟩ b7).setCell ⟨g, 8, none⟩ b8).setCell ⟨g, 9, none⟩ b9).setCell ⟨g, 10, none⟩ b10).setCell ⟨g, 11, none⟩ b11).setCell ⟨g, 12, none⟩ b12).setCell ⟨g, 13, none⟩ b13).setCell ⟨g, 14, none⟩ b14).cell? p = w.cell? p := by
  repeat (refine (z14_ (p := ⟨g, _, none⟩) h _).trans ?_)
  rfl
section
variable {α : Type} {d : Kd α} {e base : Nat} {w : World} {v : Value} {xs : List α}
theorem zR15 {g : Nat} {b0 b1 b2 b3 b4 b5 b6 b7 b8 b9 b10 b11 b12 b13 b14 : Value} {Q : Nat → Prop} (h : d.R e w base (fun k => Q k ∧ k ≠ g) v xs) : d.R e (((((((((((((((w.setCell ⟨g, 0, none⟩ b0).setCell ⟨g, 1, none⟩ b1).setCell ⟨g, 2, none⟩ b2).setCell ⟨g, 3, none⟩ b3).setCell ⟨g, 4, none⟩ b4).setCell ⟨g, 5, none⟩ b5).setCell ⟨g, 6, none⟩ b6).setCell ⟨g, 7, none⟩ b7).setCell ⟨g, 8, none⟩ b8).setCell ⟨g, 9, none⟩ b9).setCell ⟨g, 10, none⟩ b10).setCell ⟨g, 11, none⟩ b11).setCell ⟨g, 12, none⟩ b12).setCell ⟨g, 13, none⟩ b13).setCell ⟨g, 14, none⟩ b14) base (fun k => Q k ∧ k ≠ g) v xs := (fA (g := g) (i := 14) (y := b14) (fA (g := g) (i := 13) (y := b13) (fA (g := g) (i := 12) (y := b12) (fA (g := g) (i := 11) (y := b11) (fA (g := g) (i := 10) (y := b10) (fA (g := g) (i := 9) (y := b9) (fA (g := g) (i := 8) (y := b8) (fA (g := g) (i := 7) (y := b7) (fA (g := g) (i := 6) (y := b6) (fA (g := g) (i := 5) (y := b5) (fA (g := g) (i := 4) (y := b4) (fA (g := g) (i := 3) (y := b3) (fA (g := g) (i := 2) (y := b2) (fA (g := g) (i := 1) (y := b1) (fA (g := g) (i := 0) (y := b0) h)))))))))))))))
theorem zS15 {g : Nat} {b0 b1 b2 b3 b4 b5 b6 b7 b8 b9 b10 b11 b12 b13 b14 : Value} {Q Z : Nat → Prop} (h : d.R e w base (fun k => (Q k ∧ k ≠ g) ∧ Z k) v xs) : d.R e (((((((((((((((w.setCell ⟨g, 0, none⟩ b0).setCell ⟨g, 1, none⟩ b1).setCell ⟨g, 2, none⟩ b2).setCell ⟨g, 3, none⟩ b3).setCell ⟨g, 4, none⟩ b4).setCell ⟨g, 5, none⟩ b5).setCell ⟨g, 6, none⟩ b6).setCell ⟨g, 7, none⟩ b7).setCell ⟨g, 8, none⟩ b8).setCell ⟨g, 9, none⟩ b9).setCell ⟨g, 10, none⟩ b10).setCell ⟨g, 11, none⟩ b11).setCell ⟨g, 12, none⟩ b12).setCell ⟨g, 13, none⟩ b13).setCell ⟨g, 14, none⟩ b14) base (fun k => (Q k ∧ k ≠ g) ∧ Z k) v xs := (fB (g := g) (i := 14) (y := b14) (fB (g := g) (i := 13) (y := b13) (fB (g := g) (i := 12) (y := b12) (fB (g := g) (i := 11) (y := b11) (fB (g := g) (i := 10) (y := b10) (fB (g := g) (i := 9) (y := b9) (fB (g := g) (i := 8) (y := b8) (fB (g := g) (i := 7) (y := b7) (fB (g := g) (i := 6) (y := b6) (fB (g := g) (i := 5) (y := b5) (fB (g := g) (i := 4) (y := b4) (fB (g := g) (i := 3) (y := b3) (fB (g := g) (i := 2) (y := b2) (fB (g := g) (i := 1) (y := b1) (fB (g := g) (i := 0) (y := b0) h)))))))))))))))
end
end Go.Proofs.YtakmkhokbcjapaaDoor.Lift
end
