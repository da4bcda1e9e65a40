/- Part 16 of the proof of the law CodeDecodes for every input: words, walks and plain laws. No condition. -/
import Derived.Test.YtccbdcbeinkjgaaKCodeDecodes15
set_option linter.unusedVariables false
set_option linter.unusedSimpArgs false
set_option maxHeartbeats 8000000
set_option maxRecDepth 100000
section
namespace Go.Proofs.Ytccbdcbeinkjgaa.XA
open Go.Proofs.Ytccbdcbeinkjgaa.Lift Go.RowKit Go.Proofs.YtccbdcbeinkjgaaW.PrintWords Go.Proofs.YtccbdcbeinkjgaaW.PrintLast Go.Proofs.YtccbdcbeinkjgaaW.PrintMore
attribute [local go_sem] max2_int min2_int max_two min_two max_three min_three max_four min_four
def slices_Clone_byte_byte.f (l0 : List Int) : Option (List Int) := (some (([] : List Int) : List Int)).bind fun y554 => (if y554.length + l0.length < 140737488355328 then (some (y554 ++ l0)) else (none))
theorem slices_Clone_byte_byte.calls (A0 : Option Addr) (c0 : Nat) (l0 : List Int) (r : List Int) (w : World) (hr0 : Kd.C (Kd.int .u8) w A0 l0.length l0) (hc0 : l0.length ≤ c0) (h : slices_Clone_byte_byte.f l0 = some r) :
  Calls Try.prog 16 #[.slice A0 l0.length c0] w fun e w' => ∃ v0_ : Value, e = .returned (v0_) ∧ Kd.R (Kd.int .u8) 5 w' w.heap.size (fun _ => True) v0_ r ∧ Below w.heap.size w w' := by
 rcases A0 with _ | a0
 ·obtain rfl : l0 = [] := by
   rcases l0 with _ | ⟨x_, l_⟩
   ·rfl
   ·obtain ⟨_, e_, _⟩ := hr0.2.2 (by simp)
    cases e_
  obtain rfl : r = [] := by simpa [slices_Clone_byte_byte.f] using h.symm
  have hnil_ := fun W => Lib.run_eql_slice_nil (P := Try.prog) W 31 5 none 0 c0 0 0 Try.underlying31
  go_enter Try.func16, Try.ntmps16
  go_wp2
  go_ret
  exact ⟨_, rfl, Kd.R_nil _ _ _ _ _, Below.refl _ _⟩
 ·skip
  have HR0 := aM hr0
  have HC0 := aM hc0
  clear hr0 hc0
  have HB := aM (Below.refl w.heap.size w)
  have H : ((some (([] : List Int) : List Int)).bind fun y554 => (if y554.length + l0.length < 140737488355328 then (some (y554 ++ l0)) else (none))) = some r := h
  clear h
  obtain ⟨y554, hy554⟩ : ∃ y_ : List Int, y_ = (([] : List Int)) := ⟨_, rfl⟩
  replace H : (if y554.length + l0.length < 140737488355328 then (some (y554 ++ l0)) else (none)) = some r := zH hy554 H
  have Ny554 := aM hy554
  clear hy554
  by_cases c2 : y554.length + l0.length < 140737488355328
  ·rw [if_pos c2] at H
   have LMc2 := aM c2
   clear c2
   obtain ⟨y557, hy557⟩ : ∃ y_ : List Int, y_ = (y554 ++ l0) := ⟨_, rfl⟩
   replace H : (some y557) = some r := zH hy557 H
   have Ny557 := aM hy557
   clear hy557
   obtain rfl := Option.some.inj H
   have hnil_ := fun W => Lib.run_eql_slice_nil (P := Try.prog) W 31 5 (some a0) l0.length c0 0 0 Try.underlying31
   go_enter Try.func16, Try.ntmps16
   go_wp2_with (first | ((with_reducible refine gate_dst (N := 5) rfl ?_); refine Kd.R_lit (Kd.int .u8) _ 5 ?hg (N := 5) ?hd (xs := ([] : List Int)) (inner := []) (ok := fun _ => True) (okp := fun _ => True) ?hr ?hp (fun _ hk => hk) trivial (Below.refl _ _) (Nat.le_refl _) (by simp) ?_; (case hd => rfl); (case hg => rfl); (case hr => first | (go_simp; done) | (go_simp; rfl)); (case hp => exact (Reps.none _ _)); intro v555 w3 ho4 hb hg_ hnew_; clear hg_ hnew_; (first | rw [← Ny554.out] at ho4 | (simp only [Int.reduceToNat] at ho4; rw [← Ny554.out] at ho4)); have qA := aM (Kd.z20_ ho4 (z4_ (lB HB))); replace HB := aM (z6_ (lB HB) hb); clear hb ho4) | ((with_reducible refine gate_builtin (b := .append) (xs := #[.tmp 5, .tmp 6]) rfl ?_); at_builtin; refine Kd.R_append_rows (Kd.int .u8) (w0 := w) w.heap.size rfl (.tmp 5) (.tmp 6) 31 5 (.int .u8 0) 1 rfl Try.underlying31 info5 rfl (by decide) (by omega) v555 y554 l0 _ _ _ (fun _ => True) (fun _ => False) rfl rfl ?aO ?aR (fun _ _ h => h) (fun _ h => h.elim) ?aF ?aB ?aS ?aL ?_; (case aR => repeat (first | exact (Kd.z8_ HR0.out HB.out) | (with_reducible refine Kd.C_alloc ?_ _) | (with_reducible refine Kd.C_drewN ?_ _) | (with_reducible refine Kd.C_drew ?_))); (case aB => exact (lB HB)); (case aF => exact (fun _ _ => trivial)); (case aO => exact (lR qA)); (case aS => exact (z4_ (lB HB))); (case aL => have := LMc2.out; omega); intro v558 w5 ho hb hg hat; rw [← Ny557.out] at ho; replace HB := aM (hb); have qD := aM (ho); clear qA; clear ho hb hg hat))
   go_ret
   exact ⟨_, zE, by apply rX; exact qD.out, zB HB⟩
  ·rw [if_neg c2] at H
   exact absurd H (by simp)
def api_Point_36.f (l0 : List (S48)) : Option ((List (S48))) := (some (([] : List (S48)) : List (S48))).bind fun y560 => (if y560.length + l0.length < 8796093022208 then (some (y560 ++ l0)) else (none))
def sP_Copy.f (qE : Int) (qF : Int) (qB : List (S63)) (qC : List Int) : Option (Int × Int × (List (S63)) × List Int) := if ([] : List (S63)).length + qB.length < 3518437208883 then (if ([] : List Int).length + qC.length < 17592186044416 then (some (qE, qF, (([] : List (S63)) ++ qB), (([] : List Int) ++ qC))) else (none)) else (none)
def sR_two.f (a0 : Int) : Option (List Int) := some (([(wrap64 (Int.tdiv (Int.tmod (wrap64 (a0 + 65536)) 65536) 256)) % 256, (Int.tmod (Int.tmod (wrap64 (a0 + 65536)) 65536) 256) % 256] : List Int))
theorem sR_two.calls (a0 : Int) (r : List Int) (w : World) (h : sR_two.f a0 = some r) :
  Calls Try.prog 43 #[.int .i64 a0] w fun e w' => ∃ v0_ : Value, e = .returned (v0_) ∧ Kd.R (Kd.int .u8) 5 w' w.heap.size (fun _ => True) v0_ r ∧ Below w.heap.size w w' := by
 have HB := aM (Below.refl w.heap.size w)
 have H : (some (([(wrap64 (Int.tdiv (Int.tmod (wrap64 (a0 + 65536)) 65536) 256)) % 256, (Int.tmod (Int.tmod (wrap64 (a0 + 65536)) 65536) 256) % 256] : List Int))) = some r := h
 clear h
 obtain ⟨y842, hy842⟩ : ∃ y_ : List Int, y_ = (([(wrap64 (Int.tdiv (Int.tmod (wrap64 (a0 + 65536)) 65536) 256)) % 256, (Int.tmod (Int.tmod (wrap64 (a0 + 65536)) 65536) 256) % 256] : List Int)) := ⟨_, rfl⟩
 replace H : (some y842) = some r := zH hy842 H
 have Ny842 := aM hy842
 clear hy842
 obtain rfl := Option.some.inj H
 go_enter Try.func43, Try.ntmps43
 go_wp2_with (first | ((with_reducible refine gate_dst (N := 12) rfl ?_); refine Kd.R_lit (Kd.int .u8) _ 5 ?hg (N := 12) ?hd (xs := ([(wrap64 (Int.tdiv (Int.tmod (wrap64 (a0 + 65536)) 65536) 256)) % 256, (Int.tmod (Int.tmod (wrap64 (a0 + 65536)) 65536) 256) % 256] : List Int)) (inner := [.int .u8 ((wrap64 (Int.tdiv (Int.tmod (wrap64 (a0 + 65536)) 65536) 256)) % 256), .int .u8 ((Int.tmod (Int.tmod (wrap64 (a0 + 65536)) 65536) 256) % 256)]) (ok := fun _ => True) (okp := fun _ => True) ?hr ?hp (fun _ hk => hk) trivial (Below.refl _ _) (Nat.le_refl _) (by simp) ?_; (case hd => rfl); (case hg => rfl); (case hr => first | (go_simp; done) | (go_simp; rfl)); (case hp => exact (Reps.one (show Kd.M (Kd.int .u8) _ _ _ ((wrap64 (Int.tdiv (Int.tmod (wrap64 (a0 + 65536)) 65536) 256)) % 256) [.int .u8 ((wrap64 (Int.tdiv (Int.tmod (wrap64 (a0 + 65536)) 65536) 256)) % 256)] from rfl) (Reps.one (show Kd.M (Kd.int .u8) _ _ _ ((Int.tmod (Int.tmod (wrap64 (a0 + 65536)) 65536) 256) % 256) [.int .u8 ((Int.tmod (Int.tmod (wrap64 (a0 + 65536)) 65536) 256) % 256)] from rfl) (Reps.none _ _)))); intro v843 w2 ho3 hb hg_ hnew_; clear hg_ hnew_; (first | rw [← Ny842.out] at ho3 | (simp only [Int.reduceToNat] at ho3; rw [← Ny842.out] at ho3)); have qA := aM (Kd.z20_ ho3 (z4_ (lB HB))); replace HB := aM (z6_ (lB HB) hb); clear hb ho3))
 go_ret
 exact ⟨_, zE, by apply rX; exact qA.out, zB HB⟩
def sR_check.l0 : Nat → List Int → Int → Int → Option (Int)
 | 0, _, _, _ => none
 | k + 1, x0, x3, x4 => if x4 < (x0.length : Int) then (if 0 ≤ x4 then (sR_check.l0 k x0 (Int.tmod (wrap64 (x3 + (wrap64 ((wrap64 (x4 + 1)) * (wrap64 (rd x0 x4)))))) 65521) (wrap64 (x4 + 1))) else (none)) else (some x3)
def sR_check.f (k : Nat) (l0 : List Int) : Option (Int) := sR_check.l0 k l0 0 0
theorem sR_check.mono_l : ∀ k, (∀ y0 y1 y2, LeO (sR_check.l0 k y0 y1 y2) (sR_check.l0 (k + 1) y0 y1 y2))
 | 0 => fun _ _ _ r h => by simp [sR_check.l0] at h
 | k + 1 => by
  have ih0 := sR_check.mono_l k
  ·intro y0 y1 y2
   unfold sR_check.l0
   exact zM
theorem sR_check.mono : ∀ a0 k, LeO (sR_check.f k a0) (sR_check.f (k + 1) a0) := by
 intro a0 k
 have ih0 := sR_check.mono_l k
 unfold sR_check.f
 exact zM
theorem sR_check.calls (k : Nat) (A0 : Option Addr) (c0 : Nat) (l0 : List Int) (r : Int) (w : World) (hr0 : Kd.C (Kd.int .u8) w A0 l0.length l0) (hc0 : l0.length ≤ c0) (h : sR_check.f k l0 = some r) :
  Calls Try.prog 44 #[.slice A0 l0.length c0] w fun e w' => e = .returned (.int .i64 r) ∧ Drawn0 w w' := by
 have HR0 := aM hr0
 have HC0 := aM hc0
 clear hr0 hc0
 have H : (sR_check.l0 k l0 0 0) = some r := h
 clear h
 have H' := aM H
 clear H
 go_enter Try.func44, Try.ntmps44
 go_wp2
 go_loopg [3, 4] k (fun kq v3 v4 w' => ∃ (qB : Int) (qA : Int), v3 = .int .i64 qB ∧ v4 = .int .i64 qA ∧ Aside0 (sR_check.l0 kq l0 qB qA = some r) ∧ Aside0 (kq ≤ k) ∧ Drawn0 w w')
 case atStart => exact ⟨(0), (0), zT, zT, H', ⟨Nat.le_refl _⟩, by repeat (first | exact Drawn0.refl _ | apply Drawn0.step)⟩
 case round =>
  clear H'
  obtain ⟨qB, qA, rfl, rfl, HA, HK1, ⟨m1, rfl⟩⟩ := hrel
  cases gk with
  | zero => exact absurd HA.out (by simp [sR_check.l0])
  | succ k1 =>
   have H := HA.out
   clear HA
   simp only [sR_check.l0] at H
   by_cases c2 : qA < (l0.length : Int)
   ·rw [if_pos c2] at H
    have c2b0 := decide_eq_true c2
    clear c2
    by_cases c3 : 0 ≤ qA
    ·rw [if_pos c3] at H
     have c3b0 := decide_eq_true c3
     clear c3
     have H' := aM H
     clear H
     have p876 : 0 ≤ (qA : Int) := of_decide_eq_true za
     have q876 : qA < (l0.length : Int) := of_decide_eq_true za
     obtain ⟨ad876, e876, hx876_0⟩ := Kd.at_int HR0.out qA p876 q876
     cases e876
     replace p876 := eq_true p876
     replace q876 := eq_true q876
     go_wp2
     go_roundg k1
     case measure => have := HK1.out; omega
     case rel => exact ⟨(Int.tmod (wrap64 (qB + (wrap64 ((wrap64 (qA + 1)) * (wrap64 (rd l0 qA)))))) 65521), (wrap64 (qA + 1)), zT, zT, H', ⟨by have := HK1.out; omega⟩, by repeat (first | exact Drawn0.refl _ | apply Drawn0.step)⟩
    ·rw [if_neg c3] at H
     exact absurd H (by simp)
   ·rw [if_neg c2] at H
    have c2b0 := decide_eq_false c2
    clear c2
    obtain rfl := Option.some.inj H
    go_wp2
    go_ret
    exact ⟨zT, by repeat (first | exact Drawn0.refl _ | apply Drawn0.step)⟩
def I8 (w0 W : World) (g : Nat) (f0 : List Int) (f1 : Int) (f2 : Int) : Prop := ∃ A0 c0, W.heap[g]? = some (.cells #[.slice A0 f0.length c0, .int .i64 f1, .int .i64 f2] 84 (0, 0)) ∧ w0.heap.size ≤ g ∧ Kd.C (Kd.int .u8) w0 A0 f0.length f0
theorem I8.grown {w0 W : World} {g : Nat} {f0 : List Int} {f1 : Int} {f2 : Int} {W1 : World} {row : Option Nat} (h : I8 w0 W g f0 f1 f2) (hw : W.grownBy W1 row) (hne : some g ≠ row) : I8 w0 W1 g f0 f1 f2 := by
 obtain ⟨A0, c0, hb, hg, hr0⟩ := h
 exact ⟨A0, c0, blk_grown hb hw hne, hg, hr0⟩
theorem I8.kept {w0 W : World} {g : Nat} {f0 : List Int} {f1 : Int} {f2 : Int} {W1 : World} {S : Nat → Prop} (h : I8 w0 W g f0 f1 f2) (hk : Kept W W1 S) (hne : ¬ S g) : I8 w0 W1 g f0 f1 f2 := by
 obtain ⟨A0, c0, hb, hg, hr0⟩ := h
 exact ⟨A0, c0, blk_kept hb hk hne, hg, hr0⟩
theorem I8.below {w0 W : World} {g : Nat} {f0 : List Int} {f1 : Int} {f2 : Int} {W1 : World} (h : I8 w0 W g f0 f1 f2) (hw : Below W.heap.size W W1) : I8 w0 W1 g f0 f1 f2 := h.grown (grown_of_below hw none) (by simp)
theorem I8.alloc {w0 W : World} {g : Nat} {f0 : List Int} {f1 : Int} {f2 : Int} (h : I8 w0 W g f0 f1 f2) (o : Obj) : I8 w0 (W.alloc o) g f0 f1 f2 := h.below (below_alloc (Below.refl _ _) o)
theorem I8.drewN {w0 W : World} {g : Nat} {f0 : List Int} {f1 : Int} {f2 : Int} (h : I8 w0 W g f0 f1 f2) (m : Nat) : I8 w0 (W.drewN m) g f0 f1 f2 := h
theorem I8.drew {w0 W : World} {g : Nat} {f0 : List Int} {f1 : Int} {f2 : Int} (h : I8 w0 W g f0 f1 f2) : I8 w0 W.drew g f0 f1 f2 := h
theorem I8.apart {w0 W : World} {g : Nat} {f0 : List Int} {f1 : Int} {f2 : Int} {α : Type} {d : Kd α} {e : Nat} {base : Nat} {ok : Nat → Prop} {v : Value} {xs : List α} (h : I8 w0 W g f0 f1 f2) (ho : d.R e W base ok v xs) (ht : ∀ q, q ∈ e :: d.E → q ≠ 84) : d.R e W base (fun k => ok k ∧ k ≠ g) v xs := by
 obtain ⟨A0, c0, hb, hg, hr0⟩ := h
 exact Kd.z3_ ho hb ht
theorem I8.own_ne {w0 W : World} {g : Nat} {f0 : List Int} {f1 : Int} {f2 : Int} {α : Type} {d : Kd α} {e : Nat} {base : Nat} {ok : Nat → Prop} {v : Value} {xs : List α} (h : I8 w0 W g f0 f1 f2) (ho : d.R e W base ok v xs) (ht : e ≠ 84) : some g ≠ v.ownBlock := by
 obtain ⟨A0, c0, hb, hg, hr0⟩ := h
 exact Kd.R_ne ho hb ht
theorem I8.lt {w0 W : World} {g : Nat} {f0 : List Int} {f1 : Int} {f2 : Int} (h : I8 w0 W g f0 f1 f2) : g < W.heap.size := by
 obtain ⟨A0, c0, hb, hg, hr0⟩ := h
 exact z19_ hb
theorem I8.ge {w0 W : World} {g : Nat} {f0 : List Int} {f1 : Int} {f2 : Int} (h : I8 w0 W g f0 f1 f2) : w0.heap.size ≤ g := by
 obtain ⟨A0, c0, hb, hg, hr0⟩ := h
 exact hg
theorem I8.ne_blk {w0 W : World} {g : Nat} {f0 : List Int} {f1 : Int} {f2 : Int} {a : Nat} {cs : Array Value} {t : TypeId} {fr : Nat × Nat} (h : I8 w0 W g f0 f1 f2) (hb2 : W.heap[a]? = some (.cells cs t fr)) (ht : t ≠ 84) : g ≠ a := by
 obtain ⟨A0, c0, hb, hg, hr0⟩ := h
 rintro rfl
 rw [hb] at hb2
 injection hb2 with hb2
 injection hb2 with _ ht2
 exact ht ht2.symm
theorem I8.far {w0 W : World} {g : Nat} {f0 : List Int} {f1 : Int} {f2 : Int} {p : Addr} (h : I8 w0 W g f0 f1 f2) (hne : g ≠ p.block) (u : Value) : I8 w0 (W.setCell p u) g f0 f1 f2 := by
 obtain ⟨A0, c0, hb, hg, hr0⟩ := h
 exact ⟨A0, c0, z18_ hb hne u, hg, hr0⟩
theorem cellS84_0 {W : World} {g : Nat} {A0 : Option Addr} {c0 : Nat} {f0 : List Int} {f1 : Int} {f2 : Int} (h : W.heap[g]? = some (.cells #[.slice A0 f0.length c0, .int .i64 f1, .int .i64 f2] 84 (0, 0))) : W.cell? ⟨g, 0, none⟩ = some (.slice A0 f0.length c0) := (z2_ h 0).trans rfl
theorem cellS84_1 {W : World} {g : Nat} {A0 : Option Addr} {c0 : Nat} {f0 : List Int} {f1 : Int} {f2 : Int} (h : W.heap[g]? = some (.cells #[.slice A0 f0.length c0, .int .i64 f1, .int .i64 f2] 84 (0, 0))) : W.cell? ⟨g, 1, none⟩ = some (.int .i64 f1) := (z2_ h 1).trans rfl
theorem I8.set_1 {w0 W : World} {g : Nat} {f0 : List Int} {f1 : Int} {f2 : Int} (h : I8 w0 W g f0 f1 f2) (x : Int) : I8 w0 (W.setCell ⟨g, 1, none⟩ (.int .i64 x)) g f0 x f2 := by
 obtain ⟨A0, c0, hb, hg, hr0⟩ := h
 exact ⟨A0, c0, by simpa using blk_set hb 1 (.int .i64 x), hg, hr0⟩
theorem cellS84_2 {W : World} {g : Nat} {A0 : Option Addr} {c0 : Nat} {f0 : List Int} {f1 : Int} {f2 : Int} (h : W.heap[g]? = some (.cells #[.slice A0 f0.length c0, .int .i64 f1, .int .i64 f2] 84 (0, 0))) : W.cell? ⟨g, 2, none⟩ = some (.int .i64 f2) := (z2_ h 2).trans rfl
theorem I8.set_2 {w0 W : World} {g : Nat} {f0 : List Int} {f1 : Int} {f2 : Int} (h : I8 w0 W g f0 f1 f2) (x : Int) : I8 w0 (W.setCell ⟨g, 2, none⟩ (.int .i64 x)) g f0 f1 x := by
 obtain ⟨A0, c0, hb, hg, hr0⟩ := h
 exact ⟨A0, c0, by simpa using blk_set hb 2 (.int .i64 x), hg, hr0⟩
theorem I8.new (w0 W : World) (A0 : Option Addr) (c0 : Nat) (f0 : List Int) (f1 : Int) (f2 : Int) (hB : Below w0.heap.size w0 W) (hr0 : Kd.C (Kd.int .u8) w0 A0 f0.length f0) : I8 w0 (W.alloc (.cells #[.slice A0 f0.length c0, .int .i64 f1, .int .i64 f2] 84)) W.heap.size f0 f1 f2 := ⟨A0, c0, by simpa using heap_alloc_new W _, hB.size, hr0⟩
theorem zSv {P Q : Prop} (h : Aside0 Q) (p : Q → P := by intro h_; repeat (first | (with_reducible first | exact h_ | apply I8.alloc | apply I8.drewN | apply I8.drew | apply I8.set_1 | apply I8.set_2 | refine I8.far ?_ (Aside0.out (by assumption)) _) | exact h_)) : P := p h.out
theorem zBv {w0 w w1 : World} (h : Aside0 (Below w0.heap.size w0 w)) (p : Below w0.heap.size w0 w → Below w0.heap.size w0 w1 := by intro h_; repeat (first | (with_reducible first | exact h_ | apply below_alloc | apply pw_below_drewN | apply below_drew1 | refine below_set ?_ (Aside0.out (by assumption))) | (with_reducible refine below_set ?_ (I8.ge (Aside0.out (by assumption)))) | exact h_)) : Below w0.heap.size w0 w1 := p h.out
def sR_reader_next.f (s0_0 : List Int) (s0_1 : Int) (s0_2 : Int) (a1 : Int) (a2 : Int) : Option (Int × Int × Int) := if s0_2 ≥ 0 then (some (0, s0_1, s0_2)) else (if s0_1 ≥ (s0_0.length : Int) then (some (0, s0_1, s0_1)) else (if 0 ≤ s0_1 then (if s0_1 < (s0_0.length : Int) then (if (wrap64 (rd s0_0 s0_1)) < a1 then (some (0, s0_1, s0_1)) else (if (wrap64 (rd s0_0 s0_1)) > a2 then (some (0, s0_1, s0_1)) else (if 0 ≤ (wrap64 ((wrap64 (s0_1 + 1)) - 1)) then (if (wrap64 ((wrap64 (s0_1 + 1)) - 1)) < (s0_0.length : Int) then (some (wrap64 (rd s0_0 (wrap64 ((wrap64 (s0_1 + 1)) - 1))), wrap64 (s0_1 + 1), s0_2)) else (none)) else (none)))) else (none)) else (none)))
theorem sR_reader_next.calls (g : Nat) (s0_0 : List Int) (s0_1 : Int) (s0_2 : Int) (a1 : Int) (a2 : Int) (r1 : Int) (r2 : Int) (r3 : Int) (w0 w : World) (hI : I8 w0 w g s0_0 s0_1 s0_2) (hB : Below w0.heap.size w0 w) (h : sR_reader_next.f s0_0 s0_1 s0_2 a1 a2 = some (r1, r2, r3)) :
  Calls Try.prog 45 #[.pointer (some ⟨g, 0, none⟩), .int .i64 a1, .int .i64 a2] w fun e w' => e = .returned (.int .i64 r1) ∧ I8 w0 w' g s0_0 r2 r3 ∧ Below w0.heap.size w0 w' ∧ KeepBut w w' g none := by
 have HI0 := aM hI
 have HK := aM (KeepBut.refl w g none)
 have HL := aM hB.size
 clear hI
 have HW0 := aM hB.size
 have HB := aM hB
 clear hB
 have H : (if s0_2 ≥ 0 then (some (0, s0_1, s0_2)) else (if s0_1 ≥ (s0_0.length : Int) then (some (0, s0_1, s0_1)) else (if 0 ≤ s0_1 then (if s0_1 < (s0_0.length : Int) then (if (wrap64 (rd s0_0 s0_1)) < a1 then (some (0, s0_1, s0_1)) else (if (wrap64 (rd s0_0 s0_1)) > a2 then (some (0, s0_1, s0_1)) else (if 0 ≤ (wrap64 ((wrap64 (s0_1 + 1)) - 1)) then (if (wrap64 ((wrap64 (s0_1 + 1)) - 1)) < (s0_0.length : Int) then (some (wrap64 (rd s0_0 (wrap64 ((wrap64 (s0_1 + 1)) - 1))), wrap64 (s0_1 + 1), s0_2)) else (none)) else (none)))) else (none)) else (none)))) = some (r1, r2, r3) := h
 clear h
 by_cases c4 : s0_2 ≥ 0
 ·rw [if_pos c4] at H
  have c4b0 := decide_eq_true c4
  clear c4
  simp only [Option.some.injEq, Prod.mk.injEq] at H
  obtain ⟨rfl, rfl, rfl⟩ := H
  obtain ⟨ASz5_0, cSz5_0, HGz5, hgz5, HSz5_0⟩ := HI0.out
  have qP := cellS84_0 HGz5
  have qQ := cellS84_1 HGz5
  have qR := cellS84_2 HGz5
  have qS := z1_ HGz5 1
  have qT := z1_ HGz5 2
  clear HGz5 hgz5
  go_enter Try.func45, Try.ntmps45
  go_wp2
  repeat (go_quiet (fail); try go_wp2)
  go_ret
  exact ⟨zE, zSv HI0, zBv HB, zK HK⟩
 ·rw [if_neg c4] at H
  have c4b0 := decide_eq_false c4
  clear c4
  by_cases c6 : s0_1 ≥ (s0_0.length : Int)
  ·rw [if_pos c6] at H
   have c6b0 := decide_eq_true c6
   clear c6
   simp only [Option.some.injEq, Prod.mk.injEq] at H
   obtain ⟨rfl, rfl, rfl⟩ := H
   obtain ⟨ASz7_0, cSz7_0, HGz7, hgz7, HSz7_0⟩ := HI0.out
   have qU := cellS84_0 HGz7
   have qV := cellS84_1 HGz7
   have qW := cellS84_2 HGz7
   have qX := z1_ HGz7 1
   have qY := z1_ HGz7 2
   clear HGz7 hgz7
   go_enter Try.func45, Try.ntmps45
   go_wp2
   repeat (go_quiet (fail); try go_wp2)
   go_ret
   exact ⟨zE, zSv HI0, zBv HB, zK HK⟩
  ·rw [if_neg c6] at H
   have c6b0 := decide_eq_false c6
   clear c6
   by_cases c8 : 0 ≤ s0_1
   ·rw [if_pos c8] at H
    have c8b0 := decide_eq_true c8
    clear c8
    by_cases c9 : s0_1 < (s0_0.length : Int)
    ·rw [if_pos c9] at H
     have c9b0 := decide_eq_true c9
     clear c9
     by_cases c10 : (wrap64 (rd s0_0 s0_1)) < a1
     ·rw [if_pos c10] at H
      have c10b0 := decide_eq_true c10
      clear c10
      simp only [Option.some.injEq, Prod.mk.injEq] at H
      obtain ⟨rfl, rfl, rfl⟩ := H
      obtain ⟨ASz11_0, cSz11_0, HGz11, hgz11, HSz11_0⟩ := HI0.out
      have qA := cellS84_0 HGz11
      have qB := cellS84_1 HGz11
      have qC := cellS84_2 HGz11
      have qD := z1_ HGz11 1
      have qE := z1_ HGz11 2
      clear HGz11 hgz11
      have p958 : 0 ≤ (s0_1 : Int) := of_decide_eq_true za
      have q958 : s0_1 < (s0_0.length : Int) := of_decide_eq_true za
      obtain ⟨ad958, e958, hx958_0⟩ := Kd.at_int HSz11_0 s0_1 p958 q958
      cases e958
      replace hx958_0 := pw_cell_below HB.out hx958_0
      replace p958 := eq_true p958
      replace q958 := eq_true q958
      go_enter Try.func45, Try.ntmps45
      go_wp2
      repeat (go_quiet (fail); try go_wp2)
      go_ret
      exact ⟨zE, zSv HI0, zBv HB, zK HK⟩
     ·rw [if_neg c10] at H
      have c10b0 := decide_eq_false c10
      clear c10
      by_cases c12 : (wrap64 (rd s0_0 s0_1)) > a2
      ·rw [if_pos c12] at H
       have c12b0 := decide_eq_true c12
       clear c12
       simp only [Option.some.injEq, Prod.mk.injEq] at H
       obtain ⟨rfl, rfl, rfl⟩ := H
       obtain ⟨ASz13_0, cSz13_0, HGz13, hgz13, HSz13_0⟩ := HI0.out
       have qF := cellS84_0 HGz13
       have qG := cellS84_1 HGz13
       have qH := cellS84_2 HGz13
       have qI := z1_ HGz13 1
       have qJ := z1_ HGz13 2
       clear HGz13 hgz13
       have p958 : 0 ≤ (s0_1 : Int) := of_decide_eq_true za
       have q958 : s0_1 < (s0_0.length : Int) := of_decide_eq_true za
       obtain ⟨ad958, e958, hx958_0⟩ := Kd.at_int HSz13_0 s0_1 p958 q958
       cases e958
       replace hx958_0 := pw_cell_below HB.out hx958_0
       replace p958 := eq_true p958
       replace q958 := eq_true q958
       have p959 : 0 ≤ (s0_1 : Int) := of_decide_eq_true za
       have q959 : s0_1 < (s0_0.length : Int) := of_decide_eq_true za
       obtain ⟨ad959, e959, hx959_0⟩ := Kd.at_int HSz13_0 s0_1 p959 q959
       obtain rfl : ad958 = ad959 := (by injection e959)
       replace hx959_0 := pw_cell_below HB.out hx959_0
       replace p959 := eq_true p959
       replace q959 := eq_true q959
       go_enter Try.func45, Try.ntmps45
       go_wp2
       repeat (go_quiet (fail); try go_wp2)
       go_ret
       exact ⟨zE, zSv HI0, zBv HB, zK HK⟩
      ·rw [if_neg c12] at H
       have c12b0 := decide_eq_false c12
       clear c12
       obtain ⟨ji14, hji14⟩ : ∃ j_ : Int, (wrap64 ((wrap64 (s0_1 + 1)) - 1)) = j_ := ⟨_, rfl⟩
       replace H : (if 0 ≤ (ji14) then (if (ji14) < (s0_0.length : Int) then (some (wrap64 (rd s0_0 (ji14)), wrap64 (s0_1 + 1), s0_2)) else (none)) else (none)) = some (r1, r2, r3) := by first | (rw [hji14] at H; exact H) | (simp only [hji14] at H ⊢; exact H)
       have hji14w : (IntKind.i64.wrap ((wrap64 (s0_1 + 1)) - 1)) = ji14 := (i64_w _).trans hji14
       by_cases c15 : 0 ≤ (ji14)
       ·rw [if_pos c15] at H
        have c15b0 := decide_eq_true c15
        clear c15
        by_cases c16 : (ji14) < (s0_0.length : Int)
        ·rw [if_pos c16] at H
         have c16b0 := decide_eq_true c16
         clear c16
         simp only [Option.some.injEq, Prod.mk.injEq] at H
         obtain ⟨rfl, rfl, rfl⟩ := H
         obtain ⟨ASz17_0, cSz17_0, HGz17, hgz17, HSz17_0⟩ := HI0.out
         have qK := cellS84_0 HGz17
         have qL := cellS84_1 HGz17
         have qM := cellS84_2 HGz17
         have qN := z1_ HGz17 1
         have qO := z1_ HGz17 2
         clear HGz17 hgz17
         have p958 : 0 ≤ (s0_1 : Int) := of_decide_eq_true za
         have q958 : s0_1 < (s0_0.length : Int) := of_decide_eq_true za
         obtain ⟨ad958, e958, hx958_0⟩ := Kd.at_int HSz17_0 s0_1 p958 q958
         cases e958
         replace hx958_0 := pw_cell_below HB.out hx958_0
         replace p958 := eq_true p958
         replace q958 := eq_true q958
         have p959 : 0 ≤ (s0_1 : Int) := of_decide_eq_true za
         have q959 : s0_1 < (s0_0.length : Int) := of_decide_eq_true za
         obtain ⟨ad959, e959, hx959_0⟩ := Kd.at_int HSz17_0 s0_1 p959 q959
         obtain rfl : ad958 = ad959 := (by injection e959)
         replace hx959_0 := pw_cell_below HB.out hx959_0
         replace p959 := eq_true p959
         replace q959 := eq_true q959
         have p960 : 0 ≤ ((ji14) : Int) := of_decide_eq_true za
         have q960 : (ji14) < (s0_0.length : Int) := of_decide_eq_true za
         obtain ⟨ad960, e960, hx960_0⟩ := Kd.at_int HSz17_0 (ji14) p960 q960
         obtain rfl : ad958 = ad960 := (by injection e960)
         have hn960_0 : ad958.block ≠ g := Nat.ne_of_lt (Nat.lt_of_lt_of_le (by have := World.block_lt_of_cell? _ _ hx960_0; first | rwa [add_block] at this | exact this) (I8.ge HI0.out))
         replace hx960_0 := pw_cell_below HB.out hx960_0
         replace hx960_0 := (z14_ (p := ⟨g, 1, none⟩) (by first | (rw [add_block]; exact hn960_0) | (show (Addr.add _ _).block ≠ _; rw [add_block]; exact hn960_0) | exact hn960_0) (.int .i64 (wrap64 (s0_1 + 1)))).trans hx960_0
         (try have hy960_0 := fun (n_ : Nat) => (show (((w.drewN n_).setCell ⟨g, 1, none⟩ (.int .i64 (wrap64 (s0_1 + 1))))).cell? _ = some _ from hx960_0))
         clear hn960_0
         replace p960 := eq_true p960
         replace q960 := eq_true q960
         go_enter Try.func45, Try.ntmps45
         go_wp2
         repeat (go_quiet (fail); try go_wp2)
         go_ret
         exact ⟨by first | rfl | (simp [errW_none, errW_some] <;> rfl) | (simp only [← hji14]; first | rfl | (simp [errW_none, errW_some] <;> rfl)) | (simp [*, errW_none, errW_some] <;> rfl), zSv HI0, zBv HB, zK HK⟩
        ·rw [if_neg c16] at H
         exact absurd H (by simp)
       ·rw [if_neg c15] at H
        exact absurd H (by simp)
    ·rw [if_neg c9] at H
     exact absurd H (by simp)
   ·rw [if_neg c8] at H
    exact absurd H (by simp)
def sR_reader_coordinate.j0 : Nat → Bool → List Int → Int → Int → Option (Int × Int × Int)
 | 0, _, _, _, _ => none
 | k + 1, x32, qH, qI, qJ => if x32 = true then ((sR_reader_next.f qH qI qJ 240 255).bind fun bt962 => (some (wrap64 (bt962.1 - 256), bt962.2.1, bt962.2.2))) else ((sR_reader_next.f qH qI qJ 0 16).bind fun bt965 => (some (bt965.1, bt965.2.1, bt965.2.2)))
def sR_reader_coordinate.f (k : Nat) (s0_0 : List Int) (s0_1 : Int) (s0_2 : Int) : Option (Int × Int × Int) := if s0_2 < 0 then (if s0_1 < (s0_0.length : Int) then (if 0 ≤ s0_1 then (sR_reader_coordinate.j0 k (decide ((rd s0_0 s0_1) ≥ 128)) s0_0 s0_1 s0_2) else (none)) else (sR_reader_coordinate.j0 k false s0_0 s0_1 s0_2)) else (sR_reader_coordinate.j0 k false s0_0 s0_1 s0_2)
theorem sR_reader_coordinate.mono_l : ∀ k, (∀ y0 y1 y2 y3, LeO (sR_reader_coordinate.j0 k y0 y1 y2 y3) (sR_reader_coordinate.j0 (k + 1) y0 y1 y2 y3))
 | 0 => fun _ _ _ _ r h => by simp [sR_reader_coordinate.j0] at h
 | k + 1 => by
  have ih0 := sR_reader_coordinate.mono_l k
  ·intro y0 y1 y2 y3
   unfold sR_reader_coordinate.j0
   exact zM
theorem sR_reader_coordinate.mono : ∀ a0 a1 a2 k, LeO (sR_reader_coordinate.f k a0 a1 a2) (sR_reader_coordinate.f (k + 1) a0 a1 a2) := by
 intro a0 a1 a2 k
 have ih0 := sR_reader_coordinate.mono_l k
 unfold sR_reader_coordinate.f
 exact zM
theorem sR_reader_coordinate.calls (k : Nat) (g : Nat) (s0_0 : List Int) (s0_1 : Int) (s0_2 : Int) (r1 : Int) (r2 : Int) (r3 : Int) (w0 w : World) (hI : I8 w0 w g s0_0 s0_1 s0_2) (hB : Below w0.heap.size w0 w) (h : sR_reader_coordinate.f k s0_0 s0_1 s0_2 = some (r1, r2, r3)) :
  Calls Try.prog 46 #[.pointer (some ⟨g, 0, none⟩)] w fun e w' => e = .returned (.int .i64 r1) ∧ I8 w0 w' g s0_0 r2 r3 ∧ Below w0.heap.size w0 w' ∧ KeepBut w w' g none := by
 have HI0 := aM hI
 have HK := aM (KeepBut.refl w g none)
 have HL := aM hB.size
 clear hI
 have HW0 := aM hB.size
 have HB := aM hB
 clear hB
 have H : (if s0_2 < 0 then (if s0_1 < (s0_0.length : Int) then (if 0 ≤ s0_1 then (sR_reader_coordinate.j0 k (decide ((rd s0_0 s0_1) ≥ 128)) s0_0 s0_1 s0_2) else (none)) else (sR_reader_coordinate.j0 k false s0_0 s0_1 s0_2)) else (sR_reader_coordinate.j0 k false s0_0 s0_1 s0_2)) = some (r1, r2, r3) := h
 clear h
 have HC2 := aM H
 clear H
 go_enter Try.func46, Try.ntmps46
 go_upto_region 1 with (fail)
 repeat (go_quiet (fail); go_upto_region 1 with (fail))
 go_cut [32] (fun v32 wc => ∃ (kq : Nat) (qA : Bool), v32 = .bool qA ∧ Aside0 (sR_reader_coordinate.j0 kq qA s0_0 s0_1 s0_2 = some (r1, r2, r3)) ∧ Aside0 (kq ≤ k) ∧ Aside0 (I8 w0 wc g s0_0 s0_1 s0_2) ∧ Aside0 (KeepBut w wc g none) ∧ Aside0 (Below w0.heap.size w0 wc))
 case first =>
  have H := HC2.out
  clear HC2
  by_cases c3 : s0_2 < 0
  ·rw [if_pos c3] at H
   have c3b0 := decide_eq_true c3
   clear c3
   (first | rw [c3b0] | (simp only [i64_w, i32_w]; rw [c3b0]) | skip)
   by_cases c4 : s0_1 < (s0_0.length : Int)
   ·rw [if_pos c4] at H
    have c4b0 := decide_eq_true c4
    clear c4
    by_cases c5 : 0 ≤ s0_1
    ·rw [if_pos c5] at H
     have c5b0 := decide_eq_true c5
     clear c5
     have H' := aM H
     clear H
     obtain ⟨ASz6_0, cSz6_0, HGz6, hgz6, HSz6_0⟩ := HI0.out
     have qK := cellS84_0 HGz6
     have qL := cellS84_1 HGz6
     have qM := cellS84_2 HGz6
     have qN := z1_ HGz6 1
     have qO := z1_ HGz6 2
     clear HGz6 hgz6
     have p961 : 0 ≤ (s0_1 : Int) := of_decide_eq_true za
     have q961 : s0_1 < (s0_0.length : Int) := of_decide_eq_true za
     obtain ⟨ad961, e961, hx961_0⟩ := Kd.at_int HSz6_0 s0_1 p961 q961
     cases e961
     replace hx961_0 := pw_cell_below HB.out hx961_0
     replace p961 := eq_true p961
     replace q961 := eq_true q961
     go_wp2
     repeat (go_quiet (fail); try go_wp2)
     go_meet
     case rel => exact ⟨_, (decide ((rd s0_0 s0_1) ≥ 128)), (by first | rfl | (simp; done) | (simp [*]; done) | (simp; omega)), H', ⟨zO⟩, ⟨zSv HI0⟩, ⟨zK HK⟩, ⟨zBv HB⟩⟩
    ·rw [if_neg c5] at H
     exact absurd H (by simp)
   ·rw [if_neg c4] at H
    have c4b0 := decide_eq_false c4
    clear c4
    have H' := aM H
    clear H
    obtain ⟨ASz7_0, cSz7_0, HGz7, hgz7, HSz7_0⟩ := HI0.out
    have qP := cellS84_0 HGz7
    have qQ := cellS84_1 HGz7
    have qR := cellS84_2 HGz7
    have qS := z1_ HGz7 1
    have qT := z1_ HGz7 2
    clear HGz7 hgz7
    go_wp2
    repeat (go_quiet (fail); try go_wp2)
    go_meet
    case rel => exact ⟨_, (false), zT, H', ⟨zO⟩, ⟨zSv HI0⟩, ⟨zK HK⟩, ⟨zBv HB⟩⟩
  ·rw [if_neg c3] at H
   have c3b0 := decide_eq_false c3
   clear c3
   (first | rw [c3b0] | (simp only [i64_w, i32_w]; rw [c3b0]) | skip)
   have H' := aM H
   clear H
   obtain ⟨ASz8_0, cSz8_0, HGz8, hgz8, HSz8_0⟩ := HI0.out
   have qU := cellS84_0 HGz8
   have qV := cellS84_1 HGz8
   have qW := cellS84_2 HGz8
   have qX := z1_ HGz8 1
   have qY := z1_ HGz8 2
   clear HGz8 hgz8
   go_wp2
   repeat (go_quiet (fail); try go_wp2)
   go_meet
   case rel => exact ⟨_, (false), zT, H', ⟨zO⟩, ⟨zSv HI0⟩, ⟨zK HK⟩, ⟨zBv HB⟩⟩
 case rest =>
  clear HC2
  obtain ⟨kq, qA, rfl, HA, HJ1, HI0, HK, HB⟩ := hcut
  cases kq with
  | zero => exact absurd HA.out (by simp [sR_reader_coordinate.j0])
  | succ kj1 =>
   have H := HA.out
   clear HA
   simp only [sR_reader_coordinate.j0] at H
   by_cases c9 : qA = true
   ·subst c9
    have H1 : ((sR_reader_next.f s0_0 s0_1 s0_2 240 255).bind fun bt962 => (some (wrap64 (bt962.1 - 256), bt962.2.1, bt962.2.2))) = some (r1, r2, r3) := by rw [if_pos rfl] at H; exact H
    clear H
    have H := H1
    clear H1
    replace H := zbs H
    obtain ⟨⟨qB, qC, qD⟩, A100, H⟩ := H
    replace H : (some (wrap64 (qB - 256), qC, qD)) = some (r1, r2, r3) := H
    have A10 := aM A100
    clear A100
    simp only [Option.some.injEq, Prod.mk.injEq] at H
    obtain ⟨rfl, rfl, rfl⟩ := H
    go_wp2_with (first | (go_at_call 45; (with_reducible refine (sR_reader_next.calls g s0_0 s0_1 s0_2 240 255 qB qC qD w0 _ ?side1 ?side2 A10.out).mono ?_); (case side1 => repeat (first | (with_reducible first | exact HI0.out | apply I8.alloc | apply I8.drewN | apply I8.drew | apply I8.set_1 | apply I8.set_2) | exact HI0.out)); (case side2 => exact (zBv HB)); rintro e w11 ⟨rfl, hi, hb, hk⟩; replace HK := aM (KeepBut.trans (kS HK) hk (.inl rfl)); replace HB := aM (hb); replace HI0 := aM (hi); (try clear hb); (try clear hk); (try clear hi)))
    repeat (go_quiet (first | (go_at_call 45; (with_reducible refine (sR_reader_next.calls g s0_0 s0_1 s0_2 240 255 qB qC qD w0 _ ?side1 ?side2 A10.out).mono ?_); (case side1 => repeat (first | (with_reducible first | exact HI0.out | apply I8.alloc | apply I8.drewN | apply I8.drew | apply I8.set_1 | apply I8.set_2) | exact HI0.out)); (case side2 => exact (zBv HB)); rintro e w11 ⟨rfl, hi, hb, hk⟩; replace HK := aM (KeepBut.trans (kS HK) hk (.inl rfl)); replace HB := aM (hb); replace HI0 := aM (hi); (try clear hb); (try clear hk); (try clear hi))); try go_wp2_with (first | (go_at_call 45; (with_reducible refine (sR_reader_next.calls g s0_0 s0_1 s0_2 240 255 qB qC qD w0 _ ?side1 ?side2 A10.out).mono ?_); (case side1 => repeat (first | (with_reducible first | exact HI0.out | apply I8.alloc | apply I8.drewN | apply I8.drew | apply I8.set_1 | apply I8.set_2) | exact HI0.out)); (case side2 => exact (zBv HB)); rintro e w11 ⟨rfl, hi, hb, hk⟩; replace HK := aM (KeepBut.trans (kS HK) hk (.inl rfl)); replace HB := aM (hb); replace HI0 := aM (hi); (try clear hb); (try clear hk); (try clear hi))))
    go_ret
    exact ⟨zE, zSv HI0, zBv HB, zK HK⟩
   ·replace c9 := Bool.eq_false_iff.mpr c9
    subst c9
    have H1 : ((sR_reader_next.f s0_0 s0_1 s0_2 0 16).bind fun bt965 => (some (bt965.1, bt965.2.1, bt965.2.2))) = some (r1, r2, r3) := by rw [if_neg (show ¬ (false = true) by decide)] at H; exact H
    clear H
    have H := H1
    clear H1
    replace H := zbs H
    obtain ⟨⟨qE, qF, qG⟩, A120, H⟩ := H
    replace H : (some (qE, qF, qG)) = some (r1, r2, r3) := H
    have A12 := aM A120
    clear A120
    simp only [Option.some.injEq, Prod.mk.injEq] at H
    obtain ⟨rfl, rfl, rfl⟩ := H
    go_wp2_with (first | (go_at_call 45; (with_reducible refine (sR_reader_next.calls g s0_0 s0_1 s0_2 0 16 qE qF qG w0 _ ?side1 ?side2 A12.out).mono ?_); (case side1 => repeat (first | (with_reducible first | exact HI0.out | apply I8.alloc | apply I8.drewN | apply I8.drew | apply I8.set_1 | apply I8.set_2) | exact HI0.out)); (case side2 => exact (zBv HB)); rintro e w13 ⟨rfl, hi, hb, hk⟩; replace HK := aM (KeepBut.trans (kS HK) hk (.inl rfl)); replace HB := aM (hb); replace HI0 := aM (hi); (try clear hb); (try clear hk); (try clear hi)))
    repeat (go_quiet (first | (go_at_call 45; (with_reducible refine (sR_reader_next.calls g s0_0 s0_1 s0_2 0 16 qE qF qG w0 _ ?side1 ?side2 A12.out).mono ?_); (case side1 => repeat (first | (with_reducible first | exact HI0.out | apply I8.alloc | apply I8.drewN | apply I8.drew | apply I8.set_1 | apply I8.set_2) | exact HI0.out)); (case side2 => exact (zBv HB)); rintro e w13 ⟨rfl, hi, hb, hk⟩; replace HK := aM (KeepBut.trans (kS HK) hk (.inl rfl)); replace HB := aM (hb); replace HI0 := aM (hi); (try clear hb); (try clear hk); (try clear hi))); try go_wp2_with (first | (go_at_call 45; (with_reducible refine (sR_reader_next.calls g s0_0 s0_1 s0_2 0 16 qE qF qG w0 _ ?side1 ?side2 A12.out).mono ?_); (case side1 => repeat (first | (with_reducible first | exact HI0.out | apply I8.alloc | apply I8.drewN | apply I8.drew | apply I8.set_1 | apply I8.set_2) | exact HI0.out)); (case side2 => exact (zBv HB)); rintro e w13 ⟨rfl, hi, hb, hk⟩; replace HK := aM (KeepBut.trans (kS HK) hk (.inl rfl)); replace HB := aM (hb); replace HI0 := aM (hi); (try clear hb); (try clear hk); (try clear hi))))
    go_ret
    exact ⟨zE, zSv HI0, zBv HB, zK HK⟩
end Go.Proofs.Ytccbdcbeinkjgaa.XA
end
section
namespace Go.Proofs.Ytccbdcbeinkjgaa.XA
open Go.Proofs.Ytccbdcbeinkjgaa.Lift Go.RowKit Go.Proofs.YtccbdcbeinkjgaaW.PrintWords Go.Proofs.YtccbdcbeinkjgaaW.PrintLast Go.Proofs.YtccbdcbeinkjgaaW.PrintMore
attribute [local go_sem] max2_int min2_int max_two min_two max_three min_three max_four min_four
mutual
def sR_reader_constant.j0 : Nat → Int → Bool → List Int → Int → Int → Option (Int × Int × Int)
 | 0, _, _, _, _, _ => none
 | k + 1, x6, x7, qA, qE, qF => if x7 = true then (if qF < 0 then (if qE < (qA.length : Int) then (if 0 ≤ qE then (sR_reader_constant.j1 k (decide ((rd qA qE) ≥ 128)) qA qE qF) else (none)) else (sR_reader_constant.j1 k false qA qE qF)) else (sR_reader_constant.j1 k false qA qE qF)) else (if x6 = 7 then (sR_reader_constant.j2 k (x6 == 7) qA qE qF) else (sR_reader_constant.j2 k (x6 == 8) qA qE qF))
def sR_reader_constant.j1 : Nat → Bool → List Int → Int → Int → Option (Int × Int × Int)
 | 0, _, _, _, _ => none
 | k + 1, x39, qA, qE, qF => if x39 = true then ((sR_reader_next.f qA qE qF 254 255).bind fun bt969 => ((sR_reader_next.f qA bt969.2.1 bt969.2.2 0 255).bind fun bt972 => (some (wrap64 ((wrap64 ((wrap64 (bt969.1 * 256)) + bt972.1)) - 65536), bt972.2.1, bt972.2.2)))) else ((sR_reader_next.f qA qE qF 0 2).bind fun bt975 => (if bt975.1 = 0 then ((sR_reader_next.f qA bt975.2.1 bt975.2.2 1 255).bind fun bt978 => (some (bt978.1, bt978.2.1, bt978.2.2))) else (if bt975.1 = 1 then ((sR_reader_next.f qA bt975.2.1 bt975.2.2 0 255).bind fun bt981 => (some (wrap64 (256 + bt981.1), bt981.2.1, bt981.2.2))) else ((sR_reader_next.f qA bt975.2.1 bt975.2.2 0 0).bind fun bt984 => (some (wrap64 (512 + bt984.1), bt984.2.1, bt984.2.2))))))
def sR_reader_constant.j2 : Nat → Bool → List Int → Int → Int → Option (Int × Int × Int)
 | 0, _, _, _, _ => none
 | k + 1, x63, qA, qE, qF => if x63 = true then ((sR_reader_next.f qA qE qF 0 0).bind fun bt987 => ((sR_reader_next.f qA bt987.2.1 bt987.2.2 1 64).bind fun bt990 => (some (bt990.1, bt990.2.1, bt990.2.2)))) else ((sR_reader_next.f qA qE qF 0 0).bind fun bt993 => ((sR_reader_next.f qA bt993.2.1 bt993.2.2 0 0).bind fun bt996 => (some (bt996.1, bt996.2.1, bt996.2.2))))
end
def sR_reader_constant.f (k : Nat) (s0_0 : List Int) (s0_1 : Int) (s0_2 : Int) (a1 : Int) : Option (Int × Int × Int) := if a1 = 5 then (sR_reader_constant.j0 k a1 (a1 == 5) s0_0 s0_1 s0_2) else (sR_reader_constant.j0 k a1 (a1 == 6) s0_0 s0_1 s0_2)
theorem sR_reader_constant.mono_l : ∀ k, (∀ y0 y1 y2 y3 y4, LeO (sR_reader_constant.j0 k y0 y1 y2 y3 y4) (sR_reader_constant.j0 (k + 1) y0 y1 y2 y3 y4)) ∧ (∀ y0 y1 y2 y3, LeO (sR_reader_constant.j1 k y0 y1 y2 y3) (sR_reader_constant.j1 (k + 1) y0 y1 y2 y3)) ∧ (∀ y0 y1 y2 y3, LeO (sR_reader_constant.j2 k y0 y1 y2 y3) (sR_reader_constant.j2 (k + 1) y0 y1 y2 y3))
 | 0 => ⟨fun _ _ _ _ _ r h => by simp [sR_reader_constant.j0] at h, fun _ _ _ _ r h => by simp [sR_reader_constant.j1] at h, fun _ _ _ _ r h => by simp [sR_reader_constant.j2] at h⟩
 | k + 1 => by
  obtain ⟨ih0, ih1, ih2⟩ := sR_reader_constant.mono_l k
  refine ⟨?_, ?_, ?_⟩
  ·intro y0 y1 y2 y3 y4
   unfold sR_reader_constant.j0
   exact zM
  ·intro y0 y1 y2 y3
   unfold sR_reader_constant.j1
   exact zM
  ·intro y0 y1 y2 y3
   unfold sR_reader_constant.j2
   exact zM
theorem sR_reader_constant.mono : ∀ a0 a1 a2 a3 k, LeO (sR_reader_constant.f k a0 a1 a2 a3) (sR_reader_constant.f (k + 1) a0 a1 a2 a3) := by
 intro a0 a1 a2 a3 k
 obtain ⟨ih0, ih1, ih2⟩ := sR_reader_constant.mono_l k
 unfold sR_reader_constant.f
 exact zM
theorem sR_reader_constant.calls (k : Nat) (g : Nat) (s0_0 : List Int) (s0_1 : Int) (s0_2 : Int) (a1 : Int) (r1 : Int) (r2 : Int) (r3 : Int) (w0 w : World) (hI : I8 w0 w g s0_0 s0_1 s0_2) (hB : Below w0.heap.size w0 w) (h : sR_reader_constant.f k s0_0 s0_1 s0_2 a1 = some (r1, r2, r3)) :
  Calls Try.prog 60 #[.pointer (some ⟨g, 0, none⟩), .int .i64 a1] w fun e w' => e = .returned (.int .i64 r1) ∧ I8 w0 w' g s0_0 r2 r3 ∧ Below w0.heap.size w0 w' ∧ KeepBut w w' g none := by
 have HI0 := aM hI
 have HK := aM (KeepBut.refl w g none)
 have HL := aM hB.size
 clear hI
 have HW0 := aM hB.size
 have HB := aM hB
 clear hB
 have H : (if a1 = 5 then (sR_reader_constant.j0 k a1 (a1 == 5) s0_0 s0_1 s0_2) else (sR_reader_constant.j0 k a1 (a1 == 6) s0_0 s0_1 s0_2)) = some (r1, r2, r3) := h
 clear h
 have HC3 := aM H
 clear H
 go_enter Try.func60, Try.ntmps60
 go_upto_if 7 with (fail)
 repeat (go_quiet (fail); go_upto_if 7 with (fail))
 go_cut [7] (fun v7 wc => ∃ (kq : Nat) (qP : Bool), v7 = .bool qP ∧ Aside0 (sR_reader_constant.j0 kq a1 qP s0_0 s0_1 s0_2 = some (r1, r2, r3)) ∧ Aside0 (kq ≤ k) ∧ Aside0 (I8 w0 wc g s0_0 s0_1 s0_2) ∧ Aside0 (KeepBut w wc g none) ∧ Aside0 (Below w0.heap.size w0 wc))
 case first =>
  have H := HC3.out
  clear HC3
  by_cases c4 : a1 = 5
  ·rw [if_pos c4] at H
   have c4b0 : (a1 == 5) = true := beq_iff_eq.mpr c4
   have c4b1 : (a1 != 5) = false := bne_eq_false_iff_eq.mpr c4
   clear c4
   (first | rw [c4b0] | (simp only [i64_w, i32_w]; rw [c4b0]) | skip)
   have H' := aM H
   clear H
   go_wp2
   repeat (go_quiet (fail); try go_wp2)
   go_meet
   case rel => exact ⟨_, ((a1 == 5)), zT, H', ⟨zO⟩, ⟨zSv HI0⟩, ⟨zK HK⟩, ⟨zBv HB⟩⟩
  ·rw [if_neg c4] at H
   have c4b0 : (a1 == 5) = false := beq_eq_false_iff_ne.mpr c4
   have c4b1 : (a1 != 5) = true := bne_iff_ne.mpr c4
   (first | rw [c4b0] | (simp only [i64_w, i32_w]; rw [c4b0]) | skip)
   have H' := aM H
   clear H
   go_wp2
   repeat (go_quiet (fail); try go_wp2)
   go_meet
   case rel => exact ⟨_, ((a1 == 6)), zT, H', ⟨zO⟩, ⟨zSv HI0⟩, ⟨zK HK⟩, ⟨zBv HB⟩⟩
 case rest =>
  clear HC3
  obtain ⟨kq, qP, rfl, HA, HJ2, HI0, HK, HB⟩ := hcut
  cases kq with
  | zero => exact absurd HA.out (by simp [sR_reader_constant.j0])
  | succ kj2 =>
   have H := HA.out
   clear HA
   simp only [sR_reader_constant.j0] at H
   by_cases c5 : qP = true
   ·subst c5
    have H1 : (if s0_2 < 0 then (if s0_1 < (s0_0.length : Int) then (if 0 ≤ s0_1 then (sR_reader_constant.j1 kj2 (decide ((rd s0_0 s0_1) ≥ 128)) s0_0 s0_1 s0_2) else (none)) else (sR_reader_constant.j1 kj2 false s0_0 s0_1 s0_2)) else (sR_reader_constant.j1 kj2 false s0_0 s0_1 s0_2)) = some (r1, r2, r3) := by rw [if_pos rfl] at H; exact H
    clear H
    have H := H1
    clear H1
    have HC6 := aM H
    clear H
    go_upto_region 5 with (fail)
    repeat (go_quiet (fail); go_upto_region 5 with (fail))
    go_cut [39] (fun v39 wc => ∃ (kq : Nat) (qN : Bool), v39 = .bool qN ∧ Aside0 (sR_reader_constant.j1 kq qN s0_0 s0_1 s0_2 = some (r1, r2, r3)) ∧ Aside0 (kq ≤ kj2) ∧ Aside0 (I8 w0 wc g s0_0 s0_1 s0_2) ∧ Aside0 (KeepBut w wc g none) ∧ Aside0 (Below w0.heap.size w0 wc))
    case first =>
     have H := HC6.out
     clear HC6
     by_cases c7 : s0_2 < 0
     ·rw [if_pos c7] at H
      have c7b0 := decide_eq_true c7
      clear c7
      (first | rw [c7b0] | (simp only [i64_w, i32_w]; rw [c7b0]) | skip)
      by_cases c8 : s0_1 < (s0_0.length : Int)
      ·rw [if_pos c8] at H
       have c8b0 := decide_eq_true c8
       clear c8
       by_cases c9 : 0 ≤ s0_1
       ·rw [if_pos c9] at H
        have c9b0 := decide_eq_true c9
        clear c9
        have H' := aM H
        clear H
        obtain ⟨ASz10_0, cSz10_0, HGz10, hgz10, HSz10_0⟩ := HI0.out
        have ql := cellS84_0 HGz10
        have qm := cellS84_1 HGz10
        have qn := cellS84_2 HGz10
        have qo := z1_ HGz10 1
        have qp := z1_ HGz10 2
        clear HGz10 hgz10
        have p968 : 0 ≤ (s0_1 : Int) := of_decide_eq_true za
        have q968 : s0_1 < (s0_0.length : Int) := of_decide_eq_true za
        obtain ⟨ad968, e968, hx968_0⟩ := Kd.at_int HSz10_0 s0_1 p968 q968
        cases e968
        replace hx968_0 := pw_cell_below HB.out hx968_0
        replace p968 := eq_true p968
        replace q968 := eq_true q968
        go_wp2
        repeat (go_quiet (fail); try go_wp2)
        go_meet
        case rel => exact ⟨_, (decide ((rd s0_0 s0_1) ≥ 128)), (by first | rfl | (simp; done) | (simp [*]; done) | (simp; omega)), H', ⟨by have := HJ2.out; first | omega | exact Nat.le_refl _⟩, ⟨zSv HI0⟩, ⟨zK HK⟩, ⟨zBv HB⟩⟩
       ·rw [if_neg c9] at H
        exact absurd H (by simp)
      ·rw [if_neg c8] at H
       have c8b0 := decide_eq_false c8
       clear c8
       have H' := aM H
       clear H
       obtain ⟨ASz11_0, cSz11_0, HGz11, hgz11, HSz11_0⟩ := HI0.out
       have qq := cellS84_0 HGz11
       have qr := cellS84_1 HGz11
       have qs := cellS84_2 HGz11
       have qt := z1_ HGz11 1
       have qu := z1_ HGz11 2
       clear HGz11 hgz11
       go_wp2
       repeat (go_quiet (fail); try go_wp2)
       go_meet
       case rel => exact ⟨_, (false), zT, H', ⟨by have := HJ2.out; first | omega | exact Nat.le_refl _⟩, ⟨zSv HI0⟩, ⟨zK HK⟩, ⟨zBv HB⟩⟩
     ·rw [if_neg c7] at H
      have c7b0 := decide_eq_false c7
      clear c7
      (first | rw [c7b0] | (simp only [i64_w, i32_w]; rw [c7b0]) | skip)
      have H' := aM H
      clear H
      obtain ⟨ASz12_0, cSz12_0, HGz12, hgz12, HSz12_0⟩ := HI0.out
      have qv := cellS84_0 HGz12
      have qw := cellS84_1 HGz12
      have qx := cellS84_2 HGz12
      have qy := z1_ HGz12 1
      have qz := z1_ HGz12 2
      clear HGz12 hgz12
      go_wp2
      repeat (go_quiet (fail); try go_wp2)
      go_meet
      case rel => exact ⟨_, (false), zT, H', ⟨by have := HJ2.out; first | omega | exact Nat.le_refl _⟩, ⟨zSv HI0⟩, ⟨zK HK⟩, ⟨zBv HB⟩⟩
    case rest =>
     clear HC6
     try clear c5
     obtain ⟨kq, qN, rfl, HA, HJ5, HI0, HK, HB⟩ := hcut
     cases kq with
     | zero => exact absurd HA.out (by simp [sR_reader_constant.j1])
     | succ kj5 =>
      have H := HA.out
      clear HA
      simp only [sR_reader_constant.j1] at H
      by_cases c13 : qN = true
      ·subst c13
       have H1 : ((sR_reader_next.f s0_0 s0_1 s0_2 254 255).bind fun bt969 => ((sR_reader_next.f s0_0 bt969.2.1 bt969.2.2 0 255).bind fun bt972 => (some (wrap64 ((wrap64 ((wrap64 (bt969.1 * 256)) + bt972.1)) - 65536), bt972.2.1, bt972.2.2)))) = some (r1, r2, r3) := by rw [if_pos rfl] at H; exact H
       clear H
       have H := H1
       clear H1
       replace H := zbs H
       obtain ⟨⟨qO, qG, qH⟩, A140, H⟩ := H
       replace H : ((sR_reader_next.f s0_0 qG qH 0 255).bind fun bt972 => (some (wrap64 ((wrap64 ((wrap64 (qO * 256)) + bt972.1)) - 65536), bt972.2.1, bt972.2.2))) = some (r1, r2, r3) := H
       have A14 := aM A140
       clear A140
       replace H := zbs H
       obtain ⟨⟨qQ, qR, qS⟩, A150, H⟩ := H
       replace H : (some (wrap64 ((wrap64 ((wrap64 (qO * 256)) + qQ)) - 65536), qR, qS)) = some (r1, r2, r3) := H
       have A15 := aM A150
       clear A150
       simp only [Option.some.injEq, Prod.mk.injEq] at H
       obtain ⟨rfl, rfl, rfl⟩ := H
       go_wp2_with (first | (go_at_call 45; (with_reducible refine (sR_reader_next.calls g s0_0 s0_1 s0_2 254 255 qO qG qH w0 _ ?side1 ?side2 A14.out).mono ?_); (case side1 => repeat (first | (with_reducible first | exact HI0.out | apply I8.alloc | apply I8.drewN | apply I8.drew | apply I8.set_1 | apply I8.set_2) | exact HI0.out)); (case side2 => exact (zBv HB)); rintro e w16 ⟨rfl, hi, hb, hk⟩; replace HK := aM (KeepBut.trans (kS HK) hk (.inl rfl)); replace HB := aM (hb); replace HI0 := aM (hi); (try clear hb); (try clear hk); (try clear hi)) | (go_at_call 45; (with_reducible refine (sR_reader_next.calls g s0_0 qG qH 0 255 qQ qR qS w0 _ ?side1 ?side2 A15.out).mono ?_); (case side1 => repeat (first | (with_reducible first | exact HI0.out | apply I8.alloc | apply I8.drewN | apply I8.drew | apply I8.set_1 | apply I8.set_2) | exact HI0.out)); (case side2 => exact (zBv HB)); rintro e w17 ⟨rfl, hi, hb, hk⟩; replace HK := aM (KeepBut.trans (kS HK) hk (.inl rfl)); replace HB := aM (hb); replace HI0 := aM (hi); (try clear hb); (try clear hk); (try clear hi)))
       repeat (go_quiet (first | (go_at_call 45; (with_reducible refine (sR_reader_next.calls g s0_0 s0_1 s0_2 254 255 qO qG qH w0 _ ?side1 ?side2 A14.out).mono ?_); (case side1 => repeat (first | (with_reducible first | exact HI0.out | apply I8.alloc | apply I8.drewN | apply I8.drew | apply I8.set_1 | apply I8.set_2) | exact HI0.out)); (case side2 => exact (zBv HB)); rintro e w16 ⟨rfl, hi, hb, hk⟩; replace HK := aM (KeepBut.trans (kS HK) hk (.inl rfl)); replace HB := aM (hb); replace HI0 := aM (hi); (try clear hb); (try clear hk); (try clear hi)) | (go_at_call 45; (with_reducible refine (sR_reader_next.calls g s0_0 qG qH 0 255 qQ qR qS w0 _ ?side1 ?side2 A15.out).mono ?_); (case side1 => repeat (first | (with_reducible first | exact HI0.out | apply I8.alloc | apply I8.drewN | apply I8.drew | apply I8.set_1 | apply I8.set_2) | exact HI0.out)); (case side2 => exact (zBv HB)); rintro e w17 ⟨rfl, hi, hb, hk⟩; replace HK := aM (KeepBut.trans (kS HK) hk (.inl rfl)); replace HB := aM (hb); replace HI0 := aM (hi); (try clear hb); (try clear hk); (try clear hi))); try go_wp2_with (first | (go_at_call 45; (with_reducible refine (sR_reader_next.calls g s0_0 s0_1 s0_2 254 255 qO qG qH w0 _ ?side1 ?side2 A14.out).mono ?_); (case side1 => repeat (first | (with_reducible first | exact HI0.out | apply I8.alloc | apply I8.drewN | apply I8.drew | apply I8.set_1 | apply I8.set_2) | exact HI0.out)); (case side2 => exact (zBv HB)); rintro e w16 ⟨rfl, hi, hb, hk⟩; replace HK := aM (KeepBut.trans (kS HK) hk (.inl rfl)); replace HB := aM (hb); replace HI0 := aM (hi); (try clear hb); (try clear hk); (try clear hi)) | (go_at_call 45; (with_reducible refine (sR_reader_next.calls g s0_0 qG qH 0 255 qQ qR qS w0 _ ?side1 ?side2 A15.out).mono ?_); (case side1 => repeat (first | (with_reducible first | exact HI0.out | apply I8.alloc | apply I8.drewN | apply I8.drew | apply I8.set_1 | apply I8.set_2) | exact HI0.out)); (case side2 => exact (zBv HB)); rintro e w17 ⟨rfl, hi, hb, hk⟩; replace HK := aM (KeepBut.trans (kS HK) hk (.inl rfl)); replace HB := aM (hb); replace HI0 := aM (hi); (try clear hb); (try clear hk); (try clear hi))))
       go_ret
       exact ⟨zE, zSv HI0, zBv HB, zK HK⟩
      ·replace c13 := Bool.eq_false_iff.mpr c13
       subst c13
       have H1 : ((sR_reader_next.f s0_0 s0_1 s0_2 0 2).bind fun bt975 => (if bt975.1 = 0 then ((sR_reader_next.f s0_0 bt975.2.1 bt975.2.2 1 255).bind fun bt978 => (some (bt978.1, bt978.2.1, bt978.2.2))) else (if bt975.1 = 1 then ((sR_reader_next.f s0_0 bt975.2.1 bt975.2.2 0 255).bind fun bt981 => (some (wrap64 (256 + bt981.1), bt981.2.1, bt981.2.2))) else ((sR_reader_next.f s0_0 bt975.2.1 bt975.2.2 0 0).bind fun bt984 => (some (wrap64 (512 + bt984.1), bt984.2.1, bt984.2.2)))))) = some (r1, r2, r3) := by rw [if_neg (show ¬ (false = true) by decide)] at H; exact H
       clear H
       have H := H1
       clear H1
       replace H := zbs H
       obtain ⟨⟨qB, qC, qD⟩, A180, H⟩ := H
       replace H : (if qB = 0 then ((sR_reader_next.f s0_0 qC qD 1 255).bind fun bt978 => (some (bt978.1, bt978.2.1, bt978.2.2))) else (if qB = 1 then ((sR_reader_next.f s0_0 qC qD 0 255).bind fun bt981 => (some (wrap64 (256 + bt981.1), bt981.2.1, bt981.2.2))) else ((sR_reader_next.f s0_0 qC qD 0 0).bind fun bt984 => (some (wrap64 (512 + bt984.1), bt984.2.1, bt984.2.2))))) = some (r1, r2, r3) := H
       have A18 := aM A180
       clear A180
       by_cases c19 : qB = 0
       ·rw [if_pos c19] at H
        have c19b0 : (qB == 0) = true := beq_iff_eq.mpr c19
        have c19b1 : (qB != 0) = false := bne_eq_false_iff_eq.mpr c19
        clear c19
        replace H := zbs H
        obtain ⟨⟨qT, qU, qV⟩, A200, H⟩ := H
        replace H : (some (qT, qU, qV)) = some (r1, r2, r3) := H
        have A20 := aM A200
        clear A200
        simp only [Option.some.injEq, Prod.mk.injEq] at H
        obtain ⟨rfl, rfl, rfl⟩ := H
        go_wp2_with (first | (go_at_call 45; (with_reducible refine (sR_reader_next.calls g s0_0 s0_1 s0_2 0 2 qB qC qD w0 _ ?side1 ?side2 A18.out).mono ?_); (case side1 => repeat (first | (with_reducible first | exact HI0.out | apply I8.alloc | apply I8.drewN | apply I8.drew | apply I8.set_1 | apply I8.set_2) | exact HI0.out)); (case side2 => exact (zBv HB)); rintro e w21 ⟨rfl, hi, hb, hk⟩; replace HK := aM (KeepBut.trans (kS HK) hk (.inl rfl)); replace HB := aM (hb); replace HI0 := aM (hi); (try clear hb); (try clear hk); (try clear hi)) | (go_at_call 45; (with_reducible refine (sR_reader_next.calls g s0_0 qC qD 1 255 qT qU qV w0 _ ?side1 ?side2 A20.out).mono ?_); (case side1 => repeat (first | (with_reducible first | exact HI0.out | apply I8.alloc | apply I8.drewN | apply I8.drew | apply I8.set_1 | apply I8.set_2) | exact HI0.out)); (case side2 => exact (zBv HB)); rintro e w22 ⟨rfl, hi, hb, hk⟩; replace HK := aM (KeepBut.trans (kS HK) hk (.inl rfl)); replace HB := aM (hb); replace HI0 := aM (hi); (try clear hb); (try clear hk); (try clear hi)))
        repeat (go_quiet (first | (go_at_call 45; (with_reducible refine (sR_reader_next.calls g s0_0 s0_1 s0_2 0 2 qB qC qD w0 _ ?side1 ?side2 A18.out).mono ?_); (case side1 => repeat (first | (with_reducible first | exact HI0.out | apply I8.alloc | apply I8.drewN | apply I8.drew | apply I8.set_1 | apply I8.set_2) | exact HI0.out)); (case side2 => exact (zBv HB)); rintro e w21 ⟨rfl, hi, hb, hk⟩; replace HK := aM (KeepBut.trans (kS HK) hk (.inl rfl)); replace HB := aM (hb); replace HI0 := aM (hi); (try clear hb); (try clear hk); (try clear hi)) | (go_at_call 45; (with_reducible refine (sR_reader_next.calls g s0_0 qC qD 1 255 qT qU qV w0 _ ?side1 ?side2 A20.out).mono ?_); (case side1 => repeat (first | (with_reducible first | exact HI0.out | apply I8.alloc | apply I8.drewN | apply I8.drew | apply I8.set_1 | apply I8.set_2) | exact HI0.out)); (case side2 => exact (zBv HB)); rintro e w22 ⟨rfl, hi, hb, hk⟩; replace HK := aM (KeepBut.trans (kS HK) hk (.inl rfl)); replace HB := aM (hb); replace HI0 := aM (hi); (try clear hb); (try clear hk); (try clear hi))); try go_wp2_with (first | (go_at_call 45; (with_reducible refine (sR_reader_next.calls g s0_0 s0_1 s0_2 0 2 qB qC qD w0 _ ?side1 ?side2 A18.out).mono ?_); (case side1 => repeat (first | (with_reducible first | exact HI0.out | apply I8.alloc | apply I8.drewN | apply I8.drew | apply I8.set_1 | apply I8.set_2) | exact HI0.out)); (case side2 => exact (zBv HB)); rintro e w21 ⟨rfl, hi, hb, hk⟩; replace HK := aM (KeepBut.trans (kS HK) hk (.inl rfl)); replace HB := aM (hb); replace HI0 := aM (hi); (try clear hb); (try clear hk); (try clear hi)) | (go_at_call 45; (with_reducible refine (sR_reader_next.calls g s0_0 qC qD 1 255 qT qU qV w0 _ ?side1 ?side2 A20.out).mono ?_); (case side1 => repeat (first | (with_reducible first | exact HI0.out | apply I8.alloc | apply I8.drewN | apply I8.drew | apply I8.set_1 | apply I8.set_2) | exact HI0.out)); (case side2 => exact (zBv HB)); rintro e w22 ⟨rfl, hi, hb, hk⟩; replace HK := aM (KeepBut.trans (kS HK) hk (.inl rfl)); replace HB := aM (hb); replace HI0 := aM (hi); (try clear hb); (try clear hk); (try clear hi))))
        go_ret
        exact ⟨zE, zSv HI0, zBv HB, zK HK⟩
       ·rw [if_neg c19] at H
        have c19b0 : (qB == 0) = false := beq_eq_false_iff_ne.mpr c19
        have c19b1 : (qB != 0) = true := bne_iff_ne.mpr c19
        by_cases c23 : qB = 1
        ·rw [if_pos c23] at H
         have c23b0 : (qB == 1) = true := beq_iff_eq.mpr c23
         have c23b1 : (qB != 1) = false := bne_eq_false_iff_eq.mpr c23
         clear c23
         replace H := zbs H
         obtain ⟨⟨qW, qX, qY⟩, A240, H⟩ := H
         replace H : (some (wrap64 (256 + qW), qX, qY)) = some (r1, r2, r3) := H
         have A24 := aM A240
         clear A240
         simp only [Option.some.injEq, Prod.mk.injEq] at H
         obtain ⟨rfl, rfl, rfl⟩ := H
         go_wp2_with (first | (go_at_call 45; (with_reducible refine (sR_reader_next.calls g s0_0 s0_1 s0_2 0 2 qB qC qD w0 _ ?side1 ?side2 A18.out).mono ?_); (case side1 => repeat (first | (with_reducible first | exact HI0.out | apply I8.alloc | apply I8.drewN | apply I8.drew | apply I8.set_1 | apply I8.set_2) | exact HI0.out)); (case side2 => exact (zBv HB)); rintro e w25 ⟨rfl, hi, hb, hk⟩; replace HK := aM (KeepBut.trans (kS HK) hk (.inl rfl)); replace HB := aM (hb); replace HI0 := aM (hi); (try clear hb); (try clear hk); (try clear hi)) | (go_at_call 45; (with_reducible refine (sR_reader_next.calls g s0_0 qC qD 0 255 qW qX qY w0 _ ?side1 ?side2 A24.out).mono ?_); (case side1 => repeat (first | (with_reducible first | exact HI0.out | apply I8.alloc | apply I8.drewN | apply I8.drew | apply I8.set_1 | apply I8.set_2) | exact HI0.out)); (case side2 => exact (zBv HB)); rintro e w26 ⟨rfl, hi, hb, hk⟩; replace HK := aM (KeepBut.trans (kS HK) hk (.inl rfl)); replace HB := aM (hb); replace HI0 := aM (hi); (try clear hb); (try clear hk); (try clear hi)))
         repeat (go_quiet (first | (go_at_call 45; (with_reducible refine (sR_reader_next.calls g s0_0 s0_1 s0_2 0 2 qB qC qD w0 _ ?side1 ?side2 A18.out).mono ?_); (case side1 => repeat (first | (with_reducible first | exact HI0.out | apply I8.alloc | apply I8.drewN | apply I8.drew | apply I8.set_1 | apply I8.set_2) | exact HI0.out)); (case side2 => exact (zBv HB)); rintro e w25 ⟨rfl, hi, hb, hk⟩; replace HK := aM (KeepBut.trans (kS HK) hk (.inl rfl)); replace HB := aM (hb); replace HI0 := aM (hi); (try clear hb); (try clear hk); (try clear hi)) | (go_at_call 45; (with_reducible refine (sR_reader_next.calls g s0_0 qC qD 0 255 qW qX qY w0 _ ?side1 ?side2 A24.out).mono ?_); (case side1 => repeat (first | (with_reducible first | exact HI0.out | apply I8.alloc | apply I8.drewN | apply I8.drew | apply I8.set_1 | apply I8.set_2) | exact HI0.out)); (case side2 => exact (zBv HB)); rintro e w26 ⟨rfl, hi, hb, hk⟩; replace HK := aM (KeepBut.trans (kS HK) hk (.inl rfl)); replace HB := aM (hb); replace HI0 := aM (hi); (try clear hb); (try clear hk); (try clear hi))); try go_wp2_with (first | (go_at_call 45; (with_reducible refine (sR_reader_next.calls g s0_0 s0_1 s0_2 0 2 qB qC qD w0 _ ?side1 ?side2 A18.out).mono ?_); (case side1 => repeat (first | (with_reducible first | exact HI0.out | apply I8.alloc | apply I8.drewN | apply I8.drew | apply I8.set_1 | apply I8.set_2) | exact HI0.out)); (case side2 => exact (zBv HB)); rintro e w25 ⟨rfl, hi, hb, hk⟩; replace HK := aM (KeepBut.trans (kS HK) hk (.inl rfl)); replace HB := aM (hb); replace HI0 := aM (hi); (try clear hb); (try clear hk); (try clear hi)) | (go_at_call 45; (with_reducible refine (sR_reader_next.calls g s0_0 qC qD 0 255 qW qX qY w0 _ ?side1 ?side2 A24.out).mono ?_); (case side1 => repeat (first | (with_reducible first | exact HI0.out | apply I8.alloc | apply I8.drewN | apply I8.drew | apply I8.set_1 | apply I8.set_2) | exact HI0.out)); (case side2 => exact (zBv HB)); rintro e w26 ⟨rfl, hi, hb, hk⟩; replace HK := aM (KeepBut.trans (kS HK) hk (.inl rfl)); replace HB := aM (hb); replace HI0 := aM (hi); (try clear hb); (try clear hk); (try clear hi))))
         go_ret
         exact ⟨zE, zSv HI0, zBv HB, zK HK⟩
        ·rw [if_neg c23] at H
         have c23b0 : (qB == 1) = false := beq_eq_false_iff_ne.mpr c23
         have c23b1 : (qB != 1) = true := bne_iff_ne.mpr c23
         replace H := zbs H
         obtain ⟨⟨qZ, qa, qb⟩, A270, H⟩ := H
         replace H : (some (wrap64 (512 + qZ), qa, qb)) = some (r1, r2, r3) := H
         have A27 := aM A270
         clear A270
         simp only [Option.some.injEq, Prod.mk.injEq] at H
         obtain ⟨rfl, rfl, rfl⟩ := H
         go_wp2_with (first | (go_at_call 45; (with_reducible refine (sR_reader_next.calls g s0_0 s0_1 s0_2 0 2 qB qC qD w0 _ ?side1 ?side2 A18.out).mono ?_); (case side1 => repeat (first | (with_reducible first | exact HI0.out | apply I8.alloc | apply I8.drewN | apply I8.drew | apply I8.set_1 | apply I8.set_2) | exact HI0.out)); (case side2 => exact (zBv HB)); rintro e w28 ⟨rfl, hi, hb, hk⟩; replace HK := aM (KeepBut.trans (kS HK) hk (.inl rfl)); replace HB := aM (hb); replace HI0 := aM (hi); (try clear hb); (try clear hk); (try clear hi)) | (go_at_call 45; (with_reducible refine (sR_reader_next.calls g s0_0 qC qD 0 0 qZ qa qb w0 _ ?side1 ?side2 A27.out).mono ?_); (case side1 => repeat (first | (with_reducible first | exact HI0.out | apply I8.alloc | apply I8.drewN | apply I8.drew | apply I8.set_1 | apply I8.set_2) | exact HI0.out)); (case side2 => exact (zBv HB)); rintro e w29 ⟨rfl, hi, hb, hk⟩; replace HK := aM (KeepBut.trans (kS HK) hk (.inl rfl)); replace HB := aM (hb); replace HI0 := aM (hi); (try clear hb); (try clear hk); (try clear hi)))
         repeat (go_quiet (first | (go_at_call 45; (with_reducible refine (sR_reader_next.calls g s0_0 s0_1 s0_2 0 2 qB qC qD w0 _ ?side1 ?side2 A18.out).mono ?_); (case side1 => repeat (first | (with_reducible first | exact HI0.out | apply I8.alloc | apply I8.drewN | apply I8.drew | apply I8.set_1 | apply I8.set_2) | exact HI0.out)); (case side2 => exact (zBv HB)); rintro e w28 ⟨rfl, hi, hb, hk⟩; replace HK := aM (KeepBut.trans (kS HK) hk (.inl rfl)); replace HB := aM (hb); replace HI0 := aM (hi); (try clear hb); (try clear hk); (try clear hi)) | (go_at_call 45; (with_reducible refine (sR_reader_next.calls g s0_0 qC qD 0 0 qZ qa qb w0 _ ?side1 ?side2 A27.out).mono ?_); (case side1 => repeat (first | (with_reducible first | exact HI0.out | apply I8.alloc | apply I8.drewN | apply I8.drew | apply I8.set_1 | apply I8.set_2) | exact HI0.out)); (case side2 => exact (zBv HB)); rintro e w29 ⟨rfl, hi, hb, hk⟩; replace HK := aM (KeepBut.trans (kS HK) hk (.inl rfl)); replace HB := aM (hb); replace HI0 := aM (hi); (try clear hb); (try clear hk); (try clear hi))); try go_wp2_with (first | (go_at_call 45; (with_reducible refine (sR_reader_next.calls g s0_0 s0_1 s0_2 0 2 qB qC qD w0 _ ?side1 ?side2 A18.out).mono ?_); (case side1 => repeat (first | (with_reducible first | exact HI0.out | apply I8.alloc | apply I8.drewN | apply I8.drew | apply I8.set_1 | apply I8.set_2) | exact HI0.out)); (case side2 => exact (zBv HB)); rintro e w28 ⟨rfl, hi, hb, hk⟩; replace HK := aM (KeepBut.trans (kS HK) hk (.inl rfl)); replace HB := aM (hb); replace HI0 := aM (hi); (try clear hb); (try clear hk); (try clear hi)) | (go_at_call 45; (with_reducible refine (sR_reader_next.calls g s0_0 qC qD 0 0 qZ qa qb w0 _ ?side1 ?side2 A27.out).mono ?_); (case side1 => repeat (first | (with_reducible first | exact HI0.out | apply I8.alloc | apply I8.drewN | apply I8.drew | apply I8.set_1 | apply I8.set_2) | exact HI0.out)); (case side2 => exact (zBv HB)); rintro e w29 ⟨rfl, hi, hb, hk⟩; replace HK := aM (KeepBut.trans (kS HK) hk (.inl rfl)); replace HB := aM (hb); replace HI0 := aM (hi); (try clear hb); (try clear hk); (try clear hi))))
         go_ret
         exact ⟨zE, zSv HI0, zBv HB, zK HK⟩
   ·replace c5 := Bool.eq_false_iff.mpr c5
    subst c5
    have H1 : (if a1 = 7 then (sR_reader_constant.j2 kj2 (a1 == 7) s0_0 s0_1 s0_2) else (sR_reader_constant.j2 kj2 (a1 == 8) s0_0 s0_1 s0_2)) = some (r1, r2, r3) := by rw [if_neg (show ¬ (false = true) by decide)] at H; exact H
    clear H
    have H := H1
    clear H1
    have qi := aM H
    clear H
    go_upto_if 63 with (fail)
    repeat (go_quiet (fail); go_upto_if 63 with (fail))
    go_cut [63] (fun v63 wc => ∃ (kq : Nat) (qM : Bool), v63 = .bool qM ∧ Aside0 (sR_reader_constant.j2 kq qM s0_0 s0_1 s0_2 = some (r1, r2, r3)) ∧ Aside0 (kq ≤ kj2) ∧ Aside0 (I8 w0 wc g s0_0 s0_1 s0_2) ∧ Aside0 (KeepBut w wc g none) ∧ Aside0 (Below w0.heap.size w0 wc))
    case first =>
     have H := qi.out
     clear qi
     by_cases c31 : a1 = 7
     ·rw [if_pos c31] at H
      have c31b0 : (a1 == 7) = true := beq_iff_eq.mpr c31
      have c31b1 : (a1 != 7) = false := bne_eq_false_iff_eq.mpr c31
      clear c31
      (first | rw [c31b0] | (simp only [i64_w, i32_w]; rw [c31b0]) | skip)
      have H' := aM H
      clear H
      go_wp2
      repeat (go_quiet (fail); try go_wp2)
      go_meet
      case rel => exact ⟨_, ((a1 == 7)), zT, H', ⟨by have := HJ2.out; first | omega | exact Nat.le_refl _⟩, ⟨zSv HI0⟩, ⟨zK HK⟩, ⟨zBv HB⟩⟩
     ·rw [if_neg c31] at H
      have c31b0 : (a1 == 7) = false := beq_eq_false_iff_ne.mpr c31
      have c31b1 : (a1 != 7) = true := bne_iff_ne.mpr c31
      (first | rw [c31b0] | (simp only [i64_w, i32_w]; rw [c31b0]) | skip)
      have H' := aM H
      clear H
      go_wp2
      repeat (go_quiet (fail); try go_wp2)
      go_meet
      case rel => exact ⟨_, ((a1 == 8)), zT, H', ⟨by have := HJ2.out; first | omega | exact Nat.le_refl _⟩, ⟨zSv HI0⟩, ⟨zK HK⟩, ⟨zBv HB⟩⟩
    case rest =>
     clear qi
     try clear c5
     obtain ⟨kq, qM, rfl, HA, HJ29, HI0, HK, HB⟩ := hcut
     cases kq with
     | zero => exact absurd HA.out (by simp [sR_reader_constant.j2])
     | succ kj29 =>
      have H := HA.out
      clear HA
      simp only [sR_reader_constant.j2] at H
      by_cases c32 : qM = true
      ·subst c32
       have H1 : ((sR_reader_next.f s0_0 s0_1 s0_2 0 0).bind fun bt987 => ((sR_reader_next.f s0_0 bt987.2.1 bt987.2.2 1 64).bind fun bt990 => (some (bt990.1, bt990.2.1, bt990.2.2)))) = some (r1, r2, r3) := by rw [if_pos rfl] at H; exact H
       clear H
       have H := H1
       clear H1
       replace H := zbs H
       obtain ⟨⟨qj, qI, qJ⟩, A330, H⟩ := H
       replace H : ((sR_reader_next.f s0_0 qI qJ 1 64).bind fun bt990 => (some (bt990.1, bt990.2.1, bt990.2.2))) = some (r1, r2, r3) := H
       have A33 := aM A330
       clear A330
       replace H := zbs H
       obtain ⟨⟨qc, qd, qe⟩, A340, H⟩ := H
       replace H : (some (qc, qd, qe)) = some (r1, r2, r3) := H
       have A34 := aM A340
       clear A340
       simp only [Option.some.injEq, Prod.mk.injEq] at H
       obtain ⟨rfl, rfl, rfl⟩ := H
       go_wp2_with (first | (go_at_call 45; (with_reducible refine (sR_reader_next.calls g s0_0 s0_1 s0_2 0 0 qj qI qJ w0 _ ?side1 ?side2 A33.out).mono ?_); (case side1 => repeat (first | (with_reducible first | exact HI0.out | apply I8.alloc | apply I8.drewN | apply I8.drew | apply I8.set_1 | apply I8.set_2) | exact HI0.out)); (case side2 => exact (zBv HB)); rintro e w35 ⟨rfl, hi, hb, hk⟩; replace HK := aM (KeepBut.trans (kS HK) hk (.inl rfl)); replace HB := aM (hb); replace HI0 := aM (hi); (try clear hb); (try clear hk); (try clear hi)) | (go_at_call 45; (with_reducible refine (sR_reader_next.calls g s0_0 qI qJ 1 64 qc qd qe w0 _ ?side1 ?side2 A34.out).mono ?_); (case side1 => repeat (first | (with_reducible first | exact HI0.out | apply I8.alloc | apply I8.drewN | apply I8.drew | apply I8.set_1 | apply I8.set_2) | exact HI0.out)); (case side2 => exact (zBv HB)); rintro e w36 ⟨rfl, hi, hb, hk⟩; replace HK := aM (KeepBut.trans (kS HK) hk (.inl rfl)); replace HB := aM (hb); replace HI0 := aM (hi); (try clear hb); (try clear hk); (try clear hi)))
       repeat (go_quiet (first | (go_at_call 45; (with_reducible refine (sR_reader_next.calls g s0_0 s0_1 s0_2 0 0 qj qI qJ w0 _ ?side1 ?side2 A33.out).mono ?_); (case side1 => repeat (first | (with_reducible first | exact HI0.out | apply I8.alloc | apply I8.drewN | apply I8.drew | apply I8.set_1 | apply I8.set_2) | exact HI0.out)); (case side2 => exact (zBv HB)); rintro e w35 ⟨rfl, hi, hb, hk⟩; replace HK := aM (KeepBut.trans (kS HK) hk (.inl rfl)); replace HB := aM (hb); replace HI0 := aM (hi); (try clear hb); (try clear hk); (try clear hi)) | (go_at_call 45; (with_reducible refine (sR_reader_next.calls g s0_0 qI qJ 1 64 qc qd qe w0 _ ?side1 ?side2 A34.out).mono ?_); (case side1 => repeat (first | (with_reducible first | exact HI0.out | apply I8.alloc | apply I8.drewN | apply I8.drew | apply I8.set_1 | apply I8.set_2) | exact HI0.out)); (case side2 => exact (zBv HB)); rintro e w36 ⟨rfl, hi, hb, hk⟩; replace HK := aM (KeepBut.trans (kS HK) hk (.inl rfl)); replace HB := aM (hb); replace HI0 := aM (hi); (try clear hb); (try clear hk); (try clear hi))); try go_wp2_with (first | (go_at_call 45; (with_reducible refine (sR_reader_next.calls g s0_0 s0_1 s0_2 0 0 qj qI qJ w0 _ ?side1 ?side2 A33.out).mono ?_); (case side1 => repeat (first | (with_reducible first | exact HI0.out | apply I8.alloc | apply I8.drewN | apply I8.drew | apply I8.set_1 | apply I8.set_2) | exact HI0.out)); (case side2 => exact (zBv HB)); rintro e w35 ⟨rfl, hi, hb, hk⟩; replace HK := aM (KeepBut.trans (kS HK) hk (.inl rfl)); replace HB := aM (hb); replace HI0 := aM (hi); (try clear hb); (try clear hk); (try clear hi)) | (go_at_call 45; (with_reducible refine (sR_reader_next.calls g s0_0 qI qJ 1 64 qc qd qe w0 _ ?side1 ?side2 A34.out).mono ?_); (case side1 => repeat (first | (with_reducible first | exact HI0.out | apply I8.alloc | apply I8.drewN | apply I8.drew | apply I8.set_1 | apply I8.set_2) | exact HI0.out)); (case side2 => exact (zBv HB)); rintro e w36 ⟨rfl, hi, hb, hk⟩; replace HK := aM (KeepBut.trans (kS HK) hk (.inl rfl)); replace HB := aM (hb); replace HI0 := aM (hi); (try clear hb); (try clear hk); (try clear hi))))
       go_ret
       exact ⟨zE, zSv HI0, zBv HB, zK HK⟩
      ·replace c32 := Bool.eq_false_iff.mpr c32
       subst c32
       have H1 : ((sR_reader_next.f s0_0 s0_1 s0_2 0 0).bind fun bt993 => ((sR_reader_next.f s0_0 bt993.2.1 bt993.2.2 0 0).bind fun bt996 => (some (bt996.1, bt996.2.1, bt996.2.2)))) = some (r1, r2, r3) := by rw [if_neg (show ¬ (false = true) by decide)] at H; exact H
       clear H
       have H := H1
       clear H1
       replace H := zbs H
       obtain ⟨⟨qk, qK, qL⟩, A370, H⟩ := H
       replace H : ((sR_reader_next.f s0_0 qK qL 0 0).bind fun bt996 => (some (bt996.1, bt996.2.1, bt996.2.2))) = some (r1, r2, r3) := H
       have A37 := aM A370
       clear A370
       replace H := zbs H
       obtain ⟨⟨qf, qg, qh⟩, A380, H⟩ := H
       replace H : (some (qf, qg, qh)) = some (r1, r2, r3) := H
       have A38 := aM A380
       clear A380
       simp only [Option.some.injEq, Prod.mk.injEq] at H
       obtain ⟨rfl, rfl, rfl⟩ := H
       go_wp2_with (first | (go_at_call 45; (with_reducible refine (sR_reader_next.calls g s0_0 s0_1 s0_2 0 0 qk qK qL w0 _ ?side1 ?side2 A37.out).mono ?_); (case side1 => repeat (first | (with_reducible first | exact HI0.out | apply I8.alloc | apply I8.drewN | apply I8.drew | apply I8.set_1 | apply I8.set_2) | exact HI0.out)); (case side2 => exact (zBv HB)); rintro e w39 ⟨rfl, hi, hb, hk⟩; replace HK := aM (KeepBut.trans (kS HK) hk (.inl rfl)); replace HB := aM (hb); replace HI0 := aM (hi); (try clear hb); (try clear hk); (try clear hi)) | (go_at_call 45; (with_reducible refine (sR_reader_next.calls g s0_0 qK qL 0 0 qf qg qh w0 _ ?side1 ?side2 A38.out).mono ?_); (case side1 => repeat (first | (with_reducible first | exact HI0.out | apply I8.alloc | apply I8.drewN | apply I8.drew | apply I8.set_1 | apply I8.set_2) | exact HI0.out)); (case side2 => exact (zBv HB)); rintro e w40 ⟨rfl, hi, hb, hk⟩; replace HK := aM (KeepBut.trans (kS HK) hk (.inl rfl)); replace HB := aM (hb); replace HI0 := aM (hi); (try clear hb); (try clear hk); (try clear hi)))
       repeat (go_quiet (first | (go_at_call 45; (with_reducible refine (sR_reader_next.calls g s0_0 s0_1 s0_2 0 0 qk qK qL w0 _ ?side1 ?side2 A37.out).mono ?_); (case side1 => repeat (first | (with_reducible first | exact HI0.out | apply I8.alloc | apply I8.drewN | apply I8.drew | apply I8.set_1 | apply I8.set_2) | exact HI0.out)); (case side2 => exact (zBv HB)); rintro e w39 ⟨rfl, hi, hb, hk⟩; replace HK := aM (KeepBut.trans (kS HK) hk (.inl rfl)); replace HB := aM (hb); replace HI0 := aM (hi); (try clear hb); (try clear hk); (try clear hi)) | (go_at_call 45; (with_reducible refine (sR_reader_next.calls g s0_0 qK qL 0 0 qf qg qh w0 _ ?side1 ?side2 A38.out).mono ?_); (case side1 => repeat (first | (with_reducible first | exact HI0.out | apply I8.alloc | apply I8.drewN | apply I8.drew | apply I8.set_1 | apply I8.set_2) | exact HI0.out)); (case side2 => exact (zBv HB)); rintro e w40 ⟨rfl, hi, hb, hk⟩; replace HK := aM (KeepBut.trans (kS HK) hk (.inl rfl)); replace HB := aM (hb); replace HI0 := aM (hi); (try clear hb); (try clear hk); (try clear hi))); try go_wp2_with (first | (go_at_call 45; (with_reducible refine (sR_reader_next.calls g s0_0 s0_1 s0_2 0 0 qk qK qL w0 _ ?side1 ?side2 A37.out).mono ?_); (case side1 => repeat (first | (with_reducible first | exact HI0.out | apply I8.alloc | apply I8.drewN | apply I8.drew | apply I8.set_1 | apply I8.set_2) | exact HI0.out)); (case side2 => exact (zBv HB)); rintro e w39 ⟨rfl, hi, hb, hk⟩; replace HK := aM (KeepBut.trans (kS HK) hk (.inl rfl)); replace HB := aM (hb); replace HI0 := aM (hi); (try clear hb); (try clear hk); (try clear hi)) | (go_at_call 45; (with_reducible refine (sR_reader_next.calls g s0_0 qK qL 0 0 qf qg qh w0 _ ?side1 ?side2 A38.out).mono ?_); (case side1 => repeat (first | (with_reducible first | exact HI0.out | apply I8.alloc | apply I8.drewN | apply I8.drew | apply I8.set_1 | apply I8.set_2) | exact HI0.out)); (case side2 => exact (zBv HB)); rintro e w40 ⟨rfl, hi, hb, hk⟩; replace HK := aM (KeepBut.trans (kS HK) hk (.inl rfl)); replace HB := aM (hb); replace HI0 := aM (hi); (try clear hb); (try clear hk); (try clear hi))))
       go_ret
       exact ⟨zE, zSv HI0, zBv HB, zK HK⟩
end Go.Proofs.Ytccbdcbeinkjgaa.XA
end
