/- Part 5 of the proof of the law ProgCopies for every input: words, walks and plain laws. No condition. -/
import Derived.RangeFuncRecord
import Derived.DataReads
import Derived.ChangeArms
import Derived.SizedLaws
import Derived.WideShapes
import Derived.ChangeSlices
import Derived.Test.YtkknkdmdglncoaaDoorKProgCopies4
section
namespace Go.Proofs.YtkknkdmdglncoaaDoor.XA
open Go.RowKit Go.Proofs.YtkknkdmdglncoaaDoorW.PrintWords Go.Proofs.YtkknkdmdglncoaaDoorW.PrintLast Go.Proofs.YtkknkdmdglncoaaDoorW.PrintMore
attribute [local go_sem] max2_int min2_int max_two min_two max_three min_three max_four min_four   -- for this text's walks alone
set_option linter.unusedVariables false
set_option linter.unusedSimpArgs false

/-! ### swageref08_Copy: function 20 -/
def swageref08_Copy.f (a0_0 : Int) (a0_1 : Int) (l0_2 : List (S37)) (l0_3 : List Int) : Option (Int × Int × (List (S37)) × List Int) := if ([] : List (S37)).length + l0_2.length < 3518437208883 then (if ([] : List Int).length + l0_3.length < 17592186044416 then (some (a0_0, a0_1, (([] : List (S37)) ++ l0_2), (([] : List Int) ++ l0_3))) else (none)) else (none)
set_option maxHeartbeats 8000000 in
set_option maxRecDepth 100000 in
theorem swageref08_Copy.calls (a0_0 : Int) (a0_1 : Int) (A0_2 : Option Addr) (c0_2 : Nat) (l0_2 : List (S37)) (A0_3 : Option Addr) (c0_3 : Nat) (l0_3 : List Int) (r1 : Int) (r2 : Int) (r3 : List (S37)) (r4 : List Int) (w : World) (hr0_2 : Kd.C k37 w A0_2 l0_2.length l0_2) (hc0_2 : l0_2.length ≤ c0_2) (hr0_3 : Kd.C (Kd.int .i64) w A0_3 l0_3.length l0_3) (hc0_3 : l0_3.length ≤ c0_3) (h : swageref08_Copy.f a0_0 a0_1 l0_2 l0_3 = some (r1, r2, r3, r4)) :
    Calls Tryd.prog 20 #[.agg #[.int .i64 a0_0, .int .i64 a0_1, .slice A0_2 l0_2.length c0_2, .slice A0_3 l0_3.length c0_3]] w fun e w' => ∃ v2_ v3_ : Value, e = .returned (.agg #[.int .i64 r1, .int .i64 r2, v2_, v3_]) ∧ Kd.R k37 37 w' w.heap.size (fun _ => True) v2_ r3 ∧ Kd.R (Kd.int .i64) 3 w' w.heap.size (fun _ => True) v3_ r4 ∧ Below w.heap.size w w' := by
  have hu25 := Tryd.underlying25
  have HR0_2 := Aside0.mk hr0_2
  have HC0_2 := Aside0.mk hc0_2
  clear hr0_2 hc0_2
  have HR0_3 := Aside0.mk hr0_3
  have HC0_3 := Aside0.mk hc0_3
  clear hr0_3 hc0_3
  have HB := Aside0.mk (Below.refl w.heap.size w)
  have H : (if ([] : List (S37)).length + l0_2.length < 3518437208883 then (if ([] : List Int).length + l0_3.length < 17592186044416 then (some (a0_0, a0_1, (([] : List (S37)) ++ l0_2), (([] : List Int) ++ l0_3))) else (none)) else (none)) = some (r1, r2, r3, r4) := h
  clear h
  by_cases c2 : ([] : List (S37)).length + l0_2.length < 3518437208883
  · rw [if_pos c2] at H
    have LMc2 := Aside0.mk c2
    clear c2
    obtain ⟨y187, hy187⟩ : ∃ y_ : List (S37), y_ = (([] : List (S37)) ++ l0_2) := ⟨_, rfl⟩
    replace H : (if ([] : List Int).length + l0_3.length < 17592186044416 then (some (a0_0, a0_1, y187, (([] : List Int) ++ l0_3))) else (none)) = some (r1, r2, r3, r4) := by first | (rw [hy187]; with_reducible exact H) | (have H2_ := (Option.bind_some _ _).symm.trans H; rw [hy187]; with_reducible exact H2_) | (have H2_ := (Option.bind_some _ _).symm.trans H; with_reducible exact H2_) | with_reducible exact H | (rw [hy187]; exact H) | exact H
    have Ny187 := Aside0.mk hy187
    clear hy187
    by_cases c3 : ([] : List Int).length + l0_3.length < 17592186044416
    · rw [if_pos c3] at H
      have LMc3 := Aside0.mk c3
      clear c3
      obtain ⟨y190, hy190⟩ : ∃ y_ : List Int, y_ = (([] : List Int) ++ l0_3) := ⟨_, rfl⟩
      replace H : (some (a0_0, a0_1, y187, y190)) = some (r1, r2, r3, r4) := by first | (rw [hy190]; with_reducible exact H) | (have H2_ := (Option.bind_some _ _).symm.trans H; rw [hy190]; with_reducible exact H2_) | (have H2_ := (Option.bind_some _ _).symm.trans H; with_reducible exact H2_) | with_reducible exact H | (rw [hy190]; exact H) | exact H
      have Ny190 := Aside0.mk hy190
      clear hy190
      simp only [Option.some.injEq, Prod.mk.injEq] at H
      obtain ⟨rfl, rfl, rfl, rfl⟩ := H
      go_enter Tryd.func20, Tryd.ntmps20
      go_wp2_with (first | ((with_reducible refine gate_dst (N := 1) rfl ?_); refine box_event ?hg (N := 1) ?hd (cs := #[.int .i64 a0_0, .int .i64 a0_1, .slice A0_2 l0_2.length c0_2, .slice A0_3 l0_3.length c0_3]) (t := 25) ?hr ?_; (case hd => rfl); (case hg => rfl); (case hr => first | (go_simp; done) | (go_simp; rfl)); intro gb184 hg w4 hbox hb; have n0_ := Aside0.mk (below_step (by repeat (first | (with_reducible first | exact HB.out | apply below_alloc | apply pw_below_drewN | apply below_drew1) | exact HB.out)) hb); have n1_ := Aside0.mk (hbox); have n2_ := Aside0.mk ((by rw [hg]; exact (below_size (by repeat (first | (with_reducible first | exact HB.out | apply below_alloc | apply pw_below_drewN | apply below_drew1) | exact HB.out))) : w.heap.size ≤ gb184)); have n3_ := Aside0.mk ((by rw [hg]; exact (below_size (by repeat (first | (with_reducible first | exact HB.out | apply below_alloc | apply pw_below_drewN | apply below_drew1) | exact HB.out))) : w.heap.size ≤ gb184)); clear HB; have HB := n0_; have BK184 := n1_; have GW184 := n2_; have GE184 := n3_; clear n0_ n1_ n2_ n3_; clear hb hbox hg) | ((with_reducible refine gate_dst (N := 2) rfl ?_); refine box_event ?hg (N := 2) ?hd (cs := #[.int .i64 0, .int .i64 0, .slice none 0 0, .slice none 0 0]) (t := 25) ?hr ?_; (case hd => rfl); (case hg => rfl); (case hr => first | (go_simp; done) | (go_simp; rfl)); intro gb185 hg w5 hbox hb; have n0_ := Aside0.mk (blk_below (g := gb184) (o := .cells #[.int .i64 a0_0, .int .i64 a0_1, .slice A0_2 l0_2.length c0_2, .slice A0_3 l0_3.length c0_3] 25 (0, 0)) (by (with_reducible repeat (first | refine blk_drewN ?_ _ | refine blk_drew ?_ | refine blk_alloc ?_ _)); exact BK184.out) hb); have n1_ := Aside0.mk (below_step (by repeat (first | (with_reducible first | exact HB.out | apply below_alloc | apply pw_below_drewN | apply below_drew1 | refine below_set ?_ GE184.out) | exact HB.out)) hb); have n2_ := Aside0.mk (hbox); have n3_ := Aside0.mk ((by rw [hg]; exact (below_size (by repeat (first | (with_reducible first | exact HB.out | apply below_alloc | apply pw_below_drewN | apply below_drew1 | refine below_set ?_ GE184.out) | exact HB.out))) : w.heap.size ≤ gb185)); have n4_ := Aside0.mk ((by rw [hg]; exact (below_size (by repeat (first | (with_reducible first | exact HB.out | apply below_alloc | apply pw_below_drewN | apply below_drew1 | refine below_set ?_ GE184.out) | exact HB.out))) : w.heap.size ≤ gb185)); have n5_ := Aside0.mk ((by rw [hg]; exact Nat.ne_of_lt (blk_lt (g := gb184) (o := .cells #[.int .i64 a0_0, .int .i64 a0_1, .slice A0_2 l0_2.length c0_2, .slice A0_3 l0_3.length c0_3] 25 (0, 0)) (by (with_reducible repeat (first | refine blk_drewN ?_ _ | refine blk_drew ?_ | refine blk_alloc ?_ _)); exact BK184.out)) : gb184 ≠ gb185)); have n6_ := Aside0.mk ((by rw [hg]; exact Nat.ne_of_gt (blk_lt (g := gb184) (o := .cells #[.int .i64 a0_0, .int .i64 a0_1, .slice A0_2 l0_2.length c0_2, .slice A0_3 l0_3.length c0_3] 25 (0, 0)) (by (with_reducible repeat (first | refine blk_drewN ?_ _ | refine blk_drew ?_ | refine blk_alloc ?_ _)); exact BK184.out)) : gb185 ≠ gb184)); clear BK184; clear HB; have BK184 := n0_; have HB := n1_; have BK185 := n2_; have GW185 := n3_; have GE185 := n4_; have NB184_185 := n5_; have NB185_184 := n6_; clear n0_ n1_ n2_ n3_ n4_ n5_ n6_; clear hb hbox hg; have hnb6 := NB184_185.out; have hnc6 := NB185_184.out; have hcz7_0 : w5.cell? ⟨gb184, 0, none⟩ = some (.int .i64 a0_0) := (blk_cell BK184.out 0).trans rfl; have hcz7_1 : w5.cell? ⟨gb184, 1, none⟩ = some (.int .i64 a0_1) := (blk_cell BK184.out 1).trans rfl; have hcz7_2 : w5.cell? ⟨gb184, 2, none⟩ = some (.slice A0_2 l0_2.length c0_2) := (blk_cell BK184.out 2).trans rfl; have hcz7_3 : w5.cell? ⟨gb184, 3, none⟩ = some (.slice A0_3 l0_3.length c0_3) := (blk_cell BK184.out 3).trans rfl; have hfz7_0 := blk_frozen BK184.out 0; have hfz7_1 := blk_frozen BK184.out 1; have hfz7_2 := blk_frozen BK184.out 2; have hfz7_3 := blk_frozen BK184.out 3) | ((with_reducible refine gate_dst (N := 3) rfl ?_); refine box_event ?hg (N := 3) ?hd (cs := #[.int .i64 0, .int .i64 0, .slice none 0 0, .slice none 0 0]) (t := 25) ?hr ?_; (case hd => rfl); (case hg => rfl); (case hr => first | (go_simp; done) | (go_simp; rfl)); intro gb186 hg w8 hbox hb; have n0_ := Aside0.mk (blk_below (g := gb184) (o := .cells #[.int .i64 a0_0, .int .i64 a0_1, .slice A0_2 l0_2.length c0_2, .slice A0_3 l0_3.length c0_3] 25 (0, 0)) (by (with_reducible repeat (first | refine blk_drewN ?_ _ | refine blk_drew ?_ | refine blk_alloc ?_ _)); exact BK184.out) hb); have n1_ := Aside0.mk (blk_below (g := gb185) (o := .cells #[.int .i64 0, .int .i64 0, .slice none 0 0, .slice none 0 0] 25 (0, 0)) (by (with_reducible repeat (first | refine blk_drewN ?_ _ | refine blk_drew ?_ | refine blk_alloc ?_ _)); exact BK185.out) hb); have n2_ := Aside0.mk (below_step (by repeat (first | (with_reducible first | exact HB.out | apply below_alloc | apply pw_below_drewN | apply below_drew1 | refine below_set ?_ GE184.out | refine below_set ?_ GE185.out) | exact HB.out)) hb); have n3_ := Aside0.mk (hbox); have n4_ := Aside0.mk ((by rw [hg]; exact (below_size (by repeat (first | (with_reducible first | exact HB.out | apply below_alloc | apply pw_below_drewN | apply below_drew1 | refine below_set ?_ GE184.out | refine below_set ?_ GE185.out) | exact HB.out))) : w.heap.size ≤ gb186)); have n5_ := Aside0.mk ((by rw [hg]; exact (below_size (by repeat (first | (with_reducible first | exact HB.out | apply below_alloc | apply pw_below_drewN | apply below_drew1 | refine below_set ?_ GE184.out | refine below_set ?_ GE185.out) | exact HB.out))) : w.heap.size ≤ gb186)); have n6_ := Aside0.mk ((by rw [hg]; exact Nat.ne_of_lt (blk_lt (g := gb184) (o := .cells #[.int .i64 a0_0, .int .i64 a0_1, .slice A0_2 l0_2.length c0_2, .slice A0_3 l0_3.length c0_3] 25 (0, 0)) (by (with_reducible repeat (first | refine blk_drewN ?_ _ | refine blk_drew ?_ | refine blk_alloc ?_ _)); exact BK184.out)) : gb184 ≠ gb186)); have n7_ := Aside0.mk ((by rw [hg]; exact Nat.ne_of_gt (blk_lt (g := gb184) (o := .cells #[.int .i64 a0_0, .int .i64 a0_1, .slice A0_2 l0_2.length c0_2, .slice A0_3 l0_3.length c0_3] 25 (0, 0)) (by (with_reducible repeat (first | refine blk_drewN ?_ _ | refine blk_drew ?_ | refine blk_alloc ?_ _)); exact BK184.out)) : gb186 ≠ gb184)); have n8_ := Aside0.mk ((by rw [hg]; exact Nat.ne_of_lt (blk_lt (g := gb185) (o := .cells #[.int .i64 0, .int .i64 0, .slice none 0 0, .slice none 0 0] 25 (0, 0)) (by (with_reducible repeat (first | refine blk_drewN ?_ _ | refine blk_drew ?_ | refine blk_alloc ?_ _)); exact BK185.out)) : gb185 ≠ gb186)); have n9_ := Aside0.mk ((by rw [hg]; exact Nat.ne_of_gt (blk_lt (g := gb185) (o := .cells #[.int .i64 0, .int .i64 0, .slice none 0 0, .slice none 0 0] 25 (0, 0)) (by (with_reducible repeat (first | refine blk_drewN ?_ _ | refine blk_drew ?_ | refine blk_alloc ?_ _)); exact BK185.out)) : gb186 ≠ gb185)); clear BK184; clear BK185; clear HB; have BK184 := n0_; have BK185 := n1_; have HB := n2_; have BK186 := n3_; have GW186 := n4_; have GE186 := n5_; have NB184_186 := n6_; have NB186_184 := n7_; have NB185_186 := n8_; have NB186_185 := n9_; clear n0_ n1_ n2_ n3_ n4_ n5_ n6_ n7_ n8_ n9_; clear hb hbox hg; have hnb9 := NB186_184.out; have hnc9 := NB184_186.out; have hnb10 := NB186_185.out; have hnc10 := NB185_186.out; have hcz11_0 : w8.cell? ⟨gb186, 0, none⟩ = some (.int .i64 0) := (blk_cell BK186.out 0).trans rfl; have hcz11_1 : w8.cell? ⟨gb186, 1, none⟩ = some (.int .i64 0) := (blk_cell BK186.out 1).trans rfl; have hcz11_2 : w8.cell? ⟨gb186, 2, none⟩ = some (.slice none 0 0) := (blk_cell BK186.out 2).trans rfl; have hcz11_3 : w8.cell? ⟨gb186, 3, none⟩ = some (.slice none 0 0) := (blk_cell BK186.out 3).trans rfl; have hfz11_0 := blk_frozen BK186.out 0; have hfz11_1 := blk_frozen BK186.out 1; have hfz11_2 := blk_frozen BK186.out 2; have hfz11_3 := blk_frozen BK186.out 3; have hcz12_0 : w8.cell? ⟨gb184, 0, none⟩ = some (.int .i64 a0_0) := (blk_cell BK184.out 0).trans rfl; have hcz12_1 : w8.cell? ⟨gb184, 1, none⟩ = some (.int .i64 a0_1) := (blk_cell BK184.out 1).trans rfl; have hcz12_2 : w8.cell? ⟨gb184, 2, none⟩ = some (.slice A0_2 l0_2.length c0_2) := (blk_cell BK184.out 2).trans rfl; have hcz12_3 : w8.cell? ⟨gb184, 3, none⟩ = some (.slice A0_3 l0_3.length c0_3) := (blk_cell BK184.out 3).trans rfl; have hfz12_0 := blk_frozen BK184.out 0; have hfz12_1 := blk_frozen BK184.out 1; have hfz12_2 := blk_frozen BK184.out 2; have hfz12_3 := blk_frozen BK184.out 3) | ((with_reducible refine gate_builtin (b := .append) (xs := #[.tmp 10, .tmp 12]) rfl ?_); at_builtin; refine Kd.R_append_rows k37 (w0 := w) w.heap.size rfl (.tmp 10) (.tmp 12) 22 37 (.agg #[(.int .i64 0), (.int .i64 0), (.int .i64 0), (.int .i64 0), (.int .i64 0)]) 40 rfl Tryd.underlying22 info37 rfl (by decide) (by omega) (.slice none 0 0) ([] : List (S37)) l0_2 _ _ _ (fun _ => True) (fun _ => False) rfl rfl ?aO ?aR (fun _ _ h => h) (fun _ h => h.elim) ?aF ?aB ?aS ?aL ?_; (case aR => exact Kd.C_below HR0_2.out (by repeat (first | (with_reducible first | exact HB.out | apply below_alloc | apply pw_below_drewN | apply below_drew1 | refine below_set ?_ GE184.out | refine below_set ?_ GE185.out | refine below_set ?_ GE186.out) | exact HB.out))); (case aB => exact (by repeat (first | (with_reducible first | exact HB.out | apply below_alloc | apply pw_below_drewN | apply below_drew1 | refine below_set ?_ GE184.out | refine below_set ?_ GE185.out | refine below_set ?_ GE186.out) | exact HB.out))); (case aF => exact (fun _ _ => trivial)); (case aO => exact ((Kd.R_nil _ _ _ _ (fun _ => True)))); (case aS => exact (below_size (by repeat (first | (with_reducible first | exact HB.out | apply below_alloc | apply pw_below_drewN | apply below_drew1 | refine below_set ?_ GE184.out | refine below_set ?_ GE185.out | refine below_set ?_ GE186.out) | exact HB.out)))); (case aL => have := LMc2.out; omega); intro v188 w13 ho hb hg hat; rw [← Ny187.out] at ho; have n0_ := Aside0.mk (blk_grown (g := gb184) (o := .cells #[.int .i64 a0_0, .int .i64 a0_1, .slice A0_2 l0_2.length c0_2, .slice A0_3 l0_3.length c0_3] 25 (0, 0)) (by (with_reducible repeat (first | refine blk_drewN ?_ _ | refine blk_drew ?_ | refine blk_alloc ?_ _)); refine blk_far ?_ NB184_186.out _; (with_reducible repeat (first | refine blk_drewN ?_ _ | refine blk_drew ?_ | refine blk_alloc ?_ _)); refine blk_far ?_ NB184_186.out _; (with_reducible repeat (first | refine blk_drewN ?_ _ | refine blk_drew ?_ | refine blk_alloc ?_ _)); refine blk_far ?_ NB184_186.out _; (with_reducible repeat (first | refine blk_drewN ?_ _ | refine blk_drew ?_ | refine blk_alloc ?_ _)); refine blk_far ?_ NB184_186.out _; (with_reducible repeat (first | refine blk_drewN ?_ _ | refine blk_drew ?_ | refine blk_alloc ?_ _)); exact BK184.out) hg (by simp [Value.ownBlock])); have n1_ := Aside0.mk (blk_grown (g := gb185) (o := .cells #[.int .i64 0, .int .i64 0, .slice none 0 0, .slice none 0 0] 25 (0, 0)) (by (with_reducible repeat (first | refine blk_drewN ?_ _ | refine blk_drew ?_ | refine blk_alloc ?_ _)); refine blk_far ?_ NB185_186.out _; (with_reducible repeat (first | refine blk_drewN ?_ _ | refine blk_drew ?_ | refine blk_alloc ?_ _)); refine blk_far ?_ NB185_186.out _; (with_reducible repeat (first | refine blk_drewN ?_ _ | refine blk_drew ?_ | refine blk_alloc ?_ _)); refine blk_far ?_ NB185_186.out _; (with_reducible repeat (first | refine blk_drewN ?_ _ | refine blk_drew ?_ | refine blk_alloc ?_ _)); refine blk_far ?_ NB185_186.out _; (with_reducible repeat (first | refine blk_drewN ?_ _ | refine blk_drew ?_ | refine blk_alloc ?_ _)); exact BK185.out) hg (by simp [Value.ownBlock])); have n2_ := Aside0.mk (blk_grown (g := gb186) (o := .cells #[.int .i64 a0_0, .int .i64 a0_1, .slice none 0 0, .slice none 0 0] 25 (0, 0)) (by (with_reducible repeat (first | refine blk_drewN ?_ _ | refine blk_drew ?_ | refine blk_alloc ?_ _)); refine blk_put (cs := #[.int .i64 a0_0, .int .i64 a0_1, .slice none 0 0, .slice none 0 0]) ?_ 3 _ rfl; (with_reducible repeat (first | refine blk_drewN ?_ _ | refine blk_drew ?_ | refine blk_alloc ?_ _)); refine blk_put (cs := #[.int .i64 a0_0, .int .i64 a0_1, .slice none 0 0, .slice none 0 0]) ?_ 2 _ rfl; (with_reducible repeat (first | refine blk_drewN ?_ _ | refine blk_drew ?_ | refine blk_alloc ?_ _)); refine blk_put (cs := #[.int .i64 a0_0, .int .i64 0, .slice none 0 0, .slice none 0 0]) ?_ 1 _ rfl; (with_reducible repeat (first | refine blk_drewN ?_ _ | refine blk_drew ?_ | refine blk_alloc ?_ _)); refine blk_put (cs := #[.int .i64 0, .int .i64 0, .slice none 0 0, .slice none 0 0]) ?_ 0 _ rfl; (with_reducible repeat (first | refine blk_drewN ?_ _ | refine blk_drew ?_ | refine blk_alloc ?_ _)); exact BK186.out) hg (by simp [Value.ownBlock])); have n3_ := Aside0.mk (hb); have n4_ := Aside0.mk (ho); clear BK184; clear BK185; clear BK186; clear HB; have BK184 := n0_; have BK185 := n1_; have BK186 := n2_; have HB := n3_; have HO189 := n4_; clear n0_ n1_ n2_ n3_ n4_; clear ho hb hg hat; obtain ⟨Ao14, co14, eo14⟩ := Kd.R_slice HO189.out; subst eo14; have hcz15_0 : w13.cell? ⟨gb186, 0, none⟩ = some (.int .i64 a0_0) := (blk_cell BK186.out 0).trans rfl; have hcz15_1 : w13.cell? ⟨gb186, 1, none⟩ = some (.int .i64 a0_1) := (blk_cell BK186.out 1).trans rfl; have hcz15_2 : w13.cell? ⟨gb186, 2, none⟩ = some (.slice none 0 0) := (blk_cell BK186.out 2).trans rfl; have hcz15_3 : w13.cell? ⟨gb186, 3, none⟩ = some (.slice none 0 0) := (blk_cell BK186.out 3).trans rfl; have hfz15_0 := blk_frozen BK186.out 0; have hfz15_1 := blk_frozen BK186.out 1; have hfz15_2 := blk_frozen BK186.out 2; have hfz15_3 := blk_frozen BK186.out 3; have hcz16_0 : w13.cell? ⟨gb184, 0, none⟩ = some (.int .i64 a0_0) := (blk_cell BK184.out 0).trans rfl; have hcz16_1 : w13.cell? ⟨gb184, 1, none⟩ = some (.int .i64 a0_1) := (blk_cell BK184.out 1).trans rfl; have hcz16_2 : w13.cell? ⟨gb184, 2, none⟩ = some (.slice A0_2 l0_2.length c0_2) := (blk_cell BK184.out 2).trans rfl; have hcz16_3 : w13.cell? ⟨gb184, 3, none⟩ = some (.slice A0_3 l0_3.length c0_3) := (blk_cell BK184.out 3).trans rfl; have hfz16_0 := blk_frozen BK184.out 0; have hfz16_1 := blk_frozen BK184.out 1; have hfz16_2 := blk_frozen BK184.out 2; have hfz16_3 := blk_frozen BK184.out 3) | ((with_reducible refine gate_builtin (b := .append) (xs := #[.tmp 16, .tmp 18]) rfl ?_); at_builtin; refine Kd.R_append_rows (Kd.int .i64) (w0 := w) w.heap.size rfl (.tmp 16) (.tmp 18) 23 3 (.int .i64 0) 8 rfl Tryd.underlying23 info3 rfl (by decide) (by omega) (.slice none 0 0) ([] : List Int) l0_3 _ _ _ (fun _ => True) (fun _ => False) rfl rfl ?aO ?aR (fun _ _ h => h) (fun _ h => h.elim) ?aF ?aB ?aS ?aL ?_; (case aR => exact Kd.C_below HR0_3.out (by repeat (first | (with_reducible first | exact HB.out | apply below_alloc | apply pw_below_drewN | apply below_drew1 | refine below_set ?_ GE184.out | refine below_set ?_ GE185.out | refine below_set ?_ GE186.out) | exact HB.out))); (case aB => exact (by repeat (first | (with_reducible first | exact HB.out | apply below_alloc | apply pw_below_drewN | apply below_drew1 | refine below_set ?_ GE184.out | refine below_set ?_ GE185.out | refine below_set ?_ GE186.out) | exact HB.out))); (case aF => exact (fun _ _ => trivial)); (case aO => exact ((Kd.R_nil _ _ _ _ (fun _ => True)))); (case aS => exact (below_size (by repeat (first | (with_reducible first | exact HB.out | apply below_alloc | apply pw_below_drewN | apply below_drew1 | refine below_set ?_ GE184.out | refine below_set ?_ GE185.out | refine below_set ?_ GE186.out) | exact HB.out)))); (case aL => have := LMc3.out; omega); intro v191 w17 ho hb hg hat; rw [← Ny190.out] at ho; have n0_ := Aside0.mk (blk_grown (g := gb184) (o := .cells #[.int .i64 a0_0, .int .i64 a0_1, .slice A0_2 l0_2.length c0_2, .slice A0_3 l0_3.length c0_3] 25 (0, 0)) (by (with_reducible repeat (first | refine blk_drewN ?_ _ | refine blk_drew ?_ | refine blk_alloc ?_ _)); refine blk_far ?_ NB184_186.out _; (with_reducible repeat (first | refine blk_drewN ?_ _ | refine blk_drew ?_ | refine blk_alloc ?_ _)); exact BK184.out) hg (by simp [Value.ownBlock])); have n1_ := Aside0.mk (blk_grown (g := gb185) (o := .cells #[.int .i64 0, .int .i64 0, .slice none 0 0, .slice none 0 0] 25 (0, 0)) (by (with_reducible repeat (first | refine blk_drewN ?_ _ | refine blk_drew ?_ | refine blk_alloc ?_ _)); refine blk_far ?_ NB185_186.out _; (with_reducible repeat (first | refine blk_drewN ?_ _ | refine blk_drew ?_ | refine blk_alloc ?_ _)); exact BK185.out) hg (by simp [Value.ownBlock])); have n2_ := Aside0.mk (blk_grown (g := gb186) (o := .cells #[.int .i64 a0_0, .int .i64 a0_1, .slice Ao14 y187.length co14, .slice none 0 0] 25 (0, 0)) (by (with_reducible repeat (first | refine blk_drewN ?_ _ | refine blk_drew ?_ | refine blk_alloc ?_ _)); refine blk_put (cs := #[.int .i64 a0_0, .int .i64 a0_1, .slice none 0 0, .slice none 0 0]) ?_ 2 _ rfl; (with_reducible repeat (first | refine blk_drewN ?_ _ | refine blk_drew ?_ | refine blk_alloc ?_ _)); exact BK186.out) hg (by simp [Value.ownBlock])); have n3_ := Aside0.mk (Kd.R_grown (by (with_reducible repeat (first | apply Kd.R_alloc | apply Kd.R_drewN | apply Kd.R_drew)); exact (Kd.R_mono (Kd.R_far (p := ⟨gb186, 2, none⟩) (Kd.R_types HO189.out BK186.out (by decide)) (fun _ hk => hk.2) (.slice Ao14 y187.length co14)) (fun _ h_ => h_.1))) hg (fun _ _ => by simp [Value.ownBlock])); have n4_ := Aside0.mk (hb); have n5_ := Aside0.mk (ho); clear BK184; clear BK185; clear BK186; clear HO189; clear HB; have BK184 := n0_; have BK185 := n1_; have BK186 := n2_; have HO189 := n3_; have HB := n4_; have HO192 := n5_; clear n0_ n1_ n2_ n3_ n4_ n5_; clear ho hb hg hat; obtain ⟨Ao18, co18, eo18⟩ := Kd.R_slice HO192.out; subst eo18; have hcz19_0 : w17.cell? ⟨gb186, 0, none⟩ = some (.int .i64 a0_0) := (blk_cell BK186.out 0).trans rfl; have hcz19_1 : w17.cell? ⟨gb186, 1, none⟩ = some (.int .i64 a0_1) := (blk_cell BK186.out 1).trans rfl; have hcz19_2 : w17.cell? ⟨gb186, 2, none⟩ = some (.slice Ao14 y187.length co14) := (blk_cell BK186.out 2).trans rfl; have hcz19_3 : w17.cell? ⟨gb186, 3, none⟩ = some (.slice none 0 0) := (blk_cell BK186.out 3).trans rfl; have hfz19_0 := blk_frozen BK186.out 0; have hfz19_1 := blk_frozen BK186.out 1; have hfz19_2 := blk_frozen BK186.out 2; have hfz19_3 := blk_frozen BK186.out 3; have hcz20_0 : w17.cell? ⟨gb185, 0, none⟩ = some (.int .i64 0) := (blk_cell BK185.out 0).trans rfl; have hcz20_1 : w17.cell? ⟨gb185, 1, none⟩ = some (.int .i64 0) := (blk_cell BK185.out 1).trans rfl; have hcz20_2 : w17.cell? ⟨gb185, 2, none⟩ = some (.slice none 0 0) := (blk_cell BK185.out 2).trans rfl; have hcz20_3 : w17.cell? ⟨gb185, 3, none⟩ = some (.slice none 0 0) := (blk_cell BK185.out 3).trans rfl; have hfz20_0 := blk_frozen BK185.out 0; have hfz20_1 := blk_frozen BK185.out 1; have hfz20_2 := blk_frozen BK185.out 2; have hfz20_3 := blk_frozen BK185.out 3))
      refine bodyPost_ret (results_cell_row rfl _ _ gb185 25 #[.int .i64 a0_0, .int .i64 a0_1, .slice Ao14 y187.length co14, .slice Ao18 y190.length co18] (0, 0) _ rfl (by (with_reducible repeat (first | refine blk_drewN ?_ _ | refine blk_drew ?_ | refine blk_alloc ?_ _)); refine blk_put (cs := #[.int .i64 a0_0, .int .i64 a0_1, .slice Ao14 y187.length co14, .slice none 0 0]) ?_ 3 _ rfl; (with_reducible repeat (first | refine blk_drewN ?_ _ | refine blk_drew ?_ | refine blk_alloc ?_ _)); refine blk_put (cs := #[.int .i64 a0_0, .int .i64 a0_1, .slice none 0 0, .slice none 0 0]) ?_ 2 _ rfl; (with_reducible repeat (first | refine blk_drewN ?_ _ | refine blk_drew ?_ | refine blk_alloc ?_ _)); refine blk_put (cs := #[.int .i64 a0_0, .int .i64 0, .slice none 0 0, .slice none 0 0]) ?_ 1 _ rfl; (with_reducible repeat (first | refine blk_drewN ?_ _ | refine blk_drew ?_ | refine blk_alloc ?_ _)); refine blk_put (cs := #[.int .i64 0, .int .i64 0, .slice none 0 0, .slice none 0 0]) ?_ 0 _ rfl; (with_reducible repeat (first | refine blk_drewN ?_ _ | refine blk_drew ?_ | refine blk_alloc ?_ _)); refine blk_far ?_ NB185_186.out _; (with_reducible repeat (first | refine blk_drewN ?_ _ | refine blk_drew ?_ | refine blk_alloc ?_ _)); exact BK185.out) Tryd.underlying25 rfl (by kernel_rfl)) rfl ?_
      exact ⟨_, _, by first | rfl | (simp [errW_none, errW_some] <;> rfl) | (simp [*, errW_none, errW_some] <;> rfl), by (with_reducible repeat (first | apply Kd.R_alloc | apply Kd.R_drewN | apply Kd.R_drew)); exact Kd.R_mono (Kd.R_far (p := ⟨gb185, 3, none⟩) (Kd.R_far (p := ⟨gb185, 2, none⟩) (Kd.R_far (p := ⟨gb185, 1, none⟩) (Kd.R_far (p := ⟨gb185, 0, none⟩) (Kd.R_far (p := ⟨gb186, 3, none⟩) (Kd.R_types (Kd.R_types HO189.out BK186.out (by decide)) BK185.out (by decide)) (fun _ hk => hk.1.2) (.slice Ao18 y190.length co18)) (fun _ hk => hk.2) (.int .i64 a0_0)) (fun _ hk => hk.2) (.int .i64 a0_1)) (fun _ hk => hk.2) (.slice Ao14 y187.length co14)) (fun _ hk => hk.2) (.slice Ao18 y190.length co18)) (fun _ hk => trivial), by (with_reducible repeat (first | apply Kd.R_alloc | apply Kd.R_drewN | apply Kd.R_drew)); exact Kd.R_mono (Kd.R_far (p := ⟨gb185, 3, none⟩) (Kd.R_far (p := ⟨gb185, 2, none⟩) (Kd.R_far (p := ⟨gb185, 1, none⟩) (Kd.R_far (p := ⟨gb185, 0, none⟩) (Kd.R_far (p := ⟨gb186, 3, none⟩) (Kd.R_types (Kd.R_types HO192.out BK186.out (by decide)) BK185.out (by decide)) (fun _ hk => hk.1.2) (.slice Ao18 y190.length co18)) (fun _ hk => hk.2) (.int .i64 a0_0)) (fun _ hk => hk.2) (.int .i64 a0_1)) (fun _ hk => hk.2) (.slice Ao14 y187.length co14)) (fun _ hk => hk.2) (.slice Ao18 y190.length co18)) (fun _ hk => trivial), by repeat (first | (with_reducible first | exact HB.out | apply below_alloc | apply pw_below_drewN | apply below_drew1 | refine below_set ?_ GE184.out | refine below_set ?_ GE185.out | refine below_set ?_ GE186.out) | exact HB.out)⟩
    · rw [if_neg c3] at H
      exact absurd H (by simp)
  · rw [if_neg c2] at H
    exact absurd H (by simp)

end Go.Proofs.YtkknkdmdglncoaaDoor.XA
end

section
namespace Go.Proofs.YtkknkdmdglncoaaDoor.XA
open Go.RowKit Go.Proofs.YtkknkdmdglncoaaDoorW.PrintWords Go.Proofs.YtkknkdmdglncoaaDoorW.PrintLast Go.Proofs.YtkknkdmdglncoaaDoorW.PrintMore
attribute [local go_sem] max2_int min2_int max_two min_two max_three min_three max_four min_four   -- for this text's walks alone
set_option linter.unusedVariables false
set_option linter.unusedSimpArgs false

/-! ### api_Instr_41: function 41 -/
def api_Instr_41.f (l0 : List (S37)) : Option ((List (S37))) := (some (([] : List (S37)) : List (S37))).bind fun y193 => (if y193.length + l0.length < 3518437208883 then (some (y193 ++ l0)) else (none))
set_option maxHeartbeats 8000000 in
set_option maxRecDepth 100000 in
theorem api_Instr_41.calls (A0 : Option Addr) (c0 : Nat) (l0 : List (S37)) (r : List (S37)) (w : World) (hr0 : Kd.C k37 w A0 l0.length l0) (hc0 : l0.length ≤ c0) (h : api_Instr_41.f l0 = some r) :
    Calls Tryd.prog 41 #[.slice A0 l0.length c0] w fun e w' => ∃ v0_ : Value, e = .returned (v0_) ∧ Kd.R k37 37 w' w.heap.size (fun _ => True) v0_ r ∧ Below w.heap.size w w' := by
  rcases A0 with _ | a0
  · obtain rfl : l0 = [] := by
      rcases l0 with _ | ⟨x_, l_⟩
      · rfl
      · obtain ⟨_, e_, _⟩ := hr0.2.2 (by simp)
        cases e_
    obtain rfl : r = [] := by simpa [api_Instr_41.f] using h.symm
    have hnil_ := fun W => Lib.run_eql_slice_nil (P := Tryd.prog) W 22 37 none 0 c0 0 0 Tryd.underlying22
    go_enter Tryd.func41, Tryd.ntmps41
    go_wp2
    go_ret
    exact ⟨_, rfl, Kd.R_nil _ _ _ _ _, Below.refl _ _⟩
  · skip
    have HR0 := Aside0.mk hr0
    have HC0 := Aside0.mk hc0
    clear hr0 hc0
    have HB := Aside0.mk (Below.refl w.heap.size w)
    have H : ((some (([] : List (S37)) : List (S37))).bind fun y193 => (if y193.length + l0.length < 3518437208883 then (some (y193 ++ l0)) else (none))) = some r := h
    clear h
    obtain ⟨y193, hy193⟩ : ∃ y_ : List (S37), y_ = (([] : List (S37))) := ⟨_, rfl⟩
    replace H : (if y193.length + l0.length < 3518437208883 then (some (y193 ++ l0)) else (none)) = some r := by first | (rw [hy193]; with_reducible exact H) | (have H2_ := (Option.bind_some _ _).symm.trans H; rw [hy193]; with_reducible exact H2_) | (have H2_ := (Option.bind_some _ _).symm.trans H; with_reducible exact H2_) | with_reducible exact H | (rw [hy193]; exact H) | exact H
    have Ny193 := Aside0.mk hy193
    clear hy193
    by_cases c2 : y193.length + l0.length < 3518437208883
    · rw [if_pos c2] at H
      have LMc2 := Aside0.mk c2
      clear c2
      obtain ⟨y196, hy196⟩ : ∃ y_ : List (S37), y_ = (y193 ++ l0) := ⟨_, rfl⟩
      replace H : (some y196) = some r := by first | (rw [hy196]; with_reducible exact H) | (have H2_ := (Option.bind_some _ _).symm.trans H; rw [hy196]; with_reducible exact H2_) | (have H2_ := (Option.bind_some _ _).symm.trans H; with_reducible exact H2_) | with_reducible exact H | (rw [hy196]; exact H) | exact H
      have Ny196 := Aside0.mk hy196
      clear hy196
      obtain rfl := Option.some.inj H
      have hnil_ := fun W => Lib.run_eql_slice_nil (P := Tryd.prog) W 22 37 (some a0) l0.length c0 0 0 Tryd.underlying22
      go_enter Tryd.func41, Tryd.ntmps41
      go_wp2_with (first | ((with_reducible refine gate_dst (N := 5) rfl ?_); refine Kd.R_lit k37 _ 37 ?hg (N := 5) ?hd (xs := ([] : List (S37))) (inner := []) (ok := fun _ => True) (okp := fun _ => True) ?hr ?hp (fun _ hk => hk) trivial (Below.refl _ _) (Nat.le_refl _) (by simp) ?_; (case hd => rfl); (case hg => rfl); (case hr => first | (go_simp; done) | (go_simp; rfl)); (case hp => exact (Reps.none _ _)); intro v194 w3 ho4 hb hg_ hnew_; clear hg_ hnew_; (first | rw [← Ny193.out] at ho4 | (simp only [Int.reduceToNat] at ho4; rw [← Ny193.out] at ho4)); have n0_ := Aside0.mk (Kd.R_lower ho4 (below_size (by repeat (first | (with_reducible first | exact HB.out | apply below_alloc | apply pw_below_drewN | apply below_drew1) | exact HB.out)))); have n1_ := Aside0.mk (below_step (by repeat (first | (with_reducible first | exact HB.out | apply below_alloc | apply pw_below_drewN | apply below_drew1) | exact HB.out)) hb); clear HB; have HO195 := n0_; have HB := n1_; clear n0_ n1_; clear hb ho4) | ((with_reducible refine gate_builtin (b := .append) (xs := #[.tmp 5, .tmp 6]) rfl ?_); at_builtin; refine Kd.R_append_rows k37 (w0 := w) w.heap.size rfl (.tmp 5) (.tmp 6) 22 37 (.agg #[(.int .i64 0), (.int .i64 0), (.int .i64 0), (.int .i64 0), (.int .i64 0)]) 40 rfl Tryd.underlying22 info37 rfl (by decide) (by omega) v194 y193 l0 _ _ _ (fun _ => True) (fun _ => False) rfl rfl ?aO ?aR (fun _ _ h => h) (fun _ h => h.elim) ?aF ?aB ?aS ?aL ?_; (case aR => repeat (first | exact (Kd.C_below HR0.out HB.out) | (with_reducible refine Kd.C_alloc ?_ _) | (with_reducible refine Kd.C_drewN ?_ _) | (with_reducible refine Kd.C_drew ?_))); (case aB => exact (by repeat (first | (with_reducible first | exact HB.out | apply below_alloc | apply pw_below_drewN | apply below_drew1) | exact HB.out))); (case aF => exact (fun _ _ => trivial)); (case aO => exact (by (with_reducible repeat (first | apply Kd.R_alloc | apply Kd.R_drewN | apply Kd.R_drew)); exact HO195.out)); (case aS => exact (below_size (by repeat (first | (with_reducible first | exact HB.out | apply below_alloc | apply pw_below_drewN | apply below_drew1) | exact HB.out)))); (case aL => have := LMc2.out; omega); intro v197 w5 ho hb hg hat; rw [← Ny196.out] at ho; have n0_ := Aside0.mk (hb); have n1_ := Aside0.mk (ho); clear HB; clear HO195; have HB := n0_; have HO198 := n1_; clear n0_ n1_; clear ho hb hg hat))
      go_ret
      exact ⟨_, by first | rfl | (simp [errW_none, errW_some] <;> rfl) | (simp [*, errW_none, errW_some] <;> rfl), by (with_reducible repeat (first | apply Kd.R_alloc | apply Kd.R_drewN | apply Kd.R_drew)); exact HO198.out, by repeat (first | (with_reducible first | exact HB.out | apply below_alloc | apply pw_below_drewN | apply below_drew1) | exact HB.out)⟩
    · rw [if_neg c2] at H
      exact absurd H (by simp)

end Go.Proofs.YtkknkdmdglncoaaDoor.XA
end

section
namespace Go.Proofs.YtkknkdmdglncoaaDoor.XA
open Go.RowKit Go.Proofs.YtkknkdmdglncoaaDoorW.PrintWords Go.Proofs.YtkknkdmdglncoaaDoorW.PrintLast Go.Proofs.YtkknkdmdglncoaaDoorW.PrintMore
attribute [local go_sem] max2_int min2_int max_two min_two max_three min_three max_four min_four   -- for this text's walks alone
set_option linter.unusedVariables false
set_option linter.unusedSimpArgs false

/-! ### slices_Clone_int_int: function 42 -/
def slices_Clone_int_int.f (l0 : List Int) : Option (List Int) := (some (([] : List Int) : List Int)).bind fun y199 => (if y199.length + l0.length < 17592186044416 then (some (y199 ++ l0)) else (none))
set_option maxHeartbeats 8000000 in
set_option maxRecDepth 100000 in
theorem slices_Clone_int_int.calls (A0 : Option Addr) (c0 : Nat) (l0 : List Int) (r : List Int) (w : World) (hr0 : Kd.C (Kd.int .i64) w A0 l0.length l0) (hc0 : l0.length ≤ c0) (h : slices_Clone_int_int.f l0 = some r) :
    Calls Tryd.prog 42 #[.slice A0 l0.length c0] w fun e w' => ∃ v0_ : Value, e = .returned (v0_) ∧ Kd.R (Kd.int .i64) 3 w' w.heap.size (fun _ => True) v0_ r ∧ Below w.heap.size w w' := by
  rcases A0 with _ | a0
  · obtain rfl : l0 = [] := by
      rcases l0 with _ | ⟨x_, l_⟩
      · rfl
      · obtain ⟨_, e_, _⟩ := hr0.2.2 (by simp)
        cases e_
    obtain rfl : r = [] := by simpa [slices_Clone_int_int.f] using h.symm
    have hnil_ := fun W => Lib.run_eql_slice_nil (P := Tryd.prog) W 23 3 none 0 c0 0 0 Tryd.underlying23
    go_enter Tryd.func42, Tryd.ntmps42
    go_wp2
    go_ret
    exact ⟨_, rfl, Kd.R_nil _ _ _ _ _, Below.refl _ _⟩
  · skip
    have HR0 := Aside0.mk hr0
    have HC0 := Aside0.mk hc0
    clear hr0 hc0
    have HB := Aside0.mk (Below.refl w.heap.size w)
    have H : ((some (([] : List Int) : List Int)).bind fun y199 => (if y199.length + l0.length < 17592186044416 then (some (y199 ++ l0)) else (none))) = some r := h
    clear h
    obtain ⟨y199, hy199⟩ : ∃ y_ : List Int, y_ = (([] : List Int)) := ⟨_, rfl⟩
    replace H : (if y199.length + l0.length < 17592186044416 then (some (y199 ++ l0)) else (none)) = some r := by first | (rw [hy199]; with_reducible exact H) | (have H2_ := (Option.bind_some _ _).symm.trans H; rw [hy199]; with_reducible exact H2_) | (have H2_ := (Option.bind_some _ _).symm.trans H; with_reducible exact H2_) | with_reducible exact H | (rw [hy199]; exact H) | exact H
    have Ny199 := Aside0.mk hy199
    clear hy199
    by_cases c2 : y199.length + l0.length < 17592186044416
    · rw [if_pos c2] at H
      have LMc2 := Aside0.mk c2
      clear c2
      obtain ⟨y202, hy202⟩ : ∃ y_ : List Int, y_ = (y199 ++ l0) := ⟨_, rfl⟩
      replace H : (some y202) = some r := by first | (rw [hy202]; with_reducible exact H) | (have H2_ := (Option.bind_some _ _).symm.trans H; rw [hy202]; with_reducible exact H2_) | (have H2_ := (Option.bind_some _ _).symm.trans H; with_reducible exact H2_) | with_reducible exact H | (rw [hy202]; exact H) | exact H
      have Ny202 := Aside0.mk hy202
      clear hy202
      obtain rfl := Option.some.inj H
      have hnil_ := fun W => Lib.run_eql_slice_nil (P := Tryd.prog) W 23 3 (some a0) l0.length c0 0 0 Tryd.underlying23
      go_enter Tryd.func42, Tryd.ntmps42
      go_wp2_with (first | ((with_reducible refine gate_dst (N := 5) rfl ?_); refine Kd.R_lit (Kd.int .i64) _ 3 ?hg (N := 5) ?hd (xs := ([] : List Int)) (inner := []) (ok := fun _ => True) (okp := fun _ => True) ?hr ?hp (fun _ hk => hk) trivial (Below.refl _ _) (Nat.le_refl _) (by simp) ?_; (case hd => rfl); (case hg => rfl); (case hr => first | (go_simp; done) | (go_simp; rfl)); (case hp => exact (Reps.none _ _)); intro v200 w3 ho4 hb hg_ hnew_; clear hg_ hnew_; (first | rw [← Ny199.out] at ho4 | (simp only [Int.reduceToNat] at ho4; rw [← Ny199.out] at ho4)); have n0_ := Aside0.mk (Kd.R_lower ho4 (below_size (by repeat (first | (with_reducible first | exact HB.out | apply below_alloc | apply pw_below_drewN | apply below_drew1) | exact HB.out)))); have n1_ := Aside0.mk (below_step (by repeat (first | (with_reducible first | exact HB.out | apply below_alloc | apply pw_below_drewN | apply below_drew1) | exact HB.out)) hb); clear HB; have HO201 := n0_; have HB := n1_; clear n0_ n1_; clear hb ho4) | ((with_reducible refine gate_builtin (b := .append) (xs := #[.tmp 5, .tmp 6]) rfl ?_); at_builtin; refine Kd.R_append_rows (Kd.int .i64) (w0 := w) w.heap.size rfl (.tmp 5) (.tmp 6) 23 3 (.int .i64 0) 8 rfl Tryd.underlying23 info3 rfl (by decide) (by omega) v200 y199 l0 _ _ _ (fun _ => True) (fun _ => False) rfl rfl ?aO ?aR (fun _ _ h => h) (fun _ h => h.elim) ?aF ?aB ?aS ?aL ?_; (case aR => repeat (first | exact (Kd.C_below HR0.out HB.out) | (with_reducible refine Kd.C_alloc ?_ _) | (with_reducible refine Kd.C_drewN ?_ _) | (with_reducible refine Kd.C_drew ?_))); (case aB => exact (by repeat (first | (with_reducible first | exact HB.out | apply below_alloc | apply pw_below_drewN | apply below_drew1) | exact HB.out))); (case aF => exact (fun _ _ => trivial)); (case aO => exact (by (with_reducible repeat (first | apply Kd.R_alloc | apply Kd.R_drewN | apply Kd.R_drew)); exact HO201.out)); (case aS => exact (below_size (by repeat (first | (with_reducible first | exact HB.out | apply below_alloc | apply pw_below_drewN | apply below_drew1) | exact HB.out)))); (case aL => have := LMc2.out; omega); intro v203 w5 ho hb hg hat; rw [← Ny202.out] at ho; have n0_ := Aside0.mk (hb); have n1_ := Aside0.mk (ho); clear HB; clear HO201; have HB := n0_; have HO204 := n1_; clear n0_ n1_; clear ho hb hg hat))
      go_ret
      exact ⟨_, by first | rfl | (simp [errW_none, errW_some] <;> rfl) | (simp [*, errW_none, errW_some] <;> rfl), by (with_reducible repeat (first | apply Kd.R_alloc | apply Kd.R_drewN | apply Kd.R_drew)); exact HO204.out, by repeat (first | (with_reducible first | exact HB.out | apply below_alloc | apply pw_below_drewN | apply below_drew1) | exact HB.out)⟩
    · rw [if_neg c2] at H
      exact absurd H (by simp)

end Go.Proofs.YtkknkdmdglncoaaDoor.XA
end

section
namespace Go.Proofs.YtkknkdmdglncoaaDoor.XA
open Go.RowKit Go.Proofs.YtkknkdmdglncoaaDoorW.PrintWords Go.Proofs.YtkknkdmdglncoaaDoorW.PrintLast Go.Proofs.YtkknkdmdglncoaaDoorW.PrintMore
attribute [local go_sem] max2_int min2_int max_two min_two max_three min_three max_four min_four   -- for this text's walks alone
set_option linter.unusedVariables false
set_option linter.unusedSimpArgs false

/-! ### prog_Copy: function 21 -/
def prog_Copy.f (a0_0 : Int) (a0_1 : Int) (l0_2 : List (S37)) (l0_3 : List Int) : Option (Int × Int × (List (S37)) × List Int) := (api_Instr_41.f l0_2).bind fun t207 => ((slices_Clone_int_int.f l0_3).bind fun t210 => (some (a0_0, a0_1, t207, t210)))
def prog_Copy.T1 : Bool × List (List Nat × List Nat) := (true, [([], []), ([0], [0]), ([1], [1]), ([], []), ([3], [3]), ([4, 2], [4]), ([0, 1, 2, 3, 4], []), ([6, 2, 5, 0, 1, 2, 3, 4], [2, 6]), ([0, 1, 2, 3, 4, 5, 6, 7], []), ([8, 5, 7, 0, 1, 2, 3, 4, 5, 6, 7], [5, 8])])
def prog_Copy.B1 : List Nat := [0, 1, 3, 0, 8, 31, 31, 127, 255, 511]
theorem prog_Copy.tab1 : rtab .any (opsOf Tryd.f21 1) = prog_Copy.T1 := by kernel_rfl
theorem prog_Copy.bits1 : waitsOk prog_Copy.T1.2 prog_Copy.B1 = true := by kernel_rfl
set_option maxHeartbeats 8000000 in
set_option maxRecDepth 100000 in
theorem prog_Copy.calls (a0_0 : Int) (a0_1 : Int) (A0_2 : Option Addr) (c0_2 : Nat) (l0_2 : List (S37)) (A0_3 : Option Addr) (c0_3 : Nat) (l0_3 : List Int) (r1 : Int) (r2 : Int) (r3 : List (S37)) (r4 : List Int) (w : World) (hr0_2 : Kd.C k37 w A0_2 l0_2.length l0_2) (hc0_2 : l0_2.length ≤ c0_2) (hr0_3 : Kd.C (Kd.int .i64) w A0_3 l0_3.length l0_3) (hc0_3 : l0_3.length ≤ c0_3) (h : prog_Copy.f a0_0 a0_1 l0_2 l0_3 = some (r1, r2, r3, r4)) :
    Calls Tryd.prog 21 #[.agg #[.int .i64 a0_0, .int .i64 a0_1, .slice A0_2 l0_2.length c0_2, .slice A0_3 l0_3.length c0_3]] w fun e w' => ∃ v2_ v3_ : Value, e = .returned (.agg #[.int .i64 r1, .int .i64 r2, v2_, v3_]) ∧ Kd.R k37 37 w' w.heap.size (fun _ => True) v2_ r3 ∧ Kd.R (Kd.int .i64) 3 w' w.heap.size (fun _ => True) v3_ r4 ∧ Below w.heap.size w w' := by
  have hu25 := Tryd.underlying25
  have HR0_2 := Aside0.mk hr0_2
  have HC0_2 := Aside0.mk hc0_2
  clear hr0_2 hc0_2
  have HR0_3 := Aside0.mk hr0_3
  have HC0_3 := Aside0.mk hc0_3
  clear hr0_3 hc0_3
  have HB := Aside0.mk (Below.refl w.heap.size w)
  have H : ((api_Instr_41.f l0_2).bind fun t207 => ((slices_Clone_int_int.f l0_3).bind fun t210 => (some (a0_0, a0_1, t207, t210)))) = some (r1, r2, r3, r4) := h
  clear h
  replace H := Option.bind_eq_some_iff.mp H
  obtain ⟨t207, A20, H⟩ := H
  replace H : ((slices_Clone_int_int.f l0_3).bind fun t210 => (some (a0_0, a0_1, t207, t210))) = some (r1, r2, r3, r4) := H
  have A2 := Aside0.mk A20
  clear A20
  replace H := Option.bind_eq_some_iff.mp H
  obtain ⟨t210, A30, H⟩ := H
  replace H : (some (a0_0, a0_1, t207, t210)) = some (r1, r2, r3, r4) := H
  have A3 := Aside0.mk A30
  clear A30
  simp only [Option.some.injEq, Prod.mk.injEq] at H
  obtain ⟨rfl, rfl, rfl, rfl⟩ := H
  go_enter Tryd.func21, Tryd.ntmps21
  try go_wp2_with (first | ((with_reducible refine gate_dst (N := 1) rfl ?_); refine box_event ?hg (N := 1) ?hd (cs := #[.int .i64 a0_0, .int .i64 a0_1, .slice A0_2 l0_2.length c0_2, .slice A0_3 l0_3.length c0_3]) (t := 25) ?hr ?_; (case hd => rfl); (case hg => rfl); (case hr => first | (go_simp; done) | (go_simp; rfl)); intro gb205 hg w4 hbox hb; have n0_ := Aside0.mk (below_step (by repeat (first | (with_reducible first | exact HB.out | apply below_alloc | apply pw_below_drewN | apply below_drew1) | exact HB.out)) hb); have n1_ := Aside0.mk (hbox); have n2_ := Aside0.mk ((by rw [hg]; exact (below_size (by repeat (first | (with_reducible first | exact HB.out | apply below_alloc | apply pw_below_drewN | apply below_drew1) | exact HB.out))) : w.heap.size ≤ gb205)); have n3_ := Aside0.mk ((by rw [hg]; exact (below_size (by repeat (first | (with_reducible first | exact HB.out | apply below_alloc | apply pw_below_drewN | apply below_drew1) | exact HB.out))) : w.heap.size ≤ gb205)); clear HB; have HB := n0_; have BK205 := n1_; have GW205 := n2_; have GE205 := n3_; clear n0_ n1_ n2_ n3_; clear hb hbox hg) | ((with_reducible refine gate_dst (N := 2) rfl ?_); refine box_event ?hg (N := 2) ?hd (cs := #[.int .i64 0, .int .i64 0, .slice none 0 0, .slice none 0 0]) (t := 25) ?hr ?_; (case hd => rfl); (case hg => rfl); (case hr => first | (go_simp; done) | (go_simp; rfl)); intro gb206 hg w5 hbox hb; have n0_ := Aside0.mk (blk_below (g := gb205) (o := .cells #[.int .i64 a0_0, .int .i64 a0_1, .slice A0_2 l0_2.length c0_2, .slice A0_3 l0_3.length c0_3] 25 (0, 0)) (by (with_reducible repeat (first | refine blk_drewN ?_ _ | refine blk_drew ?_ | refine blk_alloc ?_ _)); exact BK205.out) hb); have n1_ := Aside0.mk (below_step (by repeat (first | (with_reducible first | exact HB.out | apply below_alloc | apply pw_below_drewN | apply below_drew1 | refine below_set ?_ GE205.out) | exact HB.out)) hb); have n2_ := Aside0.mk (hbox); have n3_ := Aside0.mk ((by rw [hg]; exact (below_size (by repeat (first | (with_reducible first | exact HB.out | apply below_alloc | apply pw_below_drewN | apply below_drew1 | refine below_set ?_ GE205.out) | exact HB.out))) : w.heap.size ≤ gb206)); have n4_ := Aside0.mk ((by rw [hg]; exact (below_size (by repeat (first | (with_reducible first | exact HB.out | apply below_alloc | apply pw_below_drewN | apply below_drew1 | refine below_set ?_ GE205.out) | exact HB.out))) : w.heap.size ≤ gb206)); have n5_ := Aside0.mk ((by rw [hg]; exact Nat.ne_of_lt (blk_lt (g := gb205) (o := .cells #[.int .i64 a0_0, .int .i64 a0_1, .slice A0_2 l0_2.length c0_2, .slice A0_3 l0_3.length c0_3] 25 (0, 0)) (by (with_reducible repeat (first | refine blk_drewN ?_ _ | refine blk_drew ?_ | refine blk_alloc ?_ _)); exact BK205.out)) : gb205 ≠ gb206)); have n6_ := Aside0.mk ((by rw [hg]; exact Nat.ne_of_gt (blk_lt (g := gb205) (o := .cells #[.int .i64 a0_0, .int .i64 a0_1, .slice A0_2 l0_2.length c0_2, .slice A0_3 l0_3.length c0_3] 25 (0, 0)) (by (with_reducible repeat (first | refine blk_drewN ?_ _ | refine blk_drew ?_ | refine blk_alloc ?_ _)); exact BK205.out)) : gb206 ≠ gb205)); clear BK205; clear HB; have BK205 := n0_; have HB := n1_; have BK206 := n2_; have GW206 := n3_; have GE206 := n4_; have NB205_206 := n5_; have NB206_205 := n6_; clear n0_ n1_ n2_ n3_ n4_ n5_ n6_; clear hb hbox hg))
  have n0_ := Aside0.mk (blk_drew BK205.out)
  have n1_ := Aside0.mk (blk_drew BK206.out)
  have n2_ := Aside0.mk (below_drew1 HB.out)
  clear BK205
  clear BK206
  clear HB
  have BK205 := n0_
  have BK206 := n1_
  have HB := n2_
  clear n0_ n1_ n2_
  refine start_ (n := 10) (S := fun w' => w'.cell? ⟨gb205, 0, none⟩ = some (.int .i64 a0_0) ∧ w'.cell? ⟨gb205, 1, none⟩ = some (.int .i64 a0_1) ∧ w'.cell? ⟨gb205, 2, none⟩ = some (.slice A0_2 l0_2.length c0_2) ∧ w'.cell? ⟨gb205, 3, none⟩ = some (.slice A0_3 l0_3.length c0_3)) (ds := [7, 9]) #[false, false, false, false, false, false, false, false, false, false] (by kernel_rfl) rfl rfl ⟨(blk_cell BK205.out 0).trans rfl, (blk_cell BK205.out 1).trans rfl, (blk_cell BK205.out 2).trans rfl, (blk_cell BK205.out 3).trans rfl⟩ (fun hHeld => ?_); refine with_tabW prog_Copy.tab1 prog_Copy.bits1 (fun HT_ HW_ => ?_)
  generalize w5.drew = w6 at BK205 BK206 HB hHeld ⊢
  refine pure_ (i := 0) (N := some 3) (v := ?_) (a' := ?_) #[true, false, false, false, false, false, false, false, false, false] rfl rfl (any_of HT_.out (by kernel_rfl)) (fun _ _ _ h => h) (Or.inl ⟨by rfl, ?_⟩) ?_ ?_
  rotate_left
  · intro w'
    go_simp
    with_reducible rfl
  rotate_left
  · simp only [Act.put, List.setIfInBounds_toArray, List.set_cons_zero, List.set_cons_succ, i64_w, i32_w]
    rfl
  refine pure_ (i := 3) (N := some 6) (v := ?_) (a' := ?_) #[true, false, false, true, false, false, false, false, false, false] rfl rfl (any_of HT_.out (by kernel_rfl)) (fun _ _ _ h => h) (Or.inl ⟨by rfl, ?_⟩) ?_ ?_
  rotate_left
  · intro w'
    go_simp
    with_reducible rfl
  rotate_left
  · simp only [Act.put, List.setIfInBounds_toArray, List.set_cons_zero, List.set_cons_succ, i64_w, i32_w]
    rfl
  refine take_ (i := 1) (N := some 4) (v := ?_) (a' := ?_) #[true, true, false, true, false, false, false, false, false, false] rfl rfl (take_ofW HT_.out HW_.out (by kernel_rfl)) (fun _ _ _ h => h) (Or.inl ⟨by rfl, ?_⟩) hHeld ?_ ?_
  rotate_left
  · rintro w' ⟨s0, s1, s2, s3⟩
    go_simp
    with_reducible rfl
  rotate_left
  · simp only [Act.put, List.setIfInBounds_toArray, List.set_cons_zero, List.set_cons_succ, i64_w, i32_w]
    rfl
  refine take_ (i := 4) (N := some 7) (v := ?_) (a' := ?_) #[true, true, false, true, true, false, false, false, false, false] rfl rfl (take_ofW HT_.out HW_.out (by kernel_rfl)) (fun _ _ _ h => h) (Or.inl ⟨by rfl, ?_⟩) hHeld ?_ ?_
  rotate_left
  · rintro w' ⟨s0, s1, s2, s3⟩
    go_simp
    with_reducible rfl
  rotate_left
  · simp only [Act.put, List.setIfInBounds_toArray, List.set_cons_zero, List.set_cons_succ, i64_w, i32_w]
    rfl
  refine one_ (i := 2) (N := some 5) #[true, true, true, true, true, false, false, false, false, false] rfl rfl (one_of HT_.out (by kernel_rfl)) (by decide) (fun K hK => ?_)
  refine goes_ Tryd.func41 (by kernel_rfl) rfl #[.slice A0_2 l0_2.length c0_2] (by rfl) rfl rfl (by (try simp only [List.map_toArray, List.map_cons, List.map_nil]); first | done | rfl | (simp only [List.length_drop, List.length_take]; rfl)) ?_
  with_reducible refine (api_Instr_41.calls _ _ l0_2 t207 _ ?side1 ?side2 A2.out).mono ?_
  (case side1 => repeat (first | exact (Kd.C_below HR0_2.out HB.out) | (with_reducible refine Kd.C_alloc ?_ _) | (with_reducible refine Kd.C_drewN ?_ _) | (with_reducible refine Kd.C_drew ?_)))
  (case side2 => exact HC0_2.out)
  rintro e w7 ⟨v208, rfl, ho0, hb⟩
  refine ⟨_, rfl, ?_⟩
  have n0_ := Aside0.mk (Kd.R_lower ho0 (below_size (by repeat (first | (with_reducible first | exact HB.out | apply below_alloc | apply pw_below_drewN | apply below_drew1 | refine below_set ?_ GE205.out | refine below_set ?_ GE206.out) | exact HB.out))))
  have n1_ := Aside0.mk (blk_below (g := gb205) (o := .cells #[.int .i64 a0_0, .int .i64 a0_1, .slice A0_2 l0_2.length c0_2, .slice A0_3 l0_3.length c0_3] 25 (0, 0)) (by (with_reducible repeat (first | refine blk_drewN ?_ _ | refine blk_drew ?_ | refine blk_alloc ?_ _)); exact BK205.out) hb)
  have n2_ := Aside0.mk (blk_below (g := gb206) (o := .cells #[.int .i64 0, .int .i64 0, .slice none 0 0, .slice none 0 0] 25 (0, 0)) (by (with_reducible repeat (first | refine blk_drewN ?_ _ | refine blk_drew ?_ | refine blk_alloc ?_ _)); exact BK206.out) hb)
  have n3_ := Aside0.mk (below_step (by repeat (first | (with_reducible first | exact HB.out | apply below_alloc | apply pw_below_drewN | apply below_drew1 | refine below_set ?_ GE205.out | refine below_set ?_ GE206.out) | exact HB.out)) hb)
  clear BK205
  clear BK206
  clear HB
  have HO209 := n0_
  have BK205 := n1_
  have BK206 := n2_
  have HB := n3_
  clear n0_ n1_ n2_ n3_
  (try clear hb)
  (try clear hb2)
  (try clear hk)
  (try clear hi)
  (try clear ho0)
  refine hK.out _ _ ⟨(blk_cell BK205.out 0).trans rfl, (blk_cell BK205.out 1).trans rfl, (blk_cell BK205.out 2).trans rfl, (blk_cell BK205.out 3).trans rfl⟩ (fun hHeld => ?_)
  clear hK K
  refine norm_ (a' := ?_) ?_ ?_
  rotate_left
  · show Act.put _ (some 5) _ = _
    simp only [Act.put, List.setIfInBounds_toArray, List.set_cons_zero, List.set_cons_succ, i64_w, i32_w]
    rfl
  refine pure_ (i := 6) (N := some 9) (v := ?_) (a' := ?_) #[true, true, true, true, true, false, true, false, false, false] rfl rfl (any_of HT_.out (by kernel_rfl)) (fun _ _ _ h => h) (Or.inl ⟨by rfl, ?_⟩) ?_ ?_
  rotate_left
  · intro w'
    go_simp
    with_reducible rfl
  rotate_left
  · simp only [Act.put, List.setIfInBounds_toArray, List.set_cons_zero, List.set_cons_succ, i64_w, i32_w]
    rfl
  refine one_ (i := 5) (N := some 8) #[true, true, true, true, true, true, true, false, false, false] rfl rfl (one_of HT_.out (by kernel_rfl)) (by decide) (fun K hK => ?_)
  refine goes_ Tryd.func42 (by kernel_rfl) rfl #[.slice A0_3 l0_3.length c0_3] (by rfl) rfl rfl (by (try simp only [List.map_toArray, List.map_cons, List.map_nil]); first | done | rfl | (simp only [List.length_drop, List.length_take]; rfl)) ?_
  with_reducible refine (slices_Clone_int_int.calls _ _ l0_3 t210 _ ?side1 ?side2 A3.out).mono ?_
  (case side1 => repeat (first | exact (Kd.C_below HR0_3.out HB.out) | (with_reducible refine Kd.C_alloc ?_ _) | (with_reducible refine Kd.C_drewN ?_ _) | (with_reducible refine Kd.C_drew ?_)))
  (case side2 => exact HC0_3.out)
  rintro e w8 ⟨v211, rfl, ho0, hb⟩
  refine ⟨_, rfl, ?_⟩
  have n0_ := Aside0.mk (Kd.R_below (by (with_reducible repeat (first | apply Kd.R_alloc | apply Kd.R_drewN | apply Kd.R_drew)); exact HO209.out) hb)
  have n1_ := Aside0.mk (Kd.R_lower ho0 (below_size (by repeat (first | (with_reducible first | exact HB.out | apply below_alloc | apply pw_below_drewN | apply below_drew1 | refine below_set ?_ GE205.out | refine below_set ?_ GE206.out) | exact HB.out))))
  have n2_ := Aside0.mk (blk_below (g := gb205) (o := .cells #[.int .i64 a0_0, .int .i64 a0_1, .slice A0_2 l0_2.length c0_2, .slice A0_3 l0_3.length c0_3] 25 (0, 0)) (by (with_reducible repeat (first | refine blk_drewN ?_ _ | refine blk_drew ?_ | refine blk_alloc ?_ _)); exact BK205.out) hb)
  have n3_ := Aside0.mk (blk_below (g := gb206) (o := .cells #[.int .i64 0, .int .i64 0, .slice none 0 0, .slice none 0 0] 25 (0, 0)) (by (with_reducible repeat (first | refine blk_drewN ?_ _ | refine blk_drew ?_ | refine blk_alloc ?_ _)); exact BK206.out) hb)
  have n4_ := Aside0.mk (below_step (by repeat (first | (with_reducible first | exact HB.out | apply below_alloc | apply pw_below_drewN | apply below_drew1 | refine below_set ?_ GE205.out | refine below_set ?_ GE206.out) | exact HB.out)) hb)
  clear HO209
  clear BK205
  clear BK206
  clear HB
  have HO209 := n0_
  have HO212 := n1_
  have BK205 := n2_
  have BK206 := n3_
  have HB := n4_
  clear n0_ n1_ n2_ n3_ n4_
  (try clear hb)
  (try clear hb2)
  (try clear hk)
  (try clear hi)
  (try clear ho0)
  obtain ⟨Ao9, co9, eo9⟩ := Kd.R_slice HO209.out
  (first | subst eo9 | (injection eo9 with f1_ f2_ f3_; have f4_ := f1_.symm; have f5_ := f3_.symm; clear f1_ f2_ f3_; subst f4_; subst f5_))
  obtain ⟨Ao11, co11, eo11⟩ := Kd.R_slice HO212.out
  (first | subst eo11 | (injection eo11 with f1_ f2_ f3_; have f4_ := f1_.symm; have f5_ := f3_.symm; clear f1_ f2_ f3_; subst f4_; subst f5_))
  refine hK.out _ _ ⟨(blk_cell BK205.out 0).trans rfl, (blk_cell BK205.out 1).trans rfl, (blk_cell BK205.out 2).trans rfl, (blk_cell BK205.out 3).trans rfl⟩ (fun hHeld => ?_)
  clear hK K
  refine norm_ (a' := ?_) ?_ ?_
  rotate_left
  · show Act.put _ (some 8) _ = _
    simp only [Act.put, List.setIfInBounds_toArray, List.set_cons_zero, List.set_cons_succ, i64_w, i32_w]
    rfl
  refine last_ (i := 7) (N := none) #[true, true, true, true, true, true, true, true, false, false] rfl rfl (one_of HT_.out (by kernel_rfl)) (by decide) (fun K hK => ?_)
  have hs10 : w8.cell? ⟨gb205, 2, none⟩ = some (.slice A0_2 l0_2.length c0_2) := (blk_cell BK205.out 2).trans rfl
  have hfs10 := blk_frozen BK205.out 2
  have hns10_1 := NB206_205.out
  have hms10_1 := NB205_206.out
  refine skip_ (w1 := ?_) (by rfl) rfl ?_ ?_
  rotate_left
  · go_simp
    rfl
  refine hK.out _ _ ?_
  clear hK K
  refine pure_ (i := 8) (N := some 10) (v := ?_) (a' := ?_) #[true, true, true, true, true, true, true, true, true, false] rfl rfl (any_of HT_.out (by kernel_rfl)) (fun _ _ _ h => h) (Or.inl ⟨by rfl, ?_⟩) ?_ ?_
  rotate_left
  · intro w'
    go_simp
    with_reducible rfl
  rotate_left
  · simp only [Act.put, List.setIfInBounds_toArray, List.set_cons_zero, List.set_cons_succ, i64_w, i32_w]
    rfl
  refine last_ (i := 9) (N := none) #[true, true, true, true, true, true, true, true, true, true] rfl rfl (one_of HT_.out (by kernel_rfl)) (by decide) (fun K hK => ?_)
  have hs12 : w8.cell? ⟨gb205, 3, none⟩ = some (.slice A0_3 l0_3.length c0_3) := (blk_cell BK205.out 3).trans rfl
  have hfs12 := blk_frozen BK205.out 3
  have hns12_1 := NB206_205.out
  have hms12_1 := NB205_206.out
  refine skip_ (w1 := ?_) (by rfl) rfl ?_ ?_
  rotate_left
  · go_simp
    rfl
  refine hK.out _ _ ?_
  clear hK K
  refine done_ (done_of HT_.out (by kernel_rfl)) ?_
  have hnb13 := NB205_206.out
  have hnc13 := NB206_205.out
  have hcz14_0 : w8.cell? ⟨gb205, 0, none⟩ = some (.int .i64 a0_0) := (blk_cell BK205.out 0).trans rfl
  have hcz14_1 : w8.cell? ⟨gb205, 1, none⟩ = some (.int .i64 a0_1) := (blk_cell BK205.out 1).trans rfl
  have hcz14_2 : w8.cell? ⟨gb205, 2, none⟩ = some (.slice A0_2 l0_2.length c0_2) := (blk_cell BK205.out 2).trans rfl
  have hcz14_3 : w8.cell? ⟨gb205, 3, none⟩ = some (.slice A0_3 l0_3.length c0_3) := (blk_cell BK205.out 3).trans rfl
  have hfz14_0 := blk_frozen BK205.out 0
  have hfz14_1 := blk_frozen BK205.out 1
  have hfz14_2 := blk_frozen BK205.out 2
  have hfz14_3 := blk_frozen BK205.out 3
  have hcz15_0 : w8.cell? ⟨gb206, 0, none⟩ = some (.int .i64 0) := (blk_cell BK206.out 0).trans rfl
  have hcz15_1 : w8.cell? ⟨gb206, 1, none⟩ = some (.int .i64 0) := (blk_cell BK206.out 1).trans rfl
  have hcz15_2 : w8.cell? ⟨gb206, 2, none⟩ = some (.slice none 0 0) := (blk_cell BK206.out 2).trans rfl
  have hcz15_3 : w8.cell? ⟨gb206, 3, none⟩ = some (.slice none 0 0) := (blk_cell BK206.out 3).trans rfl
  have hfz15_0 := blk_frozen BK206.out 0
  have hfz15_1 := blk_frozen BK206.out 1
  have hfz15_2 := blk_frozen BK206.out 2
  have hfz15_3 := blk_frozen BK206.out 3
  try go_wp2
  refine bodyPost_ret (results_cell_row rfl _ _ gb206 25 #[.int .i64 a0_0, .int .i64 a0_1, .slice Ao9 t207.length co9, .slice Ao11 t210.length co11] (0, 0) _ rfl (by (with_reducible repeat (first | refine blk_drewN ?_ _ | refine blk_drew ?_ | refine blk_alloc ?_ _)); refine blk_put (cs := #[.int .i64 a0_0, .int .i64 a0_1, .slice Ao9 t207.length co9, .slice none 0 0]) ?_ 3 _ rfl; (with_reducible repeat (first | refine blk_drewN ?_ _ | refine blk_drew ?_ | refine blk_alloc ?_ _)); refine blk_put (cs := #[.int .i64 a0_0, .int .i64 a0_1, .slice none 0 0, .slice none 0 0]) ?_ 2 _ rfl; (with_reducible repeat (first | refine blk_drewN ?_ _ | refine blk_drew ?_ | refine blk_alloc ?_ _)); refine blk_put (cs := #[.int .i64 a0_0, .int .i64 0, .slice none 0 0, .slice none 0 0]) ?_ 1 _ rfl; (with_reducible repeat (first | refine blk_drewN ?_ _ | refine blk_drew ?_ | refine blk_alloc ?_ _)); refine blk_put (cs := #[.int .i64 0, .int .i64 0, .slice none 0 0, .slice none 0 0]) ?_ 0 _ rfl; (with_reducible repeat (first | refine blk_drewN ?_ _ | refine blk_drew ?_ | refine blk_alloc ?_ _)); refine blk_far ?_ NB206_205.out _; (with_reducible repeat (first | refine blk_drewN ?_ _ | refine blk_drew ?_ | refine blk_alloc ?_ _)); refine blk_far ?_ NB206_205.out _; (with_reducible repeat (first | refine blk_drewN ?_ _ | refine blk_drew ?_ | refine blk_alloc ?_ _)); exact BK206.out) Tryd.underlying25 rfl (by kernel_rfl)) rfl ?_
  exact ⟨_, _, by first | rfl | (simp [errW_none, errW_some] <;> rfl) | (simp [*, errW_none, errW_some] <;> rfl), by (with_reducible repeat (first | apply Kd.R_alloc | apply Kd.R_drewN | apply Kd.R_drew)); exact Kd.R_mono (Kd.R_far (p := ⟨gb206, 3, none⟩) (Kd.R_far (p := ⟨gb206, 2, none⟩) (Kd.R_far (p := ⟨gb206, 1, none⟩) (Kd.R_far (p := ⟨gb206, 0, none⟩) (Kd.R_far (p := ⟨gb205, 3, none⟩) (Kd.R_far (p := ⟨gb205, 2, none⟩) (Kd.R_types (Kd.R_types HO209.out BK205.out (by decide)) BK206.out (by decide)) (fun _ hk => hk.1.2) (.slice Ao9 t207.length co9)) (fun _ hk => hk.1.2) (.slice Ao11 t210.length co11)) (fun _ hk => hk.2) (.int .i64 a0_0)) (fun _ hk => hk.2) (.int .i64 a0_1)) (fun _ hk => hk.2) (.slice Ao9 t207.length co9)) (fun _ hk => hk.2) (.slice Ao11 t210.length co11)) (fun _ hk => trivial), by (with_reducible repeat (first | apply Kd.R_alloc | apply Kd.R_drewN | apply Kd.R_drew)); exact Kd.R_mono (Kd.R_far (p := ⟨gb206, 3, none⟩) (Kd.R_far (p := ⟨gb206, 2, none⟩) (Kd.R_far (p := ⟨gb206, 1, none⟩) (Kd.R_far (p := ⟨gb206, 0, none⟩) (Kd.R_far (p := ⟨gb205, 3, none⟩) (Kd.R_far (p := ⟨gb205, 2, none⟩) (Kd.R_types (Kd.R_types HO212.out BK205.out (by decide)) BK206.out (by decide)) (fun _ hk => hk.1.2) (.slice Ao9 t207.length co9)) (fun _ hk => hk.1.2) (.slice Ao11 t210.length co11)) (fun _ hk => hk.2) (.int .i64 a0_0)) (fun _ hk => hk.2) (.int .i64 a0_1)) (fun _ hk => hk.2) (.slice Ao9 t207.length co9)) (fun _ hk => hk.2) (.slice Ao11 t210.length co11)) (fun _ hk => trivial), by repeat (first | (with_reducible first | exact HB.out | apply below_alloc | apply pw_below_drewN | apply below_drew1 | refine below_set ?_ GE205.out | refine below_set ?_ GE206.out) | exact HB.out)⟩

end Go.Proofs.YtkknkdmdglncoaaDoor.XA
end

section
/- The law ProgCopies, walked: two copies, one of them written over whole, its spare room too; the program and the other copy stay as they were. -/
namespace Go.Proofs.YtkknkdmdglncoaaDoor.Cop
open Go.RowKit Go.Proofs.YtkknkdmdglncoaaDoorW.PrintWords Go.Proofs.YtkknkdmdglncoaaDoorW.PrintLast Go.Proofs.YtkknkdmdglncoaaDoorW.PrintMore Go.Proofs.YtkknkdmdglncoaaDoor.XA
set_option linter.unusedVariables false
def asksOk (k : Nat) (x : S37) : Bool := (prog_Asks.f k x.f0 x.f1 x.f2 x.f3 x.f4).isSome && (prog_Asks.f k x.f0 x.f1 x.f2 x.f3 x.f4 == swageref08_Asks.f k x.f0 x.f1 x.f2 x.f3 x.f4)
theorem asks_of {k : Nat} {x : S37} (h : asksOk k x = true) : ∃ l, prog_Asks.f k x.f0 x.f1 x.f2 x.f3 x.f4 = some l ∧ swageref08_Asks.f k x.f0 x.f1 x.f2 x.f3 x.f4 = some l := by
  unfold asksOk at h
  rw [Bool.and_eq_true, beq_iff_eq] at h
  obtain ⟨l, hl⟩ := Option.isSome_iff_exists.1 h.1
  exact ⟨l, hl, h.2 ▸ hl⟩
/-- What the law asks, by the answers of what it calls. -/
def pcop (k : Nat) (a0_0 a0_1 : Int) (l0_2 : List S37) (l0_3 : List Int) (a1_0 a1_1 : Int) (l1_2 : List S37) (l1_3 : List Int) : Option Bool :=
  (swagelaw08_live.f k).bind fun t => if t = true then
    (swagelaw08_long.f a0_0 a0_1 l0_2 l0_3).bind fun b0 => if b0 = true then some true else
      (swagelaw08_long.f a1_0 a1_1 l1_2 l1_3).bind fun b1 => if b1 = true then some true else
        (swageref08_Same.f k a0_0 a0_1 l0_2 l0_3 a1_0 a1_1 l1_2 l1_3).bind fun s => (prog_Same.f k a0_0 a0_1 l0_2 l0_3 a1_0 a1_1 l1_2 l1_3).bind fun s1 => if s1 = s then
          (prog_Same.f k a0_0 a0_1 l0_2 l0_3 a0_0 a0_1 l0_2 l0_3).bind fun s2 => if s2 = true then
            if l0_2.all (asksOk k) = true then
              (swageref08_Copy.f a0_0 a0_1 l0_2 l0_3).bind fun o => (prog_Copy.f a0_0 a0_1 l0_2 l0_3).bind fun c =>
                (swageref08_Same.f k c.1 c.2.1 c.2.2.1 c.2.2.2 a0_0 a0_1 l0_2 l0_3).bind fun t1 => if t1 = true then
                  (swageref08_Same.f k a0_0 a0_1 l0_2 l0_3 o.1 o.2.1 o.2.2.1 o.2.2.2).bind fun t2 => if t2 = true then some true else none
                else none
            else none
          else none
        else none
    else none
/-- A box of a program. -/
def Bx (W : World) (g : Nat) (a b c d : Value) : Prop := W.heap[g]? = some (.cells #[a, b, c, d] 25 (0, 0))
theorem Bx.lt {W : World} {g : Nat} {a b c d : Value} (h : Bx W g a b c d) : g < W.heap.size := (Array.getElem?_eq_some_iff.1 h).1
theorem Bx.cells {W : World} {g : Nat} {a b c d : Value} (h : Bx W g a b c d) : W.cell? ⟨g, 0, none⟩ = some a ∧ W.cell? ⟨g, 1, none⟩ = some b ∧ W.cell? ⟨g, 2, none⟩ = some c ∧ W.cell? ⟨g, 3, none⟩ = some d :=
  ⟨(blk_cell h 0).trans rfl, (blk_cell h 1).trans rfl, (blk_cell h 2).trans rfl, (blk_cell h 3).trans rfl⟩
theorem Bx.new (w : World) (a b c d : Value) : Bx (w.alloc (.cells #[a, b, c, d] 25)) w.heap.size a b c d := World.alloc_heap_new w _
theorem Bx.on {W W' : World} {B g : Nat} {a b c d : Value} (h : Bx W g a b c d) (hb : Below B W W') (hg : g < B) : Bx W' g a b c d := (hb.block g hg).trans h
/-- A block of so many cells. -/
def Blk (W : World) (g t n : Nat) : Prop := ∃ cur : Array Value, W.heap[g]? = some (.cells cur t (0, 0)) ∧ cur.size = n
theorem Blk.cell {W : World} {g t n : Nat} (h : Blk W g t n) (j : Nat) (hj : j < n) : ∃ v, W.cell? ⟨g, j, none⟩ = some v := by
  obtain ⟨cur, hc, rfl⟩ := h
  exact ⟨cur[j], by rw [blk_cell hc j]; exact Array.getElem?_eq_getElem hj⟩
theorem Blk.frozen {W : World} {g t n : Nat} (h : Blk W g t n) (j : Nat) : W.frozen? ⟨g, j, none⟩ = false := by
  obtain ⟨cur, hc, _⟩ := h
  exact blk_frozen hc j
theorem Blk.set {W : World} {g t n : Nat} (h : Blk W g t n) (j : Nat) (v : Value) : Blk (W.setCell ⟨g, j, none⟩ v) g t n := by
  obtain ⟨cur, hc, hn⟩ := h
  exact ⟨cur.setIfInBounds j v, blk_set hc j v, by rw [Array.size_setIfInBounds]; exact hn⟩
theorem Blk.on {W W' : World} {B g t n : Nat} (h : Blk W g t n) (hb : Below B W W') (hg : g < B) : Blk W' g t n := by
  obtain ⟨cur, hc, hn⟩ := h
  exact ⟨cur, (hb.block g hg).trans hc, hn⟩
theorem own_bk {α : Type} {d : Kd α} {e : Nat} {w : World} {base : Nat} {ok : Nat → Prop} {v : Value} {xs : List α} (h : d.R e w base ok v xs) : (v = .slice none 0 0 ∧ xs.length = 0) ∨ ∃ g cap, v = .slice (some ⟨g, 0, none⟩) xs.length cap ∧ base ≤ g ∧ g < w.heap.size ∧ xs.length ≤ cap ∧ cap ≤ maxLen ∧ Blk w g e (cap * d.sz) := by
  obtain ⟨_, inner, ho, _⟩ := h
  rcases ho.2 with ⟨rfl, h0⟩ | ⟨g, cap, cur, rfl, hb, hh, h1, h2, h3, _⟩
  · exact .inl ⟨rfl, h0⟩
  · exact .inr ⟨g, cap, rfl, hb, (Array.getElem?_eq_some_iff.1 hh).1, h1, h2, cur, hh, h3⟩
theorem own_sl {α : Type} {d : Kd α} {e : Nat} {w : World} {base : Nat} {ok : Nat → Prop} {A : Option Addr} {n c : Nat} {xs : List α} (h : d.R e w base ok (.slice A n c) xs) : (A = none ∧ c = 0) ∨ ∃ g, A = some ⟨g, 0, none⟩ ∧ base ≤ g ∧ g < w.heap.size ∧ c ≤ maxLen ∧ Blk w g e (c * d.sz) := by
  rcases own_bk h with ⟨h1, _⟩ | ⟨g, cap, h1, h2, h3, _, h5, h6⟩
  · injection h1 with e1 e2 e3
    exact .inl ⟨e1, e3⟩
  · injection h1 with e1 e2 e3
    subst e3
    exact .inr ⟨g, e1, h2, h3, h5, h6⟩
theorem Blk.ne {W : World} {g g' t t' n n' : Nat} (h : Blk W g t n) (h' : Blk W g' t' n') (ht : t ≠ t') : g ≠ g' := by
  obtain ⟨c1, h1, _⟩ := h
  obtain ⟨c2, h2, _⟩ := h'
  exact blk_ne h1 h2 ht
theorem Blk.far {W : World} {g t n : Nat} (h : Blk W g t n) {g' : Nat} (hne : g ≠ g') (j : Nat) (v : Value) : Blk (W.setCell ⟨g', j, none⟩ v) g t n := by
  obtain ⟨cur, hc, hn⟩ := h
  exact ⟨cur, (Below.heap_setCell W ⟨g', j, none⟩ v g hne).trans hc, hn⟩
set_option maxRecDepth 100000 in
set_option maxHeartbeats 8000000 in
theorem pcop_calls (k : Nat) (a0_0 : Int) (a0_1 : Int) (A0_2 : Option Addr) (c0_2 : Nat) (l0_2 : List (S37)) (A0_3 : Option Addr) (c0_3 : Nat) (l0_3 : List Int) (a1_0 : Int) (a1_1 : Int) (A1_2 : Option Addr) (c1_2 : Nat) (l1_2 : List (S37)) (A1_3 : Option Addr) (c1_3 : Nat) (l1_3 : List Int) (r : Bool) (w : World) (hr0_2 : Kd.C k37 w A0_2 l0_2.length l0_2) (hc0_2 : l0_2.length ≤ c0_2) (hr0_3 : Kd.C (Kd.int .i64) w A0_3 l0_3.length l0_3) (hc0_3 : l0_3.length ≤ c0_3) (hr1_2 : Kd.C k37 w A1_2 l1_2.length l1_2) (hc1_2 : l1_2.length ≤ c1_2) (hr1_3 : Kd.C (Kd.int .i64) w A1_3 l1_3.length l1_3) (hc1_3 : l1_3.length ≤ c1_3) (h : pcop k a0_0 a0_1 l0_2 l0_3 a1_0 a1_1 l1_2 l1_3 = some r) :
    Calls Tryd.prog 5 #[.agg #[.int .i64 a0_0, .int .i64 a0_1, .slice A0_2 l0_2.length c0_2, .slice A0_3 l0_3.length c0_3], .agg #[.int .i64 a1_0, .int .i64 a1_1, .slice A1_2 l1_2.length c1_2, .slice A1_3 l1_3.length c1_3]] w fun e w' => e = .returned (.bool r) ∧ Below w.heap.size w w' := by
  unfold pcop at h
  replace h := Option.bind_eq_some_iff.mp h; obtain ⟨t, hlive, h⟩ := h
  obtain rfl : t = true := swagelaw08_live.tells k t hlive
  rw [if_pos rfl] at h
  replace h := Option.bind_eq_some_iff.mp h; obtain ⟨b0, hlong0, h⟩ := h
  have HLIVE := Aside0.mk hlive
  have HL0 := Aside0.mk hlong0
  have HR0_2 := Aside0.mk hr0_2
  have HR0_3 := Aside0.mk hr0_3
  have HR1_2 := Aside0.mk hr1_2
  have HR1_3 := Aside0.mk hr1_3
  clear hlive hlong0 hr0_2 hr0_3 hr1_2 hr1_3
  have H := Aside0.mk h
  clear h
  go_enter Tryd.func5, Tryd.ntmps5
  go_wp2_with fail
  refine (swagelaw08_live.calls k true _ HLIVE.out).mono ?_
  rintro e w1 ⟨rfl, hb1⟩
  have b0' := (Bx.new w _ _ _ _ : Bx (w.alloc (.cells #[.int .i64 a0_0, .int .i64 a0_1, .slice A0_2 l0_2.length c0_2, .slice A0_3 l0_3.length c0_3] 25)) w.heap.size _ _ _ _)
  have b1' := (Bx.new (w.alloc (.cells #[.int .i64 a0_0, .int .i64 a0_1, .slice A0_2 l0_2.length c0_2, .slice A0_3 l0_3.length c0_3] 25)) _ _ _ _ : Bx ((w.alloc (.cells #[.int .i64 a0_0, .int .i64 a0_1, .slice A0_2 l0_2.length c0_2, .slice A0_3 l0_3.length c0_3] 25)).alloc (.cells #[.int .i64 a1_0, .int .i64 a1_1, .slice A1_2 l1_2.length c1_2, .slice A1_3 l1_3.length c1_3] 25)) _ _ _ _ _)
  rw [World.size_alloc] at b1'
  have p1 : Bx w1 w.heap.size _ _ _ _ := (b0'.on (below_alloc (Below.refl _ _) (.cells #[.int .i64 a1_0, .int .i64 a1_1, .slice A1_2 l1_2.length c1_2, .slice A1_3 l1_3.length c1_3] 25)) b0'.lt).on hb1 (by simp; omega)
  have q1 : Bx w1 (w.heap.size + 1) _ _ _ _ := b1'.on hb1 b1'.lt
  have hB1 : Below w.heap.size w w1 := below_step (below_alloc (below_alloc (Below.refl _ _) _) _) hb1
  have hp1 := p1.lt
  have hq1 := q1.lt
  clear hb1 b0' b1'
  obtain ⟨cp0, cp1, cp2, cp3⟩ := p1.cells
  obtain ⟨cq0, cq1, cq2, cq3⟩ := q1.cells
  go_wp2_with fail
  refine (swagelaw08_long.calls a0_0 a0_1 A0_2 c0_2 l0_2 A0_3 c0_3 l0_3 b0 _ (Kd.C_below HR0_2.out hB1) hc0_2 (Kd.C_below HR0_3.out hB1) hc0_3 HL0.out).mono ?_
  rintro e w2 ⟨rfl, hb2⟩
  have hB2 := below_step hB1 hb2
  have p2 := p1.on hb2 hp1
  have q2 := q1.on hb2 hq1
  clear cp0 cp1 cp2 cp3 cq0 cq1 cq2 cq3 hB1 p1 q1 hp1 hq1 hb2
  obtain ⟨cp0, cp1, cp2, cp3⟩ := p2.cells
  obtain ⟨cq0, cq1, cq2, cq3⟩ := q2.cells
  cases b0 with
  | true =>
    have h := H.out
    rw [if_pos rfl] at h
    obtain rfl := Option.some.inj h
    clear h
    go_wp2
    go_ret
    exact ⟨rfl, hB2⟩
  | false =>
    have h := H.out
    rw [if_neg (by decide)] at h
    replace h := Option.bind_eq_some_iff.mp h; obtain ⟨b1, hlong1, h⟩ := h
    have HL1 := Aside0.mk hlong1
    have H' := Aside0.mk h
    clear h hlong1 H
    have hp2 := p2.lt
    have hq2 := q2.lt
    go_wp2_with fail
    refine (swagelaw08_long.calls a1_0 a1_1 A1_2 c1_2 l1_2 A1_3 c1_3 l1_3 b1 _ (Kd.C_below HR1_2.out hB2) hc1_2 (Kd.C_below HR1_3.out hB2) hc1_3 HL1.out).mono ?_
    rintro e w3 ⟨rfl, hb3⟩
    have hB3 := below_step hB2 hb3
    have p3 := p2.on hb3 hp2
    have q3 := q2.on hb3 hq2
    clear cp0 cp1 cp2 cp3 cq0 cq1 cq2 cq3 hB2 p2 q2 hp2 hq2 hb3
    obtain ⟨cp0, cp1, cp2, cp3⟩ := p3.cells
    obtain ⟨cq0, cq1, cq2, cq3⟩ := q3.cells
    cases b1 with
    | true =>
      have h := H'.out
      rw [if_pos rfl] at h
      obtain rfl := Option.some.inj h
      clear h
      go_wp2
      go_ret
      exact ⟨rfl, hB3⟩
    | false =>
      have h := H'.out
      rw [if_neg (by decide)] at h
      replace h := Option.bind_eq_some_iff.mp h; obtain ⟨s, hsame, h⟩ := h
      replace h := Option.bind_eq_some_iff.mp h; obtain ⟨s1, hpsame, h⟩ := h
      by_cases hs : s1 = s
      case neg => rw [if_neg hs] at h; cases h
      rw [if_pos hs] at h
      subst hs
      replace h := Option.bind_eq_some_iff.mp h; obtain ⟨s2, hself, h⟩ := h
      by_cases hs : s2 = true
      case neg => rw [if_neg hs] at h; cases h
      rw [if_pos hs] at h
      subst hs
      by_cases hasks : l0_2.all (asksOk k) = true
      case neg => rw [if_neg hasks] at h; cases h
      rw [if_pos hasks] at h
      replace h := Option.bind_eq_some_iff.mp h; obtain ⟨⟨o0, o1, o2, o3⟩, hold, h⟩ := h
      replace h := Option.bind_eq_some_iff.mp h; obtain ⟨⟨d0, d1, d2, d3⟩, hcopy, h⟩ := h
      replace h := Option.bind_eq_some_iff.mp h; obtain ⟨t1, hcp, h⟩ := h
      by_cases hs : t1 = true
      case neg => rw [if_neg hs] at h; cases h
      rw [if_pos hs] at h
      subst hs
      replace h := Option.bind_eq_some_iff.mp h; obtain ⟨t2, hpo, h⟩ := h
      by_cases hs : t2 = true
      case neg => rw [if_neg hs] at h; cases h
      rw [if_pos hs] at h
      subst hs
      obtain rfl := Option.some.inj h
      clear h H'
      have HSAME := Aside0.mk hsame
      have HPS := Aside0.mk hpsame
      have HSELF := Aside0.mk hself
      have HASKS := Aside0.mk hasks
      have HOLD := Aside0.mk hold
      have HCOPY := Aside0.mk hcopy
      have HCP := Aside0.mk hcp
      have HPO := Aside0.mk hpo
      clear hsame hpsame hself hasks hold hcopy hcp hpo
      have hp3 := p3.lt
      have hq3 := q3.lt
      go_wp2_with fail
      refine (swageref08_Same.calls k a0_0 a0_1 A0_2 c0_2 l0_2 A0_3 c0_3 l0_3 a1_0 a1_1 A1_2 c1_2 l1_2 A1_3 c1_3 l1_3 s1 _ (Kd.C_below HR0_2.out hB3) hc0_2 (Kd.C_below HR0_3.out hB3) hc0_3 (Kd.C_below HR1_2.out hB3) hc1_2 (Kd.C_below HR1_3.out hB3) hc1_3 HSAME.out).mono ?_
      rintro e w4 ⟨rfl, hb4⟩
      have hB4 := below_step hB3 hb4
      have p4 := p3.on hb4 hp3
      have q4 := q3.on hb4 hq3
      clear cp0 cp1 cp2 cp3 cq0 cq1 cq2 cq3 hB3 p3 q3 hp3 hq3 hb4
      obtain ⟨cp0, cp1, cp2, cp3⟩ := p4.cells
      obtain ⟨cq0, cq1, cq2, cq3⟩ := q4.cells
      have hp4 := p4.lt
      have hq4 := q4.lt
      go_wp2_with fail
      refine (prog_Same.calls k a0_0 a0_1 A0_2 c0_2 l0_2 A0_3 c0_3 l0_3 a1_0 a1_1 A1_2 c1_2 l1_2 A1_3 c1_3 l1_3 s1 _ (Kd.C_below HR0_2.out hB4) hc0_2 (Kd.C_below HR0_3.out hB4) hc0_3 (Kd.C_below HR1_2.out hB4) hc1_2 (Kd.C_below HR1_3.out hB4) hc1_3 HPS.out).mono ?_
      rintro e w5 ⟨rfl, hb5⟩
      have hB5 := below_step hB4 hb5
      have p5 := p4.on hb5 hp4
      have q5 := q4.on hb5 hq4
      clear cp0 cp1 cp2 cp3 cq0 cq1 cq2 cq3 hB4 p4 q4 hp4 hq4 hb5
      obtain ⟨cp0, cp1, cp2, cp3⟩ := p5.cells
      obtain ⟨cq0, cq1, cq2, cq3⟩ := q5.cells
      have hss : (s1 != s1) = false := by simp
      have hp5 := p5.lt
      have hq5 := q5.lt
      go_wp2_with fail
      refine (prog_Same.calls k a0_0 a0_1 A0_2 c0_2 l0_2 A0_3 c0_3 l0_3 a0_0 a0_1 A0_2 c0_2 l0_2 A0_3 c0_3 l0_3 true _ (Kd.C_below HR0_2.out hB5) hc0_2 (Kd.C_below HR0_3.out hB5) hc0_3 (Kd.C_below HR0_2.out hB5) hc0_2 (Kd.C_below HR0_3.out hB5) hc0_3 HSELF.out).mono ?_
      rintro e w6 ⟨rfl, hb6⟩
      have hB6 := below_step hB5 hb6
      have p6 := p5.on hb6 hp5
      have q6 := q5.on hb6 hq5
      clear cp0 cp1 cp2 cp3 cq0 cq1 cq2 cq3 hB5 p5 q5 hp5 hq5 hb6
      obtain ⟨cp0, cp1, cp2, cp3⟩ := p6.cells
      obtain ⟨cq0, cq1, cq2, cq3⟩ := q6.cells
      have hp6 := p6.lt
      have hq6 := q6.lt
      go_wp2_with fail
      refine (swagelaw08_live.calls k true _ HLIVE.out).mono ?_
      rintro e w7 ⟨rfl, hb7⟩
      have hB7 := below_step hB6 hb7
      have p7 := p6.on hb7 hp6
      have q7 := q6.on hb7 hq6
      clear cp0 cp1 cp2 cp3 cq0 cq1 cq2 cq3 hB6 p6 q6 hp6 hq6 hb7
      obtain ⟨cp0, cp1, cp2, cp3⟩ := p7.cells
      obtain ⟨cq0, cq1, cq2, cq3⟩ := q7.cells
      go_wp2_with fail
      have hlen : l0_2.length ≤ 400 := by
        have hq := HL0.out
        unfold swagelaw08_long.f at hq
        split at hq
        · cases hq
        · omega
      have HLEN := Aside0.mk hlen
      clear hlen
      have hp7 := p7.lt
      clear cq0 cq1 cq2 cq3 q7 cp0 cp1 cp2 cp3 hss
      go_loopw [6] (fun v wr => ∃ m : Nat, m ≤ l0_2.length ∧ v = .int .i64 m ∧ Below w7.heap.size w7 wr) (fun v _ => l0_2.length - (intOf v).toNat)
      case atStart => exact ⟨0, Nat.zero_le _, rfl, Below.refl _ _⟩
      case round =>
        obtain ⟨m, hm, rfl, hBr⟩ := hrel
        have pr := p7.on hBr hp7
        obtain ⟨cp0, cp1, cp2, cp3⟩ := pr.cells
        have hpr := pr.lt
        have hlen := HLEN.out
        have hB8 := below_step hB7 hBr
        by_cases hlt : m < l0_2.length
        · have hC := Kd.C_below HR0_2.out hB8
          obtain ⟨ad, e9, hx0, hx1, hx2, hx3, hx4⟩ := at_T37 hC ((m : Nat) : Int) (by omega) (by omega)
          have hmem : rd_T37 l0_2 ((m : Nat) : Int) ∈ l0_2 := by
            unfold rd_T37
            rw [Int.toNat_natCast, List.getD_eq_getElem?_getD, List.getElem?_eq_getElem hlt, Option.getD_some]
            exact List.getElem_mem hlt
          obtain ⟨l, hl1, hl2⟩ := asks_of (List.all_eq_true.1 HASKS.out _ hmem)
          clear hmem
          have HL1' := Aside0.mk hl1
          have HL2' := Aside0.mk hl2
          clear hl1 hl2
          obtain ⟨ad2, e92, hz0, hz1, hz2, hz3, hz4⟩ : ∃ ad2, some ad = some ad2 ∧ True ∧ True ∧ True ∧ True ∧ True := ⟨ad, rfl, trivial, trivial, trivial, trivial, trivial⟩
          clear hz0 hz1 hz2 hz3 hz4 e92 ad2
          rw [Int.toNat_natCast] at hx0 hx1 hx2 hx3 hx4
          obtain ⟨x, hxx⟩ : ∃ x, rd_T37 l0_2 ((m : Nat) : Int) = x := ⟨_, rfl⟩
          rw [hxx] at hx0 hx1 hx2 hx3 hx4 HL1' HL2'
          have HXX := Aside0.mk hxx
          clear hxx
          have HE9 := Aside0.mk e9
          rw [e9] at cp2
          clear e9
          go_wp2_with fail
          refine (prog_Asks.calls k x.f0 x.f1 x.f2 x.f3 x.f4 l _ HL1'.out).mono ?_
          rintro e w8 ⟨v8, rfl, hR8, hb8⟩
          have hmax : l.length ≤ maxLen := by
            rcases own_bk hR8 with ⟨_, h0⟩ | ⟨_, cap, _, _, _, h1, h2, _⟩
            · omega
            · omega
          have hmx : l.length ≤ 9223372036854775807 := by unfold maxLen at hmax; exact hmax
          clear hmax
          obtain ⟨A8, c8, rfl⟩ := Kd.R_slice hR8
          have hC8 := (Kd.R_reads' hR8).2.2
          clear hR8
          have pr8 := pr.on hb8 hpr
          have hC' := Kd.C_below hC hb8
          clear hx0 hx1 hx2 hx3 hx4 cp0 cp1 cp2 cp3
          obtain ⟨ad2, e92, hx0, hx1, hx2, hx3, hx4⟩ := at_T37 hC' ((m : Nat) : Int) (by omega) (by omega)
          obtain rfl : ad = ad2 := Option.some.inj (HE9.out.symm.trans e92)
          clear e92
          rw [Int.toNat_natCast, HXX.out] at hx0 hx1 hx2 hx3 hx4
          obtain ⟨cp0, cp1, cp2, cp3⟩ := pr8.cells
          rw [HE9.out] at cp2
          go_wp2_with fail
          refine (swageref08_Asks.calls k x.f0 x.f1 x.f2 x.f3 x.f4 l _ HL2'.out).mono ?_
          rintro e w9 ⟨v9, rfl, hR9, hb9⟩
          obtain ⟨A9, c9, rfl⟩ := Kd.R_slice hR9
          have hC9 := (Kd.R_reads' hR9).2.2
          clear hR9
          have hC8' := Kd.C_below hC8 hb9
          have hB9 := below_step (below_step hBr hb8) hb9
          clear hx0 hx1 hx2 hx3 hx4 cp0 cp1 cp2 cp3 hC8 hC' hC pr pr8 hb8 hb9
          go_wp2_with fail
          go_loopw [9] (fun v wr => ∃ j : Nat, j ≤ l.length ∧ v = .int .i64 j ∧ Below w9.heap.size w9 wr) (fun v _ => l.length - (intOf v).toNat)
          case atStart => exact ⟨0, Nat.zero_le _, rfl, Below.refl _ _⟩
          case round =>
            obtain ⟨j, hj, rfl, hBj⟩ := hrel
            by_cases hjl : j < l.length
            · obtain ⟨ad8, e8, hy8⟩ := Kd.at_int (Kd.C_below hC8' hBj) ((j : Nat) : Int) (by omega) (by omega)
              obtain ⟨ad9, e99, hy9⟩ := Kd.at_int (Kd.C_below hC9 hBj) ((j : Nat) : Int) (by omega) (by omega)
              subst e8
              subst e99
              rw [Int.toNat_natCast] at hy8 hy9
              go_wp2
              go_quiet (fail)
              go_wp2
              go_roundw
              case rel => exact ⟨j + 1, by omega, by go_num, pw_below_drewN hBj _⟩
              case measure => simp [intOf]; omega
            · obtain rfl : j = l.length := by omega
              go_wp2
              go_roundw
              case rel => exact ⟨m + 1, by omega, by go_num, below_step hB9 hBj⟩
              case measure => simp [intOf]; omega
        · obtain rfl : m = l0_2.length := by omega
          go_wp2_with fail
          refine (swageref08_Copy.calls a0_0 a0_1 A0_2 c0_2 l0_2 A0_3 c0_3 l0_3 o0 o1 o2 o3 _ (Kd.C_below HR0_2.out hB8) hc0_2 (Kd.C_below HR0_3.out hB8) hc0_3 HOLD.out).mono ?_
          rintro e w10 ⟨v2, v3, rfl, hRo2, hRo3, hb10⟩
          obtain ⟨Ao2, co2, rfl⟩ := Kd.R_slice hRo2
          obtain ⟨Ao3, co3, rfl⟩ := Kd.R_slice hRo3
          have hCo2 := Kd.R_reads' hRo2
          have hCo3 := Kd.R_reads' hRo3
          clear hRo2 hRo3
          have p10 := (pr.on hb10 hpr).on (below_alloc (Below.refl _ _) (.cells #[.int .i64 o0, .int .i64 o1, .slice Ao2 o2.length co2, .slice Ao3 o3.length co3] 25)) (pr.on hb10 hpr).lt
          have o10 := Bx.new w10 (.int .i64 o0) (.int .i64 o1) (.slice Ao2 o2.length co2) (.slice Ao3 o3.length co3)
          have hB10 := below_alloc (below_step hB8 hb10) (.cells #[.int .i64 o0, .int .i64 o1, .slice Ao2 o2.length co2, .slice Ao3 o3.length co3] 25)
          have hb10w := below_alloc (Below.refl w10.heap.size w10) (.cells #[.int .i64 o0, .int .i64 o1, .slice Ao2 o2.length co2, .slice Ao3 o3.length co3] 25)
          clear cp0 cp1 cp2 cp3 pr hpr hb10 hB8
          obtain ⟨cp0, cp1, cp2, cp3⟩ := p10.cells
          go_wp2_with fail
          obtain ⟨W10, hW10⟩ : ∃ W, w10.alloc (.cells #[.int .i64 o0, .int .i64 o1, .slice Ao2 o2.length co2, .slice Ao3 o3.length co3] 25) = W := ⟨_, rfl⟩
          rw [hW10] at p10 o10 hB10 hb10w ⊢
          clear hW10
          have hp10 := p10.lt
          have ho10 := o10.lt
          obtain ⟨B, hBeq⟩ : ∃ B, W10.heap.size = B := ⟨_, rfl⟩
          have hwB : w.heap.size ≤ B := by rw [← hBeq]; exact hB10.size
          have hpB : w.heap.size < B := by rw [← hBeq]; exact hp10
          have hoB : w10.heap.size < B := by rw [← hBeq]; exact ho10
          refine (prog_Copy.calls a0_0 a0_1 A0_2 c0_2 l0_2 A0_3 c0_3 l0_3 d0 d1 d2 d3 _ (Kd.C_below HR0_2.out hB10) hc0_2 (Kd.C_below HR0_3.out hB10) hc0_3 HCOPY.out).mono ?_
          rintro e w11 ⟨u2, u3, rfl, hRd2, hRd3, hb11⟩
          obtain ⟨Ad2, cd2, rfl⟩ := Kd.R_slice hRd2
          obtain ⟨Ad3, cd3, rfl⟩ := Kd.R_slice hRd3
          have hCd2 := Kd.R_reads' hRd2
          have hCd3 := Kd.R_reads' hRd3
          have hk2 := own_sl hRd2
          have hk3 := own_sl hRd3
          clear hRd2 hRd3
          rw [hBeq] at hb11 hk2 hk3
          have p11 := p10.on hb11 hpB
          have o11 := o10.on hb11 hoB
          have hB11 := below_alloc (hB10.trans (hb11.mono hwB)) (.cells #[.int .i64 d0, .int .i64 d1, .slice Ad2 d2.length cd2, .slice Ad3 d3.length cd3] 25)
          have hb11w := hb10w.trans (hb11.mono (Nat.le_of_lt hoB))
          have h11z : B ≤ w11.heap.size := by rw [← hBeq]; rw [← hBeq] at hb11; exact hb11.size
          have p11' := p11.on (below_alloc (Below.refl w11.heap.size w11) (.cells #[.int .i64 d0, .int .i64 d1, .slice Ad2 d2.length cd2, .slice Ad3 d3.length cd3] 25)) (Nat.lt_of_lt_of_le hpB h11z)
          have o11' := o11.on (below_alloc (Below.refl w11.heap.size w11) (.cells #[.int .i64 d0, .int .i64 d1, .slice Ad2 d2.length cd2, .slice Ad3 d3.length cd3] 25)) (Nat.lt_of_lt_of_le hoB h11z)
          have bc11 := Bx.new w11 (.int .i64 d0) (.int .i64 d1) (.slice Ad2 d2.length cd2) (.slice Ad3 d3.length cd3)
          have hal := below_alloc (Below.refl w11.heap.size w11) (.cells #[.int .i64 d0, .int .i64 d1, .slice Ad2 d2.length cd2, .slice Ad3 d3.length cd3] 25)
          have hCd2' := Kd.C_below hCd2.2.2 hal
          have hCd3' := Kd.C_below hCd3.2.2 hal
          clear cp0 cp1 cp2 cp3 p10 o10 hp10 ho10 p11 o11 hb11 hB10 hb10w
          obtain ⟨cp0, cp1, cp2, cp3⟩ := p11'.cells
          obtain ⟨cc0, cc1, cc2, cc3⟩ := bc11.cells
          go_wp2_with fail
          refine (swageref08_Same.calls k d0 d1 Ad2 cd2 d2 Ad3 cd3 d3 a0_0 a0_1 A0_2 c0_2 l0_2 A0_3 c0_3 l0_3 true _ hCd2' hCd2.2.1 hCd3' hCd3.2.1 (Kd.C_below HR0_2.out hB11) hc0_2 (Kd.C_below HR0_3.out hB11) hc0_3 HCP.out).mono ?_
          rintro e w12 ⟨rfl, hb12⟩
          have hz12 : w11.heap.size < (w11.alloc (.cells #[.int .i64 d0, .int .i64 d1, .slice Ad2 d2.length cd2, .slice Ad3 d3.length cd3] 25)).heap.size := by rw [World.size_alloc]; omega
          have p12 := p11'.on hb12 p11'.lt
          have o12 := o11'.on hb12 o11'.lt
          have bc12 := bc11.on hb12 bc11.lt
          have hB12 := below_step hB11 hb12
          have hb10w := hb11w.trans ((hal.mono (Nat.le_trans (Nat.le_of_lt hoB) h11z)).trans (hb12.mono (by rw [World.size_alloc]; omega)))
          have hbB : Below w11.heap.size w11 w12 := hal.trans (hb12.mono (by rw [World.size_alloc]; omega))
          clear cp0 cp1 cp2 cp3 cc0 cc1 cc2 cc3 p11' o11' bc11 hal hb12 hB11 hb11w hCd2' hCd3' hCd2 hCd3 hz12
          go_wp2_with fail
          have hk : True := trivial
          rcases hk2 with ⟨rfl, rfl⟩ | ⟨g2, rfl, hg2, hgl2, hm2, hbk2⟩
          · rcases hk3 with ⟨rfl, rfl⟩ | ⟨g3, rfl, hg3, hgl3, hm3, hbk3⟩
            · skip
              clear hk
              obtain ⟨cc0, cc1, cc2, cc3⟩ := bc12.cells
              go_quiet (fail)
              clear cc0 cc1 cc2 cc3
              go_wp2_with fail
              go_loopw [14] (fun v wr => ∃ i : Nat, i ≤ 0 ∧ v = .int .i64 i ∧ Below B w12 wr) (fun v _ => 0 - (intOf v).toNat)
              case atStart => exact ⟨0, Nat.zero_le _, rfl, pw_below_drewN (Below.refl _ _) _⟩
              case round =>
                obtain ⟨i, hi, rfl, hBi⟩ := hrel
                by_cases hil : i < 0
                · omega
                · obtain rfl : i = 0 := by omega
                  go_wp2_with fail
                  have hBi0 := Below.refl B wr
                  go_loopw [15] (fun v wr' => ∃ j : Nat, j ≤ 0 ∧ v = .int .i64 j ∧ Below B w12 wr') (fun v _ => 0 - (intOf v).toNat)
                  case atStart => exact ⟨0, Nat.zero_le _, rfl, hBi⟩
                  case round =>
                    obtain ⟨j, hj, rfl, hBj⟩ := hrel
                    by_cases hjl : j < 0
                    · omega
                    · obtain rfl : j = 0 := by omega
                      have hBw := hB12.trans (hBj.mono hwB)
                      have pw := p12.on hBj hpB
                      have ow := o12.on hBj hoB
                      obtain ⟨cp0, cp1, cp2, cp3⟩ := pw.cells
                      obtain ⟨co0, co1, co2', co3'⟩ := ow.cells
                      have hC10 := hb10w.trans (hBj.mono (Nat.le_of_lt hoB))
                      go_wp2_with fail
                      refine (swageref08_Same.calls k a0_0 a0_1 A0_2 c0_2 l0_2 A0_3 c0_3 l0_3 o0 o1 Ao2 co2 o2 Ao3 co3 o3 true _ (Kd.C_below HR0_2.out hBw) hc0_2 (Kd.C_below HR0_3.out hBw) hc0_3 (Kd.C_below hCo2.2.2 hC10) hCo2.2.1 (Kd.C_below hCo3.2.2 hC10) hCo3.2.1 HPO.out).mono ?_
                      rintro e wf ⟨rfl, hbf⟩
                      go_wp2
                      go_ret
                      exact ⟨rfl, below_step hBw hbf⟩
            · replace hbk3 := hbk3.on hbB hgl3
              clear hk
              obtain ⟨cc0, cc1, cc2, cc3⟩ := bc12.cells
              have hm3' : (cd3 : Int) ≤ 9223372036854775807 := by unfold maxLen at hm3; omega
              go_quiet (fail)
              clear cc0 cc1 cc2 cc3
              go_wp2_with fail
              go_loopw [14] (fun v wr => ∃ i : Nat, i ≤ 0 ∧ v = .int .i64 i ∧ Below B w12 wr ∧ Blk wr g3 3 (cd3 * 1)) (fun v _ => 0 - (intOf v).toNat)
              case atStart => exact ⟨0, Nat.zero_le _, rfl, pw_below_drewN (Below.refl _ _) _, hbk3⟩
              case round =>
                obtain ⟨i, hi, rfl, hBi, hi3⟩ := hrel
                by_cases hil : i < 0
                · omega
                · obtain rfl : i = 0 := by omega
                  go_wp2_with fail
                  have hBi0 := Below.refl B wr
                  go_loopw [15] (fun v wr' => ∃ j : Nat, j ≤ cd3 ∧ v = .int .i64 j ∧ Below B w12 wr' ∧ Blk wr' g3 3 (cd3 * 1)) (fun v _ => cd3 - (intOf v).toNat)
                  case atStart => exact ⟨0, Nat.zero_le _, rfl, hBi, hi3⟩
                  case round =>
                    obtain ⟨j, hj, rfl, hBj, hj3⟩ := hrel
                    by_cases hjl : j < cd3
                    · have fz := hj3.frozen j
                      obtain ⟨s, hs⟩ := hj3.cell j (by omega)
                      go_wp2
                      go_roundw
                      case rel => exact ⟨j + 1, by omega, by go_num, hBj.setCell (p := ⟨g3, j, none⟩) hg3 _, hj3.set _ _⟩
                      case measure => simp [intOf]; omega
                    · obtain rfl : j = cd3 := by omega
                      have hBw := hB12.trans (hBj.mono hwB)
                      have pw := p12.on hBj hpB
                      have ow := o12.on hBj hoB
                      obtain ⟨cp0, cp1, cp2, cp3⟩ := pw.cells
                      obtain ⟨co0, co1, co2', co3'⟩ := ow.cells
                      have hC10 := hb10w.trans (hBj.mono (Nat.le_of_lt hoB))
                      go_wp2_with fail
                      refine (swageref08_Same.calls k a0_0 a0_1 A0_2 c0_2 l0_2 A0_3 c0_3 l0_3 o0 o1 Ao2 co2 o2 Ao3 co3 o3 true _ (Kd.C_below HR0_2.out hBw) hc0_2 (Kd.C_below HR0_3.out hBw) hc0_3 (Kd.C_below hCo2.2.2 hC10) hCo2.2.1 (Kd.C_below hCo3.2.2 hC10) hCo3.2.1 HPO.out).mono ?_
                      rintro e wf ⟨rfl, hbf⟩
                      go_wp2
                      go_ret
                      exact ⟨rfl, below_step hBw hbf⟩
          · replace hbk2 := hbk2.on hbB hgl2
            rcases hk3 with ⟨rfl, rfl⟩ | ⟨g3, rfl, hg3, hgl3, hm3, hbk3⟩
            · skip
              clear hk
              obtain ⟨cc0, cc1, cc2, cc3⟩ := bc12.cells
              have hm2' : (cd2 : Int) ≤ 9223372036854775807 := by unfold maxLen at hm2; omega
              go_quiet (fail)
              clear cc0 cc1 cc2 cc3
              go_wp2_with fail
              go_loopw [14] (fun v wr => ∃ i : Nat, i ≤ cd2 ∧ v = .int .i64 i ∧ Below B w12 wr ∧ Blk wr g2 37 (cd2 * 5)) (fun v _ => cd2 - (intOf v).toNat)
              case atStart => exact ⟨0, Nat.zero_le _, rfl, pw_below_drewN (Below.refl _ _) _, hbk2⟩
              case round =>
                obtain ⟨i, hi, rfl, hBi, hi2⟩ := hrel
                by_cases hil : i < cd2
                · have fz := hi2.frozen
                  obtain ⟨s0, hs0⟩ := hi2.cell (i * 5 + 0) (by omega)
                  obtain ⟨s1, hs1⟩ := hi2.cell (i * 5 + 1) (by omega)
                  obtain ⟨s2, hs2⟩ := hi2.cell (i * 5 + 2) (by omega)
                  obtain ⟨s3, hs3⟩ := hi2.cell (i * 5 + 3) (by omega)
                  obtain ⟨s4, hs4⟩ := hi2.cell (i * 5 + 4) (by omega)
                  rw [Nat.add_zero] at hs0
                  have fz0 := fz (i * 5)
                  have fz1 := fz (i * 5 + 1)
                  have fz2 := fz (i * 5 + 2)
                  have fz3 := fz (i * 5 + 3)
                  have fz4 := fz (i * 5 + 4)
                  clear fz
                  go_wp2
                  go_roundw
                  case rel => exact ⟨i + 1, by omega, by go_num, (((((hBi).setCell (p := ⟨g2, i * 5, none⟩) hg2 _).setCell (p := ⟨g2, i * 5 + 1, none⟩) hg2 _).setCell (p := ⟨g2, i * 5 + 2, none⟩) hg2 _).setCell (p := ⟨g2, i * 5 + 3, none⟩) hg2 _).setCell (p := ⟨g2, i * 5 + 4, none⟩) hg2 _, (((((hi2).set _ _).set _ _).set _ _).set _ _).set _ _⟩
                  case measure => simp [intOf]; omega
                · obtain rfl : i = cd2 := by omega
                  go_wp2_with fail
                  have hBi0 := Below.refl B wr
                  go_loopw [15] (fun v wr' => ∃ j : Nat, j ≤ 0 ∧ v = .int .i64 j ∧ Below B w12 wr') (fun v _ => 0 - (intOf v).toNat)
                  case atStart => exact ⟨0, Nat.zero_le _, rfl, hBi⟩
                  case round =>
                    obtain ⟨j, hj, rfl, hBj⟩ := hrel
                    by_cases hjl : j < 0
                    · omega
                    · obtain rfl : j = 0 := by omega
                      have hBw := hB12.trans (hBj.mono hwB)
                      have pw := p12.on hBj hpB
                      have ow := o12.on hBj hoB
                      obtain ⟨cp0, cp1, cp2, cp3⟩ := pw.cells
                      obtain ⟨co0, co1, co2', co3'⟩ := ow.cells
                      have hC10 := hb10w.trans (hBj.mono (Nat.le_of_lt hoB))
                      go_wp2_with fail
                      refine (swageref08_Same.calls k a0_0 a0_1 A0_2 c0_2 l0_2 A0_3 c0_3 l0_3 o0 o1 Ao2 co2 o2 Ao3 co3 o3 true _ (Kd.C_below HR0_2.out hBw) hc0_2 (Kd.C_below HR0_3.out hBw) hc0_3 (Kd.C_below hCo2.2.2 hC10) hCo2.2.1 (Kd.C_below hCo3.2.2 hC10) hCo3.2.1 HPO.out).mono ?_
                      rintro e wf ⟨rfl, hbf⟩
                      go_wp2
                      go_ret
                      exact ⟨rfl, below_step hBw hbf⟩
            · replace hbk3 := hbk3.on hbB hgl3
              have hg23 : g3 ≠ g2 := Blk.ne hbk3 hbk2 (by decide)
              clear hk
              obtain ⟨cc0, cc1, cc2, cc3⟩ := bc12.cells
              have hm2' : (cd2 : Int) ≤ 9223372036854775807 := by unfold maxLen at hm2; omega
              have hm3' : (cd3 : Int) ≤ 9223372036854775807 := by unfold maxLen at hm3; omega
              go_quiet (fail)
              clear cc0 cc1 cc2 cc3
              go_wp2_with fail
              go_loopw [14] (fun v wr => ∃ i : Nat, i ≤ cd2 ∧ v = .int .i64 i ∧ Below B w12 wr ∧ Blk wr g2 37 (cd2 * 5) ∧ Blk wr g3 3 (cd3 * 1)) (fun v _ => cd2 - (intOf v).toNat)
              case atStart => exact ⟨0, Nat.zero_le _, rfl, pw_below_drewN (Below.refl _ _) _, hbk2, hbk3⟩
              case round =>
                obtain ⟨i, hi, rfl, hBi, hi2, hi3⟩ := hrel
                by_cases hil : i < cd2
                · have fz := hi2.frozen
                  obtain ⟨s0, hs0⟩ := hi2.cell (i * 5 + 0) (by omega)
                  obtain ⟨s1, hs1⟩ := hi2.cell (i * 5 + 1) (by omega)
                  obtain ⟨s2, hs2⟩ := hi2.cell (i * 5 + 2) (by omega)
                  obtain ⟨s3, hs3⟩ := hi2.cell (i * 5 + 3) (by omega)
                  obtain ⟨s4, hs4⟩ := hi2.cell (i * 5 + 4) (by omega)
                  rw [Nat.add_zero] at hs0
                  have fz0 := fz (i * 5)
                  have fz1 := fz (i * 5 + 1)
                  have fz2 := fz (i * 5 + 2)
                  have fz3 := fz (i * 5 + 3)
                  have fz4 := fz (i * 5 + 4)
                  clear fz
                  go_wp2
                  go_roundw
                  case rel => exact ⟨i + 1, by omega, by go_num, (((((hBi).setCell (p := ⟨g2, i * 5, none⟩) hg2 _).setCell (p := ⟨g2, i * 5 + 1, none⟩) hg2 _).setCell (p := ⟨g2, i * 5 + 2, none⟩) hg2 _).setCell (p := ⟨g2, i * 5 + 3, none⟩) hg2 _).setCell (p := ⟨g2, i * 5 + 4, none⟩) hg2 _, (((((hi2).set _ _).set _ _).set _ _).set _ _).set _ _, ((((hi3.far hg23 _ _).far hg23 _ _).far hg23 _ _).far hg23 _ _).far hg23 _ _⟩
                  case measure => simp [intOf]; omega
                · obtain rfl : i = cd2 := by omega
                  go_wp2_with fail
                  have hBi0 := Below.refl B wr
                  go_loopw [15] (fun v wr' => ∃ j : Nat, j ≤ cd3 ∧ v = .int .i64 j ∧ Below B w12 wr' ∧ Blk wr' g3 3 (cd3 * 1)) (fun v _ => cd3 - (intOf v).toNat)
                  case atStart => exact ⟨0, Nat.zero_le _, rfl, hBi, hi3⟩
                  case round =>
                    obtain ⟨j, hj, rfl, hBj, hj3⟩ := hrel
                    by_cases hjl : j < cd3
                    · have fz := hj3.frozen j
                      obtain ⟨s, hs⟩ := hj3.cell j (by omega)
                      go_wp2
                      go_roundw
                      case rel => exact ⟨j + 1, by omega, by go_num, hBj.setCell (p := ⟨g3, j, none⟩) hg3 _, hj3.set _ _⟩
                      case measure => simp [intOf]; omega
                    · obtain rfl : j = cd3 := by omega
                      have hBw := hB12.trans (hBj.mono hwB)
                      have pw := p12.on hBj hpB
                      have ow := o12.on hBj hoB
                      obtain ⟨cp0, cp1, cp2, cp3⟩ := pw.cells
                      obtain ⟨co0, co1, co2', co3'⟩ := ow.cells
                      have hC10 := hb10w.trans (hBj.mono (Nat.le_of_lt hoB))
                      go_wp2_with fail
                      refine (swageref08_Same.calls k a0_0 a0_1 A0_2 c0_2 l0_2 A0_3 c0_3 l0_3 o0 o1 Ao2 co2 o2 Ao3 co3 o3 true _ (Kd.C_below HR0_2.out hBw) hc0_2 (Kd.C_below HR0_3.out hBw) hc0_3 (Kd.C_below hCo2.2.2 hC10) hCo2.2.1 (Kd.C_below hCo3.2.2 hC10) hCo3.2.1 HPO.out).mono ?_
                      rintro e wf ⟨rfl, hbf⟩
                      go_wp2
                      go_ret
                      exact ⟨rfl, below_step hBw hbf⟩
end Go.Proofs.YtkknkdmdglncoaaDoor.Cop
end

section
namespace Go.Proofs.YtkknkdmdglncoaaDoor.XA
open Go.RowKit Go.Proofs.YtkknkdmdglncoaaDoorW.PrintWords Go.Proofs.YtkknkdmdglncoaaDoorW.PrintLast Go.Proofs.YtkknkdmdglncoaaDoorW.PrintMore
attribute [local go_sem] max2_int min2_int max_two min_two max_three min_three max_four min_four   -- for this text's walks alone
set_option linter.unusedVariables false
set_option linter.unusedSimpArgs false

/-! ### swagelaw08_ProgCopies: function 5 -/
--IMPORT Derived.Test.YtkknkdmdglncoaaDoorCop
def swagelaw08_ProgCopies.f (k : Nat) (a0_0 : Int) (a0_1 : Int) (l0_2 : List (S37)) (l0_3 : List Int) (a1_0 : Int) (a1_1 : Int) (l1_2 : List (S37)) (l1_3 : List Int) : Option (Bool) := Cop.pcop k a0_0 a0_1 l0_2 l0_3 a1_0 a1_1 l1_2 l1_3
theorem swagelaw08_ProgCopies.calls (k : Nat) (a0_0 : Int) (a0_1 : Int) (A0_2 : Option Addr) (c0_2 : Nat) (l0_2 : List (S37)) (A0_3 : Option Addr) (c0_3 : Nat) (l0_3 : List Int) (a1_0 : Int) (a1_1 : Int) (A1_2 : Option Addr) (c1_2 : Nat) (l1_2 : List (S37)) (A1_3 : Option Addr) (c1_3 : Nat) (l1_3 : List Int) (r : Bool) (w : World) (hr0_2 : Kd.C k37 w A0_2 l0_2.length l0_2) (hc0_2 : l0_2.length ≤ c0_2) (hr0_3 : Kd.C (Kd.int .i64) w A0_3 l0_3.length l0_3) (hc0_3 : l0_3.length ≤ c0_3) (hr1_2 : Kd.C k37 w A1_2 l1_2.length l1_2) (hc1_2 : l1_2.length ≤ c1_2) (hr1_3 : Kd.C (Kd.int .i64) w A1_3 l1_3.length l1_3) (hc1_3 : l1_3.length ≤ c1_3) (h : swagelaw08_ProgCopies.f k a0_0 a0_1 l0_2 l0_3 a1_0 a1_1 l1_2 l1_3 = some r) :
    Calls Tryd.prog 5 #[.agg #[.int .i64 a0_0, .int .i64 a0_1, .slice A0_2 l0_2.length c0_2, .slice A0_3 l0_3.length c0_3], .agg #[.int .i64 a1_0, .int .i64 a1_1, .slice A1_2 l1_2.length c1_2, .slice A1_3 l1_3.length c1_3]] w fun e w' => e = .returned (.bool r) ∧ Below w.heap.size w w' := by
  exact Cop.pcop_calls k a0_0 a0_1 A0_2 c0_2 l0_2 A0_3 c0_3 l0_3 a1_0 a1_1 A1_2 c1_2 l1_2 A1_3 c1_3 l1_3 r w hr0_2 hc0_2 hr0_3 hc0_3 hr1_2 hc1_2 hr1_3 hc1_3 h

end Go.Proofs.YtkknkdmdglncoaaDoor.XA
end

section
/- Arguments opened by their kinds: what is read as data at a type is a Lean value of that type's kind. Of every seat alike; its own words alone. -/
namespace Go.Proofs.YtkknkdmdglncoaaDoor.Opn
open Go.ChangeShapes Go.WideShapes Go.Proofs.YtkknkdmdglncoaaDoorW.PrintWords
set_option linter.unusedVariables false

/-- Whatever is read at type t is of kind d, and wf. -/
structure Opn {α : Type} (P : Program) (t : TypeId) (d : Kd α) (wf : α → Prop) : Prop where
  get : ∀ {H : Type} {enc : TypeId × Value → H} {w : World} {base : Nat} {spare : Nat → Bool} {held : Bool} {fuel : Nat} {cs : List Value} {x : DataW H × List MemPlace},
    DataW.trod enc P w base spare held fuel t cs = some x → (∀ n ∈ DataW.weights P t x.1, n ≤ reachBytes) → ∃ a : α, d.K w a cs ∧ wf a

section
variable {P : Program} {t : TypeId}
theorem opn_int {k : IntKind} (ht : P.underlying t = some (.int k)) : Opn P t (Kd.int k) (fun n => (Lit.int k n).wf = true) :=
  ⟨fun h _ => by
    obtain ⟨n, rfl, rfl, hw⟩ := DataW.trod_int ht h
    exact ⟨n, rfl, hw⟩⟩
theorem choose_list {α : Type} {Q : Nat → α → Prop} : ∀ n : Nat, (∀ i, i < n → ∃ x, Q i x) → ∃ xs : List α, xs.length = n ∧ ∀ i x, xs[i]? = some x → Q i x := by
  intro n h
  induction n with
  | zero => exact ⟨[], rfl, fun i x hx => by simp at hx⟩
  | succ n ih =>
    obtain ⟨xs, hl, hq⟩ := ih (fun i hi => h i (by omega))
    obtain ⟨y, hy⟩ := h n (by omega)
    refine ⟨xs ++ [y], by simp [hl], fun i x hx => ?_⟩
    by_cases hi : i < n
    · rw [List.getElem?_append_left (by omega)] at hx
      exact hq i x hx
    · rw [List.getElem?_append_right (by omega)] at hx
      have : i = n := by
        have := (List.getElem?_eq_some_iff.1 hx).1
        simp at this
        omega
      subst this
      rw [hl, Nat.sub_self] at hx
      simp at hx
      subst hx
      exact hy

theorem opn_slice {α : Type} {e : TypeId} {d : Kd α} {wf : α → Prop} {B : Nat} (ht : P.underlying t = some (.slice e)) (hC : P.cellsOf e = d.sz) (hB : P.bytesOf e = B) (ho : Opn P e d wf) :
    Opn P t (Kd.slice e d) (fun xs => xs.length * B ≤ 140737488351232 ∧ xs.length ≤ 9223372036854775807 ∧ ∀ x ∈ xs, wf x) :=
  ⟨fun {H enc w base spare held fuel cs x} h hz => by
    rcases DataW.trod_slice ht h with ⟨rfl, rfl⟩ | ⟨a, len, cap, elems, rest, n, rfl, rfl, rfl, hb, hl, hm, hlen, hel, _, _⟩
    · refine ⟨[], ⟨none, 0, rfl, by simp, Kd.C_nil d w⟩, by simp⟩
    · have hw : ∀ n ∈ DataW.weightsAll P e (elems.map (·.1)), n ≤ reachBytes := fun n hn => hz n (by simp only [DataW.weights, ht]; exact List.mem_cons_of_mem _ (List.mem_append_left _ hn))
      have hwi : ∀ (i : Nat) (y : DataW H × List MemPlace), elems[i]? = some y → ∀ n ∈ DataW.weights P e y.1, n ≤ reachBytes := by
        have : ∀ (l : List (DataW H)) (d : DataW H), d ∈ l → ∀ n ∈ DataW.weights P e d, n ∈ DataW.weightsAll P e l := by
          intro l
          induction l with
          | nil => intro d hd; simp at hd
          | cons z l ih =>
            intro d hd n hn
            simp only [DataW.weightsAll, List.mem_append]
            rcases List.mem_cons.1 hd with rfl | hd
            · exact Or.inl hn
            · exact Or.inr (ih d hd n hn)
        intro i y hy n hn
        exact hw n (this _ y.1 (List.mem_map.2 ⟨y, List.mem_of_getElem? hy, rfl⟩) n hn)
      have hx : ∀ i, i < len → ∃ x : α, (∃ c, c.length = d.sz ∧ d.K w x c ∧ ∀ j u, c[j]? = some u → w.cell? (a.add (i * d.sz + j)) = some u) ∧ wf x := by
        intro i hi
        have h1 := hel i hi
        rw [List.getElem?_eq_getElem (by omega)] at h1
        obtain ⟨c, hc, hd⟩ := Option.bind_eq_some_iff.1 h1
        obtain ⟨x, hK, hwf⟩ := ho.get hd (hwi i _ (List.getElem?_eq_getElem (by omega)))
        obtain ⟨_, hcl, hcell⟩ := World.cells?_some hc
        refine ⟨x, ⟨c, by rw [hcl, hC], hK, fun j u hj => ?_⟩, hwf⟩
        have hj' : j < P.cellsOf e := by rw [← hcl]; exact (List.getElem?_eq_some_iff.1 hj).1
        rw [← hC, ← add_add, hcell j hj', hj]
      obtain ⟨xs, hxl, hq⟩ := choose_list len hx
      refine ⟨xs, ⟨some a, cap, by rw [hxl], by omega, ?_⟩, ?_, by unfold maxLen at hm; omega, fun x hx => ?_⟩
      · refine ⟨rfl, by unfold maxLen at hm; omega, fun _ => ⟨a, rfl, fun j p hj => ?_⟩⟩
        exact (hq j p hj).1
      · have := hz ((elems.map (·.1)).length + (rest.map (·.1)).length |> (· * P.bytesOf e)) (by simp only [DataW.weights, ht]; exact List.mem_cons_self)
        simp only [List.length_map, hB] at this
        rw [hxl, ← hlen]
        exact Nat.le_trans (Nat.mul_le_mul_right _ (Nat.le_add_right _ _)) this
      · obtain ⟨i, hi⟩ := List.mem_iff_getElem?.1 hx
        exact (hq i x hi).2⟩

/-- The fields of a struct, from offset off on. -/
structure OpnFs {α : Type} (P : Program) (fs : List Field) (off : Nat) (d : Kd α) (wf : α → Prop) : Prop where
  get : ∀ {H : Type} {enc : TypeId × Value → H} {w : World} {base : Nat} {spare : Nat → Bool} {held : Bool} {fuel : Nat} {cs : List Value} {xs : List (DataW H × List MemPlace)},
    cs.length = off + d.sz → xs.length = fs.length →
    (∀ (i : Nat) (f : Field), fs[i]? = some f → DataW.trod enc P w base spare held fuel f.type ((cs.drop f.offset).take (P.cellsOf f.type)) = xs[i]?) →
    (∀ n ∈ DataW.weightsEach P (fs.map (·.type)) (xs.map (·.1)), n ≤ reachBytes) → ∃ a : α, d.K w a (cs.drop off) ∧ wf a

theorem fs_one {α : Type} {f : Field} {off : Nat} {d : Kd α} {wf : α → Prop} (hoff : f.offset = off) (hC : P.cellsOf f.type = d.sz) (ho : Opn P f.type d wf) : OpnFs P [f] off d wf :=
  ⟨fun {H enc w base spare held fuel cs xs} hl hx hf hz => by
    match xs, hx with
    | [y], _ =>
      have h := hf 0 f rfl
      rw [hoff, hC, List.take_of_length_le (by simp; omega)] at h
      exact ho.get h (fun n hn => hz n (by simp only [List.map_cons, List.map_nil, DataW.weightsEach]; exact List.mem_append_left _ hn))⟩
theorem fs_cons {α β : Type} {f : Field} {fs : List Field} {off : Nat} {d : Kd α} {d' : Kd β} {wf : α → Prop} {wf' : β → Prop} (hoff : f.offset = off) (hC : P.cellsOf f.type = d.sz) (ho : Opn P f.type d wf) (hs : OpnFs P fs (off + d.sz) d' wf') :
    OpnFs P (f :: fs) off (Kd.pair d d') (fun x => wf x.1 ∧ wf' x.2) :=
  ⟨fun {H enc w base spare held fuel cs xs} hl hx hf hz => by
    match xs, hx with
    | y :: ys, hx =>
      have hl' : cs.length = off + (d.sz + d'.sz) := hl
      have h := hf 0 f rfl
      rw [hoff, hC] at h
      obtain ⟨a, hK, hwf⟩ := ho.get h (fun n hn => hz n (by simp only [List.map_cons, DataW.weightsEach]; exact List.mem_append_left _ hn))
      obtain ⟨b, hK', hwf'⟩ := hs.get (cs := cs) (xs := ys) (by omega) (by simpa using hx) (fun i g hg => by simpa using hf (i + 1) g (by simpa using hg))
        (fun n hn => hz n (by simp only [List.map_cons, DataW.weightsEach]; exact List.mem_append_right _ hn))
      refine ⟨(a, b), ⟨_, _, ?_, hK, hK'⟩, hwf, hwf'⟩
      rw [← List.drop_drop, List.take_append_drop]⟩
theorem opn_struct {α : Type} {fs : Array Field} {d : Kd α} {wf : α → Prop} (ht : P.underlying t = some (.struct fs)) (hC : P.cellsOf t = d.sz) (hs : OpnFs P fs.toList 0 d wf) : Opn P t d wf :=
  ⟨fun {H enc w base spare held fuel cs x} h hz => by
    obtain ⟨xs, n, rfl, rfl, hl, hxl, hf⟩ := DataW.trod_struct ht h
    have := hs.get (cs := cs) (xs := xs) (by rw [hl, hC]; simp) (by simpa using hxl) (fun i f hi => hf i f (by simpa using hi)) (fun n hn => hz n (by simp only [DataW.weights, ht]; exact hn))
    simpa using this⟩
/-- A Lean structure in the place of its fields' pairs. -/
theorem opn_iso {α β : Type} {d : Kd α} {wf : α → Prop} (f : β → α) (g : α → β) (hfg : ∀ a, f (g a) = a) (h : Opn P t d wf) : Opn P t (Kd.iso d f) (fun b => wf (f b)) :=
  ⟨fun ht hz => by
    obtain ⟨a, hK, hwf⟩ := h.get ht hz
    exact ⟨g a, by show d.K _ (f (g a)) _; rw [hfg]; exact hK, by rw [hfg]; exact hwf⟩⟩
end

section
variable {H : Type} {enc : TypeId × Value → H} {P : Program} {w : World} {base : Nat} {spare : Nat → Bool} {held : Bool} {t : TypeId}
theorem opened {α : Type} {d : Kd α} {wf : α → Prop} (ho : Opn P t d wf) {v : Value} {dd : DataW H} {ps : List MemPlace} {ts : List TypeId} {ds : List (DataW H)} {j : Nat}
    (hsz : (DataW.weightsEach P ts ds).all (· ≤ reachBytes) = true) (ht : ts[j]? = some t) (hd : ds[j]? = some dd) (h : DataW.Trod enc P w base spare held t v dd ps) : ∃ a : α, d.K w a v.cells.toList ∧ wf a := by
  obtain ⟨fuel, hf⟩ := h
  exact ho.get hf (fun n hn => by simpa using List.all_eq_true.1 hsz n (DataW.weights_mem_each ht hd n hn))
theorem trod_lt {v : Value} {d : DataW H} {ps : List MemPlace} (h : DataW.Trod enc P w base spare held t v d ps) : ∀ x ∈ ps, x.block < w.heap.size := by
  obtain ⟨m, hm⟩ := h
  exact DataW.trod_lt m _ _ _ hm
end
end Go.Proofs.YtkknkdmdglncoaaDoor.Opn
end

section
namespace Go.Proofs.YtkknkdmdglncoaaDoor.SaidProgCopies
open Go.RowKit Go.Proofs.YtkknkdmdglncoaaDoorW.PrintWords Go.Proofs.YtkknkdmdglncoaaDoorW.PrintLast Go.Proofs.YtkknkdmdglncoaaDoor.Opn Go.Proofs.YtkknkdmdglncoaaDoor.XA
set_option linter.unusedVariables false
/-- What is known of whatever is read at this type. -/
def wfS37 (x : S37) : Prop := (Lit.int .i64 x.f0).wf = true ∧ (Lit.int .i64 x.f1).wf = true ∧ (Lit.int .i64 x.f2).wf = true ∧ (Lit.int .i64 x.f3).wf = true ∧ (Lit.int .i64 x.f4).wf = true
theorem opnS37 : Opn Tryd.prog 37 k37 wfS37 := opn_iso (fun x : S37 => (x.f0, x.f1, x.f2, x.f3, x.f4)) (fun p => ⟨p.1, p.2.1, p.2.2.1, p.2.2.2.1, p.2.2.2.2⟩) (fun _ => rfl) (opn_struct Tryd.underlying37 (by kernel_rfl) (fs_cons rfl (by kernel_rfl) (opn_int Tryd.underlying3) (fs_cons rfl (by kernel_rfl) (opn_int Tryd.underlying3) (fs_cons rfl (by kernel_rfl) (opn_int Tryd.underlying3) (fs_cons rfl (by kernel_rfl) (opn_int Tryd.underlying3) (fs_one rfl (by kernel_rfl) (opn_int Tryd.underlying3)))))))
/-- What is known of whatever is read at this type. -/
def wfS25 (x : S25) : Prop := (Lit.int .i64 x.f0).wf = true ∧ (Lit.int .i64 x.f1).wf = true ∧ (x.f2.length * 40 ≤ 140737488351232 ∧ x.f2.length ≤ 9223372036854775807 ∧ ∀ y ∈ x.f2, wfS37 y) ∧ (x.f3.length * 8 ≤ 140737488351232 ∧ x.f3.length ≤ 9223372036854775807 ∧ ∀ y ∈ x.f3, (Lit.int .i64 y).wf = true)
theorem opnS25 : Opn Tryd.prog 25 k25 wfS25 := opn_iso (fun x : S25 => (x.f0, x.f1, x.f2, x.f3)) (fun p => ⟨p.1, p.2.1, p.2.2.1, p.2.2.2⟩) (fun _ => rfl) (opn_struct Tryd.underlying25 (by kernel_rfl) (fs_cons rfl (by kernel_rfl) (opn_int Tryd.underlying3) (fs_cons rfl (by kernel_rfl) (opn_int Tryd.underlying3) (fs_cons rfl (by kernel_rfl) (opn_slice (B := 40) Tryd.underlying22 (by kernel_rfl) (by kernel_rfl) (opnS37)) (fs_one rfl (by kernel_rfl) (opn_slice (B := 8) Tryd.underlying23 (by kernel_rfl) (by kernel_rfl) (opn_int Tryd.underlying3)))))))
/-- THE PURE STATEMENT. -/
def Pure : Prop := ∀ (x0 : S25) (x1 : S25), wfS25 x0 → wfS25 x1 → ∃ k, swagelaw08_ProgCopies.f k x0.f0 x0.f1 x0.f2 x0.f3 x1.f0 x1.f1 x1.f2 x1.f3 = some true
end Go.Proofs.YtkknkdmdglncoaaDoor.SaidProgCopies
end

section
namespace Go.Proofs.YtkknkdmdglncoaaDoor.XA
open Go.RowKit Go.Proofs.YtkknkdmdglncoaaDoorW.PrintWords Go.Proofs.YtkknkdmdglncoaaDoorW.PrintLast Go.Proofs.YtkknkdmdglncoaaDoorW.PrintMore
attribute [local go_sem] max2_int min2_int max_two min_two max_three min_three max_four min_four   -- for this text's walks alone
set_option linter.unusedVariables false
set_option linter.unusedSimpArgs false

/-! ### swageref08_May: function 35 -/
mutual
def swageref08_May.j0 : Nat → Int → Bool → Int → Int → Int → Int → Int → Option (Bool)
  | 0, _, _, _, _, _, _, _ => none
  | k + 1, x1, x34, x146000, x146001, x146002, x146003, x146004 => if x34 = true then (some false) else (if x146000 = 3 then (swageref08_May.j1 k x1 true x146000 x146001 x146002 x146003 x146004) else (swageref08_May.j1 k x1 (x146000 == 4) x146000 x146001 x146002 x146003 x146004))
def swageref08_May.j1 : Nat → Int → Bool → Int → Int → Int → Int → Int → Option (Bool)
  | 0, _, _, _, _, _, _, _ => none
  | k + 1, x1, x42, x146000, x146001, x146002, x146003, x146004 => if x42 = true then (if x146003 ≥ 0 then (if x146003 < x1 then (some (x146004 == 0)) else (some false)) else (some false)) else (if x146003 = 0 then (if x146000 = 5 then (swageref08_May.j2 k true x146000 x146001 x146002 x146003 x146004) else (swageref08_May.j2 k (x146000 == 6) x146000 x146001 x146002 x146003 x146004)) else (some false))
def swageref08_May.j2 : Nat → Bool → Int → Int → Int → Int → Int → Option (Bool)
  | 0, _, _, _, _, _, _ => none
  | k + 1, x67, x146000, x146001, x146002, x146003, x146004 => if x67 = true then (if x146004 = 0 then (some false) else (if x146004 ≥ (-512) then (some (decide (x146004 ≤ 512))) else (some false))) else (if x146000 = 7 then (if x146004 ≥ 1 then (some (decide (x146004 ≤ 64))) else (some false)) else (if x146000 = 8 then (if x146004 ≥ 1 then (some (decide (x146004 ≤ 64))) else (some false)) else (some (x146004 == 0))))
end
def swageref08_May.f (k : Nat) (a0_0 : Int) (a0_1 : Int) (a0_2 : Int) (a0_3 : Int) (a0_4 : Int) (a1 : Int) : Option (Bool) := if a0_0 < 1 then (swageref08_May.j0 k a1 true a0_0 a0_1 a0_2 a0_3 a0_4) else (if a0_0 > 8 then (swageref08_May.j0 k a1 true a0_0 a0_1 a0_2 a0_3 a0_4) else (if a0_1 < 0 then (swageref08_May.j0 k a1 true a0_0 a0_1 a0_2 a0_3 a0_4) else (if a0_1 ≥ a1 then (swageref08_May.j0 k a1 true a0_0 a0_1 a0_2 a0_3 a0_4) else (if a0_2 < 0 then (swageref08_May.j0 k a1 true a0_0 a0_1 a0_2 a0_3 a0_4) else (swageref08_May.j0 k a1 (decide (a0_2 ≥ a1)) a0_0 a0_1 a0_2 a0_3 a0_4)))))
end Go.Proofs.YtkknkdmdglncoaaDoor.XA
end

section
namespace Go.Proofs.YtkknkdmdglncoaaDoor.XA
open Go.RowKit Go.Proofs.YtkknkdmdglncoaaDoorW.PrintWords Go.Proofs.YtkknkdmdglncoaaDoorW.PrintLast Go.Proofs.YtkknkdmdglncoaaDoorW.PrintMore
attribute [local go_sem] max2_int min2_int max_two min_two max_three min_three max_four min_four   -- for this text's walks alone
set_option linter.unusedVariables false
set_option linter.unusedSimpArgs false

/-! ### swageref08_Check: function 12 -/
mutual
def swageref08_Check.j0 : Nat → Bool → Int → Int → List (S37) → List Int → Option (Int × Bool)
  | 0, _, _, _, _, _ => none
  | k + 1, x38, x147000, x147001, x147002, x147003 => if x38 = true then (some ((-1), true)) else (swageref08_Check.l0 k 0 x147000 x147001 x147002 x147003)
def swageref08_Check.l0 : Nat → Int → Int → Int → List (S37) → List Int → Option (Int × Bool)
  | 0, _, _, _, _, _ => none
  | k + 1, x4, x147000, x147001, x147002, x147003 => if x4 < (x147003.length : Int) then (if 0 ≤ x4 then (if (rd x147003 x4) < 0 then (some ((-1), true)) else (if (rd x147003 x4) ≥ x147001 then (some ((-1), true)) else (swageref08_Check.l0 k (wrap64 (x4 + 1)) x147000 x147001 x147002 x147003))) else (none)) else (swageref08_Check.l1 k 0 x147000 x147001 x147002 x147003)
def swageref08_Check.l1 : Nat → Int → Int → Int → List (S37) → List Int → Option (Int × Bool)
  | 0, _, _, _, _, _ => none
  | k + 1, x5, x147000, x147001, x147002, x147003 => if x5 < (x147002.length : Int) then (if 0 ≤ x5 then ((swageref08_May.f k ((rd_T37 x147002 x5).f0) ((rd_T37 x147002 x5).f1) ((rd_T37 x147002 x5).f2) ((rd_T37 x147002 x5).f3) ((rd_T37 x147002 x5).f4) x147001).bind fun t150 => (if t150 = true then (swageref08_Check.l1 k (wrap64 (x5 + 1)) x147000 x147001 x147002 x147003) else (some (x5, true)))) else (none)) else (some (0, false))
end
def swageref08_Check.f (k : Nat) (a0_0 : Int) (a0_1 : Int) (l0_2 : List (S37)) (l0_3 : List Int) : Option (Int × Bool) := if a0_0 < 1 then (swageref08_Check.j0 k true a0_0 a0_1 l0_2 l0_3) else (if a0_0 > a0_1 then (swageref08_Check.j0 k true a0_0 a0_1 l0_2 l0_3) else (if a0_1 > 128 then (swageref08_Check.j0 k true a0_0 a0_1 l0_2 l0_3) else (if (l0_2.length : Int) > 16384 then (swageref08_Check.j0 k true a0_0 a0_1 l0_2 l0_3) else (if (l0_3.length : Int) < 1 then (swageref08_Check.j0 k true a0_0 a0_1 l0_2 l0_3) else (swageref08_Check.j0 k (decide (128 < l0_3.length)) a0_0 a0_1 l0_2 l0_3)))))
end Go.Proofs.YtkknkdmdglncoaaDoor.XA
end

section
namespace Go.Proofs.YtkknkdmdglncoaaDoor.XA
open Go.RowKit Go.Proofs.YtkknkdmdglncoaaDoorW.PrintWords Go.Proofs.YtkknkdmdglncoaaDoorW.PrintLast Go.Proofs.YtkknkdmdglncoaaDoorW.PrintMore
attribute [local go_sem] max2_int min2_int max_two min_two max_three min_three max_four min_four   -- for this text's walks alone
set_option linter.unusedVariables false
set_option linter.unusedSimpArgs false

/-! ### swageref08_Right: function 15 -/
def swageref08_Right.f (k : Nat) (a0_0 : Int) (a0_1 : Int) (l0_2 : List (S37)) (l0_3 : List Int) : Option (Bool) := (swageref08_Check.f k a0_0 a0_1 l0_2 l0_3).bind fun bt160 => (some (!bt160.2))
end Go.Proofs.YtkknkdmdglncoaaDoor.XA
end

section
namespace Go.Proofs.YtkknkdmdglncoaaDoor.XA
open Go.RowKit Go.Proofs.YtkknkdmdglncoaaDoorW.PrintWords Go.Proofs.YtkknkdmdglncoaaDoorW.PrintLast Go.Proofs.YtkknkdmdglncoaaDoorW.PrintMore
attribute [local go_sem] max2_int min2_int max_two min_two max_three min_three max_four min_four   -- for this text's walks alone
set_option linter.unusedVariables false
set_option linter.unusedSimpArgs false

/-! ### prog_moved: function 43 -/
def prog_moved.f (a0_0 : Int) (a0_1 : Int) (a0_2 : Int) (a0_3 : Int) (a0_4 : Int) (a1 : Int) : Option (Int × Int × Int × Int × Int) := (prog_two.f a0_0).bind fun t215 => (if t215 = true then (some (a0_0, wrap64 (a0_1 + a1), wrap64 (a0_2 + a1), wrap64 (a0_3 + a1), a0_4)) else (some (a0_0, wrap64 (a0_1 + a1), wrap64 (a0_2 + a1), a0_3, a0_4)))
end Go.Proofs.YtkknkdmdglncoaaDoor.XA
end

section
namespace Go.Proofs.YtkknkdmdglncoaaDoor.XA
open Go.RowKit Go.Proofs.YtkknkdmdglncoaaDoorW.PrintWords Go.Proofs.YtkknkdmdglncoaaDoorW.PrintLast Go.Proofs.YtkknkdmdglncoaaDoorW.PrintMore
attribute [local go_sem] max2_int min2_int max_two min_two max_three min_three max_four min_four   -- for this text's walks alone
set_option linter.unusedVariables false
set_option linter.unusedSimpArgs false

/-! ### prog_Join: function 22 -/
mutual
def prog_Join.j0 : Nat → Bool → Int → Int → List (S37) → List Int → Int → Int → List (S37) → List Int → Option (Int × Int × (List (S37)) × List Int × Int)
  | 0, _, _, _, _, _, _, _, _, _ => none
  | k + 1, x13, x217000, x217001, x217002, x217003, x218000, x218001, x218002, x218003 => if x13 = true then (some (0, 0, ([] : List (S37)), ([] : List Int), 80)) else (if x218000 = (x217003.length : Int) then (if (wrap64 (x217001 + x218001)) > 128 then (some (0, 0, ([] : List (S37)), ([] : List Int), 3)) else (if (wrap64 ((wrap64 ((x217002.length : Int) + x218000)) + (x218002.length : Int))) > 16384 then (some (0, 0, ([] : List (S37)), ([] : List Int), 3)) else ((api_Instr_41.f x217002).bind fun t221 => (prog_Join.l0 k x217003 (x217003.length : Int) 0 x217000 x217001 x217002 x217003 x218000 x218001 x218002 x218003 x217000 (wrap64 (x217001 + x218001)) t221)))) else (some (0, 0, ([] : List (S37)), ([] : List Int), 5)))
def prog_Join.l0 : Nat → List Int → Int → Int → Int → Int → List (S37) → List Int → Int → Int → List (S37) → List Int → Int → Int → List (S37) → Option (Int × Int × (List (S37)) × List Int × Int)
  | 0, _, _, _, _, _, _, _, _, _, _, _, _, _, _ => none
  | k + 1, x64, x65, x66, x217000, x217001, x217002, x217003, x218000, x218001, x218002, x218003, x225000, x225001, x225002 => if x66 < x65 then (if 0 ≤ x66 then (if x66 < (x64.length : Int) then (if x225002.length < 3518437208883 then (prog_Join.l0 k x64 x65 (wrap64 (x66 + 1)) x217000 x217001 x217002 x217003 x218000 x218001 x218002 x218003 x225000 x225001 (x225002 ++ [(⟨1, wrap64 (x217001 + x66), rd x64 x66, 0, 0⟩ : S37)])) else (none)) else (none)) else (none)) else (prog_Join.l1 k x218002 (x218002.length : Int) 0 x217000 x217001 x217002 x217003 x218000 x218001 x218002 x218003 x225000 x225001 x225002)
def prog_Join.l1 : Nat → List (S37) → Int → Int → Int → Int → List (S37) → List Int → Int → Int → List (S37) → List Int → Int → Int → List (S37) → Option (Int × Int × (List (S37)) × List Int × Int)
  | 0, _, _, _, _, _, _, _, _, _, _, _, _, _, _ => none
  | k + 1, x84, x85, x86, x217000, x217001, x217002, x217003, x218000, x218001, x218002, x218003, x225000, x225001, x225002 => if x86 < x85 then (if 0 ≤ x86 then (if x86 < (x84.length : Int) then ((prog_moved.f ((rd_T37 x84 x86).f0) ((rd_T37 x84 x86).f1) ((rd_T37 x84 x86).f2) ((rd_T37 x84 x86).f3) ((rd_T37 x84 x86).f4) x217001).bind fun bt231 => (if x225002.length < 3518437208883 then (prog_Join.l1 k x84 x85 (wrap64 (x86 + 1)) x217000 x217001 x217002 x217003 x218000 x218001 x218002 x218003 x225000 x225001 (x225002 ++ [(⟨bt231.1, bt231.2.1, bt231.2.2.1, bt231.2.2.2.1, bt231.2.2.2.2⟩ : S37)])) else (none))) else (none)) else (none)) else (prog_Join.l2 k x218003 (x218003.length : Int) 0 x217000 x217001 x217002 x217003 x225000 x225001 x225002 ([] : List Int))
def prog_Join.l2 : Nat → List Int → Int → Int → Int → Int → List (S37) → List Int → Int → Int → List (S37) → List Int → Option (Int × Int × (List (S37)) × List Int × Int)
  | 0, _, _, _, _, _, _, _, _, _, _, _ => none
  | k + 1, x101, x102, x103, x217000, x217001, x217002, x217003, x225000, x225001, x225002, x225003 => if x103 < x102 then (if 0 ≤ x103 then (if x103 < (x101.length : Int) then (if x225003.length < 17592186044416 then (prog_Join.l2 k x101 x102 (wrap64 (x103 + 1)) x217000 x217001 x217002 x217003 x225000 x225001 x225002 (x225003 ++ [wrap64 ((rd x101 x103) + x217001)])) else (none)) else (none)) else (none)) else (some (x225000, x225001, x225002, x225003, 0))
end
def prog_Join.f (k : Nat) (a0_0 : Int) (a0_1 : Int) (l0_2 : List (S37)) (l0_3 : List Int) (a1_0 : Int) (a1_1 : Int) (l1_2 : List (S37)) (l1_3 : List Int) : Option (Int × Int × (List (S37)) × List Int × Int) := (prog_right.f k a0_0 a0_1 l0_2 l0_3).bind fun t219 => (if t219 = true then ((prog_right.f k a1_0 a1_1 l1_2 l1_3).bind fun t220 => (prog_Join.j0 k (!t220) a0_0 a0_1 l0_2 l0_3 a1_0 a1_1 l1_2 l1_3)) else (prog_Join.j0 k true a0_0 a0_1 l0_2 l0_3 a1_0 a1_1 l1_2 l1_3))
end Go.Proofs.YtkknkdmdglncoaaDoor.XA
end

section
namespace Go.Proofs.YtkknkdmdglncoaaDoor.XA
open Go.RowKit Go.Proofs.YtkknkdmdglncoaaDoorW.PrintWords Go.Proofs.YtkknkdmdglncoaaDoorW.PrintLast Go.Proofs.YtkknkdmdglncoaaDoorW.PrintMore
attribute [local go_sem] max2_int min2_int max_two min_two max_three min_three max_four min_four   -- for this text's walks alone
set_option linter.unusedVariables false
set_option linter.unusedSimpArgs false

/-! ### swagelaw08_empty: function 23 -/
def swagelaw08_empty.f (a0_0 : Int) (a0_1 : Int) (l0_2 : List (S37)) (l0_3 : List Int) : Option (Bool) := if a0_0 = 0 then (if a0_1 = 0 then (if (l0_2.length : Int) = 0 then (some ((l0_3.length : Int) == 0)) else (some false)) else (some false)) else (some false)
end Go.Proofs.YtkknkdmdglncoaaDoor.XA
end
