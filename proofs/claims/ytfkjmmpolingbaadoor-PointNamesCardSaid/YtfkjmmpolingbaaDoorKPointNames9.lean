/- Part 9 of the proof of the law PointNames for every input: words, walks and plain laws. No condition. -/
import Derived.RangeFuncNested
import Derived.Sort.QuietIn
import Derived.Laws.BytesArg
import Derived.Lib.OthersKept
import Derived.Maps.AppendAt
import Derived.DataReads
import Derived.ChangeArms
import Derived.SizedLaws
import Derived.WideShapes
import Derived.ChangeSlices
import Derived.Test.YtfkjmmpolingbaaDoorCards
import Derived.Test.YtfkjmmpolingbaaDoorTie
import Derived.Deep.DeepHandedRow
import Derived.Test.YtfkjmmpolingbaaDoorRows
import Derived.Lay
import Derived.Deep.DeepWitnessRowRef
import Derived.WalkKit
import Derived.ProofKit
import Derived.OpenShut
import Derived.ShutString
import Derived.ChangeOld
import Derived.Below
import Derived.Test.YtfkjmmpolingbaaDoorKPointNames8
section
/- The law PointNames, walked: a text that is too long, all norms counted, the limits. -/
namespace Go.Proofs.YtfkjmmpolingbaaDoor.Ring
open Go.RowKit Go.Shelf Go.Proofs.YtfkjmmpolingbaaDoorW.PrintWords Go.Proofs.YtfkjmmpolingbaaDoorW.PrintLast Go.Proofs.YtfkjmmpolingbaaDoorW.PrintMore Go.Proofs.YtfkjmmpolingbaaDoor.XA
attribute [local go_sem] Oper.semAt_some
set_option linter.unusedVariables false
theorem with_tmps {F : Fence} {n : Nat} {P : Program} {c : Code} {Q : Exit → Act → World → Prop} {a : Act} {w : World} (h : ∀ T, T = a.tmps → c.wpIn F n P Q a w) : c.wpIn F n P Q a w := h _ rfl
theorem len_all16 : ((List.range 17).all fun n => decide ((allTo n).length ≤ 2000)) = true := by decide +kernel
theorem len_all (a : Int) : (allL a).length ≤ 2000 := by
  unfold allL
  split
  · simp
  · split
    · simp
    · have := List.all_eq_true.1 len_all16 a.toNat (by simp; omega)
      simpa using this
theorem conv_own {w : World} {base n : Nat} {v : Value} {zs : List Int} (hn : n = zs.length) (h : w.ownsRow base 5 1 v n (zs.map (Value.int .u8))) : (convert 37 9 v).run Tryd.prog w = .ok (.string (strOfNums zs)) w := by
  subst hn
  rcases h.2 with ⟨rfl, h0⟩ | ⟨g, cap, cur, rfl, _, hh, hn, _, hcs, ht⟩
  · obtain rfl : zs = [] := List.eq_nil_of_length_eq_zero h0
    exact run_convert_bytes_nil (P := Tryd.prog) w 37 5 Tryd.underlying37 Tryd.underlying5 0 0 9 Tryd.underlying9
  · refine run_convert_bytes_arg (P := Tryd.prog) w 37 5 Tryd.underlying37 Tryd.underlying5 g 0 zs.length cap zs rfl (fun i hi => ?_) 9 Tryd.underlying9
    rw [Lib.cell_of_heap hh, Nat.zero_add, ← Array.getElem?_toList]
    have h2 : (cur.toList.take (zs.length * 1))[i]? = (zs.map (Value.int .u8))[i]? := by rw [ht]
    rw [List.getElem?_take, if_pos (by omega), List.getElem?_map, List.getElem?_eq_getElem hi] at h2
    rw [h2, List.getD_eq_getElem?_getD, List.getElem?_eq_getElem hi]
    rfl
theorem all_in (most : Int) (w : World) : Calls Tryd.prog 12 #[.int .i64 most] w fun e w' => e = .returned (.func (.func 21) #[] #[.pointer (some ⟨w.heap.size, 0, none⟩)]) ∧ w' = w.alloc (.cells #[.int .i64 most] 3) := by
  go_enter Tryd.func12, Tryd.ntmps12
  go_wp2
  go_ret
  exact ⟨rfl, rfl⟩
set_option maxRecDepth 100000 in
set_option maxHeartbeats 4000000 in
theorem join_nil (w : World) : Calls Tryd.prog 16 #[.slice none 0 0, .string ⟨#[32]⟩] w fun e w' => e = .returned (.string ⟨#[]⟩) ∧ w' = w := by
  go_enter Tryd.func16, Tryd.ntmps16
  go_wp2
  go_ret
  exact ⟨rfl, rfl⟩
set_option maxRecDepth 100000 in
set_option maxHeartbeats 4000000 in
theorem text_nil (w : World) : Calls Tryd.prog 7 #[.slice none 0 0] w fun e w' => e = .returned (.string ⟨#[]⟩) ∧ w' = w := by
  go_enter Tryd.func7, Tryd.ntmps7
  go_wp2
  go_loop [3, 8] (fun v3 v8 => v3 = .slice none 0 0 ∧ v8 = .int .i64 0) (fun _ _ => 0)
  case atStart => exact ⟨rfl, rfl⟩
  case round =>
    obtain ⟨rfl, rfl⟩ := hrel
    go_wp2_with fail
    refine (join_nil _).mono ?_
    rintro e w' ⟨rfl, rfl⟩
    go_wp2
    go_ret
    exact ⟨rfl, rfl⟩
set_option maxRecDepth 100000 in
set_option maxHeartbeats 4000000 in
theorem read_long (s : ByteArray) (w : World) (h : 65536 < s.size) (h2 : s.size ≤ 70000) : Calls Tryd.prog 10 #[.string s] w fun e w' => e = .returned (.tuple #[.slice none 0 0, .agg #[.int .i64 3, .int .i64 65536]]) ∧ Below w.heap.size w w' := by
  have hd : decide ((s.size : Int) > 65536) = true := by simp; omega
  go_enter Tryd.func10, Tryd.ntmps10
  go_wp2
  refine bodyPost_ret (v := .tuple #[.slice none 0 0, .agg #[.int .i64 3, .int .i64 65536]]) (by simp [results, Tryd.results10, go_sem]) rfl ⟨rfl, ?_⟩
  exact below_alloc (Below.refl _ _) _
def pnam (k : Nat) : Option Bool := (swagelaw06_live.f k).bind fun t => if t = true then ((swageref06_All.f k 16).bind fun l => if l.length = (allL 16).length then some true else none) else none
/-- What a round keeps: the cell of the iterator's own box. -/
def KM (mb : Nat) (A C : World) : Prop := A.heap.size ≤ C.heap.size ∧ (mb < A.heap.size → C.heap[mb]? = A.heap[mb]?)
theorem KM.refl (mb : Nat) (A : World) : KM mb A A := ⟨Nat.le_refl _, fun _ => rfl⟩
theorem KM.trans {mb : Nat} {A B C : World} (h : KM mb A B) (k : KM mb B C) : KM mb A C := ⟨Nat.le_trans h.1 k.1, fun hl => (k.2 (Nat.lt_of_lt_of_le hl h.1)).trans (h.2 hl)⟩
theorem KM.below {mb : Nat} {A C : World} (h : Below A.heap.size A C) : KM mb A C := ⟨h.size, fun hl => h.block mb hl⟩
theorem KM.set {mb g : Nat} {A : World} (v : Value) (hne : mb ≠ g) : KM mb A (A.setCell ⟨g, 0, none⟩ v) := ⟨(KeepsOthers.setCell A ⟨g, 0, none⟩ v).size, fun _ => Below.heap_setCell A ⟨g, 0, none⟩ v mb hne⟩
theorem KM.put {mb l : Nat} {A : World} (o : Obj) (hne : mb ≠ l) : KM mb A (A.putObj l o) := ⟨by simp, fun _ => World.putObj_heap_other hne⟩
theorem all_stops (mb : Nat) (most : Int) (w : World) (hmb : mb < w.heap.size) (hc : w.cell? ⟨mb, 0, none⟩ = some (.int .i64 most)) :
    SeqStopsK Fence.wide 5 Tryd.prog 21 #[.pointer (some ⟨mb, 0, none⟩)] (fun p : Pt => #[ptv p]) (KM mb) (fun ys => ys = allL most) (fun pre => pre <+: allL most) (allL most).length w := fun l J Jx W hW hJ _ hY h0 =>
  callsIn_wide.2 <| callsIn_wide.1 <| all1_in l W.heap.size mb (KM mb) (KM.refl mb) KM.trans (fun _ _ => KM.below) (fun A C h hl => ⟨h.1, World.cell?_of_block (h.2 hl)⟩) most J Jx hJ (fun m pre x W1 hj hl => YieldAt.anyDepth rfl m (hY pre x W1 hj hl)) W (Nat.lt_of_lt_of_le hmb hW.size) ((hW.cell (p := ⟨mb, 0, none⟩) hmb).trans hc) h0
set_option maxRecDepth 100000 in
set_option maxHeartbeats 8000000 in
theorem pnam_calls (k : Nat) (r : Bool) (w : World) (h : pnam k = some r) :
    Calls Tryd.prog 5 #[] w fun e w' => e = .returned (.bool r) ∧ Below w.heap.size w w' := by
  unfold pnam at h
  replace h := Option.bind_eq_some_iff.mp h; obtain ⟨t, hlive, h⟩ := h
  obtain rfl : t = true := swagelaw06_live.tells k t hlive
  rw [if_pos rfl] at h
  replace h := Option.bind_eq_some_iff.mp h; obtain ⟨want, hall, h⟩ := h
  by_cases he : want.length = (allL 16).length
  case neg => rw [if_neg he] at h; cases h
  rw [if_pos he] at h
  obtain rfl := Option.some.inj h
  have HE := Aside0.mk he
  have HLIVE := Aside0.mk hlive
  have HALL := Aside0.mk hall
  clear h he hlive hall
  refine (callsIn_wide (n := 6)).1 ?_
  refine callsIn_of_wp_marks Tryd.func5 rfl trivial ?_ rfl
  simp only [Tryd.ntmps5, List.size_toArray, List.length_nil, Nat.reduceSub, Array.replicate_succ, Array.replicate_zero, List.push_toArray, List.append_toArray, List.nil_append, List.cons_append]
  gi_wp2_with fail
  refine ⟨trivial, ?_⟩
  refine (callsIn_wide.2 (swagelaw06_live.calls k true _ HLIVE.out)).mono ?_
  rintro e w1 ⟨rfl, hb1⟩
  have hmk : ∀ W : World, (Instr.makeSlice 37 (.int .i64 65537) (.int .i64 65537)).run Tryd.prog W = .ok (.slice (some ⟨W.heap.size, 0, none⟩) 65537 65537) (W.alloc (.cells (madeCells #[.int .u8 0] 65537) 5)) := print_make (P := Tryd.prog) 37 5 .u8 1 Tryd.underlying37 (by kernel_rfl) (by decide) 65537 (by decide)
  have hown := own_made w1 w1.heap.size 5 .u8 65537 (Nat.le_refl _) (by decide)
  obtain ⟨M, hM⟩ : ∃ M, madeCells #[Value.int .u8 0] 65537 = M := ⟨_, rfl⟩
  obtain ⟨Z, hZ⟩ : ∃ Z : List Int, List.replicate 65537 0 = Z := ⟨_, rfl⟩
  have hZl : 65537 = Z.length := by rw [← hZ, List.length_replicate]
  simp only [hM, hZ] at hmk hown
  have hcv := conv_own hZl (by unfold nums at hown; exact hown)
  obtain ⟨S, hS⟩ : ∃ S, strOfNums Z = S := ⟨_, rfl⟩
  have hSz : S.size = 65537 := by rw [← hS]; unfold strOfNums; show (Array.size _) = _; rw [List.size_toArray, List.length_map]; exact hZl.symm
  rw [hS] at hcv
  clear hM hZ hZl hown hS Z
  gi_wp2_with fail
  refine ⟨trivial, ?_⟩
  refine (callsIn_wide.2 (read_long S _ (by omega) (by omega))).mono ?_
  rintro e w2 ⟨rfl, hb2⟩
  have hB2 : Below w.heap.size w w2 := below_step (below_alloc (below_step (Below.refl _ _) hb1) _) hb2
  clear hb1 hb2 hmk hcv hSz
  gi_wp2_with fail
  refine ⟨trivial, ?_⟩
  refine (callsIn_wide.2 (all_in 16 _)).mono ?_
  rintro e w3 ⟨rfl, rfl⟩
  have hnf : ∀ (lb : Array Value) (W : World), Sem.run Tryd.prog (binOp BinOp.eql 39 (.func (.func 21) #[] lb) Value.nilFunc) W = .ok (.bool false) W := fun _ _ => by kernel_rfl
  gi_wp2_with fail
  clear hnf
  have sp0 : (w2.alloc (.cells #[.int .i64 3, .int .i64 65536] 30)).heap[w2.heap.size]? = some (.cells #[.int .i64 3, .int .i64 65536] 30 (0, 0)) := World.alloc_heap_new w2 _
  have sp := (Below.heap_alloc _ (.cells #[.int .i64 16] 3) _ (by simp; omega)).trans ((Below.heap_alloc _ (.cells #[.int .i64 0] 3) _ (by simp)).trans sp0)
  have bN := (Boxed.new (w2.alloc (.cells #[.int .i64 3, .int .i64 65536] 30)) 3 (.int .i64 0)).alloc (.cells #[.int .i64 16] 3)
  have bM := Boxed.new ((w2.alloc (.cells #[.int .i64 3, .int .i64 65536] 30)).alloc (.cells #[.int .i64 0] 3)) 3 (.int .i64 16)
  have hB3 := below_alloc (below_alloc (below_alloc hB2 (.cells #[.int .i64 3, .int .i64 65536] 30)) (.cells #[.int .i64 0] 3)) (.cells #[.int .i64 16] 3)
  simp only [World.size_alloc] at bN bM
  have hsz : (((w2.alloc (.cells #[.int .i64 3, .int .i64 65536] 30)).alloc (.cells #[.int .i64 0] 3)).alloc (.cells #[.int .i64 16] 3)).heap.size = w2.heap.size + 3 := by simp
  obtain ⟨W, hW⟩ : ∃ W, ((w2.alloc (.cells #[.int .i64 3, .int .i64 65536] 30)).alloc (.cells #[.int .i64 0] 3)).alloc (.cells #[.int .i64 16] 3) = W := ⟨_, rfl⟩
  rw [hW] at sp bN bM hB3 hsz ⊢
  clear hW sp0
  have hwz := hB2.size
  refine with_tmps ?_
  intro T hT
  dsimp only at hT
  refine wpIn_rangeFunc_ownG (n := 6) rfl (by omega) (gf := 21) (lb := #[.pointer (some ⟨w2.heap.size + 1 + 1, 0, none⟩)]) rfl trivial (enters_of Tryd.func21 (by kernel_rfl) rfl)
    (all_stops (w2.heap.size + 1 + 1) 16 W (by omega) bM.cell) KM.trans (fun W' l o o' hl _ _ _ => KM.put o' (by omega)) (Below.refl _ _) (fun _ => rfl)
    (fun pre W' => Boxed W' (w2.heap.size + 1) 3 (.int .i64 (pre.length : Nat)) ∧ Below (w2.heap.size + 1) W W')
    (fun _ _ _ => False)
    (OwnFrom.and (Own.from (boxed_own (w2.heap.size + 1) 3 (fun pre : List Pt => Value.int .i64 (pre.length : Nat))) _) (ownFrom_below (by omega) (by omega)))
    (fun _ _ _ _ _ hs _ _ => hs)
    ⟨bN, Below.refl _ _⟩
    (fun x => { tmps := T.setIfInBounds 17 (ptv x), defers := [] })
    ?assign ?body ?done ?stop
  case assign =>
    intro l x W' K hK
    rw [hT] at hK
    clear hT
    gi_wp2
    simpa [ptv] using hK
  case body =>
    rintro l pre x W' ⟨bNW, hBW⟩ hlt
    rw [hT]
    clear hT
    simp only [List.setIfInBounds_toArray, List.set_cons_zero, List.set_cons_succ, ptv]
    have cN := bNW.cell
    have fN := bNW.frozen
    have hl := len_all 16
    have hpl : pre.length < 2000 := by omega
    clear hl
    gi_wp2
    exact ⟨(KeepsOthers.setCell _ _ _).from _, KM.set _ (by omega), by rw [List.length_append]; exact bNW.set _, hBW.setCell (p := ⟨w2.heap.size + 1, 0, none⟩) (Nat.le_refl _) _⟩
  case done =>
    rintro D ys W' hD rfl ⟨bNW, hBW⟩ hK
    have spW := (hBW.block w2.heap.size (by omega)).trans sp
    have hs0 : W'.cell? ⟨w2.heap.size, 0, none⟩ = some (.int .i64 3) := (blk_cell spW 0).trans rfl
    have hs1 : W'.cell? ⟨w2.heap.size, 1, none⟩ = some (.int .i64 65536) := (blk_cell spW 1).trans rfl
    rw [← HE.out] at bNW
    have cN := bNW.cell
    have hNl := bNW.lt
    have hDl := (Array.getElem?_eq_some_iff.1 hK).1
    have hmixed : Tryd.prog.follows .mixedOrders = true := by kernel_rfl
    gi_wp2
    refine wpIn_region_any (by assumption) ?_
    try (change wpAnyIn _ _ _ _ _ _ _ _ _ (World.drew _))
    refine wpAnyIn_ready (rs := [0]) (by kernel_rfl) (by simp) ?_
    refine AllReadyIn.cons rfl (fun K hK => ?_) AllReadyIn.nil
    go_simp
    refine hK _ _ ?_
    clear hK K
    refine wpAnyIn_ready (rs := [1]) (by kernel_rfl) (by simp) ?_
    refine AllReadyIn.cons rfl (fun K hK => ?_) AllReadyIn.nil
    go_simp
    refine hK _ _ ?_
    clear hK K
    refine wpAnyIn_ready (rs := [2]) (by kernel_rfl) (by simp) ?_
    refine AllReadyIn.cons rfl (fun K hK => ?_) AllReadyIn.nil
    go_simp
    refine hK _ _ ?_
    clear hK K
    refine wpAnyIn_ready (rs := [3]) (by kernel_rfl) (by simp) ?_
    refine AllReadyIn.cons rfl (fun K hK => ?_) AllReadyIn.nil
    go_simp
    refine hK _ _ ?_
    clear hK K
    refine wpAnyIn_ready (rs := [4]) (by kernel_rfl) (by simp) ?_
    refine AllReadyIn.cons rfl (fun K hK => ?_) AllReadyIn.nil
    go_simp
    refine hK _ _ ?_
    clear hK K
    refine wpAnyIn_ready (rs := [5]) (by kernel_rfl) (by simp) ?_
    refine AllReadyIn.cons rfl (fun K hK => ?_) AllReadyIn.nil
    go_simp
    refine hK _ _ ?_
    clear hK K
    refine wpAnyIn_ready (rs := [6]) (by kernel_rfl) (by simp) ?_
    refine AllReadyIn.cons rfl (fun K hK => ?_) AllReadyIn.nil
    go_simp
    refine hK _ _ ?_
    clear hK K
    refine wpAnyIn_ready (rs := [7]) (by kernel_rfl) (by simp) ?_
    refine AllReadyIn.cons rfl (fun K hK => ?_) AllReadyIn.nil
    go_simp
    refine hK _ _ ?_
    clear hK K
    refine wpAnyIn_ready (rs := [8]) (by kernel_rfl) (by simp) ?_
    refine AllReadyIn.cons rfl (fun K hK => ?_) AllReadyIn.nil
    go_simp
    refine hK _ _ ?_
    clear hK K
    refine wpAnyIn_ready (rs := [9]) (by kernel_rfl) (by simp) ?_
    refine AllReadyIn.cons rfl (fun K hK => ?_) AllReadyIn.nil
    go_simp
    refine hK _ _ ?_
    clear hK K
    refine wpAnyIn_ready (rs := [10]) (by kernel_rfl) (by simp) ?_
    refine AllReadyIn.cons rfl (fun K hK => ?_) AllReadyIn.nil
    go_simp
    refine hK _ _ ?_
    clear hK K
    refine wpAnyIn_ready (rs := [11]) (by kernel_rfl) (by simp) ?_
    refine AllReadyIn.cons rfl (fun K hK => ?_) AllReadyIn.nil
    go_simp
    refine hK _ _ ?_
    clear hK K
    refine wpAnyIn_ready (rs := [12]) (by kernel_rfl) (by simp) ?_
    refine AllReadyIn.cons rfl (fun K hK => ?_) AllReadyIn.nil
    go_simp
    refine hK _ _ ?_
    clear hK K
    refine wpAnyIn_ready (rs := [13]) (by kernel_rfl) (by simp) ?_
    refine AllReadyIn.cons rfl (fun K hK => ?_) AllReadyIn.nil
    go_simp
    refine hK _ _ ?_
    clear hK K
    refine wpAnyIn_ready (rs := [14]) (by kernel_rfl) (by simp) ?_
    refine AllReadyIn.cons rfl (fun K hK => ?_) AllReadyIn.nil
    go_simp
    refine hK _ _ ?_
    clear hK K
    refine wpAnyIn_ready (rs := [15]) (by kernel_rfl) (by simp) ?_
    refine AllReadyIn.cons rfl (fun K hK => ?_) AllReadyIn.nil
    go_simp
    refine hK _ _ ?_
    clear hK K
    refine wpAnyIn_ready (rs := [16, 17]) (by kernel_rfl) (by simp) ?_
    refine AllReadyIn.cons rfl (fun K hK => ?_) (AllReadyIn.cons rfl (fun K hK => ?_) AllReadyIn.nil)
    · go_simp
      refine hK _ _ ?_
      clear hK K
      refine wpAnyIn_ready (rs := [17]) (by kernel_rfl) (by simp) ?_
      refine AllReadyIn.cons rfl (fun K hK => ?_) AllReadyIn.nil
      go_simp
      gi_wp2_with (refine ⟨trivial, ?_⟩; gi_at_call 13; refine (callsIn_wide.2 (swageref06_All.calls k 16 want _ HALL.out)).mono ?_; rintro e w5 ⟨v5, rfl, hR5, hb5⟩; obtain ⟨A5, c5, rfl⟩ := Kd.R_slice hR5; have cN5 := (hb5.cell (p := ⟨w2.heap.size + 1, 0, none⟩) hNl).trans cN; clear hR5)
      refine wpAnyIn_ready (rs := [18]) (by kernel_rfl) (by simp) ?_
      refine AllReadyIn.cons rfl (fun K hK => ?_) AllReadyIn.nil
      go_simp
      refine hK _ _ ?_
      clear hK K
      refine wpAnyIn_ready (rs := [19]) (by kernel_rfl) (by simp) ?_
      refine AllReadyIn.cons rfl (fun K hK => ?_) AllReadyIn.nil
      go_simp
      refine hK _ _ ?_
      clear hK K
      refine wpAnyIn_ready (rs := [20]) (by kernel_rfl) (by simp) ?_
      refine AllReadyIn.cons rfl (fun K hK => ?_) AllReadyIn.nil
      go_simp
      refine hK _ _ ?_
      clear hK K
      refine wpAnyIn_ready (rs := [21]) (by kernel_rfl) (by simp) ?_
      refine AllReadyIn.cons rfl (fun K hK => ?_) AllReadyIn.nil
      go_simp
      refine hK _ _ ?_
      clear hK K
      refine wpAnyIn_ready (rs := [22]) (by kernel_rfl) (by simp) ?_
      refine AllReadyIn.cons rfl (fun K hK => ?_) AllReadyIn.nil
      go_simp
      gi_wp2_with (refine ⟨trivial, ?_⟩; gi_at_call 7; refine (callsIn_wide.2 (text_nil _)).mono ?_; rintro e w6 ⟨rfl, rfl⟩)
      refine wpAnyIn_ready (rs := [23]) (by kernel_rfl) (by simp) ?_
      refine AllReadyIn.cons rfl (fun K hK => ?_) AllReadyIn.nil
      go_simp
      refine hK _ _ ?_
      clear hK K
      refine wpAnyIn_ready (rs := [24]) (by kernel_rfl) (by simp) ?_
      refine AllReadyIn.cons rfl (fun K hK => ?_) AllReadyIn.nil
      go_simp
      refine hK _ _ ?_
      clear hK K
      refine wpAnyIn_ready (rs := [25]) (by kernel_rfl) (by simp) ?_
      refine AllReadyIn.cons rfl (fun K hK => ?_) AllReadyIn.nil
      go_simp
      refine hK _ _ ?_
      clear hK K
      refine wpAnyIn_done (by kernel_rfl) ?_ _
      gi_wp2
      have hK' := (hb5.block D hDl).trans hK
      refine ⟨by simp, .inl ⟨_, _, rfl, run_takeDeferred hK', ?_⟩⟩
      exact ⟨_, results_tmp rfl _ _ _, rfl, ((hB3.trans (hBW.mono (by omega))).trans ((pw_below_drewN (Below.refl _ _) 1).trans (hb5.mono (by show w.heap.size ≤ W'.heap.size; have := hBW.size; omega)))).trans (belowK_b (w := w) (Nat.le_refl _) _ D _ _ (by omega) hK' rfl rfl)⟩
    · go_simp
      gi_wp2_with (refine ⟨trivial, ?_⟩; gi_at_call 13; refine (callsIn_wide.2 (swageref06_All.calls k 16 want _ HALL.out)).mono ?_; rintro e w5 ⟨v5, rfl, hR5, hb5⟩; obtain ⟨A5, c5, rfl⟩ := Kd.R_slice hR5; have cN5 := (hb5.cell (p := ⟨w2.heap.size + 1, 0, none⟩) hNl).trans cN; clear hR5)
      refine wpAnyIn_ready (rs := [16, 18]) (by kernel_rfl) (by simp) ?_
      refine AllReadyIn.cons rfl (fun K hK => ?_) (AllReadyIn.cons rfl (fun K hK => ?_) AllReadyIn.nil)
      · go_simp
        refine hK _ _ ?_
        clear hK K
        refine wpAnyIn_ready (rs := [18]) (by kernel_rfl) (by simp) ?_
        refine AllReadyIn.cons rfl (fun K hK => ?_) AllReadyIn.nil
        go_simp
        refine hK _ _ ?_
        clear hK K
        refine wpAnyIn_ready (rs := [19]) (by kernel_rfl) (by simp) ?_
        refine AllReadyIn.cons rfl (fun K hK => ?_) AllReadyIn.nil
        go_simp
        refine hK _ _ ?_
        clear hK K
        refine wpAnyIn_ready (rs := [20]) (by kernel_rfl) (by simp) ?_
        refine AllReadyIn.cons rfl (fun K hK => ?_) AllReadyIn.nil
        go_simp
        refine hK _ _ ?_
        clear hK K
        refine wpAnyIn_ready (rs := [21]) (by kernel_rfl) (by simp) ?_
        refine AllReadyIn.cons rfl (fun K hK => ?_) AllReadyIn.nil
        go_simp
        refine hK _ _ ?_
        clear hK K
        refine wpAnyIn_ready (rs := [22]) (by kernel_rfl) (by simp) ?_
        refine AllReadyIn.cons rfl (fun K hK => ?_) AllReadyIn.nil
        go_simp
        gi_wp2_with (refine ⟨trivial, ?_⟩; gi_at_call 7; refine (callsIn_wide.2 (text_nil _)).mono ?_; rintro e w6 ⟨rfl, rfl⟩)
        refine wpAnyIn_ready (rs := [23]) (by kernel_rfl) (by simp) ?_
        refine AllReadyIn.cons rfl (fun K hK => ?_) AllReadyIn.nil
        go_simp
        refine hK _ _ ?_
        clear hK K
        refine wpAnyIn_ready (rs := [24]) (by kernel_rfl) (by simp) ?_
        refine AllReadyIn.cons rfl (fun K hK => ?_) AllReadyIn.nil
        go_simp
        refine hK _ _ ?_
        clear hK K
        refine wpAnyIn_ready (rs := [25]) (by kernel_rfl) (by simp) ?_
        refine AllReadyIn.cons rfl (fun K hK => ?_) AllReadyIn.nil
        go_simp
        refine hK _ _ ?_
        clear hK K
        refine wpAnyIn_done (by kernel_rfl) ?_ _
        gi_wp2
        have hK' := (hb5.block D hDl).trans hK
        refine ⟨by simp, .inl ⟨_, _, rfl, run_takeDeferred hK', ?_⟩⟩
        exact ⟨_, results_tmp rfl _ _ _, rfl, ((hB3.trans (hBW.mono (by omega))).trans ((pw_below_drewN (Below.refl _ _) 1).trans (hb5.mono (by show w.heap.size ≤ W'.heap.size; have := hBW.size; omega)))).trans (belowK_b (w := w) (Nat.le_refl _) _ D _ _ (by omega) hK' rfl rfl)⟩
      · go_simp
        refine hK _ _ ?_
        clear hK K
        refine wpAnyIn_ready (rs := [16]) (by kernel_rfl) (by simp) ?_
        refine AllReadyIn.cons rfl (fun K hK => ?_) AllReadyIn.nil
        go_simp
        refine hK _ _ ?_
        clear hK K
        refine wpAnyIn_ready (rs := [19]) (by kernel_rfl) (by simp) ?_
        refine AllReadyIn.cons rfl (fun K hK => ?_) AllReadyIn.nil
        go_simp
        refine hK _ _ ?_
        clear hK K
        refine wpAnyIn_ready (rs := [20]) (by kernel_rfl) (by simp) ?_
        refine AllReadyIn.cons rfl (fun K hK => ?_) AllReadyIn.nil
        go_simp
        refine hK _ _ ?_
        clear hK K
        refine wpAnyIn_ready (rs := [21]) (by kernel_rfl) (by simp) ?_
        refine AllReadyIn.cons rfl (fun K hK => ?_) AllReadyIn.nil
        go_simp
        refine hK _ _ ?_
        clear hK K
        refine wpAnyIn_ready (rs := [22]) (by kernel_rfl) (by simp) ?_
        refine AllReadyIn.cons rfl (fun K hK => ?_) AllReadyIn.nil
        go_simp
        gi_wp2_with (refine ⟨trivial, ?_⟩; gi_at_call 7; refine (callsIn_wide.2 (text_nil _)).mono ?_; rintro e w6 ⟨rfl, rfl⟩)
        refine wpAnyIn_ready (rs := [23]) (by kernel_rfl) (by simp) ?_
        refine AllReadyIn.cons rfl (fun K hK => ?_) AllReadyIn.nil
        go_simp
        refine hK _ _ ?_
        clear hK K
        refine wpAnyIn_ready (rs := [24]) (by kernel_rfl) (by simp) ?_
        refine AllReadyIn.cons rfl (fun K hK => ?_) AllReadyIn.nil
        go_simp
        refine hK _ _ ?_
        clear hK K
        refine wpAnyIn_ready (rs := [25]) (by kernel_rfl) (by simp) ?_
        refine AllReadyIn.cons rfl (fun K hK => ?_) AllReadyIn.nil
        go_simp
        refine hK _ _ ?_
        clear hK K
        refine wpAnyIn_done (by kernel_rfl) ?_ _
        gi_wp2
        have hK' := (hb5.block D hDl).trans hK
        refine ⟨by simp, .inl ⟨_, _, rfl, run_takeDeferred hK', ?_⟩⟩
        exact ⟨_, results_tmp rfl _ _ _, rfl, ((hB3.trans (hBW.mono (by omega))).trans ((pw_below_drewN (Below.refl _ _) 1).trans (hb5.mono (by show w.heap.size ≤ W'.heap.size; have := hBW.size; omega)))).trans (belowK_b (w := w) (Nat.le_refl _) _ D _ _ (by omega) hK' rfl rfl)⟩
  case stop =>
    rintro D cc pre W' _ _ h _
    exact h.elim
end Go.Proofs.YtfkjmmpolingbaaDoor.Ring
end

section
namespace Go.Proofs.YtfkjmmpolingbaaDoor.XA
open Go.RowKit Go.Proofs.YtfkjmmpolingbaaDoorW.PrintWords Go.Proofs.YtfkjmmpolingbaaDoorW.PrintLast Go.Proofs.YtfkjmmpolingbaaDoorW.PrintMore
attribute [local go_sem] max2_int min2_int max_two min_two max_three min_three max_four min_four   -- for this text's walks alone
set_option linter.unusedVariables false
set_option linter.unusedSimpArgs false

/-! ### swagelaw06_PointNames: function 5 -/
--IMPORT Derived.Test.YtfkjmmpolingbaaDoorLawNames
def swagelaw06_PointNames.f (k : Nat) : Option Bool := Ring.pnam k
theorem swagelaw06_PointNames.calls (k : Nat) (r : Bool) (w : World) (h : swagelaw06_PointNames.f k = some r) :
    Calls Tryd.prog 5 #[] w fun e w' => e = .returned (.bool r) ∧ Below w.heap.size w w' := by
  exact Ring.pnam_calls k r w h

end Go.Proofs.YtfkjmmpolingbaaDoor.XA
end

section
/- Arguments opened by their kinds: what is read as data at a type is a Lean value of that type's kind. Of every seat alike; its own words alone. -/
namespace Go.Proofs.YtfkjmmpolingbaaDoor.Opn
open Go.ChangeShapes Go.WideShapes Go.Proofs.YtfkjmmpolingbaaDoorW.PrintWords
set_option linter.unusedVariables false

/-- Whatever is read at type t is of kind d, and wf. -/
structure Opn {α : Type} (P : Program) (t : TypeId) (d : Kd α) (wf : α → Prop) : Prop where
  get : ∀ {H : Type} {enc : TypeId × Value → H} {w : World} {base : Nat} {spare : Nat → Bool} {held : Bool} {fuel : Nat} {cs : List Value} {x : DataW H × List MemPlace},
    DataW.trod enc P w base spare held fuel t cs = some x → (∀ n ∈ DataW.weights P t x.1, n ≤ reachBytes) → ∃ a : α, d.K w a cs ∧ wf a

section
variable {P : Program} {t : TypeId}
/-- The fields of a struct, from offset off on. -/
structure OpnFs {α : Type} (P : Program) (fs : List Field) (off : Nat) (d : Kd α) (wf : α → Prop) : Prop where
  get : ∀ {H : Type} {enc : TypeId × Value → H} {w : World} {base : Nat} {spare : Nat → Bool} {held : Bool} {fuel : Nat} {cs : List Value} {xs : List (DataW H × List MemPlace)},
    cs.length = off + d.sz → xs.length = fs.length →
    (∀ (i : Nat) (f : Field), fs[i]? = some f → DataW.trod enc P w base spare held fuel f.type ((cs.drop f.offset).take (P.cellsOf f.type)) = xs[i]?) →
    (∀ n ∈ DataW.weightsEach P (fs.map (·.type)) (xs.map (·.1)), n ≤ reachBytes) → ∃ a : α, d.K w a (cs.drop off) ∧ wf a

end

section
variable {H : Type} {enc : TypeId × Value → H} {P : Program} {w : World} {base : Nat} {spare : Nat → Bool} {held : Bool} {t : TypeId}
theorem opened {α : Type} {d : Kd α} {wf : α → Prop} (ho : Opn P t d wf) {v : Value} {dd : DataW H} {ps : List MemPlace} {ts : List TypeId} {ds : List (DataW H)} {j : Nat}
    (hsz : (DataW.weightsEach P ts ds).all (· ≤ reachBytes) = true) (ht : ts[j]? = some t) (hd : ds[j]? = some dd) (h : DataW.Trod enc P w base spare held t v dd ps) : ∃ a : α, d.K w a v.cells.toList ∧ wf a := by
  obtain ⟨fuel, hf⟩ := h
  exact ho.get hf (fun n hn => by simpa using List.all_eq_true.1 hsz n (DataW.weights_mem_each ht hd n hn))
end
end Go.Proofs.YtfkjmmpolingbaaDoor.Opn
end

section
namespace Go.Proofs.YtfkjmmpolingbaaDoor.SaidPointNames
open Go.RowKit Go.Proofs.YtfkjmmpolingbaaDoorW.PrintWords Go.Proofs.YtfkjmmpolingbaaDoorW.PrintLast Go.Proofs.YtfkjmmpolingbaaDoor.Opn Go.Proofs.YtfkjmmpolingbaaDoor.XA
set_option linter.unusedVariables false
/-- THE PURE STATEMENT. -/
def Pure : Prop := ∃ k, swagelaw06_PointNames.f k  = some true
end Go.Proofs.YtfkjmmpolingbaaDoor.SaidPointNames
end

section
/- The law PointNames, over numbers and lists. -/
namespace Go.Proofs.YtfkjmmpolingbaaDoor.Pure
open Go.RowKit Go.Proofs.YtfkjmmpolingbaaDoorW.PrintWords Go.Proofs.YtfkjmmpolingbaaDoorW.PrintLast Go.Proofs.YtfkjmmpolingbaaDoor.XA Go.Proofs.YtfkjmmpolingbaaDoor.Ring
set_option maxRecDepth 100000 in
theorem live2500 : swagelaw06_live.f 2500 = some true := by decide +kernel
set_option maxRecDepth 100000 in
theorem all2500 : (swageref06_All.f 2500 16).map List.length = some (allL 16).length := by decide +kernel
theorem PointNames : SaidPointNames.Pure := by
  refine ⟨2500, ?_⟩
  unfold swagelaw06_PointNames.f pnam
  rw [live2500, Option.bind_some, if_pos rfl]
  obtain ⟨l, hl, he⟩ := Option.map_eq_some_iff.1 all2500
  rw [hl, Option.bind_some, if_pos he]
end Go.Proofs.YtfkjmmpolingbaaDoor.Pure
end

section
/- The row and the card of the law PointNames, for every input: out of the pure statement and the walk. No condition. -/
namespace Go.Proofs.YtfkjmmpolingbaaDoor.pointNames
open Go.ChangeShapes Go.WideShapes Go.ChangeAt Go.RowKit Go.Proofs.YtfkjmmpolingbaaDoorW.PrintWords Go.Proofs.YtfkjmmpolingbaaDoor.Opn Go.Proofs.YtfkjmmpolingbaaDoor.XA Go.Proofs.YtfkjmmpolingbaaDoor.SaidPointNames
open Go.ChangeMaps (open_string shut_string)
set_option linter.unusedVariables false
theorem own : ownKnob Tryd.prog.godebug = none := by kernel_rfl
set_option maxRecDepth 100000 in
theorem contract (H : Type) (enc : TypeId × Value → H) (W : World) (base : Nat) (args : Array Value) (ds gs : List (DataW H)) (before : List MemPlace)
    (hval0 : ∀ (j : Nat) t v, Tryd.f5.params[j]? = some t → args[j]? = some v → Value.okWide Tryd.prog W .any base t v)
    (hW : DataW.Whole enc Tryd.prog Tryd.f5.params.toList Rows.pointNamesSpec.vars false W args.toList ds gs before)
    (hsz0 : (DataW.weightsEach Tryd.prog (Tryd.f5.params.toList ++ Rows.pointNamesSpec.plain.varTypes Tryd.prog) (ds ++ gs)).all (· ≤ reachBytes) = true) :
    Calls Tryd.prog 5 args W fun e W' => ∃ v, e = .returned v ∧ Rows.pointNamesSpec.post enc Tryd.prog Tryd.f5 false true false false W args v W' := by
  have hsz : (DataW.weightsEach Tryd.prog (Tryd.f5.params.toList ++ Rows.pointNamesSpec.plain.varTypes Tryd.prog) (ds ++ gs)).all (· ≤ reachBytes) = true := hsz0
  have hval : ∀ (j : Nat) t v, Tryd.f5.params[j]? = some t → args[j]? = some v → Value.okWide Tryd.prog W .any base t v := hval0
  have hW' := hW
  obtain ⟨p, q, hA0, hV, rfl, hfz, hnd⟩ := hW
  have hA : DataW.TrodAll enc Tryd.prog W 0 (fun _ => true) true Tryd.f5.params.toList args.toList ds p := hA0
  rw [Tryd.params5] at hA hval hsz
  obtain ⟨rfl, rfl, rfl⟩ := trodAll_none hA
  obtain ⟨rfl, rfl⟩ := trodVars_none hV
  clear hA0 hval0 hsz0 hsz
  obtain ⟨k, h⟩ := Pure.PointNames
  refine (swagelaw06_PointNames.calls k true W h).mono fun e W' he_ => ?_
  obtain ⟨rfl, bel⟩ := he_
  exact ⟨_, rfl, _, _, _, [], _, [], hW', trodAll_mk1 (shut_bool Tryd.underlying4 _), trodAll_mk0, rfl, bel.frame _, fun h => by cases h⟩
/-- A world for the witness: the settled one, the listed variables holding what they hold. -/
noncomputable def laidWorld (os : Os) : World := World.laidAll Tryd.prog os Rows.pointNamesRow.laid
theorem laid_met (os : Os) : laidMet Tryd.prog Rows.pointNamesRow.laid ((laidWorld os).forCall (fun _ _ => 0) ⟨#[], #[], []⟩).memory :=
  laidMet_laidAll _ (by kernel_rfl) (by kernel_rfl)
theorem reads (os : Os) {H : Type} (enc : TypeId × Value → H) : ∃ places, DataW.whole enc Tryd.prog ((laidWorld os).forCall (fun _ _ => 0) ⟨#[], #[], []⟩).memory Tryd.f5.params.toList Rows.pointNamesSpec.vars false (#[] : Array Value).toList 8 = some ([], [], places) :=
  ⟨[], by kernel_rfl⟩
set_option maxRecDepth 100000 in
theorem lifted (os : Os) (started : os.Started) (H : Type) (enc : TypeId × Value → H) (F : Stop.Interp) :
    ReturnsInHanded {} Tryd.checked os 5 .any ((OpenSpec.ofChange Rows.pointNamesSpec).preRow enc Tryd.prog Tryd.f5 Rows.pointNamesRow.domain false Rows.pointNamesRow.laid) (((OpenSpec.ofChange Rows.pointNamesSpec).at F).post enc Tryd.prog Tryd.f5 false true false false) := by
  obtain ⟨places, hx⟩ := reads os enc
  refine returnsInHanded_of_row (C := Tryd.checked) (s := OpenSpec.ofChange Rows.pointNamesSpec) own started (by kernel_rfl) Tryd.func5
    (witness_row_atRef (enc := enc) (C := Tryd.checked) false (laidWorld os) #[] (World.laidAll_os _ _ _) (by kernel_rfl) (by kernel_rfl) (by kernel_rfl)
      (OpenSpec.preRow_of_cond 8 hx (by kernel_rfl) (fun k hk => by cases hk) (by kernel_rfl) (laid_met os))) ?_
  intro W base args ds gs before hval hW _ _ hsz _ _ _
  exact contract H enc W base args ds gs before hval hW hsz
theorem said : Rows.PointNamesSaid :=
  OpenClaim.holds_of_cond 5 Tryd.f5 rfl rfl rfl rfl rfl rfl rfl ⟨rfl, rfl, rfl, rfl, rfl⟩ rfl rfl rfl rfl rfl (by kernel_rfl) Tryd.func5 (by kernel_rfl)
    (of_decide_eq_true (by kernel_rfl)) (by unfold Func.isWrapper; first | (rw [if_pos (by decide +kernel)]; kernel_rfl) | (rw [if_neg (by decide +kernel)]; exact ⟨rfl, rfl⟩))
    (fun os started H enc _ F => by rw [OpenClaim.pre_eq_preRow]; exact lifted os started H enc F)
theorem plain (f : FuncId) (fn : Func) (hf : Tryd.pinned.checked.prog.funcNamed "swage/swagelaw06.PointNames" = some f) (hfn : Tryd.pinned.checked.prog.funcs[f]? = some fn) :
    true = Tryd.pinned.checked.prog.looks [] ∧ ∀ (j : Nat) t, fn.params[j]? = some t → Tryd.pinned.checked.prog.wantsStandIn t = false := by
  obtain rfl : f = 5 := Option.some.inj ((show Tryd.prog.funcNamed "swage/swagelaw06.PointNames" = some 5 by kernel_rfl).symm.trans hf) |>.symm
  obtain rfl : fn = Tryd.f5 := (Option.some.inj (Tryd.func5.symm.trans hfn)).symm
  refine ⟨by kernel_rfl, fun j t ht => ?_⟩
  rw [Tryd.params5] at ht
  have hm := Array.mem_of_getElem? ht
  have hall : (([] : List Nat).all fun t => !Tryd.prog.wantsStandIn t) = true := by kernel_rfl
  have := List.all_eq_true.1 hall t (by simp at hm)
  exact (by simpa using this : Tryd.prog.wantsStandIn t = false)
theorem card : Rows.PointNamesCardSaid :=
  Claim7.holds_tied_plain_at .later [] _ _ _ _ said (fun _ h => by cases h) (by kernel_rfl) (fun _ h => by cases h) pointNames_row_tie rfl ⟨rfl, rfl⟩ (by kernel_rfl) rfl plain (by kernel_rfl)
#print axioms card
end Go.Proofs.YtfkjmmpolingbaaDoor.pointNames
namespace Go.Proofs.YtfkjmmpolingbaaDoor
/-- The card, under a short name, for the claim. -/
theorem pointNames_holds : Rows.PointNamesCardSaid := pointNames.card
end Go.Proofs.YtfkjmmpolingbaaDoor
end
