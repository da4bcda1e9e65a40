/- Part 7 of the proof of the law SplitJoins for every input: words, walks and plain laws. No condition. -/
import Derived.Laws.RangeAny
import Derived.Laws.RangeString
import Derived.Lib.OthersKept
import Derived.LoopIn
import Derived.LoopNIn
import Derived.Maps.AppendAt
import Derived.OwnWalkIn
import Derived.RangeFuncBox
import Derived.RangeFuncLeaves
import Derived.Shelf.Abstract
import Derived.TacticsInMore
import Derived.Test.YtakmkhokbcjapaaDoorKSplitJoins6
set_option linter.unusedVariables false
set_option linter.unusedSimpArgs false
set_option maxHeartbeats 8000000
set_option maxRecDepth 100000
section
namespace Go.Proofs.YtakmkhokbcjapaaDoor.XA
open Go.Proofs.YtakmkhokbcjapaaDoor.Lift Go.RowKit Go.Proofs.YtakmkhokbcjapaaDoorW.PrintWords Go.Proofs.YtakmkhokbcjapaaDoorW.PrintLast Go.Proofs.YtakmkhokbcjapaaDoorW.PrintMore
attribute [local go_sem] max2_int min2_int max_two min_two max_three min_three max_four min_four
--IMPORT Derived.RangeFuncBox
--IMPORT Derived.RangeFuncLeaves
--IMPORT Derived.Shelf.Abstract
--IMPORT Derived.OwnWalkIn
--IMPORT Derived.TacticsInMore
--IMPORT Derived.LoopNIn
--IMPORT Derived.LoopIn
--IMPORT Derived.Maps.AppendAt
--IMPORT Derived.Lib.OthersKept
--IMPORT Derived.Laws.RangeAny
--IMPORT Derived.Laws.RangeString
section
attribute [local go_sem] Oper.semAt_some
def dsOf (s : ByteArray) : List Int := s.data.toList.map fun b => (b.toNat : Int) - 48
theorem dsOf_length (s : ByteArray) : (dsOf s).length = s.size := by unfold dsOf; rw [List.length_map, Array.length_toList]; rfl
theorem dsOf_get (s : ByteArray) (k : Nat) (hk : k < s.size) : (dsOf s)[k]? = some (((s[k]'hk).toNat : Int) - 48) := by
 unfold dsOf
 rw [List.getElem?_map, Array.getElem?_toList, Array.getElem?_eq_getElem (show k < s.data.size from hk)]
 rfl
set_option maxHeartbeats 2000000 in
theorem digits1_in (F : Fence) (n : Nat) (h62 : F.fn 62) (hro : F.round = none) (hn : 1 ≤ n) (l Bn : Nat) (s : ByteArray) (hs : ∀ k (hk : k < s.size), 48 ≤ (s[k]'hk).toNat ∧ (s[k]'hk).toNat < 58) (J Jx : List Int → World → Prop) (W : World)
  (hJ : AbidesFrom W.heap.size J)
  (hY : ∀ pre x W1, J pre W1 → pre.length < s.size → YieldAt F (n - 1) Tryd.prog l #[.int .i64 x] W1 fun e W' =>
   (e = .returned (.bool true) ∧ J (pre ++ [x]) W' ∧ KeepsWalks W1 W') ∨ (e = .returned (.bool false) ∧ Jx (pre ++ [x]) W'))
  (hBn : W.cell? ⟨Bn, 0, none⟩ = some (.string s)) (h0 : J [] W) :
  CallsIn F n Tryd.prog 62 #[.func (.yield l) #[] #[], .pointer (some ⟨Bn, 0, none⟩)] W fun e W' => (∃ v, e = .returned v) ∧
   ((∃ ys, ys = dsOf s ∧ J ys W') ∨ (∃ pre, pre <+: dsOf s ∧ Jx pre W')) := by
 refine callsIn_of_wp Tryd.func62 rfl h62 ?_ hro
 simp only [Tryd.ntmps62, List.size_toArray, List.length_cons, List.length_nil, Nat.reduceAdd, Nat.reduceSub, Array.replicate_succ, Array.replicate_zero, List.push_toArray, List.append_toArray, List.nil_append, List.cons_append]
 gi_wp2
 gi_loopw [] (fun wr => ∃ k : Nat, k ≤ s.size ∧ wr.heap[W.heap.size]? = some (.stringIter s k) ∧ J ((dsOf s).take k) wr) (fun wr => s.size - wr.iterPos W.heap.size)
 case atStart =>
  refine ⟨0, Nat.zero_le _, World.iter_heap W s 0, ?_⟩
  rw [List.take_zero]
  exact hJ [] W _ none h0 (World.grownBy_alloc W _ none) (fun r e => by cases e)
 case round =>
  obtain ⟨k, hk, hit, hJk⟩ := hrel
  by_cases hp : k < s.size
  ·have hd := hs k hp
   have hnx : ∀ ty, (Instr.next (.pointer (some ⟨W.heap.size, 0, none⟩)) true ty).run Tryd.prog wr = _ := fun ty => Lib.run_next_ascii_at wr W.heap.size s k ty hit hp (by omega)
   have hit2 := Lib.iterAt_heap wr W.heap.size s k (k + 1) hit
   have hJ2 : J ((dsOf s).take k) (wr.iterAt W.heap.size s (k + 1)) := hJ _ wr _ (some W.heap.size) hJk
    ⟨rfl, rfl, rfl, by rw [Lib.iterAt_size]; exact Nat.le_refl _, fun i hi hne => Lib.iterAt_other wr W.heap.size i s (k + 1) (fun e => hne (by rw [e]))⟩
    (fun r e => by cases e; exact ⟨Nat.le_refl _, _, hit, rfl⟩)
   obtain ⟨c, hc⟩ : ∃ c : Nat, (s[k]'hp).toNat = c := ⟨_, rfl⟩
   have htk : (dsOf s).take (k + 1) = (dsOf s).take k ++ [(c : Int) - 48] := by
    rw [List.take_add_one, dsOf_get s k hp, hc]; rfl
   rw [hc] at hd
   rw [hc] at hnx
   have h48 : (48 : Int) ≤ (c : Int) := by omega
   have h58 : (c : Int) < 58 := by omega
   obtain ⟨fn, tmps, assign, body, hy, hR⟩ := hY _ ((c : Int) - 48) _ hJ2 (by rw [List.length_take, dsOf_length]; omega)
   gi_wp2
   refine hR.mono ?_
   rintro e W3 (⟨rfl, hJ3, hk3⟩ | ⟨rfl, hJx3⟩)
   ·have hit3 := hk3.same W.heap.size _ hit2 rfl
    gi_wp2
    go_roundw
    case rel => exact ⟨k + 1, by omega, hit3, by rw [htk]; exact hJ3⟩
    case measure => simp only [World.iterPos, hit3, hit]; omega
   ·gi_wp2
    refine bodyPost_ret (results_none rfl _ _ _) rfl ?_
    exact ⟨⟨_, rfl⟩, .inr ⟨_, ⟨(dsOf s).drop (k + 1), by rw [← htk]; exact List.take_append_drop _ _⟩, hJx3⟩⟩
  ·have hnx : ∀ ty, (Instr.next (.pointer (some ⟨W.heap.size, 0, none⟩)) true ty).run Tryd.prog wr = _ := fun ty => Lib.run_next_end_at wr W.heap.size s k ty hit hp
   gi_wp2
   go_end0
   exact ⟨⟨_, rfl⟩, .inl ⟨_, rfl, by rw [List.take_of_length_le (by rw [dsOf_length]; omega)] at hJk; exact hJk⟩⟩
theorem limb_Digits.calls (k : Nat) (A0 : Option Addr) (c0 : Nat) (l0 : List Int) (r : ByteArray) (w : World) (hr0 : Kd.C (Kd.int .u32) w A0 l0.length l0) (hc0 : l0.length ≤ c0) (h : limb_Text.f k l0 = some r) :
  Calls Tryd.prog 49 #[.slice A0 l0.length c0] w fun e w' => ∃ g, e = .returned (.func (.func 62) #[] #[.pointer (some ⟨g, 0, none⟩)]) ∧ w.heap.size ≤ g ∧ Boxed w' g 9 (.string r) ∧ Below w.heap.size w w' := by
 go_enter Tryd.func49, Tryd.ntmps49
 go_wp2_with (go_at_call 61; refine (limb_Text.calls k _ _ l0 r _ hr0 hc0 h).mono ?_; rintro e w1 ⟨rfl, hb⟩)
 go_ret
 exact ⟨_, rfl, hb.size, Boxed.new w1 9 _, hb.alloc hb.size _⟩
theorem by9_digit (p : Int) : ∀ b ∈ by9 p, 48 ≤ b.toNat ∧ b.toNat < 58 := by
 intro b hb
 obtain ⟨n, hn, rfl⟩ := List.mem_map.1 hb
 obtain ⟨i, _, rfl⟩ := List.mem_map.1 hn
 unfold dg
 generalize p / 10 ^ (8 - i) = q
 have h1 : 0 ≤ q % 10 := Int.emod_nonneg _ (by decide)
 have h2 : q % 10 < 10 := Int.emod_lt_of_pos _ (by decide)
 obtain ⟨m, hm⟩ : ∃ m : Nat, q % 10 = m := ⟨(q % 10).toNat, by omega⟩
 rw [hm, show ((48 : Int) + m).toNat = 48 + m by omega, UInt8.toNat_ofNat']
 omega
theorem limbrev_digit (l : List Int) : ∀ b ∈ limbrev l, 48 ≤ b.toNat ∧ b.toNat < 58 := by
 intro b hb
 cases l with
 | nil => cases hb
 | cons p r =>
  rcases List.mem_append.1 hb with h | h
  ·exact by9_digit p b ((List.dropWhile_sublist _).subset h)
  ·obtain ⟨q, _, hq⟩ := List.mem_flatMap.1 h
   exact by9_digit q b hq
theorem bytes_digit (l : List UInt8) (hl : ∀ b ∈ l, 48 ≤ b.toNat ∧ b.toNat < 58) : ∀ i (hi : i < (⟨l.toArray⟩ : ByteArray).size), 48 ≤ ((⟨l.toArray⟩ : ByteArray)[i]'hi).toNat ∧ ((⟨l.toArray⟩ : ByteArray)[i]'hi).toNat < 58 :=
 fun i hi => hl _ (List.getElem_mem (show i < l.length from hi))
theorem limb_Text_some (k : Nat) : ∀ (x3 x4 : List Int) (s : ByteArray), limb_Text.l0 k x3 x4 = some s → (∀ i (hi : i < s.size), 48 ≤ (s[i]'hi).toNat ∧ (s[i]'hi).toNat < 58) ∧ s.size ≤ 140737488355000 := by
 induction k with
 | zero => intro x3 x4 s h; cases h
 | succ k ih =>
  intro x3 x4 s h
  simp only [limb_Text.l0] at h
  by_cases c1 : (x4.length : Int) > 0
  ·rw [if_pos c1] at h
   obtain ⟨t, _, h⟩ := Option.bind_eq_some_iff.mp h
   by_cases c2 : x3.length < 35184372088832
   ·rw [if_pos c2] at h
    exact ih _ _ _ h
   ·rw [if_neg c2] at h
    cases h
  ·rw [if_neg c1] at h
   by_cases c2 : (x3.length : Int) = 0
   ·rw [if_pos c2] at h
    cases h
    exact ⟨bytes_digit [48] (by intro b hb; obtain rfl := List.mem_singleton.1 hb; decide), by decide⟩
   ·rw [if_neg c2] at h
    by_cases c3 : 9 * x3.length ≤ 140737488355000 ∧ (x3.all fun p => decide (0 ≤ p ∧ p < 1000000000)) = true
    ·rw [if_pos c3] at h
     cases h
     refine ⟨bytes_digit _ (limbrev_digit _), ?_⟩
     have h1 := limbrev_len x3.reverse
     rw [List.length_reverse] at h1
     exact Nat.le_trans (show (limbrev x3.reverse).length ≤ _ from h1) c3.1
    ·rw [if_neg c3] at h
     cases h
theorem conv_own {w : World} {base n : Nat} {v : Value} {zs : List Int} (hn : n = zs.length) (h : w.ownsRow base 5 1 v n (zs.map (Value.int .u8))) : (convert 89 9 v).run Tryd.prog w = .ok (.string (strOfNums zs)) w := by
 subst hn
 rcases h.2 with ⟨rfl, h0⟩ | ⟨g, cap, cur, rfl, _, hh, hn, _, hcs, ht⟩
 ·obtain rfl : zs = [] := List.eq_nil_of_length_eq_zero h0
  exact run_convert_bytes_nil (P := Tryd.prog) w 89 5 Tryd.underlying89 Tryd.underlying5 0 0 9 Tryd.underlying9
 ·refine run_convert_bytes_arg (P := Tryd.prog) w 89 5 Tryd.underlying89 Tryd.underlying5 g 0 zs.length cap zs rfl (fun i hi => ?_) 9 Tryd.underlying9
  rw [Lib.cell_of_heap hh, Nat.zero_add, ← Array.getElem?_toList]
  have h2 : (cur.toList.take (zs.length * 1))[i]? = (zs.map (Value.int .u8))[i]? := by rw [ht]
  rw [List.getElem?_take, if_pos (by omega), List.getElem?_map, List.getElem?_eq_getElem hi] at h2
  rw [h2, List.getD_eq_getElem?_getD, List.getElem?_eq_getElem hi]
  rfl
def chrOf (x : Int) : Int := wrap64 (48 + x) % 256
theorem map_chr (s : ByteArray) (hs : ∀ i (hi : i < s.size), 48 ≤ (s[i]'hi).toNat ∧ (s[i]'hi).toNat < 58) : (dsOf s).map chrOf = (dsOf s).map fun d => 48 + d := by
 apply List.map_congr_left
 intro d hd
 obtain ⟨k, hk, rfl⟩ := List.mem_iff_getElem.1 hd
 have hk' : k < s.size := by rwa [dsOf_length] at hk
 have h1 := dsOf_get s k hk'
 rw [List.getElem?_eq_getElem hk] at h1
 have h2 := Option.some.inj h1
 have h3 := hs k hk'
 rw [h2]
 unfold chrOf wrap64
 omega
def integer_Int_Text.f (k : Nat) (qD : Bool) (qA : List Int) : Option (ByteArray) := (limb_Text.f k qA).bind fun s => some (strOfNums ((if qD then [45] else []) ++ (dsOf s).map fun d => 48 + d))
theorem integer_Int_Text.mono : ∀ a0 a1 k, LeO (integer_Int_Text.f k a0 a1) (integer_Int_Text.f (k + 1) a0 a1) := by
 intro a0 a1 k
 unfold integer_Int_Text.f
 exact LeO.bind (limb_Text.mono _ _) (fun _ => LeO.refl _)
theorem integer_Int_Text.calls (k : Nat) (qD : Bool) (qB : Option Addr) (qC : Nat) (qA : List Int) (r : ByteArray) (w : World) (qE : Kd.C (Kd.int .u32) w qB qA.length qA) (qF : qA.length ≤ qC) (h : integer_Int_Text.f k qD qA = some r) :
  Calls Tryd.prog 33 #[.agg #[.bool qD, .slice qB qA.length qC]] w fun e w' => e = .returned (.string r) ∧ Below w.heap.size w w' := by
 obtain ⟨s, hs, hr⟩ := Option.bind_eq_some_iff.mp h
 obtain rfl := Option.some.inj hr
 have hsd : (∀ i (hi : i < s.size), 48 ≤ (s[i]'hi).toNat ∧ (s[i]'hi).toNat < 58) ∧ s.size ≤ 140737488355000 := by
  obtain ⟨x, _, hx⟩ := Option.bind_eq_some_iff.mp hs
  exact limb_Text_some k _ _ _ hx
 have HSD := aM hsd
 clear hsd hr h
 obtain ⟨i0, hi, hz0, hz1, hz2⟩ := info_parts (show (Tryd.prog.info? 5).map (fun i => (i.zero, i.size, i.bytes)) = some (some (.int .u8 0), 1, 1) by kernel_rfl)
 have hu39 := Tryd.underlying39
 refine (callsIn_wide (n := 3)).1 ?_
 refine callsIn_of_wp_marks Tryd.func33 rfl trivial ?_ rfl
 simp only [Tryd.ntmps33, List.size_toArray, List.length_cons, List.length_nil, Nat.reduceAdd, Nat.reduceSub, Array.replicate_succ, Array.replicate_zero, List.push_toArray, List.append_toArray, List.nil_append, List.cons_append]
 cases qD
 ·gi_wp2_with (refine ⟨trivial, ?_⟩; gi_at_call 49; refine (callsIn_wide.2 (limb_Digits.calls k _ _ qA s _ (Kd.z8_ qE (below_alloc (below_alloc (Below.refl _ _) _) _)) qF hs)).mono ?_; rintro e w1 ⟨g, rfl, hg, hbox, hb1⟩)
  have bO1 := Boxed.new (w.alloc (.cells #[.bool false, .slice qB qA.length qC] 39)) 89 (.slice none 0 0)
  rw [World.size_alloc] at bO1
  have bO : Boxed w1 (w.heap.size + 1) 89 (.slice none 0 0) := (hb1.block _ bO1.lt).trans bO1
  have hrow : w1.ownsRow w.heap.size 5 1 (.slice none 0 0) ([] : List Int).length ((([] : List Int).map chrOf).map (Value.int .u8)) := World.ownsRow_nil _ _ _ _
  have hB0 : Below w.heap.size w w1 := z6_ (below_alloc (below_alloc (Below.refl _ _) _) _) hb1
  have hgl : g < w1.heap.size := hbox.lt
  have stops : SeqStopsK Fence.wide 2 Tryd.prog 62 #[.pointer (some ⟨g, 0, none⟩)] (fun x : Int => #[Value.int .i64 x]) KeepsWalks (fun ys => ys = dsOf s) (fun pre => pre <+: dsOf s) s.size w1 := fun l J Jx W hW hJ hJx hY h0 =>
   digits1_in Fence.wide 2 trivial rfl (by omega) l g s HSD.out.1 J Jx W hJ hY ((hW.cell (p := ⟨g, 0, none⟩) hgl).trans hbox.cell) h0
  refine wpIn_rangeFunc_ownG rfl (by omega) (gf := 62) (lb := #[.pointer (some ⟨g, 0, none⟩)]) rfl trivial (enters_of Tryd.func62 zk rfl)
   stops walksK_t (fun W l o o' hl ho hc hw => KeepsWalks.putObj _ ho hw) (Below.refl _ _) (fun _ => rfl)
   (fun (pre : List Int) W => (∃ v, Boxed W (w.heap.size + 1) 89 v ∧ W.ownsRow w.heap.size 5 1 v pre.length ((pre.map chrOf).map (Value.int .u8)) ∧ True) ∧ Below w.heap.size w W)
   (fun _ _ _ => False)
   (OwnFrom.and (Own.from (holdsRow_own w.heap.size (w.heap.size + 1) 89 5 1 (fun (pre : List Int) => pre.length) (fun (pre : List Int) => (pre.map chrOf).map (Value.int .u8)) (fun _ _ => True)) _) (ownFrom_below (Nat.le_refl _) hB0.size))
   (fun _ _ _ _ _ hs _ _ => hs)
   ⟨⟨_, bO, hrow, trivial⟩, hB0⟩
   (fun x => { tmps := #[.agg #[.bool false, .slice qB qA.length qC], .pointer (some ⟨w.heap.size, 0, none⟩), .string { data := #[] }, .pointer (some ⟨w.heap.size + 1, 0, none⟩), .int .i64 x, .pointer (some ⟨w.heap.size, 0, none⟩), .bool false, undef, undef, undef, .pointer (some ⟨w.heap.size, 1, none⟩), .slice qB qA.length qC, .func (.func 62) #[] #[.pointer (some ⟨g, 0, none⟩)], .int .i64 x, undef, undef, undef, undef, undef, undef, undef, undef], defers := [] }) ?assign ?body ?done ?stop
  case assign =>
   intro l x W K hK
   gi_wp2
   exact hK
  case body =>
   rintro l pre x W ⟨⟨v, hv, hrow, _⟩, hB⟩ hlt
   have hc := hv.cell
   have hln := HSD.out.2
   gi_wp2_with (gi_at_builtin; refine wpListIn_append_own _ rfl _ _ 89 rfl w.heap.size 5 i0 (.int .u8 0) 1 1 Tryd.underlying89 hi hz0 hz1 hz2 rfl (by decide) _ _ _ rfl (hrow.alloc _) ⟨W.heap.size, 0, none⟩ 1 1 [.int .u8 (chrOf x)] rfl rfl (cell_one_new _ _ _) (by intro u hu; obtain rfl := List.mem_singleton.1 hu; rfl) (by unfold maxLen; omega) (by omega) (by have := hB.size; rw [World.size_alloc]; omega) ?_; intro v' w2 hown' hgrow _; obtain ⟨g', cap', rfl⟩ := ownsRow_succ hown'; obtain ⟨hv1, hv2, hr2, hk2, hb2⟩ := hv.appended (by decide) hrow hB.size (Nat.le_succ _) hown' hgrow; have hc1 := hv1.cell; have hf1 := hv1.frozen)
   refine ⟨hk2.from _, hk2.walks, ⟨_, hv2, ?_, trivial⟩, hB.trans hb2⟩
   simpa using hr2
  case done =>
   rintro D ys W hD rfl ⟨⟨v, hv, hrow, _⟩, hB⟩ hK
   have hc := hv.cell
   have hcv := conv_own (by simp) hrow
   gi_wp2
   refine ⟨by simp, .inl ⟨_, _, rfl, run_takeDeferred hK, ?_⟩⟩
   refine ⟨_, results_tmp rfl _ _ _, ?_, hB.trans (belowK_b (w := w) (Nat.le_refl _) W D _ _ (Nat.le_trans hB0.size hD) hK rfl rfl)⟩
   rw [map_chr s HSD.out.1]; rfl
  case stop =>
   rintro D c pre W _ _ h _
   exact h.elim
 ·have hblW : Below w.heap.size w ((((w.alloc (.cells #[.bool true, .slice qB qA.length qC] 39)).alloc (.cells #[.slice (some ⟨w.heap.size + 1 + 1 + 1, 0, none⟩) 1 (grownCap w 1 0 5)] 89)).alloc (.cells #[.int .u8 45] 5)).alloc (.cells (#[.int .u8 45] ++ Builtin.zeroCells #[.int .u8 0] (grownCap w 1 0 5 - 1)) 5)).drew := below_drew (below_alloc (below_alloc (below_alloc (below_alloc (Below.refl _ _) _) _) _) _)
  gi_wp2_with (refine ⟨trivial, ?_⟩; gi_at_call 49; refine (callsIn_wide.2 (limb_Digits.calls k _ _ qA s _ (Kd.z8_ qE hblW) qF hs)).mono ?_; rintro e w1 ⟨g, rfl, hg, hbox, hb1⟩)
  have bX := ((Boxed.new (w.alloc (.cells #[.bool true, .slice qB qA.length qC] 39)) 89 (.slice (some ⟨w.heap.size + 1 + 1 + 1, 0, none⟩) 1 (grownCap w 1 0 5))).alloc (.cells #[.int .u8 45] 5)).alloc (.cells (#[.int .u8 45] ++ Builtin.zeroCells #[.int .u8 0] (grownCap w 1 0 5 - 1)) 5)
  have bO : Boxed w1 (w.heap.size + 1) 89 (.slice (some ⟨w.heap.size + 1 + 1 + 1, 0, none⟩) 1 (grownCap w 1 0 5)) := by
   rw [World.size_alloc] at bX
   exact (hb1.block _ bX.lt).trans bX
  have hg1 : 1 ≤ grownCap w 1 0 5 := grownCap_ge w 1 0 5
  have hg2 : grownCap w 1 0 5 ≤ maxLen := grownCap_le_maxLen w 1 0 5 (by unfold maxLen; omega)
  have hrow : w1.ownsRow w.heap.size 5 1 (.slice (some ⟨w.heap.size + 1 + 1 + 1, 0, none⟩) 1 (grownCap w 1 0 5)) (([] : List Int).length + 1) ((45 :: ([] : List Int).map chrOf).map (Value.int .u8)) := by
   have hx := World.alloc_heap_new (((w.alloc (.cells #[.bool true, .slice qB qA.length qC] 39)).alloc (.cells #[.slice (some ⟨w.heap.size + 1 + 1 + 1, 0, none⟩) 1 (grownCap w 1 0 5)] 89)).alloc (.cells #[.int .u8 45] 5)) (.cells (#[.int .u8 45] ++ Builtin.zeroCells #[.int .u8 0] (grownCap w 1 0 5 - 1)) 5)
   have hlt := (Array.getElem?_eq_some_iff.1 hx).1
   have hx2 := (hb1.block _ hlt).trans hx
   rw [World.size_alloc, World.size_alloc, World.size_alloc] at hx2
   exact ⟨rfl, .inr ⟨_, _, _, rfl, by omega, hx2, hg1, hg2, by rw [Array.size_append, size_zeroCells]; show 1 + (grownCap w 1 0 5 - 1) * 1 = grownCap w 1 0 5 * 1; omega, by rw [Array.toList_append]; rfl⟩⟩
  have hB0 : Below w.heap.size w w1 := z6_ hblW hb1
  have hgl : g < w1.heap.size := hbox.lt
  have stops : SeqStopsK Fence.wide 2 Tryd.prog 62 #[.pointer (some ⟨g, 0, none⟩)] (fun x : Int => #[Value.int .i64 x]) KeepsWalks (fun ys => ys = dsOf s) (fun pre => pre <+: dsOf s) s.size w1 := fun l J Jx W hW hJ hJx hY h0 =>
   digits1_in Fence.wide 2 trivial rfl (by omega) l g s HSD.out.1 J Jx W hJ hY ((hW.cell (p := ⟨g, 0, none⟩) hgl).trans hbox.cell) h0
  refine wpIn_rangeFunc_ownG rfl (by omega) (gf := 62) (lb := #[.pointer (some ⟨g, 0, none⟩)]) rfl trivial (enters_of Tryd.func62 zk rfl)
   stops walksK_t (fun W l o o' hl ho hc hw => KeepsWalks.putObj _ ho hw) (Below.refl _ _) (fun _ => rfl)
   (fun (pre : List Int) W => (∃ v, Boxed W (w.heap.size + 1) 89 v ∧ W.ownsRow w.heap.size 5 1 v (pre.length + 1) ((45 :: pre.map chrOf).map (Value.int .u8)) ∧ True) ∧ Below w.heap.size w W)
   (fun _ _ _ => False)
   (OwnFrom.and (Own.from (holdsRow_own w.heap.size (w.heap.size + 1) 89 5 1 (fun (pre : List Int) => (pre.length + 1)) (fun (pre : List Int) => (45 :: pre.map chrOf).map (Value.int .u8)) (fun _ _ => True)) _) (ownFrom_below (Nat.le_refl _) hB0.size))
   (fun _ _ _ _ _ hs _ _ => hs)
   ⟨⟨_, bO, hrow, trivial⟩, hB0⟩
   (fun x => { tmps := #[.agg #[.bool true, .slice qB qA.length qC], .pointer (some ⟨w.heap.size, 0, none⟩), .string { data := #[] }, .pointer (some ⟨w.heap.size + 1, 0, none⟩), .int .i64 x, .pointer (some ⟨w.heap.size, 0, none⟩), .bool true, .slice none 0 0, .slice (some ⟨w.heap.size + 1 + 1, 0, none⟩) 1 1, .slice (some ⟨w.heap.size + 1 + 1 + 1, 0, none⟩) 1 (grownCap w 1 0 5), .pointer (some ⟨w.heap.size, 1, none⟩), .slice qB qA.length qC, .func (.func 62) #[] #[.pointer (some ⟨g, 0, none⟩)], .int .i64 x, undef, undef, undef, undef, undef, undef, undef, undef], defers := [] }) ?assign ?body ?done ?stop
  case assign =>
   intro l x W K hK
   gi_wp2
   exact hK
  case body =>
   rintro l pre x W ⟨⟨v, hv, hrow, _⟩, hB⟩ hlt
   have hc := hv.cell
   have hln := HSD.out.2
   gi_wp2_with (gi_at_builtin; refine wpListIn_append_own _ rfl _ _ 89 rfl w.heap.size 5 i0 (.int .u8 0) 1 1 Tryd.underlying89 hi hz0 hz1 hz2 rfl (by decide) _ _ _ rfl (hrow.alloc _) ⟨W.heap.size, 0, none⟩ 1 1 [.int .u8 (chrOf x)] rfl rfl (cell_one_new _ _ _) (by intro u hu; obtain rfl := List.mem_singleton.1 hu; rfl) (by unfold maxLen; omega) (by omega) (by have := hB.size; rw [World.size_alloc]; omega) ?_; intro v' w2 hown' hgrow _; obtain ⟨g', cap', rfl⟩ := ownsRow_succ hown'; obtain ⟨hv1, hv2, hr2, hk2, hb2⟩ := hv.appended (by decide) hrow hB.size (Nat.le_succ _) hown' hgrow; have hc1 := hv1.cell; have hf1 := hv1.frozen)
   refine ⟨hk2.from _, hk2.walks, ⟨_, hv2, ?_, trivial⟩, hB.trans hb2⟩
   simpa using hr2
  case done =>
   rintro D ys W hD rfl ⟨⟨v, hv, hrow, _⟩, hB⟩ hK
   have hc := hv.cell
   have hcv := conv_own (by simp) hrow
   gi_wp2
   refine ⟨by simp, .inl ⟨_, _, rfl, run_takeDeferred hK, ?_⟩⟩
   refine ⟨_, results_tmp rfl _ _ _, ?_, hB.trans (belowK_b (w := w) (Nat.le_refl _) W D _ _ (Nat.le_trans hB0.size hD) hK rfl rfl)⟩
   rw [map_chr s HSD.out.1]; rfl
  case stop =>
   rintro D c pre W _ _ h _
   exact h.elim
end
end Go.Proofs.YtakmkhokbcjapaaDoor.XA
end
section
namespace Go.Proofs.YtakmkhokbcjapaaDoor.XA
open Go.Proofs.YtakmkhokbcjapaaDoor.Lift Go.RowKit Go.Proofs.YtakmkhokbcjapaaDoorW.PrintWords Go.Proofs.YtakmkhokbcjapaaDoorW.PrintLast Go.Proofs.YtakmkhokbcjapaaDoorW.PrintMore
attribute [local go_sem] max2_int min2_int max_two min_two max_three min_three max_four min_four
def swageref02_divide.l0 : Nat → List Int → List Int → List Int → Int → Int → Option (List Int × List Int)
 | 0, _, _, _, _, _ => none
 | k + 1, x0, x1, x6, x7, x8 => if x8 ≥ 0 then (if 0 ≤ x8 then (if x8 < (x0.length : Int) then (if 0 < (x1.length : Int) then (if (IntKind.u64.wrap (rd x1 0)) = 0 then (none) else (if x8 < (x6.length : Int) then (swageref02_divide.l0 k x0 x1 (x6.set (x8 : Int).toNat ((IntKind.u64.wrap (Int.tdiv (IntKind.u64.wrap ((IntKind.u64.wrap (x7 * 65536)) + (IntKind.u64.wrap (rd x0 x8)))) (IntKind.u64.wrap (rd x1 0)))) % 4294967296)) (Int.tmod (IntKind.u64.wrap ((IntKind.u64.wrap (x7 * 65536)) + (IntKind.u64.wrap (rd x0 x8)))) (IntKind.u64.wrap (rd x1 0))) (wrap64 (x8 - 1))) else (none))) else (none)) else (none)) else (none)) else ((swageref02_norm.f k false x6).bind fun bt249 => ((swageref02_norm.f k false (([(x7) % 4294967296] : List Int))).bind fun bt256 => (some (bt249.2, bt256.2))))
def swageref02_divide.f (k : Nat) (l0 : List Int) (l1 : List Int) : Option (List Int × List Int) := if (l1.length : Int) = 1 then (if 0 ≤ (l0.length : Int) then (if ((l0.length : Int) : Int).toNat ≤ 70368744177664 then (swageref02_divide.l0 k l0 l1 (List.replicate ((l0.length : Int) : Int).toNat 0) 0 (wrap64 ((l0.length : Int) - 1))) else (none)) else (none)) else (none)
theorem swageref02_divide.mono_l : ∀ k, (∀ y0 y1 y2 y3 y4, LeO (swageref02_divide.l0 k y0 y1 y2 y3 y4) (swageref02_divide.l0 (k + 1) y0 y1 y2 y3 y4))
 | 0 => fun _ _ _ _ _ r h => by simp [swageref02_divide.l0] at h
 | k + 1 => by
  have ih0 := swageref02_divide.mono_l k
  ·intro y0 y1 y2 y3 y4
   unfold swageref02_divide.l0
   have im0 := @swageref02_norm.mono; exact zM
theorem swageref02_divide.mono : ∀ a0 a1 k, LeO (swageref02_divide.f k a0 a1) (swageref02_divide.f (k + 1) a0 a1) := by
 intro a0 a1 k
 have ih0 := swageref02_divide.mono_l k
 unfold swageref02_divide.f
 have im0 := @swageref02_norm.mono; exact zM
theorem swageref02_divide.calls (k : Nat) (A0 : Option Addr) (c0 : Nat) (l0 : List Int) (A1 : Option Addr) (c1 : Nat) (l1 : List Int) (r1 : List Int) (r2 : List Int) (w : World) (hr0 : Kd.C (Kd.int .u32) w A0 l0.length l0) (hc0 : l0.length ≤ c0) (hr1 : Kd.C (Kd.int .u32) w A1 l1.length l1) (hc1 : l1.length ≤ c1) (h : swageref02_divide.f k l0 l1 = some (r1, r2)) :
  Calls Tryd.prog 50 #[.slice A0 l0.length c0, .slice A1 l1.length c1] w fun e w' => ∃ v0_ v1_ : Value, e = .returned (.tuple #[v0_, v1_]) ∧ Kd.V (Kd.int .u32) 76 w' w.heap.size (fun k_ => (w.heap.size ≤ k_)) v0_ r1 ∧ Kd.V (Kd.int .u32) 76 w' w.heap.size (fun k_ => (w.heap.size ≤ k_)) v1_ r2 ∧ Below w.heap.size w w' := by
 have hu68 := Tryd.underlying68
 have HR0 := aM hr0
 have HC0 := aM hc0
 clear hr0 hc0
 have HR1 := aM hr1
 have HC1 := aM hc1
 clear hr1 hc1
 have HB := aM (Below.refl w.heap.size w)
 have H : (if (l1.length : Int) = 1 then (if 0 ≤ (l0.length : Int) then (if ((l0.length : Int) : Int).toNat ≤ 70368744177664 then (swageref02_divide.l0 k l0 l1 (List.replicate ((l0.length : Int) : Int).toNat 0) 0 (wrap64 ((l0.length : Int) - 1))) else (none)) else (none)) else (none)) = some (r1, r2) := h
 clear h
 by_cases c3 : (l1.length : Int) = 1
 ·rw [if_pos c3] at H
  have c3b0 : ((l1.length : Int) == 1) = true := beq_iff_eq.mpr c3
  have c3b1 : ((l1.length : Int) != 1) = false := bne_eq_false_iff_eq.mpr c3
  clear c3
  by_cases c4 : 0 ≤ (l0.length : Int)
  ·rw [if_pos c4] at H
   have c4b0 := eq_true c4
   have c4b1 := decide_eq_true c4
   clear c4
   by_cases c5 : ((l0.length : Int) : Int).toNat ≤ 70368744177664
   ·rw [if_pos c5] at H
    have c5b0 := eq_true c5
    have c5b1 := decide_eq_true c5
    clear c5
    obtain ⟨y242, hy242⟩ : ∃ y_ : List Int, y_ = (List.replicate ((l0.length : Int) : Int).toNat 0) := ⟨_, rfl⟩
    replace H : (swageref02_divide.l0 k l0 l1 y242 0 (wrap64 ((l0.length : Int) - 1))) = some (r1, r2) := zH hy242 H
    have Ny242 := aM hy242
    clear hy242
    have H' := aM H
    clear H
    have hfd68_1 : ∀ (p0 p1 : Value) (W : World), Sem.run Tryd.prog (Instr.field 68 (.agg #[p0, p1]) 1) W = .ok p1 W := fun _ _ _ => by kernel_rfl
    go_enter Tryd.func50, Tryd.ntmps50
    go_wp2_with (first | ((with_reducible refine gate_dst (N := 19) rfl ?_); refine Kd.R_make (Kd.int .u32) _ 76 rfl (N := 19) rfl 37 _ _ rfl (l0.length : Int) rfl rfl Tryd.underlying37 (.int .u32 0) 4 info76 rfl (by decide) (by omega) 0 (ok := fun _ => True) (okp := fun _ => True) rfl (fun _ hk => hk) trivial (of_decide_eq_true za) (Nat.le_trans (Nat.mul_le_mul_right _ (of_decide_eq_true za : (l0.length : Int).toNat ≤ 70368744177664)) (by omega)) (Below.refl _ _) (Nat.le_refl _) ?_; intro v243 w6 ho7 hb hg_ hnew_; clear hg_ hnew_; (first | rw [← Ny242.out] at ho7 | (simp only [Int.reduceToNat] at ho7; rw [← Ny242.out] at ho7)); have qN := aM (Kd.z20_ (Kd.R_newM (M := fun k_ => (w.heap.size ≤ k_)) ho7 (z4_ (lB HB)) (fun k_ h_ => h_)) (z4_ (lB HB))); replace HB := aM (z6_ (lB HB) hb); clear hb ho7))
    go_loopg [7, 8] k (fun kq v7 v8 w' => ∃ (qD : List Int) (qC : Int) (qA : Int), v7 = .int .u64 qC ∧ v8 = .int .i64 qA ∧ Aside0 (swageref02_divide.l0 kq l0 l1 qD qC qA = some (r1, r2)) ∧ Aside0 (kq ≤ k) ∧ Aside0 (Kd.R (Kd.int .u32) 76 w' w.heap.size (fun k_ => (w.heap.size ≤ k_)) v243 qD) ∧ Aside0 (Below w.heap.size w w'))
    case atStart => exact ⟨(y242), (0), (wrap64 ((l0.length : Int) - 1)), zT, zT, H', ⟨Nat.le_refl _⟩, ⟨by apply rX; exact Kd.z0_ qN.out (fun _ hk => hk.1)⟩, ⟨zB HB⟩⟩
    case round =>
     clear H'
     try clear c1
     try clear c3
     try clear c4
     try clear c5
     obtain ⟨qD, qC, qA, rfl, rfl, HA, HK1, qB, HB⟩ := hrel
     cases gk with
     | zero => exact absurd HA.out (by simp [swageref02_divide.l0])
     | succ k1 =>
      have H := HA.out
      clear HA
      simp only [swageref02_divide.l0] at H
      by_cases c8 : qA ≥ 0
      ·rw [if_pos c8] at H
       have c8b0 := decide_eq_true c8
       clear c8
       by_cases c9 : 0 ≤ qA
       ·rw [if_pos c9] at H
        have c9b0 := decide_eq_true c9
        clear c9
        by_cases c10 : qA < (l0.length : Int)
        ·rw [if_pos c10] at H
         have c10b0 := decide_eq_true c10
         clear c10
         by_cases c11 : 0 < (l1.length : Int)
         ·rw [if_pos c11] at H
          have c11b0 := decide_eq_true c11
          have c11b1 : decide (0 < l1.length) = true := decide_eq_true (by omega)
          clear c11
          by_cases c12 : (IntKind.u64.wrap (rd l1 0)) = 0
          ·rw [if_pos c12] at H
           exact absurd H (by simp)
          ·rw [if_neg c12] at H
           have c12b0 : ((IntKind.u64.wrap (rd l1 0)) == 0) = false := beq_eq_false_iff_ne.mpr c12
           have c12b1 : ((IntKind.u64.wrap (rd l1 0)) != 0) = true := bne_iff_ne.mpr c12
           by_cases c13 : qA < (qD.length : Int)
           ·rw [if_pos c13] at H
            have c13b0 := decide_eq_true c13
            clear c13
            obtain ⟨y247, hy247⟩ : ∃ y_ : List Int, y_ = (qD.set (qA : Int).toNat ((IntKind.u64.wrap (Int.tdiv (IntKind.u64.wrap ((IntKind.u64.wrap (qC * 65536)) + (IntKind.u64.wrap (rd l0 qA)))) (IntKind.u64.wrap (rd l1 0)))) % 4294967296)) := ⟨_, rfl⟩
            replace H : (swageref02_divide.l0 k1 l0 l1 y247 (Int.tmod (IntKind.u64.wrap ((IntKind.u64.wrap (qC * 65536)) + (IntKind.u64.wrap (rd l0 qA)))) (IntKind.u64.wrap (rd l1 0))) (wrap64 (qA - 1))) = some (r1, r2) := zH hy247 H
            have Ny247 := aM hy247
            clear hy247
            have H' := aM H
            clear H
            have p245 : 0 ≤ (qA : Int) := of_decide_eq_true za
            have q245 : qA < (l0.length : Int) := of_decide_eq_true za
            obtain ⟨ad245, e245, hx245_0⟩ := Kd.at_int HR0.out qA p245 q245
            cases e245
            replace hx245_0 := (HB.out.cell (World.block_lt_of_cell? w _ hx245_0)).trans hx245_0
            replace p245 := eq_true p245
            replace q245 := eq_true q245
            have p246 : 0 ≤ (0 : Int) := (by omega)
            have q246 : 0 < (l1.length : Int) := of_decide_eq_true za
            obtain ⟨ad246, e246, hx246_0⟩ := Kd.at_int HR1.out 0 p246 q246
            cases e246
            have qi246 : (0 < l1.length) = True := eq_true (by omega)
            (try rw [show ((0 : Int)).toNat = 0 from rfl] at hx246_0)
            (try rw [Addr.add_zero'] at hx246_0)
            replace hx246_0 := (HB.out.cell (World.block_lt_of_cell? w _ hx246_0)).trans hx246_0
            replace p246 := eq_true p246
            replace q246 := eq_true q246
            have p14 : 0 ≤ (qA : Int) := of_decide_eq_true za
            have q14 : (qA : Int) < ((qD.length : Int) : Int) := of_decide_eq_true za
            obtain ⟨go14, qP, eo14, qJ, gl14, cl14, HG14⟩ := Kd.R_form qB.out (by omega)
            (first | cases eo14 | (injection eo14 with ea_ en_ ec_; (first | subst ea_ | (injection ea_ with ea_; subst ea_)); subst ec_; clear en_))
            have GB14 := aM qJ
            have GG14 := aM HG14
            clear qJ gl14 HG14
            obtain ⟨hx14_0, hf14_0⟩ := Kd.R_celln 0 qB.out (qA : Int) p14 q14
            replace p14 := eq_true p14
            replace q14 := eq_true q14
            have HP15 := Kd.R_putg qB.out (qA : Int) ((IntKind.u64.wrap (Int.tdiv (IntKind.u64.wrap ((IntKind.u64.wrap (qC * 65536)) + (IntKind.u64.wrap (rd l0 qA)))) (IntKind.u64.wrap (rd l1 0)))) % 4294967296)
            go_wp2_with (first | ((with_reducible refine gate_store (t := 76) (p := 44) rfl ?_); refine store_event (t := 76) (p := 44) (v := ?vo_w16) (w1 := (wr.setCell ⟨go14, (qA : Int).toNat, none⟩ (.int .u32 ((IntKind.u64.wrap (Int.tdiv (IntKind.u64.wrap ((IntKind.u64.wrap (qC * 65536)) + (IntKind.u64.wrap (rd l0 qA)))) (IntKind.u64.wrap (rd l1 0)))) % 4294967296)))) ?hg ?ho ?hn ?hr ?_; (case ho => rfl); (case hg => rfl); (case hn => rfl); (case hr => first | (go_simp; done) | (go_simp; rfl)); intro w16 hw; have hg : wr.grownBy w16 (some go14) := (by rw [hw]; exact HP15.2); have hp_ : Kd.R (Kd.int .u32) 76 w16 w.heap.size (fun k_ => (w.heap.size ≤ k_)) (.slice (some ⟨go14, 0, none⟩) qD.length qP) y247 := (by rw [hw, Ny247.out]; exact HP15.1); clear HP15; replace qB := aM (hp_); replace HB := aM ((by rw [hw]; exact below_set (HB.out) GB14.out : Below w.heap.size w w16)); clear hg hw hp_; have p248 : 0 ≤ (0 : Int) := (by omega); have q248 : 0 < (l1.length : Int) := of_decide_eq_true za; obtain ⟨ad248, e248, hx248_0⟩ := Kd.at_int HR1.out 0 p248 q248; obtain rfl : ad246 = ad248 := (by injection e248); have qi248 : (0 < l1.length) = True := eq_true (by omega); (try rw [show ((0 : Int)).toNat = 0 from rfl] at hx248_0); (try rw [Addr.add_zero'] at hx248_0); replace hx248_0 := (HB.out.cell (World.block_lt_of_cell? w _ hx248_0)).trans hx248_0; replace p248 := eq_true p248; replace q248 := eq_true q248))
            go_roundg k1
            case measure => have := HK1.out; omega
            case rel => exact ⟨(y247), (Int.tmod (IntKind.u64.wrap ((IntKind.u64.wrap (qC * 65536)) + (IntKind.u64.wrap (rd l0 qA)))) (IntKind.u64.wrap (rd l1 0))), (wrap64 (qA - 1)), zT, zT, H', ⟨by have := HK1.out; omega⟩, ⟨lR qB⟩, ⟨zB HB⟩⟩
           ·rw [if_neg c13] at H
            exact absurd H (by simp)
         ·rw [if_neg c11] at H
          exact absurd H (by simp)
        ·rw [if_neg c10] at H
         exact absurd H (by simp)
       ·rw [if_neg c9] at H
        exact absurd H (by simp)
      ·rw [if_neg c8] at H
       have c8b0 := decide_eq_false c8
       clear c8
       replace H := zbs H
       obtain ⟨⟨qQ, qG⟩, A170, H⟩ := H
       replace H : ((swageref02_norm.f k1 false (([(qC) % 4294967296] : List Int))).bind fun bt256 => (some (qG, bt256.2))) = some (r1, r2) := H
       have A17 := aM A170
       clear A170
       obtain ⟨y253, hy253⟩ : ∃ y_ : List Int, y_ = (([(qC) % 4294967296] : List Int)) := ⟨_, rfl⟩
       replace H : ((swageref02_norm.f k1 false y253).bind fun bt256 => (some (qG, bt256.2))) = some (r1, r2) := zH hy253 H
       have Ny253 := aM hy253
       clear hy253
       replace H := zbs H
       obtain ⟨⟨qR, qK⟩, A180, H⟩ := H
       replace H : (some (qG, qK)) = some (r1, r2) := H
       have A18 := aM A180
       clear A180
       simp only [Option.some.injEq, Prod.mk.injEq] at H
       obtain ⟨rfl, rfl⟩ := H
       obtain ⟨qH, qI, eo19⟩ := Kd.R_slice qB.out
       subst eo19
       go_wp2_with (first | ((with_reducible refine gate_callee (f := 48) rfl ?_); refine z13_ (some 52) rfl rfl Tryd.func48 zk rfl #[.bool false, .slice qH qD.length qI] rfl zA ?_; (with_reducible refine (swageref02_norm.calls k1 false (fun k_ => some k_ = (.slice qH qD.length qI : Value).ownBlock) _ _ qD qQ qG _ ?side1 A17.out).mono ?_); (case side1 => exact Kd.R_V (Kd.R_tight rfl (qB.out))); rintro e w20 ⟨v251, rfl, ho0, hb⟩; refine ⟨_, rfl, ?_⟩; have qF := aM (Kd.V_lower (Kd.V_mono (ok' := fun k_ => (w.heap.size ≤ k_)) ho0 (fun k_ hk_ => Or.elim hk_ (fun hs_ => ((qB.out).1 k_ hs_.symm)) (fun hn_ => (Nat.le_trans (z4_ (lB HB)) hn_)))) (z4_ (lB HB))); replace qB := aM (Kd.z7_ (lR qB) hb); replace HB := aM (z6_ (lB HB) hb); (try clear hb); (try clear ho0)) | ((with_reducible refine gate_dst (N := 56) rfl ?_); refine Kd.R_lit (Kd.int .u32) _ 76 ?hg (N := 56) ?hd (xs := ([(qC) % 4294967296] : List Int)) (inner := [.int .u32 ((qC) % 4294967296)]) (ok := fun _ => True) (okp := fun _ => True) ?hr ?hp (fun _ hk => hk) trivial (Below.refl _ _) (Nat.le_refl _) (by simp) ?_; (case hd => rfl); (case hg => rfl); (case hr => first | (go_simp; done) | (go_simp; rfl)); (case hp => exact (Reps.one (show Kd.M (Kd.int .u32) _ _ _ ((qC) % 4294967296) [.int .u32 ((qC) % 4294967296)] from rfl) (Reps.none _ _))); intro v254 w21 ho22 hb hg_ hnew_; clear hg_ hnew_; (first | rw [← Ny253.out] at ho22 | (simp only [Int.reduceToNat] at ho22; rw [← Ny253.out] at ho22)); replace qF := aM (Kd.V_elder' (lV qF) (Kd.R_base ho22) hb); have qE := aM (Kd.z20_ (Kd.z21_ (Kd.R_newM (M := fun k_ => (w.heap.size ≤ k_)) ho22 (z4_ (lB HB)) (fun k_ h_ => h_)) (Kd.R_lt (lR qB))) (z4_ (lB HB))); replace qB := aM (Kd.z17_ (lR qB) (Kd.R_base ho22) hb); replace HB := aM (z6_ (lB HB) hb); clear hb ho22; obtain ⟨qL, qM, eo23⟩ := Kd.R_slice qE.out; subst eo23) | ((with_reducible refine gate_callee (f := 48) rfl ?_); refine z13_ (some 57) rfl rfl Tryd.func48 zk rfl #[.bool false, .slice qL y253.length qM] rfl zA ?_; (with_reducible refine (swageref02_norm.calls k1 false (fun k_ => some k_ = (.slice qL y253.length qM : Value).ownBlock) _ _ y253 qR qK _ ?side1 A18.out).mono ?_); (case side1 => exact Kd.R_V (Kd.R_tight rfl (qE.out))); rintro e w24 ⟨v258, rfl, ho0, hb⟩; refine ⟨_, rfl, ?_⟩; replace qF := aM (Kd.V_below (lV qF) hb); have qO := aM (Kd.V_lower (Kd.V_mono (ok' := fun k_ => (w.heap.size ≤ k_) ∧ some k_ ≠ (.slice qH qD.length qI : Value).ownBlock) ho0 (fun k_ hk_ => ⟨Or.elim hk_ (fun hs_ => ((qE.out).1 k_ hs_.symm).1.1) (fun hn_ => (Nat.le_trans (z4_ (lB HB)) hn_)), Or.elim hk_ (fun hs_ => ((qE.out).1 k_ hs_.symm).2) (fun hn_ => (Kd.fresh' (Kd.R_lt (lR qB)) k_ hn_))⟩)) (z4_ (lB HB))); replace qB := aM (Kd.z7_ (lR qB) hb); replace qE := aM (Kd.z7_ (lR qE) hb); replace HB := aM (z6_ (lB HB) hb); (try clear hb); (try clear ho0)))
       go_ret2
       exact ⟨_, _, zE, by (with_reducible repeat (first | apply Kd.V_alloc | apply Kd.V_drewN | apply Kd.V_drew)); exact Kd.V_mono qF.out (fun _ hk => hk.1), by (with_reducible repeat (first | apply Kd.V_alloc | apply Kd.V_drewN | apply Kd.V_drew)); exact Kd.V_mono qO.out (fun _ hk => hk.1), zB HB⟩
   ·rw [if_neg c5] at H
    exact absurd H (by simp)
  ·rw [if_neg c4] at H
   exact absurd H (by simp)
 ·rw [if_neg c3] at H
  exact absurd H (by simp)
end Go.Proofs.YtakmkhokbcjapaaDoor.XA
end
section
namespace Go.Proofs.YtakmkhokbcjapaaDoor.XA
open Go.Proofs.YtakmkhokbcjapaaDoor.Lift Go.RowKit Go.Proofs.YtakmkhokbcjapaaDoorW.PrintWords Go.Proofs.YtakmkhokbcjapaaDoorW.PrintLast Go.Proofs.YtakmkhokbcjapaaDoorW.PrintMore
attribute [local go_sem] max2_int min2_int max_two min_two max_three min_three max_four min_four
mutual
def swageref02_Text.l0 : Nat → List Int → List Int → Bool → List Int → Option (ByteArray)
 | 0, _, _, _, _ => none
 | k + 1, x3, x4, qW, qZ => if (x4.length : Int) > 0 then ((swageref02_divide.f k x4 (([10] : List Int))).bind fun bt264 => (if (bt264.2.length : Int) > 0 then (if 0 < (bt264.2.length : Int) then (if x3.length < 140737488355328 then (swageref02_Text.l0 k (x3 ++ [((48 + (rd bt264.2 0))) % 256]) bt264.1 qW qZ) else (none)) else (none)) else (if x3.length < 140737488355328 then (swageref02_Text.l0 k (x3 ++ [48]) bt264.1 qW qZ) else (none)))) else (if (x3.length : Int) = 0 then (some (⟨#[48]⟩ : ByteArray)) else (if qW = true then (if x3.length < 140737488355328 then (swageref02_Text.j1 k (x3 ++ [45])) else (none)) else (swageref02_Text.j1 k x3)))
def swageref02_Text.j1 : Nat → List Int → Option (ByteArray)
 | 0, _ => none
 | k + 1, x3 => swageref02_Text.l1 k x3 0
def swageref02_Text.l1 : Nat → List Int → Int → Option (ByteArray)
 | 0, _, _ => none
 | k + 1, x3, x8 => if x8 < (wrap64 ((x3.length : Int) / 2)) then (if 0 ≤ (wrap64 ((wrap64 ((x3.length : Int) - 1)) - x8)) then (if (wrap64 ((wrap64 ((x3.length : Int) - 1)) - x8)) < (x3.length : Int) then (if 0 ≤ x8 then (if x8 < (x3.length : Int) then (swageref02_Text.l1 k ((x3.set (x8 : Int).toNat (rd x3 (wrap64 ((wrap64 ((x3.length : Int) - 1)) - x8)))).set ((wrap64 ((wrap64 ((x3.length : Int) - 1)) - x8)) : Int).toNat (rd x3 x8)) (wrap64 (x8 + 1))) else (none)) else (none)) else (none)) else (none)) else (some (strOfNums x3))
end
def swageref02_Text.f (k : Nat) (qK : Bool) (qE : List Int) : Option (ByteArray) := swageref02_Text.l0 k ([] : List Int) qE qK qE
theorem swageref02_Text.mono_l : ∀ k, (∀ y0 y1 y2 y3, LeO (swageref02_Text.l0 k y0 y1 y2 y3) (swageref02_Text.l0 (k + 1) y0 y1 y2 y3)) ∧ (∀ y0, LeO (swageref02_Text.j1 k y0) (swageref02_Text.j1 (k + 1) y0)) ∧ (∀ y0 y1, LeO (swageref02_Text.l1 k y0 y1) (swageref02_Text.l1 (k + 1) y0 y1))
 | 0 => ⟨fun _ _ _ _ r h => by simp [swageref02_Text.l0] at h, fun _ r h => by simp [swageref02_Text.j1] at h, fun _ _ r h => by simp [swageref02_Text.l1] at h⟩
 | k + 1 => by
  obtain ⟨ih0, ih1, ih2⟩ := swageref02_Text.mono_l k
  refine ⟨?_, ?_, ?_⟩
  ·intro y0 y1 y2 y3
   unfold swageref02_Text.l0
   have im0 := @swageref02_divide.mono; exact zM
  ·intro y0
   unfold swageref02_Text.j1
   have im0 := @swageref02_divide.mono; exact zM
  ·intro y0 y1
   unfold swageref02_Text.l1
   have im0 := @swageref02_divide.mono; exact zM
theorem swageref02_Text.mono : ∀ a0 a1 k, LeO (swageref02_Text.f k a0 a1) (swageref02_Text.f (k + 1) a0 a1) := by
 intro a0 a1 k
 obtain ⟨ih0, ih1, ih2⟩ := swageref02_Text.mono_l k
 unfold swageref02_Text.f
 have im0 := @swageref02_divide.mono; exact zM
def swageref02_Text.T17 : Bool × List (List Nat × List Nat) := (true, [([], []), ([], []), ([], []), ([], []), ([3], [3]), ([4], [4]), ([], []), ([5, 6], [5, 6]), ([], []), ([], []), ([9], [9]), ([10], [10]), ([], []), ([11, 12], [11, 12]), ([8, 13], [8, 13]), ([14], [14]), ([], []), ([], []), ([16, 17], [16, 17]), ([18], [18]), ([0, 1, 0, 1, 8, 9, 10, 11, 12, 13, 14, 15, 19], [0, 1]), ([20, 15, 0, 1, 8, 9, 10, 11, 12, 13, 14, 15, 19], [15, 20]), ([2, 7, 0, 1, 2, 3, 4, 5, 6, 7, 8, 9, 10, 11, 12, 13, 14, 15, 16, 17, 18, 19, 20, 21], [2, 7]), ([22, 19, 21, 0, 1, 2, 3, 4, 5, 6, 7, 8, 9, 10, 11, 12, 13, 14, 15, 16, 17, 18, 19, 20, 21], [19, 22])])
def swageref02_Text.B17 : List Nat := [0, 0, 0, 0, 8, 24, 0, 120, 0, 0, 512, 1536, 0, 7680, 16128, 32512, 0, 0, 196608, 458752, 1048323, 2096899, 4194303, 8388607]
theorem swageref02_Text.tab17 : rtab .any (opsOf Tryd.f34 17) = swageref02_Text.T17 := by kernel_rfl
theorem swageref02_Text.bits17 : waitsOk swageref02_Text.T17.2 swageref02_Text.B17 = true := by kernel_rfl
theorem swageref02_Text.calls (k : Nat) (qK : Bool) (P0_1_ : Nat → Prop) (qM : Option Addr) (qN : Nat) (qE : List Int) (r : ByteArray) (w : World) (qc : Kd.V (Kd.int .u32) 76 w w.heap.size (fun k_ => P0_1_ k_) (.slice qM qE.length qN) qE) (h : swageref02_Text.f k qK qE = some r) :
  Calls Tryd.prog 34 #[.agg #[.bool qK, .slice qM qE.length qN]] w fun e w' => e = .returned (.string r) ∧ Below w.heap.size w w' := by
 have hu68 := Tryd.underlying68
 have qX := aM (show Kd.V (Kd.int .u32) 76 w w.heap.size (fun k_ => (P0_1_ k_ ∨ w.heap.size ≤ k_)) (.slice qM qE.length qN) qE from Kd.V_mono qc (fun k_ hk => .inl hk))
 have HB := aM (Below.refl w.heap.size w)
 have H : (swageref02_Text.l0 k ([] : List Int) qE qK qE) = some r := h
 clear h
 have H' := aM H
 clear H
 go_enter Tryd.func34, Tryd.ntmps34
 go_wp2_with (first | ((with_reducible refine gate_dst (N := 1) rfl ?_); refine z16_ rfl (N := 1) rfl (cs := #[.bool qK, .slice qM qE.length qN]) (t := 68) zG ?_; intro qC hg w2 hbox hb; replace qX := aM (Kd.V_below (Kd.V_elderB (lV qX) qC (Nat.le_of_eq hg.symm)) hb); have qB := aM (hbox); have qo := aM ((by rw [hg]; exact (z4_ (lB HB)) : w.heap.size ≤ qC)); have qp := aM ((by rw [hg]; exact (z4_ (lB HB)) : w.heap.size ≤ qC)); replace HB := aM (z6_ (lB HB) hb); clear hb hbox hg; have qm := zc2 qB.out; have qn := fun i_ : Nat => z1_ qB.out i_))
 go_loopg [3, 4] k (fun kq v3 v4 w' => ∃ (qF : List Int) (qO : List Int), Aside0 (swageref02_Text.l0 kq qF qO qK qE = some r) ∧ Aside0 (kq ≤ k) ∧ Aside0 (Kd.R (Kd.int .u8) 5 w' w.heap.size (fun k_ => (w.heap.size ≤ k_)) v3 qF) ∧ Aside0 (Kd.V (Kd.int .u32) 76 w' w.heap.size (fun k_ => (P0_1_ k_ ∨ w.heap.size ≤ k_) ∧ some k_ ≠ (v3 : Value).ownBlock ∧ k_ ≠ qC) v4 qO) ∧ Aside0 (Kd.V (Kd.int .u32) 76 w' w.heap.size (fun k_ => (P0_1_ k_ ∨ w.heap.size ≤ k_) ∧ some k_ ≠ (v3 : Value).ownBlock ∧ k_ ≠ qC) (.slice qM qE.length qN) qE) ∧ Aside0 (w'.heap[qC]? = some (.cells #[.bool qK, (.slice qM qE.length qN)] 68 (0, 0))) ∧ Aside0 (Below w.heap.size w w'))
 case atStart => exact ⟨(([] : List Int)), (qE), H', ⟨Nat.le_refl _⟩, ⟨zn⟩, ⟨by (with_reducible repeat (first | apply Kd.V_alloc | apply Kd.V_drewN | apply Kd.V_drew)); exact Kd.V_mono qX.out (fun _ hk => ⟨hk.1, ⟨(by simp [Value.ownBlock]), hk.2⟩⟩)⟩, ⟨by (with_reducible repeat (first | apply Kd.V_alloc | apply Kd.V_drewN | apply Kd.V_drew)); exact Kd.V_mono qX.out (fun _ hk => ⟨hk.1, ⟨(by simp [Value.ownBlock]), hk.2⟩⟩)⟩, ⟨zb qB⟩, ⟨zB HB⟩⟩
 case round =>
  clear H'
  obtain ⟨qF, qO, HA, HK1, qD, qJ, qA, qB, HB⟩ := hrel
  cases gk with
  | zero => exact absurd HA.out (by simp [swageref02_Text.l0])
  | succ k1 =>
   have H := HA.out
   clear HA
   simp only [swageref02_Text.l0] at H
   by_cases c4 : (qO.length : Int) > 0
   ·rw [if_pos c4] at H
    have c4b0 := decide_eq_true c4
    have c4b1 : decide (0 < qO.length) = true := decide_eq_true (by omega)
    clear c4
    obtain ⟨y261, hy261⟩ : ∃ y_ : List Int, y_ = (([10] : List Int)) := ⟨_, rfl⟩
    replace H : ((swageref02_divide.f k1 qO y261).bind fun bt264 => (if (bt264.2.length : Int) > 0 then (if 0 < (bt264.2.length : Int) then (if qF.length < 140737488355328 then (swageref02_Text.l0 k1 (qF ++ [((48 + (rd bt264.2 0))) % 256]) bt264.1 qK qE) else (none)) else (none)) else (if qF.length < 140737488355328 then (swageref02_Text.l0 k1 (qF ++ [48]) bt264.1 qK qE) else (none)))) = some r := zH hy261 H
    have Ny261 := aM hy261
    clear hy261
    replace H := zbs H
    obtain ⟨⟨qR, qL⟩, A50, H⟩ := H
    replace H : (if (qL.length : Int) > 0 then (if 0 < (qL.length : Int) then (if qF.length < 140737488355328 then (swageref02_Text.l0 k1 (qF ++ [((48 + (rd qL 0))) % 256]) qR qK qE) else (none)) else (none)) else (if qF.length < 140737488355328 then (swageref02_Text.l0 k1 (qF ++ [48]) qR qK qE) else (none))) = some r := H
    have A5 := aM A50
    clear A50
    by_cases c6 : (qL.length : Int) > 0
    ·rw [if_pos c6] at H
     have c6b0 := decide_eq_true c6
     have c6b1 : decide (0 < qL.length) = true := decide_eq_true (by omega)
     clear c6
     by_cases c7 : 0 < (qL.length : Int)
     ·rw [if_pos c7] at H
      have c7b0 := decide_eq_true c7
      have c7b1 : decide (0 < qL.length) = true := decide_eq_true (by omega)
      clear c7
      by_cases c8 : qF.length < 140737488355328
      ·rw [if_pos c8] at H
       have LMc8 := aM c8
       clear c8
       obtain ⟨y271, hy271⟩ : ∃ y_ : List Int, y_ = (qF ++ [((48 + (rd qL 0))) % 256]) := ⟨_, rfl⟩
       replace H : (swageref02_Text.l0 k1 y271 qR qK qE) = some r := zH hy271 H
       have Ny271 := aM hy271
       clear hy271
       have H' := aM H
       clear H
       obtain ⟨Ao9, co9, eo9⟩ := Kd.V_slice qJ.out
       subst eo9
       go_wp2_with (first | ((with_reducible refine gate_dst (N := 16) rfl ?_); refine Kd.R_lit (Kd.int .u32) _ 76 ?hg (N := 16) ?hd (xs := ([10] : List Int)) (inner := [.int .u32 10]) (ok := fun _ => True) (okp := fun _ => True) ?hr ?hp (fun _ hk => hk) trivial (Below.refl _ _) (Nat.le_refl _) (by simp) ?_; (case hd => rfl); (case hg => rfl); (case hr => first | (go_simp; done) | (go_simp; rfl)); (case hp => exact (Reps.one (show Kd.M (Kd.int .u32) _ _ _ 10 [.int .u32 10] from rfl) (Reps.none _ _))); intro v262 w10 ho11 hb hg_ hnew_; clear hg_ hnew_; (first | rw [← Ny261.out] at ho11 | (simp only [Int.reduceToNat] at ho11; rw [← Ny261.out] at ho11)); replace qD := aM (Kd.z7_ (lR qD) hb); replace qJ := aM (Kd.V_elder' (lV qJ) (Kd.R_base ho11) hb); replace qA := aM (Kd.V_elder' (lV qA) (Kd.R_base ho11) hb); have qI := aM (Kd.z20_ (Kd.R_newM (M := fun k_ => (w.heap.size ≤ k_)) ho11 (z4_ (zB HB)) (fun k_ h_ => h_)) (z4_ (zB HB))); replace qB := aM (z5_ (g := qC) (lK qB) hb); replace HB := aM (z6_ (zB HB) hb); clear hb ho11; obtain ⟨qS, qT, eo12⟩ := Kd.R_slice qI.out; subst eo12) | ((with_reducible refine gate_callee (f := 50) rfl ?_); refine z13_ (some 17) rfl rfl Tryd.func50 zk rfl #[.slice Ao9 qO.length co9, .slice qS y261.length qT] rfl zA ?_; (with_reducible refine (swageref02_divide.calls k1 _ _ qO _ _ y261 qR qL _ ?side1 ?side2 ?side3 ?side4 A5.out).mono ?_); (case side1 => refine lY ?_; exact (Kd.V_reads' qJ.out).2.2); (case side2 => exact (Kd.V_reads' qJ.out).2.1); (case side3 => refine lY ?_; exact (Kd.z9_ qI.out).2.2); (case side4 => exact (Kd.z9_ qI.out).2.1); rintro e w13 ⟨v265, v268, rfl, ho0, ho1, hb⟩; refine ⟨_, rfl, ?_⟩; replace qJ := aM (Kd.V_below (lV qJ) hb); replace qA := aM (Kd.V_below (lV qA) hb); have qQ := aM (Kd.V_lower (Kd.V_mono (ok' := fun k_ => (P0_1_ k_ ∨ w.heap.size ≤ k_) ∧ some k_ ≠ (u3 : Value).ownBlock ∧ some k_ ≠ (.slice qS y261.length qT : Value).ownBlock ∧ k_ ≠ qC) ho0 (fun k_ hk_ => ⟨(.inr (Nat.le_trans (z4_ (zB HB)) hk_)), (Kd.fresh' (Kd.R_lt (lR qD)) k_ hk_), (Kd.fresh' (Kd.R_lt (lR qI)) k_ hk_), (Kd.freshB (g := qC) (o := .cells #[.bool qK, .slice qM qE.length qN] 68 (0, 0)) (lK qB) k_ hk_)⟩)) (z4_ (zB HB))); have qP := aM (Kd.V_lower (Kd.V_mono (ok' := fun k_ => (P0_1_ k_ ∨ w.heap.size ≤ k_) ∧ some k_ ≠ (u3 : Value).ownBlock ∧ some k_ ≠ (.slice qS y261.length qT : Value).ownBlock ∧ k_ ≠ qC) ho1 (fun k_ hk_ => ⟨(.inr (Nat.le_trans (z4_ (zB HB)) hk_)), (Kd.fresh' (Kd.R_lt (lR qD)) k_ hk_), (Kd.fresh' (Kd.R_lt (lR qI)) k_ hk_), (Kd.freshB (g := qC) (o := .cells #[.bool qK, .slice qM qE.length qN] 68 (0, 0)) (lK qB) k_ hk_)⟩)) (z4_ (zB HB))); replace qD := aM (Kd.z7_ (lR qD) hb); replace qI := aM (Kd.z7_ (lR qI) hb); replace qB := aM (z5_ (g := qC) (lK qB) hb); replace HB := aM (z6_ (zB HB) hb); (try clear hb); (try clear ho0); (try clear ho1); obtain ⟨qq, qr, eo14⟩ := Kd.V_slice qP.out; subst eo14; have p270 : 0 ≤ (0 : Int) := (by omega); have q270 : 0 < (qL.length : Int) := of_decide_eq_true za; obtain ⟨ad270, e270, hx270_0⟩ := Kd.at_int (Kd.V_reads' qP.out).2.2 0 p270 q270; cases e270; have qi270 : (0 < qL.length) = True := eq_true (by omega); (try rw [show ((0 : Int)).toNat = 0 from rfl] at hx270_0); (try rw [Addr.add_zero'] at hx270_0); replace p270 := eq_true p270; replace q270 := eq_true q270) | ((with_reducible refine gate_builtin (b := .append) (xs := #[.tmp 26, .tmp 30]) rfl ?_); at_builtin; refine Kd.R_append (Kd.int .u8) (w0 := w) w.heap.size rfl (.tmp 26) (.tmp 30) 89 5 (.int .u8 0) 1 rfl Tryd.underlying89 info5 rfl (by decide) (by omega) u3 qF (((48 + (rd qL 0))) % 256) [.int .u8 (((48 + (rd qL 0))) % 256)] (fun k_ => (w.heap.size ≤ k_)) (fun _ => False) rfl rfl ?aP (fun _ hk => hk.elim) ?aF ?aO ?aB ?aS ?aL ?_; (case aP => exact rfl); (case aB => exact (zB HB)); (case aF => exact (fun k_ hk => (Nat.le_trans (z4_ (zB HB)) hk))); (case aO => exact (lR qD)); (case aS => exact (z4_ (zB HB))); (case aL => have := LMc8.out; omega); intro v272 w15 ho hb hg hat; rw [← Ny271.out] at ho; replace qJ := aM (Kd.V_afterv (ok := (fun k_ => (P0_1_ k_ ∨ w.heap.size ≤ k_) ∧ some k_ ≠ (.slice qS y261.length qT : Value).ownBlock ∧ k_ ≠ qC)) (by (with_reducible repeat (first | apply Kd.V_alloc | apply Kd.V_drewN | apply Kd.V_drew)); exact Kd.V_mono qJ.out (fun _ hk => ⟨⟨hk.1.1, ⟨hk.2, hk.1.2.2⟩⟩, hk.1.2.1⟩)) hg hat); replace qA := aM (Kd.V_afterv (ok := (fun k_ => (P0_1_ k_ ∨ w.heap.size ≤ k_) ∧ some k_ ≠ (.slice qS y261.length qT : Value).ownBlock ∧ k_ ≠ qC)) (by (with_reducible repeat (first | apply Kd.V_alloc | apply Kd.V_drewN | apply Kd.V_drew)); exact Kd.V_mono qA.out (fun _ hk => ⟨⟨hk.1.1, ⟨hk.2, hk.1.2.2⟩⟩, hk.1.2.1⟩)) hg hat); replace qB := aM (blk_grown (g := qC) (lK qB) hg (Kd.R_ne qD.out qB.out (by decide))); replace qI := aM (Kd.R_over' (lR qI) (Kd.R_typed (lR qD)) (by decide) hg); replace qQ := aM (Kd.V_afterv (ok := (fun k_ => (P0_1_ k_ ∨ w.heap.size ≤ k_) ∧ some k_ ≠ (.slice qS y261.length qT : Value).ownBlock ∧ k_ ≠ qC)) (by (with_reducible repeat (first | apply Kd.V_alloc | apply Kd.V_drewN | apply Kd.V_drew)); exact Kd.V_mono qQ.out (fun _ hk => ⟨⟨hk.1, ⟨hk.2.2.1, hk.2.2.2⟩⟩, hk.2.1⟩)) hg hat); replace qP := aM (Kd.V_afterv (ok := (fun k_ => (P0_1_ k_ ∨ w.heap.size ≤ k_) ∧ some k_ ≠ (.slice qS y261.length qT : Value).ownBlock ∧ k_ ≠ qC)) (by (with_reducible repeat (first | apply Kd.V_alloc | apply Kd.V_drewN | apply Kd.V_drew)); exact Kd.V_mono qP.out (fun _ hk => ⟨⟨hk.1, ⟨hk.2.2.1, hk.2.2.2⟩⟩, hk.2.1⟩)) hg hat); replace HB := aM (hb); have qd := aM (ho); clear qD; clear ho hb hg hat))
       go_roundg k1
       case measure => have := HK1.out; omega
       case rel => exact ⟨(y271), (qR), H', ⟨by have := HK1.out; omega⟩, ⟨lR qd⟩, ⟨by (with_reducible repeat (first | apply Kd.V_alloc | apply Kd.V_drewN | apply Kd.V_drew)); exact Kd.V_mono qQ.out (fun _ hk => ⟨hk.1.1, ⟨hk.2, hk.1.2.2⟩⟩)⟩, ⟨by (with_reducible repeat (first | apply Kd.V_alloc | apply Kd.V_drewN | apply Kd.V_drew)); exact Kd.V_mono qA.out (fun _ hk => ⟨hk.1.1, ⟨hk.2, hk.1.2.2⟩⟩)⟩, ⟨zb qB⟩, ⟨zB HB⟩⟩
      ·rw [if_neg c8] at H
       exact absurd H (by simp)
     ·rw [if_neg c7] at H
      exact absurd H (by simp)
    ·rw [if_neg c6] at H
     have c6b0 := decide_eq_false c6
     have c6b1 : decide (0 < qL.length) = false := decide_eq_false (by omega)
     clear c6
     by_cases c16 : qF.length < 140737488355328
     ·rw [if_pos c16] at H
      have LMc16 := aM c16
      clear c16
      obtain ⟨y274, hy274⟩ : ∃ y_ : List Int, y_ = (qF ++ [48]) := ⟨_, rfl⟩
      replace H : (swageref02_Text.l0 k1 y274 qR qK qE) = some r := zH hy274 H
      have Ny274 := aM hy274
      clear hy274
      have H' := aM H
      clear H
      obtain ⟨qg, qh, eo17⟩ := Kd.V_slice qJ.out
      subst eo17
      go_wp2_with (first | ((with_reducible refine gate_dst (N := 16) rfl ?_); refine Kd.R_lit (Kd.int .u32) _ 76 ?hg (N := 16) ?hd (xs := ([10] : List Int)) (inner := [.int .u32 10]) (ok := fun _ => True) (okp := fun _ => True) ?hr ?hp (fun _ hk => hk) trivial (Below.refl _ _) (Nat.le_refl _) (by simp) ?_; (case hd => rfl); (case hg => rfl); (case hr => first | (go_simp; done) | (go_simp; rfl)); (case hp => exact (Reps.one (show Kd.M (Kd.int .u32) _ _ _ 10 [.int .u32 10] from rfl) (Reps.none _ _))); intro v262 w18 ho19 hb hg_ hnew_; clear hg_ hnew_; (first | rw [← Ny261.out] at ho19 | (simp only [Int.reduceToNat] at ho19; rw [← Ny261.out] at ho19)); replace qD := aM (Kd.z7_ (lR qD) hb); replace qJ := aM (Kd.V_elder' (lV qJ) (Kd.R_base ho19) hb); replace qA := aM (Kd.V_elder' (lV qA) (Kd.R_base ho19) hb); have qI := aM (Kd.z20_ (Kd.R_newM (M := fun k_ => (w.heap.size ≤ k_)) ho19 (z4_ (zB HB)) (fun k_ h_ => h_)) (z4_ (zB HB))); replace qB := aM (z5_ (g := qC) (lK qB) hb); replace HB := aM (z6_ (zB HB) hb); clear hb ho19; obtain ⟨qU, qV, eo20⟩ := Kd.R_slice qI.out; subst eo20) | ((with_reducible refine gate_callee (f := 50) rfl ?_); refine z13_ (some 17) rfl rfl Tryd.func50 zk rfl #[.slice qg qO.length qh, .slice qU y261.length qV] rfl zA ?_; (with_reducible refine (swageref02_divide.calls k1 _ _ qO _ _ y261 qR qL _ ?side1 ?side2 ?side3 ?side4 A5.out).mono ?_); (case side1 => refine lY ?_; exact (Kd.V_reads' qJ.out).2.2); (case side2 => exact (Kd.V_reads' qJ.out).2.1); (case side3 => refine lY ?_; exact (Kd.z9_ qI.out).2.2); (case side4 => exact (Kd.z9_ qI.out).2.1); rintro e w21 ⟨v265, v268, rfl, ho0, ho1, hb⟩; refine ⟨_, rfl, ?_⟩; replace qJ := aM (Kd.V_below (lV qJ) hb); replace qA := aM (Kd.V_below (lV qA) hb); have qQ := aM (Kd.V_lower (Kd.V_mono (ok' := fun k_ => (P0_1_ k_ ∨ w.heap.size ≤ k_) ∧ some k_ ≠ (u3 : Value).ownBlock ∧ some k_ ≠ (.slice qU y261.length qV : Value).ownBlock ∧ k_ ≠ qC) ho0 (fun k_ hk_ => ⟨(.inr (Nat.le_trans (z4_ (zB HB)) hk_)), (Kd.fresh' (Kd.R_lt (lR qD)) k_ hk_), (Kd.fresh' (Kd.R_lt (lR qI)) k_ hk_), (Kd.freshB (g := qC) (o := .cells #[.bool qK, .slice qM qE.length qN] 68 (0, 0)) (lK qB) k_ hk_)⟩)) (z4_ (zB HB))); have qP := aM (Kd.V_lower (Kd.V_mono (ok' := fun k_ => (P0_1_ k_ ∨ w.heap.size ≤ k_) ∧ some k_ ≠ (u3 : Value).ownBlock ∧ some k_ ≠ (.slice qU y261.length qV : Value).ownBlock ∧ k_ ≠ qC) ho1 (fun k_ hk_ => ⟨(.inr (Nat.le_trans (z4_ (zB HB)) hk_)), (Kd.fresh' (Kd.R_lt (lR qD)) k_ hk_), (Kd.fresh' (Kd.R_lt (lR qI)) k_ hk_), (Kd.freshB (g := qC) (o := .cells #[.bool qK, .slice qM qE.length qN] 68 (0, 0)) (lK qB) k_ hk_)⟩)) (z4_ (zB HB))); replace qD := aM (Kd.z7_ (lR qD) hb); replace qI := aM (Kd.z7_ (lR qI) hb); replace qB := aM (z5_ (g := qC) (lK qB) hb); replace HB := aM (z6_ (zB HB) hb); (try clear hb); (try clear ho0); (try clear ho1); obtain ⟨qs, qt, eo22⟩ := Kd.V_slice qP.out; subst eo22) | ((with_reducible refine gate_builtin (b := .append) (xs := #[.tmp 26, .tmp 30]) rfl ?_); at_builtin; refine Kd.R_append (Kd.int .u8) (w0 := w) w.heap.size rfl (.tmp 26) (.tmp 30) 89 5 (.int .u8 0) 1 rfl Tryd.underlying89 info5 rfl (by decide) (by omega) u3 qF 48 [.int .u8 48] (fun k_ => (w.heap.size ≤ k_)) (fun _ => False) rfl rfl ?aP (fun _ hk => hk.elim) ?aF ?aO ?aB ?aS ?aL ?_; (case aP => exact rfl); (case aB => exact (zB HB)); (case aF => exact (fun k_ hk => (Nat.le_trans (z4_ (zB HB)) hk))); (case aO => exact (lR qD)); (case aS => exact (z4_ (zB HB))); (case aL => have := LMc16.out; omega); intro v275 w23 ho hb hg hat; rw [← Ny274.out] at ho; replace qJ := aM (Kd.V_afterv (ok := (fun k_ => (P0_1_ k_ ∨ w.heap.size ≤ k_) ∧ some k_ ≠ (.slice qU y261.length qV : Value).ownBlock ∧ k_ ≠ qC)) (by (with_reducible repeat (first | apply Kd.V_alloc | apply Kd.V_drewN | apply Kd.V_drew)); exact Kd.V_mono qJ.out (fun _ hk => ⟨⟨hk.1.1, ⟨hk.2, hk.1.2.2⟩⟩, hk.1.2.1⟩)) hg hat); replace qA := aM (Kd.V_afterv (ok := (fun k_ => (P0_1_ k_ ∨ w.heap.size ≤ k_) ∧ some k_ ≠ (.slice qU y261.length qV : Value).ownBlock ∧ k_ ≠ qC)) (by (with_reducible repeat (first | apply Kd.V_alloc | apply Kd.V_drewN | apply Kd.V_drew)); exact Kd.V_mono qA.out (fun _ hk => ⟨⟨hk.1.1, ⟨hk.2, hk.1.2.2⟩⟩, hk.1.2.1⟩)) hg hat); replace qB := aM (blk_grown (g := qC) (lK qB) hg (Kd.R_ne qD.out qB.out (by decide))); replace qI := aM (Kd.R_over' (lR qI) (Kd.R_typed (lR qD)) (by decide) hg); replace qQ := aM (Kd.V_afterv (ok := (fun k_ => (P0_1_ k_ ∨ w.heap.size ≤ k_) ∧ some k_ ≠ (.slice qU y261.length qV : Value).ownBlock ∧ k_ ≠ qC)) (by (with_reducible repeat (first | apply Kd.V_alloc | apply Kd.V_drewN | apply Kd.V_drew)); exact Kd.V_mono qQ.out (fun _ hk => ⟨⟨hk.1, ⟨hk.2.2.1, hk.2.2.2⟩⟩, hk.2.1⟩)) hg hat); replace qP := aM (Kd.V_afterv (ok := (fun k_ => (P0_1_ k_ ∨ w.heap.size ≤ k_) ∧ some k_ ≠ (.slice qU y261.length qV : Value).ownBlock ∧ k_ ≠ qC)) (by (with_reducible repeat (first | apply Kd.V_alloc | apply Kd.V_drewN | apply Kd.V_drew)); exact Kd.V_mono qP.out (fun _ hk => ⟨⟨hk.1, ⟨hk.2.2.1, hk.2.2.2⟩⟩, hk.2.1⟩)) hg hat); replace HB := aM (hb); have qe := aM (ho); clear qD; clear ho hb hg hat))
      go_roundg k1
      case measure => have := HK1.out; omega
      case rel => exact ⟨(y274), (qR), H', ⟨by have := HK1.out; omega⟩, ⟨lR qe⟩, ⟨by (with_reducible repeat (first | apply Kd.V_alloc | apply Kd.V_drewN | apply Kd.V_drew)); exact Kd.V_mono qQ.out (fun _ hk => ⟨hk.1.1, ⟨hk.2, hk.1.2.2⟩⟩)⟩, ⟨by (with_reducible repeat (first | apply Kd.V_alloc | apply Kd.V_drewN | apply Kd.V_drew)); exact Kd.V_mono qA.out (fun _ hk => ⟨hk.1.1, ⟨hk.2, hk.1.2.2⟩⟩)⟩, ⟨zb qB⟩, ⟨zB HB⟩⟩
     ·rw [if_neg c16] at H
      exact absurd H (by simp)
   ·rw [if_neg c4] at H
    have c4b0 := decide_eq_false c4
    have c4b1 : decide (0 < qO.length) = false := decide_eq_false (by omega)
    clear c4
    by_cases c24 : (qF.length : Int) = 0
    ·rw [if_pos c24] at H
     have c24b0 : ((qF.length : Int) == 0) = true := beq_iff_eq.mpr c24
     have c24b1 : ((qF.length : Int) != 0) = false := bne_eq_false_iff_eq.mpr c24
     clear c24
     obtain rfl := Option.some.inj H
     obtain ⟨qu, qv, eo25⟩ := Kd.V_slice qJ.out
     subst eo25
     obtain ⟨qw, qx, eo26⟩ := Kd.R_slice qD.out
     subst eo26
     go_wp2
     go_ret
     exact ⟨zE, zB HB⟩
    ·rw [if_neg c24] at H
     have c24b0 : ((qF.length : Int) == 0) = false := beq_eq_false_iff_ne.mpr c24
     have c24b1 : ((qF.length : Int) != 0) = true := bne_iff_ne.mpr c24
     have c24b2 : ¬ (qF = []) := fun h_ => c24 (by rw [h_]; rfl)
     have qa := aM H
     clear H
     obtain ⟨qy, qz, eo28⟩ := Kd.V_slice qJ.out
     subst eo28
     obtain ⟨qi, qj, eo29⟩ := Kd.R_slice qD.out
     subst eo29
     have qk := zc2 qB.out
     have ql := fun i_ : Nat => z1_ qB.out i_
     go_upto_if 37 with (fail)
     go_cut [3] (fun v3 wc => ∃ (kq : Nat) (qY : List Int), Aside0 (swageref02_Text.j1 kq qY = some r) ∧ Aside0 (kq ≤ k1) ∧ Aside0 (Kd.R (Kd.int .u8) 5 wc w.heap.size (fun k_ => (w.heap.size ≤ k_)) v3 qY) ∧ Aside0 (Kd.V (Kd.int .u32) 76 wc w.heap.size (fun k_ => (P0_1_ k_ ∨ w.heap.size ≤ k_) ∧ some k_ ≠ (v3 : Value).ownBlock ∧ k_ ≠ qC) (.slice qM qE.length qN) qE) ∧ Aside0 (wc.heap[qC]? = some (.cells #[.bool qK, (.slice qM qE.length qN)] 68 (0, 0))) ∧ Aside0 (Below w.heap.size w wc))
     case first =>
      have H := qa.out
      clear qa
      by_cases c31 : qK = true
      ·subst c31
       have H1 : (if qF.length < 140737488355328 then (swageref02_Text.j1 k1 (qF ++ [45])) else (none)) = some r := by rw [if_pos rfl] at H; exact H
       clear H
       have H := H1
       clear H1
       by_cases c32 : qF.length < 140737488355328
       ·rw [if_pos c32] at H
        have LMc32 := aM c32
        clear c32
        obtain ⟨y277, hy277⟩ : ∃ y_ : List Int, y_ = (qF ++ [45]) := ⟨_, rfl⟩
        replace H : (swageref02_Text.j1 k1 y277) = some r := zH hy277 H
        have Ny277 := aM hy277
        clear hy277
        have H' := aM H
        clear H
        go_wp2_with (first | ((with_reducible refine gate_builtin (b := .append) (xs := #[.tmp 38, .tmp 39]) rfl ?_); at_builtin; refine Kd.R_append (Kd.int .u8) (w0 := w) w.heap.size rfl (.tmp 38) (.tmp 39) 89 5 (.int .u8 0) 1 rfl Tryd.underlying89 info5 rfl (by decide) (by omega) (.slice qi qF.length qj) qF 45 [.int .u8 45] (fun k_ => (w.heap.size ≤ k_)) (fun _ => False) rfl rfl ?aP (fun _ hk => hk.elim) ?aF ?aO ?aB ?aS ?aL ?_; (case aP => exact rfl); (case aB => exact (zB HB)); (case aF => exact (fun k_ hk => (Nat.le_trans (z4_ (zB HB)) hk))); (case aO => exact (lR qD)); (case aS => exact (z4_ (zB HB))); (case aL => have := LMc32.out; omega); intro v278 w33 ho hb hg hat; rw [← Ny277.out] at ho; replace qJ := aM (Kd.V_afterv (ok := (fun k_ => (P0_1_ k_ ∨ w.heap.size ≤ k_) ∧ k_ ≠ qC)) (by (with_reducible repeat (first | apply Kd.V_alloc | apply Kd.V_drewN | apply Kd.V_drew)); exact Kd.V_mono qJ.out (fun _ hk => ⟨⟨hk.1, hk.2.2⟩, hk.2.1⟩)) hg hat); replace qA := aM (Kd.V_afterv (ok := (fun k_ => (P0_1_ k_ ∨ w.heap.size ≤ k_) ∧ k_ ≠ qC)) (by (with_reducible repeat (first | apply Kd.V_alloc | apply Kd.V_drewN | apply Kd.V_drew)); exact Kd.V_mono qA.out (fun _ hk => ⟨⟨hk.1, hk.2.2⟩, hk.2.1⟩)) hg hat); replace qB := aM (blk_grown (g := qC) (lK qB) hg (Kd.R_ne qD.out qB.out (by decide))); replace HB := aM (hb); have qf := aM (ho); clear qD; clear ho hb hg hat))
        go_meet
        case rel => exact ⟨_, (y277), H', ⟨by have := HK1.out; first | omega | exact Nat.le_refl _⟩, ⟨lR qf⟩, ⟨by (with_reducible repeat (first | apply Kd.V_alloc | apply Kd.V_drewN | apply Kd.V_drew)); exact Kd.V_mono qA.out (fun _ hk => ⟨hk.1.1, ⟨hk.2, hk.1.2⟩⟩)⟩, ⟨zb qB⟩, ⟨zB HB⟩⟩
       ·rw [if_neg c32] at H
        exact absurd H (by simp)
      ·replace c31 := Bool.eq_false_iff.mpr c31
       subst c31
       have H1 : (swageref02_Text.j1 k1 qF) = some r := by rw [if_neg (show ¬ (false = true) by decide)] at H; exact H
       clear H
       have H := H1
       clear H1
       have H' := aM H
       clear H
       go_wp2
       go_meet
       case rel => exact ⟨_, (qF), H', ⟨by have := HK1.out; first | omega | exact Nat.le_refl _⟩, ⟨lR qD⟩, ⟨by (with_reducible repeat (first | apply Kd.V_alloc | apply Kd.V_drewN | apply Kd.V_drew)); exact qA.out⟩, ⟨zb qB⟩, ⟨zB HB⟩⟩
     case rest =>
      clear qa
      try clear c4
      try clear c24
      obtain ⟨kq, qY, HA, HJ26, qD, qA, qB, HB⟩ := hcut
      cases kq with
      | zero => exact absurd HA.out (by simp [swageref02_Text.j1])
      | succ kj26 =>
       have H := HA.out
       clear HA
       simp only [swageref02_Text.j1] at H
       have H' := aM H
       clear H
       go_wp2
       go_loopg [8] kj26 (fun kq v8 w' => ∃ (qH : List Int) (qG : Int), v8 = .int .i64 qG ∧ Aside0 (swageref02_Text.l1 kq qH qG = some r) ∧ Aside0 (kq ≤ kj26) ∧ Aside0 (Kd.R (Kd.int .u8) 5 w' w.heap.size (fun k_ => (w.heap.size ≤ k_)) u3 qH) ∧ Aside0 (Kd.V (Kd.int .u32) 76 w' w.heap.size (fun k_ => (P0_1_ k_ ∨ w.heap.size ≤ k_) ∧ some k_ ≠ (u3 : Value).ownBlock ∧ k_ ≠ qC) (.slice qM qE.length qN) qE) ∧ Aside0 (w'.heap[qC]? = some (.cells #[.bool qK, (.slice qM qE.length qN)] 68 (0, 0))) ∧ Aside0 (Below w.heap.size w w'))
       case atStart => exact ⟨(qY), (0), zT, H', ⟨Nat.le_refl _⟩, ⟨lR qD⟩, ⟨by (with_reducible repeat (first | apply Kd.V_alloc | apply Kd.V_drewN | apply Kd.V_drew)); exact qA.out⟩, ⟨zb qB⟩, ⟨zB HB⟩⟩
       case round =>
        clear H'
        try clear c4
        try clear c24
        obtain ⟨qH, qG, rfl, HA, HK3, qD, qA, qB, HB⟩ := hrel
        cases gk with
        | zero => exact absurd HA.out (by simp [swageref02_Text.l1])
        | succ k3 =>
         have H := HA.out
         clear HA
         simp only [swageref02_Text.l1] at H
         by_cases c34 : qG < (wrap64 ((qH.length : Int) / 2))
         ·rw [if_pos c34] at H
          have c34b0 := decide_eq_true c34
          clear c34
          obtain ⟨ji35, hji35⟩ : ∃ j_ : Int, (wrap64 ((wrap64 ((qH.length : Int) - 1)) - qG)) = j_ := ⟨_, rfl⟩
          replace H : (if 0 ≤ (ji35) then (if (ji35) < (qH.length : Int) then (if 0 ≤ qG then (if qG < (qH.length : Int) then (swageref02_Text.l1 k3 ((qH.set (qG : Int).toNat (rd qH (ji35))).set ((ji35) : Int).toNat (rd qH qG)) (wrap64 (qG + 1))) else (none)) else (none)) else (none)) else (none)) = some r := by first | (rw [hji35] at H; exact H) | (simp only [hji35] at H ⊢; exact H)
          have hji35w : (IntKind.i64.wrap ((wrap64 ((qH.length : Int) - 1)) - qG)) = ji35 := (i64_w _).trans hji35
          by_cases c36 : 0 ≤ (ji35)
          ·rw [if_pos c36] at H
           have c36b0 := decide_eq_true c36
           clear c36
           by_cases c37 : (ji35) < (qH.length : Int)
           ·rw [if_pos c37] at H
            have c37b0 := decide_eq_true c37
            clear c37
            by_cases c38 : 0 ≤ qG
            ·rw [if_pos c38] at H
             have c38b0 := decide_eq_true c38
             clear c38
             by_cases c39 : qG < (qH.length : Int)
             ·rw [if_pos c39] at H
              have c39b0 := decide_eq_true c39
              clear c39
              obtain ⟨y282, hy282⟩ : ∃ y_ : List Int, y_ = (qH.set (qG : Int).toNat (rd qH (ji35))) := ⟨_, rfl⟩
              replace H : (swageref02_Text.l1 k3 (y282.set ((ji35) : Int).toNat (rd qH qG)) (wrap64 (qG + 1))) = some r := zH hy282 H
              have Ny282 := aM hy282
              clear hy282
              obtain ⟨y283, hy283⟩ : ∃ y_ : List Int, y_ = (y282.set ((ji35) : Int).toNat (rd qH qG)) := ⟨_, rfl⟩
              replace H : (swageref02_Text.l1 k3 y283 (wrap64 (qG + 1))) = some r := zH hy283 H
              have Ny283 := aM hy283
              clear hy283
              have H' := aM H
              clear H
              obtain ⟨q0, q1, eo42⟩ := Kd.R_slice qD.out
              subst eo42
              try go_wp2
              replace qD := aM (Kd.R_drew qD.out)
              replace qA := aM (Kd.V_drew qA.out)
              replace qB := aM (blk_drew qB.out)
              replace HB := aM (below_drew1 HB.out)
              have p280 : 0 ≤ ((ji35) : Int) := of_decide_eq_true za
              have q280 : (ji35) < (qH.length : Int) := of_decide_eq_true za
              obtain ⟨ad280, e280, hx280_0⟩ := Kd.at_int (Kd.z9_ qD.out).2.2 (ji35) p280 q280
              cases e280
              replace p280 := eq_true p280
              replace q280 := eq_true q280
              have p281 : 0 ≤ (qG : Int) := of_decide_eq_true za
              have q281 : qG < (qH.length : Int) := of_decide_eq_true za
              obtain ⟨ad281, e281, hx281_0⟩ := Kd.at_int (Kd.z9_ qD.out).2.2 qG p281 q281
              obtain rfl : ad280 = ad281 := (by injection e281)
              replace p281 := eq_true p281
              replace q281 := eq_true q281
              have p40 : 0 ≤ (qG : Int) := of_decide_eq_true za
              have q40 : (qG : Int) < ((qH.length : Int) : Int) := of_decide_eq_true za
              obtain ⟨go40, q2, eo40, qb, gl40, cl40, HG40⟩ := Kd.R_form qD.out (by omega)
              (first | cases eo40 | (injection eo40 with ea_ en_ ec_; (first | subst ea_ | (injection ea_ with ea_; subst ea_)); subst ec_; clear en_))
              have GB40 := aM qb
              have GG40 := aM HG40
              clear qb gl40 HG40
              (first | simp only [add_plain] at hx280_0 | skip)
              (first | simp only [add_plain] at hx281_0 | skip)
              obtain ⟨hx40_0, hf40_0⟩ := Kd.R_celln 0 qD.out (qG : Int) p40 q40
              replace p40 := eq_true p40
              replace q40 := eq_true q40
              have HP44 := Kd.R_putn qD.out (qG : Int) (rd qH (ji35))
              rw [← Ny282.out] at HP44
              have HQ44 := aM HP44
              clear HP44
              have p41 : 0 ≤ ((ji35) : Int) := of_decide_eq_true za
              have q41 : ((ji35) : Int) < ((qH.length : Int) : Int) := of_decide_eq_true za
              obtain ⟨hx41_0, hf41_0⟩ := Kd.R_celln 0 HQ44.out ((ji35) : Int) p41 q41
              replace p41 := eq_true p41
              replace q41 := eq_true q41
              have HP45 := Kd.R_putn HQ44.out ((ji35) : Int) (rd qH qG)
              rw [← Ny283.out] at HP45
              have HQ45 := aM HP45
              clear HP45
              refine start_ (n := 24) (S := fun w' => w'.cell? ⟨go40, ((ji35)).toNat, none⟩ = some (.int .u8 (rd qH (ji35))) ∧ w'.cell? ⟨go40, (qG).toNat, none⟩ = some (.int .u8 (rd qH qG))) (ds := [21, 23]) (bs 24 0) zk rfl rfl ⟨hx280_0, hx281_0⟩ (fun hHeld => ?_); refine with_tabW swageref02_Text.tab17 swageref02_Text.bits17 (fun HT_ HW_ => ?_)
              generalize wr.drew = w43 at qD qA qB HB GG40 HQ44 HQ45 hf40_0 hf41_0 hx280_0 hx281_0 hx40_0 hx41_0 hHeld ⊢
              refine pQ 0 48 24 1 ?_
              refine pQ 1 49 24 3 ?_
              refine pQ 2 50 24 7 ?_
              refine pQ 3 51 24 15 ?_
              refine pQ 4 52 24 31 ?_
              refine pQ 5 53 24 63 ?_
              refine pQ 6 54 24 127 ?_
              refine pQ 7 55 24 255 ?_
              refine pQ 8 56 24 511 ?_
              refine pQ 9 57 24 1023 ?_
              refine pQ 10 58 24 2047 ?_
              refine pQ 11 59 24 4095 ?_
              refine pQ 12 60 24 8191 ?_
              refine pQ 13 61 24 16383 ?_
              refine pQ 14 62 24 32767 ?_
              refine pQ 16 64 24 98303 ?_
              refine pQ 17 65 24 229375 ?_
              refine pQ 18 66 24 491519 ?_
              refine take_ (i := 15) (N := some 63) (v := ?_) (a' := ?_) (bs 24 524287) rfl rfl (take_ofW HT_.out HW_.out zk) (fun _ _ _ h => h) (Or.inl ⟨by rfl, ?_⟩) hHeld ?_ ?_
              rotate_left
              ·rintro w' ⟨s0, s1⟩
               go_simp
               with_reducible rfl
              rotate_left
              ·simp only [Act.put, List.setIfInBounds_toArray, List.set_cons_zero, List.set_cons_succ, i64_w, i32_w]
               rfl
              refine take_ (i := 19) (N := some 67) (v := ?_) (a' := ?_) (bs 24 1048575) rfl rfl (take_ofW HT_.out HW_.out zk) (fun _ _ _ h => h) (Or.inl ⟨by rfl, ?_⟩) hHeld ?_ ?_
              rotate_left
              ·rintro w' ⟨s0, s1⟩
               go_simp
               with_reducible rfl
              rotate_left
              ·simp only [Act.put, List.setIfInBounds_toArray, List.set_cons_zero, List.set_cons_succ, i64_w, i32_w]
               rfl
              refine pQ 20 68 24 2097151 ?_
              refine last_ (i := 21) (N := none) (bs 24 4194303) rfl rfl (one_of HT_.out zk) (by decide) (fun K hK => ?_)
              refine skip_ (w1 := ?_) (by rfl) rfl ?_ ?_
              rotate_left
              ·go_simp
               rfl
              refine hK.out _ _ ?_
              clear hK K
              refine pQ 22 69 24 8388607 ?_
              refine last_ (i := 23) (N := none) (bs 24 16777215) rfl rfl (one_of HT_.out zk) (by decide) (fun K hK => ?_)
              refine skip_ (w1 := ?_) (by rfl) rfl ?_ ?_
              rotate_left
              ·go_simp
               rfl
              refine hK.out _ _ ?_
              clear hK K
              refine done_ (done_of HT_.out zk) ?_
              try go_wp2
              go_roundg k3
              case measure => have := HK1.out; have := HJ26.out; have := HK3.out; omega
              case rel => exact ⟨(y283), (wrap64 (qG + 1)), zT, H', ⟨by have := HK1.out; have := HJ26.out; have := HK3.out; omega⟩, ⟨lR HQ45⟩, ⟨by (with_reducible repeat (first | apply Kd.V_alloc | apply Kd.V_drewN | apply Kd.V_drew)); exact Kd.V_mono (Kd.V_far (p := ⟨go40, ((ji35) : Int).toNat, none⟩) (Kd.V_far (p := ⟨go40, (qG : Int).toNat, none⟩) (Kd.V_mono qA.out (fun k_ hk => (⟨hk, fun e_ => hk.2.1 (by rw [e_]; rfl)⟩ : _ ∧ k_ ≠ go40))) (fun _ hk => hk.2) (.int .u8 (rd qH (ji35)))) (fun _ hk => hk.2) (.int .u8 (rd qH qG))) (fun _ hk => ⟨hk.1.1, ⟨hk.1.2.1, hk.1.2.2⟩⟩)⟩, ⟨by refine lZ ?_; refine z18_ ?_ (by have h_ := Kd.R_ne qD.out qB.out (by decide); intro e_; exact h_ (by rw [e_]; rfl)) _; refine lZ ?_; refine z18_ ?_ (by have h_ := Kd.R_ne qD.out qB.out (by decide); intro e_; exact h_ (by rw [e_]; rfl)) _; refine lZ ?_; exact qB.out⟩, ⟨zB HB⟩⟩
             ·rw [if_neg c39] at H
              exact absurd H (by simp)
            ·rw [if_neg c38] at H
             exact absurd H (by simp)
           ·rw [if_neg c37] at H
            exact absurd H (by simp)
          ·rw [if_neg c36] at H
           exact absurd H (by simp)
         ·rw [if_neg c34] at H
          have c34b0 := decide_eq_false c34
          clear c34
          obtain rfl := Option.some.inj H
          obtain ⟨q3, q4, eo46⟩ := Kd.R_slice qD.out
          subst eo46
          have hcv47 := own_string (P := Tryd.prog) Tryd.underlying89 Tryd.underlying5 Tryd.underlying9 (Kd.own_of_R qD.out)
          go_wp2
          go_ret
          exact ⟨zE, zB HB⟩
end Go.Proofs.YtakmkhokbcjapaaDoor.XA
end
section
namespace Go.Proofs.YtakmkhokbcjapaaDoor.XA
open Go.Proofs.YtakmkhokbcjapaaDoor.Lift Go.RowKit Go.Proofs.YtakmkhokbcjapaaDoorW.PrintWords Go.Proofs.YtakmkhokbcjapaaDoorW.PrintLast Go.Proofs.YtakmkhokbcjapaaDoorW.PrintMore
attribute [local go_sem] max2_int min2_int max_two min_two max_three min_three max_four min_four
def swagelaw21_is_1.f (k : Nat) (qH : Bool) (qE : List Int) (qG : Bool) (qD : List Int) : Option (Bool) := (integer_Int_Text.f k qH qE).bind fun qJ => ((swageref02_Text.f k qG qD).bind fun qI => (some (qJ.toList == qI.toList)))
theorem swagelaw21_is_1.mono : ∀ a0 a1 a2 a3 k, LeO (swagelaw21_is_1.f k a0 a1 a2 a3) (swagelaw21_is_1.f (k + 1) a0 a1 a2 a3) := by
 intro a0 a1 a2 a3 k
 unfold swagelaw21_is_1.f
 have im0 := @integer_Int_Text.mono; have im1 := @swageref02_Text.mono; exact zM
theorem swagelaw21_is_1.calls (k : Nat) (qH : Bool) (qK : Option Addr) (qL : Nat) (qE : List Int) (qG : Bool) (qM : Option Addr) (qN : Nat) (qD : List Int) (r : Bool) (w : World) (qO : Kd.C (Kd.int .u32) w qK qE.length qE) (qP : qE.length ≤ qL) (qQ : Kd.C (Kd.int .u32) w qM qD.length qD) (qR : qD.length ≤ qN) (h : swagelaw21_is_1.f k qH qE qG qD = some r) :
  Calls Tryd.prog 32 #[.agg #[.bool qH, .slice qK qE.length qL], .agg #[.bool qG, .slice qM qD.length qN]] w fun e w' => e = .returned (.bool r) ∧ Below w.heap.size w w' := by
 have hu39 := Tryd.underlying39
 have hu68 := Tryd.underlying68
 have qS := aM qO
 have qT := aM qP
 clear qO qP
 have qU := aM qQ
 have qV := aM qR
 clear qQ qR
 have HB := aM (Below.refl w.heap.size w)
 have H : ((integer_Int_Text.f k qH qE).bind fun qJ => ((swageref02_Text.f k qG qD).bind fun qI => (some (qJ.toList == qI.toList)))) = some r := h
 clear h
 replace H := zbs H
 obtain ⟨qJ, A30, H⟩ := H
 replace H : ((swageref02_Text.f k qG qD).bind fun qI => (some (qJ.toList == qI.toList))) = some r := H
 have A3 := aM A30
 clear A30
 replace H := zbs H
 obtain ⟨qI, A40, H⟩ := H
 replace H : (some (qJ.toList == qI.toList)) = some r := H
 have A4 := aM A40
 clear A40
 obtain rfl := Option.some.inj H
 go_enter Tryd.func32, Tryd.ntmps32
 try go_wp2_with (first | ((with_reducible refine gate_dst (N := 2) rfl ?_); refine z16_ rfl (N := 2) rfl (cs := #[.bool qH, .slice qK qE.length qL]) (t := 39) zG ?_; intro qC hg w5 hbox hb; have qA := aM (hbox); have qY := aM ((by rw [hg]; exact (z4_ (lB HB)) : w.heap.size ≤ qC)); have qZ := aM ((by rw [hg]; exact (z4_ (lB HB)) : w.heap.size ≤ qC)); replace HB := aM (z6_ (lB HB) hb); clear hb hbox hg) | ((with_reducible refine gate_dst (N := 3) rfl ?_); refine z16_ rfl (N := 3) rfl (cs := #[.bool qG, .slice qM qD.length qN]) (t := 68) zG ?_; intro qF hg w6 hbox hb; have qB := aM (hbox); have qa := aM ((by rw [hg]; exact (z4_ (zB HB)) : w.heap.size ≤ qF)); have qb := aM ((by rw [hg]; exact (z4_ (zB HB)) : w.heap.size ≤ qF)); replace HB := aM (z6_ (zB HB) hb); have qW := aM ((by rw [hg]; exact Nat.ne_of_lt (z19_ (g := qC) (lK qA)) : qC ≠ qF)); have qX := aM ((by rw [hg]; exact Nat.ne_of_gt (z19_ (g := qC) (lK qA)) : qF ≠ qC)); replace qA := aM (z5_ (g := qC) (lK qA) hb); clear hb hbox hg))
 replace qA := aM (blk_drew qA.out)
 replace qB := aM (blk_drew qB.out)
 replace HB := aM (below_drew1 HB.out)
 refine start_ (n := 6) (S := fun w' => w'.cell? ⟨qC, 0, none⟩ = some (.bool qH) ∧ w'.cell? ⟨qC, 1, none⟩ = some (.slice qK qE.length qL) ∧ w'.cell? ⟨qF, 0, none⟩ = some (.bool qG) ∧ w'.cell? ⟨qF, 1, none⟩ = some (.slice qM qD.length qN)) (ds := []) (bs 6 0) zk rfl rfl ⟨(z2_ qA.out 0).trans rfl, (z2_ qA.out 1).trans rfl, (z2_ qB.out 0).trans rfl, (z2_ qB.out 1).trans rfl⟩ (fun hHeld => ?_)
 generalize w6.drew = w7 at qA qB HB hHeld ⊢
 refine take_ (i := 0) (N := some 5) (v := ?_) (a' := ?_) (bs 6 1) rfl rfl zk (fun _ _ _ h => h) (Or.inl ⟨by rfl, ?_⟩) hHeld ?_ ?_
 rotate_left
 ·rintro w' ⟨s0, s1, s2, s3⟩
  go_simp
  with_reducible rfl
 rotate_left
 ·simp only [Act.put, List.setIfInBounds_toArray, List.set_cons_zero, List.set_cons_succ, i64_w, i32_w]
  rfl
 refine take_ (i := 2) (N := some 7) (v := ?_) (a' := ?_) (bs 6 5) rfl rfl zk (fun _ _ _ h => h) (Or.inl ⟨by rfl, ?_⟩) hHeld ?_ ?_
 rotate_left
 ·rintro w' ⟨s0, s1, s2, s3⟩
  go_simp
  with_reducible rfl
 rotate_left
 ·simp only [Act.put, List.setIfInBounds_toArray, List.set_cons_zero, List.set_cons_succ, i64_w, i32_w]
  rfl
 refine one_ (i := 1) (N := some 6) (bs 6 7) rfl rfl zk (by decide) (fun K hK => ?_)
 refine goes_ Tryd.func33 zk rfl #[.agg #[.bool qH, .slice qK qE.length qL]] (by rfl) rfl rfl zA ?_
 with_reducible refine (integer_Int_Text.calls k qH _ _ qE qJ _ ?side1 ?side2 A3.out).mono ?_
 (case side1 => refine lY ?_; exact (Kd.z8_ qS.out HB.out))
 (case side2 => exact qT.out)
 rintro e w8 ⟨rfl, hb⟩
 refine ⟨_, rfl, ?_⟩
 replace qA := aM (z5_ (g := qC) (lK qA) hb)
 replace qB := aM (z5_ (g := qF) (lK qB) hb)
 replace HB := aM (z6_ (zB HB) hb)
 (try clear hb)
 (try clear hb2)
 (try clear hk)
 (try clear hi)
 refine hK.out _ _ ⟨(z2_ qA.out 0).trans rfl, (z2_ qA.out 1).trans rfl, (z2_ qB.out 0).trans rfl, (z2_ qB.out 1).trans rfl⟩ (fun hHeld => ?_)
 clear hK K
 refine norm_ (a' := ?_) ?_ ?_
 rotate_left
 ·show Act.put _ (some 6) _ = _
  simp only [Act.put, List.setIfInBounds_toArray, List.set_cons_zero, List.set_cons_succ, i64_w, i32_w]
  rfl
 refine one_ (i := 3) (N := some 8) (bs 6 15) rfl rfl zk (by decide) (fun K hK => ?_)
 refine goes_ Tryd.func34 zk rfl #[.agg #[.bool qG, .slice qM qD.length qN]] (by rfl) rfl rfl zA ?_
 with_reducible refine (swageref02_Text.calls k qG (fun k_ => k_ < w.heap.size) _ _ qD qI _ ?side1 A4.out).mono ?_
 (case side1 => exact Kd.V_mk qV.out (Kd.F_below (Kd.C_F (Kd.heap_int .u32) qU.out) (zB HB)))
 rintro e w9 ⟨rfl, hb⟩
 refine ⟨_, rfl, ?_⟩
 replace qA := aM (z5_ (g := qC) (lK qA) hb)
 replace qB := aM (z5_ (g := qF) (lK qB) hb)
 replace HB := aM (z6_ (zB HB) hb)
 (try clear hb)
 (try clear hb2)
 (try clear hk)
 (try clear hi)
 refine hK.out _ _ ⟨(z2_ qA.out 0).trans rfl, (z2_ qA.out 1).trans rfl, (z2_ qB.out 0).trans rfl, (z2_ qB.out 1).trans rfl⟩ (fun hHeld => ?_)
 clear hK K
 refine norm_ (a' := ?_) ?_ ?_
 rotate_left
 ·show Act.put _ (some 8) _ = _
  simp only [Act.put, List.setIfInBounds_toArray, List.set_cons_zero, List.set_cons_succ, i64_w, i32_w]
  rfl
 refine pure_ (i := 4) (N := some 9) (v := ?_) (a' := ?_) (bs 6 31) rfl rfl zk (fun _ _ _ h => h) (Or.inl ⟨by rfl, ?_⟩) ?_ ?_
 rotate_left
 ·intro w'
  go_simp
  with_reducible rfl
 rotate_left
 ·simp only [Act.put, List.setIfInBounds_toArray, List.set_cons_zero, List.set_cons_succ, i64_w, i32_w]
  rfl
 refine pure_ (i := 5) (N := some 4) (v := ?_) (a' := ?_) (bs 6 63) rfl rfl zk (fun _ _ _ h => h) (Or.inl ⟨by rfl, ?_⟩) ?_ ?_
 rotate_left
 ·intro w'
  go_simp
  with_reducible rfl
 rotate_left
 ·simp only [Act.put, List.setIfInBounds_toArray, List.set_cons_zero, List.set_cons_succ, i64_w, i32_w]
  rfl
 refine done_ zk ?_
 try go_wp2
 go_ret
 exact ⟨zE, zB HB⟩
def swageref02_Int.l0 : Nat → List (S68) → List (S39) → Int → Int → Option (Bool)
 | 0, _, _, _, _ => none
 | k + 1, x1, x15, x16, x17 => if x17 < x16 then (if 0 ≤ x17 then (if x17 < (x15.length : Int) then (if x17 < (x1.length : Int) then ((swagelaw21_is_1.f k ((rd_T39 x15 x17).f0) ((rd_T39 x15 x17).f1) ((rd_T68 x1 x17).f0) ((rd_T68 x1 x17).f1)).bind fun qR => (if qR = true then (swageref02_Int.l0 k x1 x15 x16 (wrap64 (x17 + 1))) else (some false))) else (none)) else (none)) else (none)) else (some true)
def swageref02_Int.f (k : Nat) (l0 : List (S39)) (l1 : List (S68)) : Option (Bool) := if (l0.length : Int) = (l1.length : Int) then (swageref02_Int.l0 k l1 l0 (l0.length : Int) 0) else (some false)
theorem swageref02_Int.mono_l : ∀ k, (∀ y0 y1 y2 y3, LeO (swageref02_Int.l0 k y0 y1 y2 y3) (swageref02_Int.l0 (k + 1) y0 y1 y2 y3))
 | 0 => fun _ _ _ _ r h => by simp [swageref02_Int.l0] at h
 | k + 1 => by
  have ih0 := swageref02_Int.mono_l k
  ·intro y0 y1 y2 y3
   unfold swageref02_Int.l0
   have im0 := @swagelaw21_is_1.mono; exact zM
theorem swageref02_Int.mono : ∀ a0 a1 k, LeO (swageref02_Int.f k a0 a1) (swageref02_Int.f (k + 1) a0 a1) := by
 intro a0 a1 k
 have ih0 := swageref02_Int.mono_l k
 unfold swageref02_Int.f
 have im0 := @swagelaw21_is_1.mono; exact zM
theorem swageref02_Int.calls (k : Nat) (A0 : Option Addr) (c0 : Nat) (l0 : List (S39)) (A1 : Option Addr) (c1 : Nat) (l1 : List (S68)) (r : Bool) (w : World) (hr0 : Kd.C k39 w A0 l0.length l0) (hc0 : l0.length ≤ c0) (hr1 : Kd.C k68 w A1 l1.length l1) (hc1 : l1.length ≤ c1) (h : swageref02_Int.f k l0 l1 = some r) :
  Calls Tryd.prog 31 #[.slice A0 l0.length c0, .slice A1 l1.length c1, .func (.func 32) #[] #[]] w fun e w' => e = .returned (.bool r) ∧ Below w.heap.size w w' := by
 have hu39 := Tryd.underlying39
 have hu68 := Tryd.underlying68
 have HR0 := aM hr0
 have HC0 := aM hc0
 clear hr0 hc0
 have HR1 := aM hr1
 have HC1 := aM hc1
 clear hr1 hc1
 have HB := aM (Below.refl w.heap.size w)
 have H : (if (l0.length : Int) = (l1.length : Int) then (swageref02_Int.l0 k l1 l0 (l0.length : Int) 0) else (some false)) = some r := h
 clear h
 by_cases c3 : (l0.length : Int) = (l1.length : Int)
 ·rw [if_pos c3] at H
  have c3b0 : ((l0.length : Int) == (l1.length : Int)) = true := beq_iff_eq.mpr c3
  have c3b1 : ((l0.length : Int) != (l1.length : Int)) = false := bne_eq_false_iff_eq.mpr c3
  have c3b2 : (l0.length == l1.length) = true := by first | simpa using c3 | (simp at c3 ⊢; omega)
  clear c3
  have H' := aM H
  clear H
  go_enter Tryd.func31, Tryd.ntmps31
  go_wp2
  go_loopg [17] k (fun kq v17 w' => ∃ (qA : Int), v17 = .int .i64 qA ∧ Aside0 (swageref02_Int.l0 kq l1 l0 (l0.length : Int) qA = some r) ∧ Aside0 (kq ≤ k) ∧ Aside0 (Below w.heap.size w w'))
  case atStart => exact ⟨(0), zT, H', ⟨Nat.le_refl _⟩, ⟨zB HB⟩⟩
  case round =>
   clear H'
   try clear c1
   try clear c3
   obtain ⟨qA, rfl, HA, HK1, HB⟩ := hrel
   cases gk with
   | zero => exact absurd HA.out (by simp [swageref02_Int.l0])
   | succ k1 =>
    have H := HA.out
    clear HA
    simp only [swageref02_Int.l0] at H
    by_cases c4 : qA < (l0.length : Int)
    ·rw [if_pos c4] at H
     have c4b0 := decide_eq_true c4
     clear c4
     by_cases c5 : 0 ≤ qA
     ·rw [if_pos c5] at H
      have c5b0 := decide_eq_true c5
      clear c5
      by_cases c6 : qA < (l0.length : Int)
      ·rw [if_pos c6] at H
       have c6b0 := decide_eq_true c6
       clear c6
       by_cases c7 : qA < (l1.length : Int)
       ·rw [if_pos c7] at H
        have c7b0 := decide_eq_true c7
        clear c7
        replace H := zbs H
        obtain ⟨qR, A80, H⟩ := H
        replace H : (if qR = true then (swageref02_Int.l0 k1 l1 l0 (l0.length : Int) (wrap64 (qA + 1))) else (some false)) = some r := H
        have A8 := aM A80
        clear A80
        by_cases c9 : qR = true
        ·subst c9
         have H1 : (swageref02_Int.l0 k1 l1 l0 (l0.length : Int) (wrap64 (qA + 1))) = some r := by rw [if_pos rfl] at H; exact H
         clear H
         have H := H1
         clear H1
         have H' := aM H
         clear H
         have p288 : 0 ≤ (qA : Int) := of_decide_eq_true za
         have q288 : qA < (l0.length : Int) := of_decide_eq_true za
         obtain ⟨ad288, qD, qE, e288, hx288_0, hx288_1, hl288_1, hi288_1⟩ := at_T39 HR0.out qA p288 q288
         cases e288
         replace hx288_0 := (HB.out.cell (World.block_lt_of_cell? w _ hx288_0)).trans hx288_0
         replace hx288_1 := (HB.out.cell (World.block_lt_of_cell? w _ hx288_1)).trans hx288_1
         have qM := aM hi288_1
         have qN := aM hl288_1
         clear hi288_1 hl288_1
         replace p288 := eq_true p288
         replace q288 := eq_true q288
         go_wp2_with (first | ((with_reducible refine gate_dst (N := 8) rfl ?_); refine z16_ rfl (N := 8) rfl (cs := #[.bool false, .slice none 0 0]) (t := 39) zG ?_; intro qB hg w10 hbox hb; have qC := aM (hbox); have qL := aM ((by rw [hg]; exact (z4_ (lB HB)) : w.heap.size ≤ qB)); have qS := aM ((by rw [hg]; exact (z4_ (lB HB)) : w.heap.size ≤ qB)); replace HB := aM (z6_ (lB HB) hb); clear hb hbox hg; have qV := zc2 qC.out; have qW := fun i_ : Nat => z1_ qC.out i_; have p290 : 0 ≤ (qA : Int) := of_decide_eq_true za; have q290 : qA < (l1.length : Int) := of_decide_eq_true za; obtain ⟨ad290, qH, qI, e290, hx290_0, hx290_1, hl290_1, hi290_1⟩ := at_T68 HR1.out qA p290 q290; cases e290; have hn290_0 : ad290.block ≠ qB := Nat.ne_of_lt (Nat.lt_of_lt_of_le (by have := World.block_lt_of_cell? _ _ hx290_0; first | rwa [add_block] at this | exact this) qL.out); have hn290_1 : ad290.block ≠ qB := Nat.ne_of_lt (Nat.lt_of_lt_of_le (by have := World.block_lt_of_cell? _ _ hx290_0; first | rwa [add_block] at this | exact this) qL.out); replace hx290_0 := (HB.out.cell (World.block_lt_of_cell? w _ hx290_0)).trans hx290_0; replace hx290_1 := (HB.out.cell (World.block_lt_of_cell? w _ hx290_1)).trans hx290_1; have qO := aM hi290_1; have qP := aM hl290_1; clear hi290_1 hl290_1; replace hx290_0 := (z14_ (p := ⟨qB, 0, none⟩) (by first | (rw [add_block]; exact hn290_0) | (show (Addr.add _ _).block ≠ _; rw [add_block]; exact hn290_0) | exact hn290_0) (.bool ((rd_T39 l0 qA).f0))).trans hx290_0; replace hx290_1 := (z14_ (p := ⟨qB, 0, none⟩) (by first | (rw [add_block]; exact hn290_0) | (show (Addr.add _ _).block ≠ _; rw [add_block]; exact hn290_0) | exact hn290_0) (.bool ((rd_T39 l0 qA).f0))).trans hx290_1; replace hx290_0 := (z14_ (p := ⟨qB, 1, none⟩) (by first | (rw [add_block]; exact hn290_1) | (show (Addr.add _ _).block ≠ _; rw [add_block]; exact hn290_1) | exact hn290_1) (.slice qD ((rd_T39 l0 qA).f1).length qE)).trans hx290_0; replace hx290_1 := (z14_ (p := ⟨qB, 1, none⟩) (by first | (rw [add_block]; exact hn290_1) | (show (Addr.add _ _).block ≠ _; rw [add_block]; exact hn290_1) | exact hn290_1) (.slice qD ((rd_T39 l0 qA).f1).length qE)).trans hx290_1; clear hn290_0; clear hn290_1; replace p290 := eq_true p290; replace q290 := eq_true q290) | ((with_reducible refine gate_dst (N := 9) rfl ?_); refine z16_ rfl (N := 9) rfl (cs := #[.bool false, .slice none 0 0]) (t := 68) zG ?_; intro qF hg w12 hbox hb; have qG := aM (hbox); have qT := aM ((by rw [hg]; exact (z4_ (zB HB)) : w.heap.size ≤ qF)); have qU := aM ((by rw [hg]; exact (z4_ (zB HB)) : w.heap.size ≤ qF)); replace HB := aM (z6_ (zB HB) hb); have qJ := aM ((by rw [hg]; exact Nat.ne_of_lt (z19_ (g := qB) (o := .cells #[.bool ((rd_T39 l0 qA).f0), .slice qD ((rd_T39 l0 qA).f1).length qE] 39 (0, 0)) (by refine lZ ?_; refine blk_put (cs := #[.bool ((rd_T39 l0 qA).f0), .slice none 0 0]) ?_ 1 _ rfl; refine lZ ?_; refine blk_put (cs := #[.bool false, .slice none 0 0]) ?_ 0 _ rfl; refine lZ ?_; exact qC.out)) : qB ≠ qF)); have qK := aM ((by rw [hg]; exact Nat.ne_of_gt (z19_ (g := qB) (o := .cells #[.bool ((rd_T39 l0 qA).f0), .slice qD ((rd_T39 l0 qA).f1).length qE] 39 (0, 0)) (by refine lZ ?_; refine blk_put (cs := #[.bool ((rd_T39 l0 qA).f0), .slice none 0 0]) ?_ 1 _ rfl; refine lZ ?_; refine blk_put (cs := #[.bool false, .slice none 0 0]) ?_ 0 _ rfl; refine lZ ?_; exact qC.out)) : qF ≠ qB)); replace qC := aM (z5_ (g := qB) (o := .cells #[.bool ((rd_T39 l0 qA).f0), .slice qD ((rd_T39 l0 qA).f1).length qE] 39 (0, 0)) (by refine lZ ?_; refine blk_put (cs := #[.bool ((rd_T39 l0 qA).f0), .slice none 0 0]) ?_ 1 _ rfl; refine lZ ?_; refine blk_put (cs := #[.bool false, .slice none 0 0]) ?_ 0 _ rfl; refine lZ ?_; exact qC.out) hb); clear hb hbox hg; have qh := qK.out; have qi := qJ.out; have qX := zc2 qG.out; have qY := fun i_ : Nat => z1_ qG.out i_; have qZ := zc2 qC.out; have qa := fun i_ : Nat => z1_ qC.out i_) | ((with_reducible refine gate_callee_v rfl ?_); refine goesL_v (some 29) rfl rfl Tryd.func32 zk rfl #[.agg #[.bool ((rd_T39 l0 qA).f0), .slice qD ((rd_T39 l0 qA).f1).length qE], .agg #[.bool ((rd_T68 l1 qA).f0), .slice qH ((rd_T68 l1 qA).f1).length qI]] rfl rfl zA ?_; (with_reducible refine (swagelaw21_is_1.calls k1 ((rd_T39 l0 qA).f0) _ _ ((rd_T39 l0 qA).f1) ((rd_T68 l1 qA).f0) _ _ ((rd_T68 l1 qA).f1) true _ ?side1 ?side2 ?side3 ?side4 A8.out).mono ?_); (case side1 => exact Kd.z8_ qM.out (zB HB)); (case side2 => exact qN.out); (case side3 => exact Kd.z8_ qO.out (zB HB)); (case side4 => exact qP.out); rintro e w16 ⟨rfl, hb⟩; refine ⟨_, rfl, ?_⟩; replace qC := aM (z5_ (g := qB) (zb qC) hb); replace qG := aM (z5_ (g := qF) (o := .cells #[.bool ((rd_T68 l1 qA).f0), .slice qH ((rd_T68 l1 qA).f1).length qI] 68 (0, 0)) (by refine lZ ?_; refine blk_put (cs := #[.bool ((rd_T68 l1 qA).f0), .slice none 0 0]) ?_ 1 _ rfl; refine lZ ?_; refine blk_put (cs := #[.bool false, .slice none 0 0]) ?_ 0 _ rfl; refine lZ ?_; exact qG.out) hb); replace HB := aM (z6_ (zB HB) hb); (try clear hb)))
         go_roundg k1
         case measure => have := HK1.out; omega
         case rel => exact ⟨(wrap64 (qA + 1)), zT, H', ⟨by have := HK1.out; omega⟩, ⟨zB HB⟩⟩
        ·replace c9 := Bool.eq_false_iff.mpr c9
         subst c9
         have H1 : (some false) = some r := by rw [if_neg (show ¬ (false = true) by decide)] at H; exact H
         clear H
         have H := H1
         clear H1
         obtain rfl := Option.some.inj H
         have p288 : 0 ≤ (qA : Int) := of_decide_eq_true za
         have q288 : qA < (l0.length : Int) := of_decide_eq_true za
         obtain ⟨ad288, qD, qE, e288, hx288_0, hx288_1, hl288_1, hi288_1⟩ := at_T39 HR0.out qA p288 q288
         cases e288
         replace hx288_0 := (HB.out.cell (World.block_lt_of_cell? w _ hx288_0)).trans hx288_0
         replace hx288_1 := (HB.out.cell (World.block_lt_of_cell? w _ hx288_1)).trans hx288_1
         have qM := aM hi288_1
         have qN := aM hl288_1
         clear hi288_1 hl288_1
         replace p288 := eq_true p288
         replace q288 := eq_true q288
         go_wp2_with (first | ((with_reducible refine gate_dst (N := 8) rfl ?_); refine z16_ rfl (N := 8) rfl (cs := #[.bool false, .slice none 0 0]) (t := 39) zG ?_; intro qB hg w17 hbox hb; have qC := aM (hbox); have qL := aM ((by rw [hg]; exact (z4_ (lB HB)) : w.heap.size ≤ qB)); have qS := aM ((by rw [hg]; exact (z4_ (lB HB)) : w.heap.size ≤ qB)); replace HB := aM (z6_ (lB HB) hb); clear hb hbox hg; have qb := zc2 qC.out; have qc := fun i_ : Nat => z1_ qC.out i_; have p290 : 0 ≤ (qA : Int) := of_decide_eq_true za; have q290 : qA < (l1.length : Int) := of_decide_eq_true za; obtain ⟨ad290, qH, qI, e290, hx290_0, hx290_1, hl290_1, hi290_1⟩ := at_T68 HR1.out qA p290 q290; cases e290; have hn290_0 : ad290.block ≠ qB := Nat.ne_of_lt (Nat.lt_of_lt_of_le (by have := World.block_lt_of_cell? _ _ hx290_0; first | rwa [add_block] at this | exact this) qL.out); have hn290_1 : ad290.block ≠ qB := Nat.ne_of_lt (Nat.lt_of_lt_of_le (by have := World.block_lt_of_cell? _ _ hx290_0; first | rwa [add_block] at this | exact this) qL.out); replace hx290_0 := (HB.out.cell (World.block_lt_of_cell? w _ hx290_0)).trans hx290_0; replace hx290_1 := (HB.out.cell (World.block_lt_of_cell? w _ hx290_1)).trans hx290_1; have qO := aM hi290_1; have qP := aM hl290_1; clear hi290_1 hl290_1; replace hx290_0 := (z14_ (p := ⟨qB, 0, none⟩) (by first | (rw [add_block]; exact hn290_0) | (show (Addr.add _ _).block ≠ _; rw [add_block]; exact hn290_0) | exact hn290_0) (.bool ((rd_T39 l0 qA).f0))).trans hx290_0; replace hx290_1 := (z14_ (p := ⟨qB, 0, none⟩) (by first | (rw [add_block]; exact hn290_0) | (show (Addr.add _ _).block ≠ _; rw [add_block]; exact hn290_0) | exact hn290_0) (.bool ((rd_T39 l0 qA).f0))).trans hx290_1; replace hx290_0 := (z14_ (p := ⟨qB, 1, none⟩) (by first | (rw [add_block]; exact hn290_1) | (show (Addr.add _ _).block ≠ _; rw [add_block]; exact hn290_1) | exact hn290_1) (.slice qD ((rd_T39 l0 qA).f1).length qE)).trans hx290_0; replace hx290_1 := (z14_ (p := ⟨qB, 1, none⟩) (by first | (rw [add_block]; exact hn290_1) | (show (Addr.add _ _).block ≠ _; rw [add_block]; exact hn290_1) | exact hn290_1) (.slice qD ((rd_T39 l0 qA).f1).length qE)).trans hx290_1; clear hn290_0; clear hn290_1; replace p290 := eq_true p290; replace q290 := eq_true q290) | ((with_reducible refine gate_dst (N := 9) rfl ?_); refine z16_ rfl (N := 9) rfl (cs := #[.bool false, .slice none 0 0]) (t := 68) zG ?_; intro qF hg w19 hbox hb; have qG := aM (hbox); have qT := aM ((by rw [hg]; exact (z4_ (zB HB)) : w.heap.size ≤ qF)); have qU := aM ((by rw [hg]; exact (z4_ (zB HB)) : w.heap.size ≤ qF)); replace HB := aM (z6_ (zB HB) hb); have qJ := aM ((by rw [hg]; exact Nat.ne_of_lt (z19_ (g := qB) (o := .cells #[.bool ((rd_T39 l0 qA).f0), .slice qD ((rd_T39 l0 qA).f1).length qE] 39 (0, 0)) (by refine lZ ?_; refine blk_put (cs := #[.bool ((rd_T39 l0 qA).f0), .slice none 0 0]) ?_ 1 _ rfl; refine lZ ?_; refine blk_put (cs := #[.bool false, .slice none 0 0]) ?_ 0 _ rfl; refine lZ ?_; exact qC.out)) : qB ≠ qF)); have qK := aM ((by rw [hg]; exact Nat.ne_of_gt (z19_ (g := qB) (o := .cells #[.bool ((rd_T39 l0 qA).f0), .slice qD ((rd_T39 l0 qA).f1).length qE] 39 (0, 0)) (by refine lZ ?_; refine blk_put (cs := #[.bool ((rd_T39 l0 qA).f0), .slice none 0 0]) ?_ 1 _ rfl; refine lZ ?_; refine blk_put (cs := #[.bool false, .slice none 0 0]) ?_ 0 _ rfl; refine lZ ?_; exact qC.out)) : qF ≠ qB)); replace qC := aM (z5_ (g := qB) (o := .cells #[.bool ((rd_T39 l0 qA).f0), .slice qD ((rd_T39 l0 qA).f1).length qE] 39 (0, 0)) (by refine lZ ?_; refine blk_put (cs := #[.bool ((rd_T39 l0 qA).f0), .slice none 0 0]) ?_ 1 _ rfl; refine lZ ?_; refine blk_put (cs := #[.bool false, .slice none 0 0]) ?_ 0 _ rfl; refine lZ ?_; exact qC.out) hb); clear hb hbox hg; have qj := qK.out; have qk := qJ.out; have qd := zc2 qG.out; have qe := fun i_ : Nat => z1_ qG.out i_; have qf := zc2 qC.out; have qg := fun i_ : Nat => z1_ qC.out i_) | ((with_reducible refine gate_callee_v rfl ?_); refine goesL_v (some 29) rfl rfl Tryd.func32 zk rfl #[.agg #[.bool ((rd_T39 l0 qA).f0), .slice qD ((rd_T39 l0 qA).f1).length qE], .agg #[.bool ((rd_T68 l1 qA).f0), .slice qH ((rd_T68 l1 qA).f1).length qI]] rfl rfl zA ?_; (with_reducible refine (swagelaw21_is_1.calls k1 ((rd_T39 l0 qA).f0) _ _ ((rd_T39 l0 qA).f1) ((rd_T68 l1 qA).f0) _ _ ((rd_T68 l1 qA).f1) false _ ?side1 ?side2 ?side3 ?side4 A8.out).mono ?_); (case side1 => exact Kd.z8_ qM.out (zB HB)); (case side2 => exact qN.out); (case side3 => exact Kd.z8_ qO.out (zB HB)); (case side4 => exact qP.out); rintro e w23 ⟨rfl, hb⟩; refine ⟨_, rfl, ?_⟩; replace qC := aM (z5_ (g := qB) (zb qC) hb); replace qG := aM (z5_ (g := qF) (o := .cells #[.bool ((rd_T68 l1 qA).f0), .slice qH ((rd_T68 l1 qA).f1).length qI] 68 (0, 0)) (by refine lZ ?_; refine blk_put (cs := #[.bool ((rd_T68 l1 qA).f0), .slice none 0 0]) ?_ 1 _ rfl; refine lZ ?_; refine blk_put (cs := #[.bool false, .slice none 0 0]) ?_ 0 _ rfl; refine lZ ?_; exact qG.out) hb); replace HB := aM (z6_ (zB HB) hb); (try clear hb)))
         go_ret
         exact ⟨zE, zB HB⟩
       ·rw [if_neg c7] at H
        exact absurd H (by simp)
      ·rw [if_neg c6] at H
       exact absurd H (by simp)
     ·rw [if_neg c5] at H
      exact absurd H (by simp)
    ·rw [if_neg c4] at H
     have c4b0 := decide_eq_false c4
     clear c4
     obtain rfl := Option.some.inj H
     go_wp2
     go_ret
     exact ⟨zE, zB HB⟩
 ·rw [if_neg c3] at H
  have c3b0 : ((l0.length : Int) == (l1.length : Int)) = false := beq_eq_false_iff_ne.mpr c3
  have c3b1 : ((l0.length : Int) != (l1.length : Int)) = true := bne_iff_ne.mpr c3
  have c3b2 : (l0.length == l1.length) = false := by first | simpa using c3 | (simp at c3 ⊢; omega)
  obtain rfl := Option.some.inj H
  go_enter Tryd.func31, Tryd.ntmps31
  go_wp2
  go_ret
  exact ⟨zE, zB HB⟩
def swagelaw21_is.f (k : Nat) (l0 : List (S39)) (l1 : List (S68)) : Option (Bool) := (swageref02_Int.f k l0 l1).bind fun qQ => (some qQ)
theorem swagelaw21_is.mono : ∀ a0 a1 k, LeO (swagelaw21_is.f k a0 a1) (swagelaw21_is.f (k + 1) a0 a1) := by
 intro a0 a1 k
 unfold swagelaw21_is.f
 have im0 := @swageref02_Int.mono; exact zM
theorem swagelaw21_is.calls (k : Nat) (A0 : Option Addr) (c0 : Nat) (l0 : List (S39)) (A1 : Option Addr) (c1 : Nat) (l1 : List (S68)) (r : Bool) (w : World) (hr0 : Kd.C k39 w A0 l0.length l0) (hc0 : l0.length ≤ c0) (hr1 : Kd.C k68 w A1 l1.length l1) (hc1 : l1.length ≤ c1) (h : swagelaw21_is.f k l0 l1 = some r) :
  Calls Tryd.prog 16 #[.slice A0 l0.length c0, .slice A1 l1.length c1] w fun e w' => e = .returned (.bool r) ∧ Below w.heap.size w w' := by
 have HR0 := aM hr0
 have HC0 := aM hc0
 clear hr0 hc0
 have HR1 := aM hr1
 have HC1 := aM hc1
 clear hr1 hc1
 have HB := aM (Below.refl w.heap.size w)
 have H : ((swageref02_Int.f k l0 l1).bind fun qQ => (some qQ)) = some r := h
 clear h
 replace H := zbs H
 obtain ⟨qQ, A30, H⟩ := H
 replace H : (some qQ) = some r := H
 have A3 := aM A30
 clear A30
 obtain rfl := Option.some.inj H
 go_enter Tryd.func16, Tryd.ntmps16
 go_wp2_with (first | ((with_reducible refine gate_callee (f := 31) rfl ?_); refine z13_ (some 7) rfl rfl Tryd.func31 zk rfl #[.slice A0 l0.length c0, .slice A1 l1.length c1, .func (.func 32) #[] #[]] rfl zA ?_; (with_reducible refine (swageref02_Int.calls k _ _ l0 _ _ l1 qQ _ ?side1 ?side2 ?side3 ?side4 A3.out).mono ?_); (case side1 => refine lY ?_; exact HR0.out); (case side2 => exact HC0.out); (case side3 => refine lY ?_; exact HR1.out); (case side4 => exact HC1.out); rintro e w4 ⟨rfl, hb⟩; refine ⟨_, rfl, ?_⟩; replace HB := aM (z6_ (lB HB) hb); (try clear hb)))
 go_ret
 exact ⟨zE, zB HB⟩
def limb_Add.l0 : Nat → List Int → List Int → List Int → Int → List Int → Int → Int → Option (List Int)
 | 0, _, _, _, _, _, _, _ => none
 | k + 1, x0, x1, x5, x6, x20, x21, x22 => if x22 < x21 then (if 0 ≤ x22 then (if x22 < (x20.length : Int) then (if x22 < (x1.length : Int) then (if x22 < (x5.length : Int) then (limb_Add.l0 k x0 x1 (x5.set (x22 : Int).toNat ((IntKind.u64.wrap ((IntKind.u64.wrap (x6 + (IntKind.u64.wrap (rd x20 x22)))) + (IntKind.u64.wrap (rd x1 x22)))) % 4294967296)) ((IntKind.u64.wrap ((IntKind.u64.wrap (x6 + (IntKind.u64.wrap (rd x20 x22)))) + (IntKind.u64.wrap (rd x1 x22)))) / 4294967296) x20 x21 (wrap64 (x22 + 1))) else (none)) else (if x22 < (x5.length : Int) then (limb_Add.l0 k x0 x1 (x5.set (x22 : Int).toNat ((IntKind.u64.wrap (x6 + (IntKind.u64.wrap (rd x20 x22)))) % 4294967296)) ((IntKind.u64.wrap (x6 + (IntKind.u64.wrap (rd x20 x22)))) / 4294967296) x20 x21 (wrap64 (x22 + 1))) else (none))) else (none)) else (none)) else (if 0 ≤ (x0.length : Int) then (if (x0.length : Int) < (x5.length : Int) then ((limb_trim.f k (x5.set ((x0.length : Int) : Int).toNat ((x6) % 4294967296))).bind fun qE => (some qE)) else (none)) else (none))
def limb_Add.g (k : Nat) (l0 : List Int) (l1 : List Int) : Option (List Int) := if 0 ≤ (wrap64 ((l0.length : Int) + 1)) then (if (wrap64 ((l0.length : Int) + 1) : Int).toNat ≤ 70368744177664 then (limb_Add.l0 k l0 l1 (List.replicate (wrap64 ((l0.length : Int) + 1) : Int).toNat 0) 0 l0 (l0.length : Int) 0) else (none)) else (none)
theorem limb_Add.mono_l : ∀ k, (∀ y0 y1 y2 y3 y4 y5 y6, LeO (limb_Add.l0 k y0 y1 y2 y3 y4 y5 y6) (limb_Add.l0 (k + 1) y0 y1 y2 y3 y4 y5 y6))
 | 0 => fun _ _ _ _ _ _ _ r h => by simp [limb_Add.l0] at h
 | k + 1 => by
  have ih0 := limb_Add.mono_l k
  ·intro y0 y1 y2 y3 y4 y5 y6
   unfold limb_Add.l0
   have im0 := @limb_trim.mono; exact zM
theorem limb_Add.gmono : ∀ a0 a1 k, LeO (limb_Add.g k a0 a1) (limb_Add.g (k + 1) a0 a1) := by
 intro a0 a1 k
 have ih0 := limb_Add.mono_l k
 unfold limb_Add.g
 have im0 := @limb_trim.mono; exact zM
def limb_Add.f (k : Nat) (l0 : List Int) (l1 : List Int) : Option (List Int) := if (l0.length : Int) < (l1.length : Int) then (limb_Add.g k l1 l0) else (limb_Add.g k l0 l1)
theorem limb_Add.mono : ∀ a0 a1 k, LeO (limb_Add.f k a0 a1) (limb_Add.f (k + 1) a0 a1) := by
 intro a0 a1 k
 unfold limb_Add.f
 exact LeO.ite (limb_Add.gmono _ _ _) (limb_Add.gmono _ _ _)
theorem limb_Add.calls (k : Nat) (A0 : Option Addr) (c0 : Nat) (l0 : List Int) (A1 : Option Addr) (c1 : Nat) (l1 : List Int) (r : List Int) (w : World) (hr0 : Kd.C (Kd.int .u32) w A0 l0.length l0) (hc0 : l0.length ≤ c0) (hr1 : Kd.C (Kd.int .u32) w A1 l1.length l1) (hc1 : l1.length ≤ c1) (h : limb_Add.f k l0 l1 = some r) :
  Calls Tryd.prog 53 #[.slice A0 l0.length c0, .slice A1 l1.length c1] w fun e w' => ∃ v0_ : Value, e = .returned (v0_) ∧ Kd.V (Kd.int .u32) 76 w' w.heap.size (fun k_ => (w.heap.size ≤ k_)) v0_ r ∧ Below w.heap.size w w' := by
 unfold limb_Add.f at h
 by_cases cs : (l0.length : Int) < (l1.length : Int)
 ·rw [if_pos cs] at h
  have csb0 : decide ((l0.length : Int) < (l1.length : Int)) = true := decide_eq_true cs
  have csb1 : decide (l0.length < l1.length) = true := decide_eq_true (by omega)
  have csb2 : ((l0.length : Int) < (l1.length : Int)) = True := eq_true cs
  have csb3 : (l0.length < l1.length) = True := eq_true (by omega)
  have HR1 := aM hr1
  have HC1 := aM hc1
  clear hr1 hc1
  have HR0 := aM hr0
  have HC0 := aM hc0
  clear hr0 hc0
  have HB := aM (Below.refl w.heap.size w)
  have H : (if 0 ≤ (wrap64 ((l1.length : Int) + 1)) then (if (wrap64 ((l1.length : Int) + 1) : Int).toNat ≤ 70368744177664 then (limb_Add.l0 k l1 l0 (List.replicate (wrap64 ((l1.length : Int) + 1) : Int).toNat 0) 0 l1 (l1.length : Int) 0) else (none)) else (none)) = some r := h
  clear h
  obtain ⟨ji3, hji3⟩ : ∃ j_ : Int, (wrap64 ((l1.length : Int) + 1)) = j_ := ⟨_, rfl⟩
  replace H : (if 0 ≤ (ji3) then (if (ji3 : Int).toNat ≤ 70368744177664 then (limb_Add.l0 k l1 l0 (List.replicate (ji3 : Int).toNat 0) 0 l1 (l1.length : Int) 0) else (none)) else (none)) = some r := by first | (rw [hji3] at H; exact H) | (simp only [hji3] at H ⊢; exact H)
  have hji3w : (IntKind.i64.wrap ((l1.length : Int) + 1)) = ji3 := (i64_w _).trans hji3
  by_cases c4 : 0 ≤ (ji3)
  ·rw [if_pos c4] at H
   have c4b0 := eq_true c4
   have c4b1 := decide_eq_true c4
   clear c4
   by_cases c5 : (ji3 : Int).toNat ≤ 70368744177664
   ·rw [if_pos c5] at H
    have c5b0 := eq_true c5
    have c5b1 := decide_eq_true c5
    clear c5
    obtain ⟨y294, hy294⟩ : ∃ y_ : List Int, y_ = (List.replicate (ji3 : Int).toNat 0) := ⟨_, rfl⟩
    replace H : (limb_Add.l0 k l1 l0 y294 0 l1 (l1.length : Int) 0) = some r := zH hy294 H
    have Ny294 := aM hy294
    clear hy294
    have H' := aM H
    clear H
    go_enter Tryd.func53, Tryd.ntmps53
    go_wp2_with (first | ((with_reducible refine gate_dst (N := 19) rfl ?_); refine Kd.R_make (Kd.int .u32) _ 76 rfl (N := 19) rfl 37 _ _ rfl ji3 rfl rfl Tryd.underlying37 (.int .u32 0) 4 info76 rfl (by decide) (by omega) 0 (ok := fun _ => True) (okp := fun _ => True) rfl (fun _ hk => hk) trivial (of_decide_eq_true za) (Nat.le_trans (Nat.mul_le_mul_right _ (of_decide_eq_true za : ji3.toNat ≤ 70368744177664)) (by omega)) (Below.refl _ _) (Nat.le_refl _) ?_; intro v295 w6 ho7 hb hg_ hnew_; clear hg_ hnew_; (first | rw [← Ny294.out] at ho7 | (simp only [Int.reduceToNat] at ho7; rw [← Ny294.out] at ho7)); have qJ := aM (Kd.z20_ (Kd.R_newM (M := fun k_ => (w.heap.size ≤ k_)) ho7 (z4_ (lB HB)) (fun k_ h_ => h_)) (z4_ (lB HB))); replace HB := aM (z6_ (lB HB) hb); clear hb ho7))
    go_loopg [6, 22] k (fun kq v6 v22 w' => ∃ (qC : List Int) (qD : Int) (qA : Int), v6 = .int .u64 qD ∧ v22 = .int .i64 qA ∧ Aside0 (limb_Add.l0 kq l1 l0 qC qD l1 (l1.length : Int) qA = some r) ∧ Aside0 (kq ≤ k) ∧ Aside0 (Kd.R (Kd.int .u32) 76 w' w.heap.size (fun k_ => (w.heap.size ≤ k_)) v295 qC) ∧ Aside0 (Below w.heap.size w w'))
    case atStart => exact ⟨(y294), (0), (0), zT, zT, H', ⟨Nat.le_refl _⟩, ⟨by apply rX; exact Kd.z0_ qJ.out (fun _ hk => hk.1)⟩, ⟨zB HB⟩⟩
    case round =>
     clear H'
     try clear c0
     try clear c4
     try clear c5
     obtain ⟨qC, qD, qA, rfl, rfl, HA, HK1, qB, HB⟩ := hrel
     cases gk with
     | zero => exact absurd HA.out (by simp [limb_Add.l0])
     | succ k1 =>
      have H := HA.out
      clear HA
      simp only [limb_Add.l0] at H
      by_cases c8 : qA < (l1.length : Int)
      ·rw [if_pos c8] at H
       have c8b0 := decide_eq_true c8
       clear c8
       by_cases c9 : 0 ≤ qA
       ·rw [if_pos c9] at H
        have c9b0 := decide_eq_true c9
        clear c9
        by_cases c10 : qA < (l1.length : Int)
        ·rw [if_pos c10] at H
         have c10b0 := decide_eq_true c10
         clear c10
         by_cases c11 : qA < (l0.length : Int)
         ·rw [if_pos c11] at H
          have c11b0 := decide_eq_true c11
          clear c11
          by_cases c12 : qA < (qC.length : Int)
          ·rw [if_pos c12] at H
           have c12b0 := decide_eq_true c12
           clear c12
           obtain ⟨y299, hy299⟩ : ∃ y_ : List Int, y_ = (qC.set (qA : Int).toNat ((IntKind.u64.wrap ((IntKind.u64.wrap (qD + (IntKind.u64.wrap (rd l1 qA)))) + (IntKind.u64.wrap (rd l0 qA)))) % 4294967296)) := ⟨_, rfl⟩
           replace H : (limb_Add.l0 k1 l1 l0 y299 ((IntKind.u64.wrap ((IntKind.u64.wrap (qD + (IntKind.u64.wrap (rd l1 qA)))) + (IntKind.u64.wrap (rd l0 qA)))) / 4294967296) l1 (l1.length : Int) (wrap64 (qA + 1))) = some r := zH hy299 H
           have Ny299 := aM hy299
           clear hy299
           have H' := aM H
           clear H
           have p297 : 0 ≤ (qA : Int) := of_decide_eq_true za
           have q297 : qA < (l1.length : Int) := of_decide_eq_true za
           obtain ⟨ad297, e297, hx297_0⟩ := Kd.at_int HR1.out qA p297 q297
           cases e297
           replace hx297_0 := (HB.out.cell (World.block_lt_of_cell? w _ hx297_0)).trans hx297_0
           replace p297 := eq_true p297
           replace q297 := eq_true q297
           have p298 : 0 ≤ (qA : Int) := of_decide_eq_true za
           have q298 : qA < (l0.length : Int) := of_decide_eq_true za
           obtain ⟨ad298, e298, hx298_0⟩ := Kd.at_int HR0.out qA p298 q298
           cases e298
           replace hx298_0 := (HB.out.cell (World.block_lt_of_cell? w _ hx298_0)).trans hx298_0
           replace p298 := eq_true p298
           replace q298 := eq_true q298
           have p13 : 0 ≤ (qA : Int) := of_decide_eq_true za
           have q13 : (qA : Int) < ((qC.length : Int) : Int) := of_decide_eq_true za
           obtain ⟨go13, qL, eo13, qG, gl13, cl13, HG13⟩ := Kd.R_form qB.out (by omega)
           (first | cases eo13 | (injection eo13 with ea_ en_ ec_; (first | subst ea_ | (injection ea_ with ea_; subst ea_)); subst ec_; clear en_))
           have GB13 := aM qG
           have GG13 := aM HG13
           clear qG gl13 HG13
           obtain ⟨hx13_0, hf13_0⟩ := Kd.R_celln 0 qB.out (qA : Int) p13 q13
           replace p13 := eq_true p13
           replace q13 := eq_true q13
           have HP14 := Kd.R_putg qB.out (qA : Int) ((IntKind.u64.wrap ((IntKind.u64.wrap (qD + (IntKind.u64.wrap (rd l1 qA)))) + (IntKind.u64.wrap (rd l0 qA)))) % 4294967296)
           go_wp2_with (first | ((with_reducible refine gate_store (t := 76) (p := 46) rfl ?_); refine store_event (t := 76) (p := 46) (v := ?vo_w15) (w1 := (wr.setCell ⟨go13, (qA : Int).toNat, none⟩ (.int .u32 ((IntKind.u64.wrap ((IntKind.u64.wrap (qD + (IntKind.u64.wrap (rd l1 qA)))) + (IntKind.u64.wrap (rd l0 qA)))) % 4294967296)))) ?hg ?ho ?hn ?hr ?_; (case ho => rfl); (case hg => rfl); (case hn => rfl); (case hr => first | (go_simp; done) | (go_simp; rfl)); intro w15 hw; have hg : wr.grownBy w15 (some go13) := (by rw [hw]; exact HP14.2); have hp_ : Kd.R (Kd.int .u32) 76 w15 w.heap.size (fun k_ => (w.heap.size ≤ k_)) (.slice (some ⟨go13, 0, none⟩) qC.length qL) y299 := (by rw [hw, Ny299.out]; exact HP14.1); clear HP14; replace qB := aM (hp_); replace HB := aM ((by rw [hw]; exact below_set (HB.out) GB13.out : Below w.heap.size w w15)); clear hg hw hp_))
           go_roundg k1
           case measure => have := HK1.out; omega
           case rel => exact ⟨(y299), ((IntKind.u64.wrap ((IntKind.u64.wrap (qD + (IntKind.u64.wrap (rd l1 qA)))) + (IntKind.u64.wrap (rd l0 qA)))) / 4294967296), (wrap64 (qA + 1)), zT, zT, H', ⟨by have := HK1.out; omega⟩, ⟨lR qB⟩, ⟨zB HB⟩⟩
          ·rw [if_neg c12] at H
           exact absurd H (by simp)
         ·rw [if_neg c11] at H
          have c11b0 := decide_eq_false c11
          clear c11
          by_cases c16 : qA < (qC.length : Int)
          ·rw [if_pos c16] at H
           have c16b0 := decide_eq_true c16
           clear c16
           obtain ⟨y300, hy300⟩ : ∃ y_ : List Int, y_ = (qC.set (qA : Int).toNat ((IntKind.u64.wrap (qD + (IntKind.u64.wrap (rd l1 qA)))) % 4294967296)) := ⟨_, rfl⟩
           replace H : (limb_Add.l0 k1 l1 l0 y300 ((IntKind.u64.wrap (qD + (IntKind.u64.wrap (rd l1 qA)))) / 4294967296) l1 (l1.length : Int) (wrap64 (qA + 1))) = some r := zH hy300 H
           have Ny300 := aM hy300
           clear hy300
           have H' := aM H
           clear H
           have p297 : 0 ≤ (qA : Int) := of_decide_eq_true za
           have q297 : qA < (l1.length : Int) := of_decide_eq_true za
           obtain ⟨ad297, e297, hx297_0⟩ := Kd.at_int HR1.out qA p297 q297
           cases e297
           replace hx297_0 := (HB.out.cell (World.block_lt_of_cell? w _ hx297_0)).trans hx297_0
           replace p297 := eq_true p297
           replace q297 := eq_true q297
           have p17 : 0 ≤ (qA : Int) := of_decide_eq_true za
           have q17 : (qA : Int) < ((qC.length : Int) : Int) := of_decide_eq_true za
           obtain ⟨go17, qM, eo17, qH, gl17, cl17, HG17⟩ := Kd.R_form qB.out (by omega)
           (first | cases eo17 | (injection eo17 with ea_ en_ ec_; (first | subst ea_ | (injection ea_ with ea_; subst ea_)); subst ec_; clear en_))
           have GB17 := aM qH
           have GG17 := aM HG17
           clear qH gl17 HG17
           obtain ⟨hx17_0, hf17_0⟩ := Kd.R_celln 0 qB.out (qA : Int) p17 q17
           replace p17 := eq_true p17
           replace q17 := eq_true q17
           have HP18 := Kd.R_putg qB.out (qA : Int) ((IntKind.u64.wrap (qD + (IntKind.u64.wrap (rd l1 qA)))) % 4294967296)
           go_wp2_with (first | ((with_reducible refine gate_store (t := 76) (p := 46) rfl ?_); refine store_event (t := 76) (p := 46) (v := ?vo_w19) (w1 := (wr.setCell ⟨go17, (qA : Int).toNat, none⟩ (.int .u32 ((IntKind.u64.wrap (qD + (IntKind.u64.wrap (rd l1 qA)))) % 4294967296)))) ?hg ?ho ?hn ?hr ?_; (case ho => rfl); (case hg => rfl); (case hn => rfl); (case hr => first | (go_simp; done) | (go_simp; rfl)); intro w19 hw; have hg : wr.grownBy w19 (some go17) := (by rw [hw]; exact HP18.2); have hp_ : Kd.R (Kd.int .u32) 76 w19 w.heap.size (fun k_ => (w.heap.size ≤ k_)) (.slice (some ⟨go17, 0, none⟩) qC.length qM) y300 := (by rw [hw, Ny300.out]; exact HP18.1); clear HP18; replace qB := aM (hp_); replace HB := aM ((by rw [hw]; exact below_set (HB.out) GB17.out : Below w.heap.size w w19)); clear hg hw hp_))
           go_roundg k1
           case measure => have := HK1.out; omega
           case rel => exact ⟨(y300), ((IntKind.u64.wrap (qD + (IntKind.u64.wrap (rd l1 qA)))) / 4294967296), (wrap64 (qA + 1)), zT, zT, H', ⟨by have := HK1.out; omega⟩, ⟨lR qB⟩, ⟨zB HB⟩⟩
          ·rw [if_neg c16] at H
           exact absurd H (by simp)
        ·rw [if_neg c10] at H
         exact absurd H (by simp)
       ·rw [if_neg c9] at H
        exact absurd H (by simp)
      ·rw [if_neg c8] at H
       have c8b0 := decide_eq_false c8
       clear c8
       by_cases c20 : 0 ≤ (l1.length : Int)
       ·rw [if_pos c20] at H
        have c20b0 := decide_eq_true c20
        have c20b1 : decide (0 ≤ l1.length) = true := decide_eq_true (by omega)
        clear c20
        by_cases c21 : (l1.length : Int) < (qC.length : Int)
        ·rw [if_pos c21] at H
         have c21b0 := decide_eq_true c21
         have c21b1 : decide (l1.length < qC.length) = true := decide_eq_true (Int.ofNat_lt.mp c21)
         clear c21
         obtain ⟨y301, hy301⟩ : ∃ y_ : List Int, y_ = (qC.set ((l1.length : Int) : Int).toNat ((qD) % 4294967296)) := ⟨_, rfl⟩
         replace H : ((limb_trim.f k1 y301).bind fun qE => (some qE)) = some r := zH hy301 H
         have Ny301 := aM hy301
         clear hy301
         replace H := zbs H
         obtain ⟨qE, A230, H⟩ := H
         replace H : (some qE) = some r := H
         have A23 := aM A230
         clear A230
         obtain rfl := Option.some.inj H
         have p22 : 0 ≤ ((l1.length : Int) : Int) := of_decide_eq_true za
         have q22 : ((l1.length : Int) : Int) < ((qC.length : Int) : Int) := of_decide_eq_true za
         obtain ⟨go22, qF, eo22, qI, gl22, cl22, HG22⟩ := Kd.R_form qB.out (by omega)
         (first | cases eo22 | (injection eo22 with ea_ en_ ec_; (first | subst ea_ | (injection ea_ with ea_; subst ea_)); subst ec_; clear en_))
         have GB22 := aM qI
         have GG22 := aM HG22
         clear qI gl22 HG22
         obtain ⟨hx22_0, hf22_0⟩ := Kd.R_celln 0 qB.out ((l1.length : Int) : Int) p22 q22
         (try simp only [Int.toNat_natCast] at hx22_0); (try simp only [Int.toNat_natCast] at hf22_0)
         replace p22 := eq_true p22
         replace q22 := eq_true q22
         have HP24 := Kd.R_putg qB.out ((l1.length : Int) : Int) ((qD) % 4294967296)
         go_wp2_with (first | ((with_reducible refine gate_store (t := 76) (p := 55) rfl ?_); refine store_event (t := 76) (p := 55) (v := ?vo_w25) (w1 := (wr.setCell ⟨go22, l1.length, none⟩ (.int .u32 ((qD) % 4294967296)))) ?hg ?ho ?hn ?hr ?_; (case ho => rfl); (case hg => rfl); (case hn => rfl); (case hr => first | (go_simp; done) | (go_simp; rfl)); intro w25 hw; have hg : wr.grownBy w25 (some go22) := (by rw [hw]; exact HP24.2); have hp_ : Kd.R (Kd.int .u32) 76 w25 w.heap.size (fun k_ => (w.heap.size ≤ k_)) (.slice (some ⟨go22, 0, none⟩) qC.length qF) y301 := (by rw [hw, Ny301.out]; exact HP24.1); clear HP24; replace qB := aM (hp_); replace HB := aM ((by rw [hw]; exact below_set (HB.out) GB22.out : Below w.heap.size w w25)); clear hg hw hp_) | ((with_reducible refine gate_callee (f := 65) rfl ?_); refine z13_ (some 57) rfl rfl Tryd.func65 zk rfl #[.slice (some ⟨go22, 0, none⟩) y301.length qF] rfl (by (try simp only [List.map_toArray, List.map_cons, List.map_nil]); first | done | (rw [show y301.length = qC.length from (Kd.z9_ qB.out).1.symm] <;> rfl) | rfl | (simp only [List.length_drop, List.length_take]; rfl)) ?_; (with_reducible refine (limb_trim.calls k1 (fun k_ => some k_ = (.slice (some ⟨go22, 0, none⟩) qC.length qF : Value).ownBlock) _ _ y301 qE _ ?side1 A23.out).mono ?_); (case side1 => rw [show y301.length = qC.length from (Kd.z9_ qB.out).1.symm]; exact Kd.R_V (Kd.R_tight rfl (qB.out))); rintro e w26 ⟨v303, rfl, ho0, hb⟩; refine ⟨_, rfl, ?_⟩; have qK := aM (Kd.V_lower (Kd.V_mono (ok' := fun k_ => (w.heap.size ≤ k_)) ho0 (fun k_ hk_ => Or.elim hk_ (fun hs_ => ((qB.out).1 k_ hs_.symm)) (fun hn_ => (Nat.le_trans (z4_ (lB HB)) hn_)))) (z4_ (lB HB))); replace qB := aM (Kd.z7_ (lR qB) hb); replace HB := aM (z6_ (lB HB) hb); (try clear hb); (try clear ho0)))
         go_ret
         exact ⟨_, by first | rfl | (simp [errW_none, errW_some] <;> rfl) | (simp only [← hji3]; first | rfl | (simp [errW_none, errW_some] <;> rfl)) | (simp [*, errW_none, errW_some] <;> rfl), by (with_reducible repeat (first | apply Kd.V_alloc | apply Kd.V_drewN | apply Kd.V_drew)); exact qK.out, zB HB⟩
        ·rw [if_neg c21] at H
         exact absurd H (by simp)
       ·rw [if_neg c20] at H
        exact absurd H (by simp)
   ·rw [if_neg c5] at H
    exact absurd H (by simp)
  ·rw [if_neg c4] at H
   exact absurd H (by simp)
 ·rw [if_neg cs] at h
  have csb0 : decide ((l0.length : Int) < (l1.length : Int)) = false := decide_eq_false cs
  have csb1 : decide (l0.length < l1.length) = false := decide_eq_false (by omega)
  have csb2 : ((l0.length : Int) < (l1.length : Int)) = False := eq_false cs
  have csb3 : (l0.length < l1.length) = False := eq_false (by omega)
  have HR0 := aM hr0
  have HC0 := aM hc0
  clear hr0 hc0
  have HR1 := aM hr1
  have HC1 := aM hc1
  clear hr1 hc1
  have HB := aM (Below.refl w.heap.size w)
  have H : (if 0 ≤ (wrap64 ((l0.length : Int) + 1)) then (if (wrap64 ((l0.length : Int) + 1) : Int).toNat ≤ 70368744177664 then (limb_Add.l0 k l0 l1 (List.replicate (wrap64 ((l0.length : Int) + 1) : Int).toNat 0) 0 l0 (l0.length : Int) 0) else (none)) else (none)) = some r := h
  clear h
  obtain ⟨ji3, hji3⟩ : ∃ j_ : Int, (wrap64 ((l0.length : Int) + 1)) = j_ := ⟨_, rfl⟩
  replace H : (if 0 ≤ (ji3) then (if (ji3 : Int).toNat ≤ 70368744177664 then (limb_Add.l0 k l0 l1 (List.replicate (ji3 : Int).toNat 0) 0 l0 (l0.length : Int) 0) else (none)) else (none)) = some r := by first | (rw [hji3] at H; exact H) | (simp only [hji3] at H ⊢; exact H)
  have hji3w : (IntKind.i64.wrap ((l0.length : Int) + 1)) = ji3 := (i64_w _).trans hji3
  by_cases c4 : 0 ≤ (ji3)
  ·rw [if_pos c4] at H
   have c4b0 := eq_true c4
   have c4b1 := decide_eq_true c4
   clear c4
   by_cases c5 : (ji3 : Int).toNat ≤ 70368744177664
   ·rw [if_pos c5] at H
    have c5b0 := eq_true c5
    have c5b1 := decide_eq_true c5
    clear c5
    obtain ⟨y294, hy294⟩ : ∃ y_ : List Int, y_ = (List.replicate (ji3 : Int).toNat 0) := ⟨_, rfl⟩
    replace H : (limb_Add.l0 k l0 l1 y294 0 l0 (l0.length : Int) 0) = some r := zH hy294 H
    have Ny294 := aM hy294
    clear hy294
    have H' := aM H
    clear H
    go_enter Tryd.func53, Tryd.ntmps53
    go_wp2_with (first | ((with_reducible refine gate_dst (N := 19) rfl ?_); refine Kd.R_make (Kd.int .u32) _ 76 rfl (N := 19) rfl 37 _ _ rfl ji3 rfl rfl Tryd.underlying37 (.int .u32 0) 4 info76 rfl (by decide) (by omega) 0 (ok := fun _ => True) (okp := fun _ => True) rfl (fun _ hk => hk) trivial (of_decide_eq_true za) (Nat.le_trans (Nat.mul_le_mul_right _ (of_decide_eq_true za : ji3.toNat ≤ 70368744177664)) (by omega)) (Below.refl _ _) (Nat.le_refl _) ?_; intro v295 w6 ho7 hb hg_ hnew_; clear hg_ hnew_; (first | rw [← Ny294.out] at ho7 | (simp only [Int.reduceToNat] at ho7; rw [← Ny294.out] at ho7)); have qJ := aM (Kd.z20_ (Kd.R_newM (M := fun k_ => (w.heap.size ≤ k_)) ho7 (z4_ (lB HB)) (fun k_ h_ => h_)) (z4_ (lB HB))); replace HB := aM (z6_ (lB HB) hb); clear hb ho7))
    go_loopg [6, 22] k (fun kq v6 v22 w' => ∃ (qC : List Int) (qD : Int) (qA : Int), v6 = .int .u64 qD ∧ v22 = .int .i64 qA ∧ Aside0 (limb_Add.l0 kq l0 l1 qC qD l0 (l0.length : Int) qA = some r) ∧ Aside0 (kq ≤ k) ∧ Aside0 (Kd.R (Kd.int .u32) 76 w' w.heap.size (fun k_ => (w.heap.size ≤ k_)) v295 qC) ∧ Aside0 (Below w.heap.size w w'))
    case atStart => exact ⟨(y294), (0), (0), zT, zT, H', ⟨Nat.le_refl _⟩, ⟨by apply rX; exact Kd.z0_ qJ.out (fun _ hk => hk.1)⟩, ⟨zB HB⟩⟩
    case round =>
     clear H'
     try clear c1
     try clear c4
     try clear c5
     obtain ⟨qC, qD, qA, rfl, rfl, HA, HK1, qB, HB⟩ := hrel
     cases gk with
     | zero => exact absurd HA.out (by simp [limb_Add.l0])
     | succ k1 =>
      have H := HA.out
      clear HA
      simp only [limb_Add.l0] at H
      by_cases c8 : qA < (l0.length : Int)
      ·rw [if_pos c8] at H
       have c8b0 := decide_eq_true c8
       clear c8
       by_cases c9 : 0 ≤ qA
       ·rw [if_pos c9] at H
        have c9b0 := decide_eq_true c9
        clear c9
        by_cases c10 : qA < (l0.length : Int)
        ·rw [if_pos c10] at H
         have c10b0 := decide_eq_true c10
         clear c10
         by_cases c11 : qA < (l1.length : Int)
         ·rw [if_pos c11] at H
          have c11b0 := decide_eq_true c11
          clear c11
          by_cases c12 : qA < (qC.length : Int)
          ·rw [if_pos c12] at H
           have c12b0 := decide_eq_true c12
           clear c12
           obtain ⟨y299, hy299⟩ : ∃ y_ : List Int, y_ = (qC.set (qA : Int).toNat ((IntKind.u64.wrap ((IntKind.u64.wrap (qD + (IntKind.u64.wrap (rd l0 qA)))) + (IntKind.u64.wrap (rd l1 qA)))) % 4294967296)) := ⟨_, rfl⟩
           replace H : (limb_Add.l0 k1 l0 l1 y299 ((IntKind.u64.wrap ((IntKind.u64.wrap (qD + (IntKind.u64.wrap (rd l0 qA)))) + (IntKind.u64.wrap (rd l1 qA)))) / 4294967296) l0 (l0.length : Int) (wrap64 (qA + 1))) = some r := zH hy299 H
           have Ny299 := aM hy299
           clear hy299
           have H' := aM H
           clear H
           have p297 : 0 ≤ (qA : Int) := of_decide_eq_true za
           have q297 : qA < (l0.length : Int) := of_decide_eq_true za
           obtain ⟨ad297, e297, hx297_0⟩ := Kd.at_int HR0.out qA p297 q297
           cases e297
           replace hx297_0 := (HB.out.cell (World.block_lt_of_cell? w _ hx297_0)).trans hx297_0
           replace p297 := eq_true p297
           replace q297 := eq_true q297
           have p298 : 0 ≤ (qA : Int) := of_decide_eq_true za
           have q298 : qA < (l1.length : Int) := of_decide_eq_true za
           obtain ⟨ad298, e298, hx298_0⟩ := Kd.at_int HR1.out qA p298 q298
           cases e298
           replace hx298_0 := (HB.out.cell (World.block_lt_of_cell? w _ hx298_0)).trans hx298_0
           replace p298 := eq_true p298
           replace q298 := eq_true q298
           have p13 : 0 ≤ (qA : Int) := of_decide_eq_true za
           have q13 : (qA : Int) < ((qC.length : Int) : Int) := of_decide_eq_true za
           obtain ⟨go13, qL, eo13, qG, gl13, cl13, HG13⟩ := Kd.R_form qB.out (by omega)
           (first | cases eo13 | (injection eo13 with ea_ en_ ec_; (first | subst ea_ | (injection ea_ with ea_; subst ea_)); subst ec_; clear en_))
           have GB13 := aM qG
           have GG13 := aM HG13
           clear qG gl13 HG13
           obtain ⟨hx13_0, hf13_0⟩ := Kd.R_celln 0 qB.out (qA : Int) p13 q13
           replace p13 := eq_true p13
           replace q13 := eq_true q13
           have HP14 := Kd.R_putg qB.out (qA : Int) ((IntKind.u64.wrap ((IntKind.u64.wrap (qD + (IntKind.u64.wrap (rd l0 qA)))) + (IntKind.u64.wrap (rd l1 qA)))) % 4294967296)
           go_wp2_with (first | ((with_reducible refine gate_store (t := 76) (p := 46) rfl ?_); refine store_event (t := 76) (p := 46) (v := ?vo_w15) (w1 := (wr.setCell ⟨go13, (qA : Int).toNat, none⟩ (.int .u32 ((IntKind.u64.wrap ((IntKind.u64.wrap (qD + (IntKind.u64.wrap (rd l0 qA)))) + (IntKind.u64.wrap (rd l1 qA)))) % 4294967296)))) ?hg ?ho ?hn ?hr ?_; (case ho => rfl); (case hg => rfl); (case hn => rfl); (case hr => first | (go_simp; done) | (go_simp; rfl)); intro w15 hw; have hg : wr.grownBy w15 (some go13) := (by rw [hw]; exact HP14.2); have hp_ : Kd.R (Kd.int .u32) 76 w15 w.heap.size (fun k_ => (w.heap.size ≤ k_)) (.slice (some ⟨go13, 0, none⟩) qC.length qL) y299 := (by rw [hw, Ny299.out]; exact HP14.1); clear HP14; replace qB := aM (hp_); replace HB := aM ((by rw [hw]; exact below_set (HB.out) GB13.out : Below w.heap.size w w15)); clear hg hw hp_))
           go_roundg k1
           case measure => have := HK1.out; omega
           case rel => exact ⟨(y299), ((IntKind.u64.wrap ((IntKind.u64.wrap (qD + (IntKind.u64.wrap (rd l0 qA)))) + (IntKind.u64.wrap (rd l1 qA)))) / 4294967296), (wrap64 (qA + 1)), zT, zT, H', ⟨by have := HK1.out; omega⟩, ⟨lR qB⟩, ⟨zB HB⟩⟩
          ·rw [if_neg c12] at H
           exact absurd H (by simp)
         ·rw [if_neg c11] at H
          have c11b0 := decide_eq_false c11
          clear c11
          by_cases c16 : qA < (qC.length : Int)
          ·rw [if_pos c16] at H
           have c16b0 := decide_eq_true c16
           clear c16
           obtain ⟨y300, hy300⟩ : ∃ y_ : List Int, y_ = (qC.set (qA : Int).toNat ((IntKind.u64.wrap (qD + (IntKind.u64.wrap (rd l0 qA)))) % 4294967296)) := ⟨_, rfl⟩
           replace H : (limb_Add.l0 k1 l0 l1 y300 ((IntKind.u64.wrap (qD + (IntKind.u64.wrap (rd l0 qA)))) / 4294967296) l0 (l0.length : Int) (wrap64 (qA + 1))) = some r := zH hy300 H
           have Ny300 := aM hy300
           clear hy300
           have H' := aM H
           clear H
           have p297 : 0 ≤ (qA : Int) := of_decide_eq_true za
           have q297 : qA < (l0.length : Int) := of_decide_eq_true za
           obtain ⟨ad297, e297, hx297_0⟩ := Kd.at_int HR0.out qA p297 q297
           cases e297
           replace hx297_0 := (HB.out.cell (World.block_lt_of_cell? w _ hx297_0)).trans hx297_0
           replace p297 := eq_true p297
           replace q297 := eq_true q297
           have p17 : 0 ≤ (qA : Int) := of_decide_eq_true za
           have q17 : (qA : Int) < ((qC.length : Int) : Int) := of_decide_eq_true za
           obtain ⟨go17, qM, eo17, qH, gl17, cl17, HG17⟩ := Kd.R_form qB.out (by omega)
           (first | cases eo17 | (injection eo17 with ea_ en_ ec_; (first | subst ea_ | (injection ea_ with ea_; subst ea_)); subst ec_; clear en_))
           have GB17 := aM qH
           have GG17 := aM HG17
           clear qH gl17 HG17
           obtain ⟨hx17_0, hf17_0⟩ := Kd.R_celln 0 qB.out (qA : Int) p17 q17
           replace p17 := eq_true p17
           replace q17 := eq_true q17
           have HP18 := Kd.R_putg qB.out (qA : Int) ((IntKind.u64.wrap (qD + (IntKind.u64.wrap (rd l0 qA)))) % 4294967296)
           go_wp2_with (first | ((with_reducible refine gate_store (t := 76) (p := 46) rfl ?_); refine store_event (t := 76) (p := 46) (v := ?vo_w19) (w1 := (wr.setCell ⟨go17, (qA : Int).toNat, none⟩ (.int .u32 ((IntKind.u64.wrap (qD + (IntKind.u64.wrap (rd l0 qA)))) % 4294967296)))) ?hg ?ho ?hn ?hr ?_; (case ho => rfl); (case hg => rfl); (case hn => rfl); (case hr => first | (go_simp; done) | (go_simp; rfl)); intro w19 hw; have hg : wr.grownBy w19 (some go17) := (by rw [hw]; exact HP18.2); have hp_ : Kd.R (Kd.int .u32) 76 w19 w.heap.size (fun k_ => (w.heap.size ≤ k_)) (.slice (some ⟨go17, 0, none⟩) qC.length qM) y300 := (by rw [hw, Ny300.out]; exact HP18.1); clear HP18; replace qB := aM (hp_); replace HB := aM ((by rw [hw]; exact below_set (HB.out) GB17.out : Below w.heap.size w w19)); clear hg hw hp_))
           go_roundg k1
           case measure => have := HK1.out; omega
           case rel => exact ⟨(y300), ((IntKind.u64.wrap (qD + (IntKind.u64.wrap (rd l0 qA)))) / 4294967296), (wrap64 (qA + 1)), zT, zT, H', ⟨by have := HK1.out; omega⟩, ⟨lR qB⟩, ⟨zB HB⟩⟩
          ·rw [if_neg c16] at H
           exact absurd H (by simp)
        ·rw [if_neg c10] at H
         exact absurd H (by simp)
       ·rw [if_neg c9] at H
        exact absurd H (by simp)
      ·rw [if_neg c8] at H
       have c8b0 := decide_eq_false c8
       clear c8
       by_cases c20 : 0 ≤ (l0.length : Int)
       ·rw [if_pos c20] at H
        have c20b0 := decide_eq_true c20
        have c20b1 : decide (0 ≤ l0.length) = true := decide_eq_true (by omega)
        clear c20
        by_cases c21 : (l0.length : Int) < (qC.length : Int)
        ·rw [if_pos c21] at H
         have c21b0 := decide_eq_true c21
         have c21b1 : decide (l0.length < qC.length) = true := decide_eq_true (Int.ofNat_lt.mp c21)
         clear c21
         obtain ⟨y301, hy301⟩ : ∃ y_ : List Int, y_ = (qC.set ((l0.length : Int) : Int).toNat ((qD) % 4294967296)) := ⟨_, rfl⟩
         replace H : ((limb_trim.f k1 y301).bind fun qE => (some qE)) = some r := zH hy301 H
         have Ny301 := aM hy301
         clear hy301
         replace H := zbs H
         obtain ⟨qE, A230, H⟩ := H
         replace H : (some qE) = some r := H
         have A23 := aM A230
         clear A230
         obtain rfl := Option.some.inj H
         have p22 : 0 ≤ ((l0.length : Int) : Int) := of_decide_eq_true za
         have q22 : ((l0.length : Int) : Int) < ((qC.length : Int) : Int) := of_decide_eq_true za
         obtain ⟨go22, qF, eo22, qI, gl22, cl22, HG22⟩ := Kd.R_form qB.out (by omega)
         (first | cases eo22 | (injection eo22 with ea_ en_ ec_; (first | subst ea_ | (injection ea_ with ea_; subst ea_)); subst ec_; clear en_))
         have GB22 := aM qI
         have GG22 := aM HG22
         clear qI gl22 HG22
         obtain ⟨hx22_0, hf22_0⟩ := Kd.R_celln 0 qB.out ((l0.length : Int) : Int) p22 q22
         (try simp only [Int.toNat_natCast] at hx22_0); (try simp only [Int.toNat_natCast] at hf22_0)
         replace p22 := eq_true p22
         replace q22 := eq_true q22
         have HP24 := Kd.R_putg qB.out ((l0.length : Int) : Int) ((qD) % 4294967296)
         go_wp2_with (first | ((with_reducible refine gate_store (t := 76) (p := 55) rfl ?_); refine store_event (t := 76) (p := 55) (v := ?vo_w25) (w1 := (wr.setCell ⟨go22, l0.length, none⟩ (.int .u32 ((qD) % 4294967296)))) ?hg ?ho ?hn ?hr ?_; (case ho => rfl); (case hg => rfl); (case hn => rfl); (case hr => first | (go_simp; done) | (go_simp; rfl)); intro w25 hw; have hg : wr.grownBy w25 (some go22) := (by rw [hw]; exact HP24.2); have hp_ : Kd.R (Kd.int .u32) 76 w25 w.heap.size (fun k_ => (w.heap.size ≤ k_)) (.slice (some ⟨go22, 0, none⟩) qC.length qF) y301 := (by rw [hw, Ny301.out]; exact HP24.1); clear HP24; replace qB := aM (hp_); replace HB := aM ((by rw [hw]; exact below_set (HB.out) GB22.out : Below w.heap.size w w25)); clear hg hw hp_) | ((with_reducible refine gate_callee (f := 65) rfl ?_); refine z13_ (some 57) rfl rfl Tryd.func65 zk rfl #[.slice (some ⟨go22, 0, none⟩) y301.length qF] rfl (by (try simp only [List.map_toArray, List.map_cons, List.map_nil]); first | done | (rw [show y301.length = qC.length from (Kd.z9_ qB.out).1.symm] <;> rfl) | rfl | (simp only [List.length_drop, List.length_take]; rfl)) ?_; (with_reducible refine (limb_trim.calls k1 (fun k_ => some k_ = (.slice (some ⟨go22, 0, none⟩) qC.length qF : Value).ownBlock) _ _ y301 qE _ ?side1 A23.out).mono ?_); (case side1 => rw [show y301.length = qC.length from (Kd.z9_ qB.out).1.symm]; exact Kd.R_V (Kd.R_tight rfl (qB.out))); rintro e w26 ⟨v303, rfl, ho0, hb⟩; refine ⟨_, rfl, ?_⟩; have qK := aM (Kd.V_lower (Kd.V_mono (ok' := fun k_ => (w.heap.size ≤ k_)) ho0 (fun k_ hk_ => Or.elim hk_ (fun hs_ => ((qB.out).1 k_ hs_.symm)) (fun hn_ => (Nat.le_trans (z4_ (lB HB)) hn_)))) (z4_ (lB HB))); replace qB := aM (Kd.z7_ (lR qB) hb); replace HB := aM (z6_ (lB HB) hb); (try clear hb); (try clear ho0)))
         go_ret
         exact ⟨_, by first | rfl | (simp [errW_none, errW_some] <;> rfl) | (simp only [← hji3]; first | rfl | (simp [errW_none, errW_some] <;> rfl)) | (simp [*, errW_none, errW_some] <;> rfl), by (with_reducible repeat (first | apply Kd.V_alloc | apply Kd.V_drewN | apply Kd.V_drew)); exact qK.out, zB HB⟩
        ·rw [if_neg c21] at H
         exact absurd H (by simp)
       ·rw [if_neg c20] at H
        exact absurd H (by simp)
   ·rw [if_neg c5] at H
    exact absurd H (by simp)
  ·rw [if_neg c4] at H
   exact absurd H (by simp)
end Go.Proofs.YtakmkhokbcjapaaDoor.XA
end
