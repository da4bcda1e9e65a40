/- Part 9 of the proof of the law PointAll for every input: words, walks and plain laws. No condition. -/
import Derived.RangeFuncNested
import Derived.Sort.QuietIn
import Derived.DataReads
import Derived.ChangeArms
import Derived.SizedLaws
import Derived.WideShapes
import Derived.ChangeSlices
import Derived.Test.YtfkjmmpolingbaaKPointAll8
section
/- The law PointAll's walk. -/
namespace Go.Proofs.Ytfkjmmpolingbaa.Ring
open Go.RowKit Go.Shelf Go.Proofs.YtfkjmmpolingbaaW.PrintWords Go.Proofs.YtfkjmmpolingbaaW.PrintLast Go.Proofs.YtfkjmmpolingbaaW.PrintMore Go.Proofs.Ytfkjmmpolingbaa.XA
attribute [local go_sem] Oper.semAt_some ptv
set_option linter.unusedVariables false
theorem all_in (most : Int) (w : World) : Calls Try.prog 24 #[.int .i64 most] w fun e w' => e = .returned (.func (.func 36) #[] #[.pointer (some ⟨w.heap.size, 0, none⟩)]) ∧ w' = w.alloc (.cells #[.int .i64 most] 3) := by
  go_enter Try.func24, Try.ntmps24
  go_wp2
  go_ret
  exact ⟨rfl, rfl⟩
theorem all_stops (n₀ Bm : Nat) (most : Int) (w : World) (hBm : Bm < n₀) (hn : n₀ ≤ w.heap.size) (hc : w.cell? ⟨Bm, 0, none⟩ = some (.int .i64 most)) :
    SeqStopsK Fence.wide 5 Try.prog 36 #[.pointer (some ⟨Bm, 0, none⟩)] (fun p : Pt => #[ptv p]) (Below n₀) (fun ys => ys = allL most) (fun pre => pre <+: allL most) (allL most).length w := fun l J Jx W hW hJ _ hY h0 =>
  callsIn_wide.2 <| callsIn_wide.1 <| all1_in l n₀ W.heap.size Bm most J Jx hJ (fun m pre x W1 hj hl => YieldAt.anyDepth rfl m (hY pre x W1 hj hl)) W hBm (Nat.le_trans hn hW.size) ((hW.cell (p := ⟨Bm, 0, none⟩) (Nat.lt_of_lt_of_le hBm hn)).trans hc) h0
def toP (x : S23) : Pt := (x.f0, x.f1)
def pall (k : Nat) (a0 a1 : Int) : Option Bool := (swagelaw06_live.f k).bind fun t => if t = true then ((swageref06_All.f k a0).bind fun want => if want.map toP = allL a0 then some true else none) else none
theorem len_all16 : ((List.range 17).all fun n => decide ((allTo n).length ≤ 2000)) = true := by decide +kernel
theorem len_all (a : Int) : (allL a).length ≤ 2000 := by
  unfold allL
  split
  · simp
  · split
    · simp
    · have := List.all_eq_true.1 len_all16 a.toNat (by simp; omega)
      simpa using this
def noDefer (o : Oper) : Bool := match o.op with
  | .defer _ => false
  | _ => true
theorem noDefer_ne {o : Oper} (h : noDefer o = true) : ∀ c, o.op ≠ .defer c := by
  intro c e
  unfold noDefer at h
  rw [e] at h
  cases h
section
variable {F : Fence} {n : Nat} {P : Program} {ops : Array Oper} {C : World → Prop} {md : Region.Mode}
theorem wpIn_of_quiet_r {o : Oper} {a : Act} {K : Act → Prop} {K' : Act → World → Prop} {Q' : Exit → Act → World → Prop} {w : World} (hro : noDefer o = true) (hw : C w) (h : ∀ a w', C w' → K a → K' a w')
    (ha : o.askedIn F P a C) (hh : o.quietIn F n P a C K) : o.wpIn F n P a w K' Q' := by
  obtain ⟨v, h1, h2⟩ := hh
  have h3 := h1 w hw
  unfold Oper.quietAtIn at h3
  unfold Oper.wpIn
  refine ⟨ha w hw, ?_⟩
  rw [Oper.semAt_eq _ _ _ (noDefer_ne hro)]
  generalize (execOp a.eval o).run P w = r at *
  cases r with
  | ok x w' =>
    cases x <;> simp only [Oper.quietUponIn] at h3 <;> simp only [Oper.uponIn]
    case value u =>
      obtain ⟨e1, e2⟩ := h3
      rw [e1, e2]
      exact h _ _ hw h2
    case skip =>
      obtain ⟨e1, e2⟩ := h3
      rw [e1, ← e2]
      exact h _ _ hw h2
    case enter f args =>
      obtain ⟨e1, hd, hc⟩ := h3
      rw [e1]
      exact ⟨hd, hc.mono fun e w'' ⟨he, hw''⟩ => by subst he; exact h _ _ hw'' h2⟩
  | halt x w' => simp only [Oper.quietUponIn] at h3
theorem wpOpIn_of_qOpIn_r {i : Nat} {a : Act} {K : Act → Prop} {K' : Act → World → Prop} {Q' : Exit → Act → World → Prop} {w : World} (hro : ops.toList.all noDefer = true) (hC : C w) (h : ∀ a w', C w' → K a → K' a w')
    (hh : qOpIn F n P ops C i K a) : wpOpIn F n P ops Q' i K' a w := by
  unfold qOpIn at hh
  unfold wpOpIn
  split
  · rename_i ho; simp only [ho] at hh; exact h _ _ hC hh
  · rename_i o ho
    simp only [ho] at hh
    obtain ⟨ha, hh⟩ := hh
    have hnd : noDefer o = true := List.all_eq_true.1 hro o (by rw [← Array.getElem?_toList] at ho; exact List.mem_of_getElem? ho)
    split
    · rename_i hw; simp only [hw, if_true] at hh; exact wpIn_of_quiet_r hnd hC h ha hh
    · rename_i hw; simp only [hw] at hh; exact ⟨ha w hC, h _ _ hC hh⟩
theorem wpAnyIn_of_quiet_r {Q : Act → Prop} {Q' : Exit → Act → World → Prop} (hro : ops.toList.all noDefer = true) (hQ : ∀ a w, C w → Q a → Q' .normal a w) : ∀ (fuel : Nat) (listed : Array Bool) (a : Act) (w : World), C w →
    wpAnyQIn F n P md ops C Q fuel listed a → wpAnyIn F n P md ops Q' fuel listed a w
  | 0, _, _, _, hw, h => ⟨h.1, hQ _ _ hw h.2⟩
  | fuel + 1, _, _, _, hw, h => ⟨fun h0 => hQ _ _ hw (h.1 h0), fun i hi => wpOpIn_of_qOpIn_r hro hw (fun a' w' hw' => wpAnyIn_of_quiet_r hro hQ fuel _ a' w' hw') (h.2 i hi)⟩
theorem region_quiet_r {id : Nat} {Q : Exit → Act → World → Prop} {a : Act} {w : World} {l : List Oper} (hro : l.all noDefer = true) (hm : P.follows .mixedOrders = true) (hB : Region.lexB .any l.toArray = true)
    (h : wpQuietIn F n P l.toArray (fun w' => ∃ n, w' = w.drewN n) (fun a' => ∀ w', (∃ n, w' = w.drewN n) → Q .normal a' w') l a) : (Code.region id l.toArray true).wpIn F n P Q a w := by
  simp only [Region.lexB, Bool.and_eq_true] at hB
  refine wpIn_region_any hm (wpAnyIn_of_quiet_r (C := fun w' => ∃ n, w' = w.drewN n) (Q := fun a' => ∀ w', (∃ n, w' = w.drewN n) → Q .normal a' w') hro (fun _ w' hw' h => h w' hw') _ _ _ _ ⟨1, rfl⟩ ?_)
  have := wpAnyQIn_lex (F := F) (n := n) (C := fun w' => ∃ n, w' = w.drewN n) (md := .any) hB.1 l 0 (Array.replicate l.toArray.size false) a (by simp) (by simpa using hB.2) (by simpa using h)
  simpa using this
end
theorem keeps_drewN (W : World) (k : Nat) : KeepsOthers W (W.drewN k) := ⟨Nat.le_refl _, fun _ _ h _ => h⟩
theorem with_tmps {F : Fence} {n : Nat} {P : Program} {c : Code} {Q : Exit → Act → World → Prop} {a : Act} {w : World} (h : ∀ T, T = a.tmps → c.wpIn F n P Q a w) : c.wpIn F n P Q a w := h _ rfl
theorem pcell_own (g : Nat) (f : Pt → Int) (f' : Pt → Int) (x : Pt) (B : Nat) : OwnFrom B (fun (_ : Unit) W => PCell W g (f x) (f' x)) := by
  intro s W W' row hs hg hr
  have h2 : ∀ r, row = some r → ∃ o : Obj, W.heap[r]? = some o ∧ o.isCells = false := fun r e => (hr r e).2
  exact ⟨cell_kept hs.1 hg h2, cell_kept hs.2.1 hg h2, Nat.lt_of_lt_of_le hs.2.2 hg.size⟩
theorem pre_snoc {pre L : List Pt} {x : Pt} (h : pre <+: L) : pre ++ [x] <+: L ↔ ∃ hl : pre.length < L.length, L[pre.length] = x := by
  obtain ⟨t, rfl⟩ := h
  rw [List.prefix_append_right_inj]
  cases t with
  | nil => simp
  | cons y t => simp [List.cons_prefix_cons, eq_comm]
set_option maxRecDepth 100000 in
set_option maxHeartbeats 8000000 in
theorem pall_calls (k : Nat) (a0 a1 : Int) (r : Bool) (w : World) (h : pall k a0 a1 = some r) :
    Calls Try.prog 6 #[.int .i64 a0, .int .i64 a1] w fun e w' => e = .returned (.bool r) ∧ Below w.heap.size w w' := by
  unfold pall at h
  obtain ⟨t, hlive, h⟩ := Option.bind_eq_some_iff.mp h
  obtain rfl : t = true := swagelaw06_live.tells k t hlive
  rw [if_pos rfl] at h
  obtain ⟨want, hall, h⟩ := Option.bind_eq_some_iff.mp h
  by_cases he : want.map toP = allL a0
  case neg => rw [if_neg he] at h; cases h
  rw [if_pos he] at h
  obtain rfl := Option.some.inj h
  have HE := Aside0.mk he
  have HLIVE := Aside0.mk hlive
  have HALL := Aside0.mk hall
  clear h he hlive hall
  refine (callsIn_wide (n := 6)).1 ?_
  refine callsIn_of_wp_marks Try.func6 rfl trivial ?_ rfl
  simp only [Try.ntmps6, List.size_toArray, List.length_cons, List.length_nil, Nat.reduceAdd, Nat.reduceSub, Array.replicate_succ, Array.replicate_zero, List.push_toArray, List.append_toArray, List.nil_append, List.cons_append]
  gi_wp2_with fail
  refine ⟨trivial, ?_⟩
  refine (callsIn_wide.2 (swagelaw06_live.calls k true _ HLIVE.out)).mono ?_
  rintro e w1 ⟨rfl, hb1⟩
  have bS0 := (Boxed.new w 3 (.int .i64 a1)).alloc (.cells #[.bool false] 4)
  have bR0 := Boxed.new (w.alloc (.cells #[.int .i64 a1] 3)) 4 (.bool false)
  rw [World.size_alloc] at bR0
  have bS1 : Boxed w1 w.heap.size 3 (.int .i64 a1) := (hb1.block _ bS0.lt).trans bS0
  have bR1 : Boxed w1 (w.heap.size + 1) 4 (.bool false) := (hb1.block _ bR0.lt).trans bR0
  have hB1 : Below w.heap.size w w1 := below_step (below_alloc (below_alloc (Below.refl _ _) _) _) hb1
  clear hb1 bS0 bR0
  gi_wp2_with fail
  refine ⟨trivial, ?_⟩
  refine (callsIn_wide.2 (swageref06_All.calls k a0 want _ HALL.out)).mono ?_
  rintro e w2 ⟨v0, rfl, hR, hb2⟩
  obtain ⟨A, c, rfl⟩ := Kd.R_slice hR
  have hC2 : Kd.C k23 w2 A want.length want := (Kd.R_reads' hR).2.2
  clear hR
  have bS2 : Boxed w2 w.heap.size 3 (.int .i64 a1) := (hb2.block _ bS1.lt).trans bS1
  have bR2 : Boxed w2 (w.heap.size + 1) 4 (.bool false) := (hb2.block _ bR1.lt).trans bR1
  have hB2 : Below w.heap.size w w2 := below_step hB1 hb2
  clear hb2 bS1 bR1 hB1
  gi_wp2_with fail
  refine ⟨trivial, ?_⟩
  refine (callsIn_wide.2 (all_in a0 _)).mono ?_
  rintro e w3 ⟨rfl, rfl⟩
  have hnf : ∀ (lb : Array Value) (W : World), Sem.run Try.prog (binOp BinOp.eql 46 (.func (.func 36) #[] lb) Value.nilFunc) W = .ok (.bool false) W := fun _ _ => by kernel_rfl
  gi_wp2_with fail
  refine ⟨trivial, ?_⟩
  refine (callsIn_wide.2 (swagelaw06_live.calls k true _ HLIVE.out)).mono ?_
  rintro e w4 ⟨rfl, hb4⟩
  have bS4 : Boxed w4 w.heap.size 3 (.int .i64 a1) := (hb4.block _ ((bS2.alloc _).alloc _).lt).trans ((bS2.alloc _).alloc _)
  have bR4 : Boxed w4 (w.heap.size + 1) 4 (.bool false) := (hb4.block _ ((bR2.alloc _).alloc _).lt).trans ((bR2.alloc _).alloc _)
  have bW3 := (Boxed.new w2 36 (.slice A want.length c)).alloc (.cells #[.int .i64 a0] 3)
  have bM3 := Boxed.new (w2.alloc (.cells #[.slice A want.length c] 36)) 3 (.int .i64 a0)
  rw [World.size_alloc] at bM3
  have bW4 : Boxed w4 w2.heap.size 36 (.slice A want.length c) := (hb4.block _ bW3.lt).trans bW3
  have bM4 : Boxed w4 (w2.heap.size + 1) 3 (.int .i64 a0) := (hb4.block _ bM3.lt).trans bM3
  have hC4 : Kd.C k23 w4 A want.length want := Kd.C_below hC2 (below_step (below_alloc (below_alloc (Below.refl _ _) _) _) hb4)
  have hB4 : Below w.heap.size w w4 := below_step (below_alloc (below_alloc hB2 _) _) hb4
  clear hb4 bW3 bM3 bS2 bR2 hC2 hB2
  gi_wp2_with fail
  have bN5 := Boxed.new w4 3 (.int .i64 0)
  have bS5 := bS4.alloc (.cells #[.int .i64 0] 3)
  have bR5 := bR4.alloc (.cells #[.int .i64 0] 3)
  have bW5 := bW4.alloc (.cells #[.int .i64 0] 3)
  have bM5 := bM4.alloc (.cells #[.int .i64 0] 3)
  have hC5 : Kd.C k23 (w4.alloc (.cells #[.int .i64 0] 3)) A want.length want := Kd.C_below hC4 (below_alloc (Below.refl _ _) _)
  have hB5 : Below w.heap.size w (w4.alloc (.cells #[.int .i64 0] 3)) := below_alloc hB4 _
  clear bS4 bR4 bW4 bM4 hC4 hB4
  obtain ⟨W5, hW5⟩ : ∃ W5, w4.alloc (.cells #[.int .i64 0] 3) = W5 := ⟨_, rfl⟩
  obtain ⟨N, hN⟩ : ∃ N, w4.heap.size = N := ⟨_, rfl⟩
  rw [hW5] at bN5 bS5 bR5 bW5 bM5 hC5 hB5 ⊢
  rw [hN] at bN5 ⊢
  clear hW5 hN
  refine wpIn_loop_rounds 3 ?_
  rw [roundsIn_succ]
  have cN5 := bN5.cell
  gi_wp2_with fail
  have bG6 := Boxed.new W5 3 (.int .i64 0)
  have bN6 := bN5.alloc (.cells #[.int .i64 0] 3)
  have bS6 := bS5.alloc (.cells #[.int .i64 0] 3)
  have bR6 := bR5.alloc (.cells #[.int .i64 0] 3)
  have bW6 := bW5.alloc (.cells #[.int .i64 0] 3)
  have bM6 := bM5.alloc (.cells #[.int .i64 0] 3)
  have hB56 : Below W5.heap.size W5 (W5.alloc (.cells #[.int .i64 0] 3)) := below_alloc (Below.refl _ _) _
  have hB6 : Below w.heap.size w (W5.alloc (.cells #[.int .i64 0] 3)) := below_alloc hB5 _
  have hN6 := bN5.lt
  have hS6 := bS5.lt
  have hR6 := bR5.lt
  have hW6' := bW5.lt
  have hM6 := bM5.lt
  have hz6 : (W5.alloc (.cells #[.int .i64 0] 3)).heap.size = W5.heap.size + 1 := World.size_alloc ..
  have hwz : w.heap.size ≤ W5.heap.size := hB5.size
  clear bN5 bS5 bR5 bW5 bM5 hB5 cN5
  obtain ⟨W6, hW6⟩ : ∃ W6, W5.alloc (.cells #[.int .i64 0] 3) = W6 := ⟨_, rfl⟩
  obtain ⟨G, hG⟩ : ∃ G, W5.heap.size = G := ⟨_, rfl⟩
  rw [hW6] at bG6 bN6 bS6 bR6 bW6 bM6 hB56 hB6 hz6 ⊢
  rw [hG] at bG6 hN6 hS6 hR6 hW6' hM6 hz6 hwz hB56 ⊢
  have HG := Aside0.mk hG
  clear hW6 hG
  refine with_tmps ?_
  intro T hT
  dsimp only at hT
  refine wpIn_rangeFunc_ownH (n := 6) rfl (by omega) (gf := 36) (lb := #[.pointer (some ⟨w2.heap.size + 1, 0, none⟩)]) rfl trivial (enters_of Try.func36 (by kernel_rfl) rfl)
    (all_stops (w2.heap.size + 2) (w2.heap.size + 1) a0 W6 (by omega) (by omega) bM6.cell) belowK_t (belowK_b (by omega)) (Below.refl _ _) (fun _ => rfl)
    (fun pre W => (Boxed W G 3 (.int .i64 (pre.length : Nat)) ∧ pre <+: allL a0) ∧ Below G W6 W)
    (fun cc pre W => (cc = .exit 2 ∧ ((pre.length : Nat) : Int) = a1 ∧ Boxed W G 3 (.int .i64 (pre.length : Nat)) ∧ Below G W6 W) ∨ (cc = .ret ∧ ¬ pre <+: allL a0))
    (OwnFrom.and (OwnFrom.and (Own.from (boxed_own G 3 (fun pre : List Pt => Value.int .i64 (pre.length : Nat))) _) (fun _ _ _ _ hs _ _ => hs)) (ownFrom_below (by omega) (by omega)))
    (fun cc s X Y row hs hg hr => by
        rcases hs with ⟨h1, h2, h3, h4⟩ | h
        · exact .inl ⟨h1, h2, boxed_own G 3 (fun pre : List Pt => Value.int .i64 (pre.length : Nat)) s X Y row h3 hg (fun r e => (hr r e).2), ownFrom_below (w₀ := W6) (by omega) (by omega) s X Y row h4 hg hr⟩
        · exact .inr h)
    ⟨⟨bG6, List.nil_prefix⟩, Below.refl _ _⟩
    (fun x a' W => ∃ Bx, G < Bx ∧ PCell W Bx x.1 x.2 ∧ a' = { tmps := (T.setIfInBounds 27 (.agg #[.int .i64 x.1, .int .i64 x.2])).setIfInBounds 9 (.pointer (some ⟨Bx, 0, none⟩)), defers := [] })
    (fun x a' _ X Y row hs hg hr => by obtain ⟨Bx, h1, h2, h3⟩ := hs; exact ⟨Bx, h1, pcell_own Bx Prod.fst Prod.snd x _ () X Y row h2 hg hr, h3⟩)
    ?assign ?body ?done ?stop
  case assign =>
    rintro l pre x W K ⟨⟨bGW, hpre⟩, hBW⟩ hK
    have hlt := bGW.lt
    have hsz := hBW.size
    have HT := Aside0.mk hT
    clear hT
    gi_wp2
    exact hK _ _ ((KeepsOthers.alloc _ _).from _) ((Below.refl _ W).alloc (by omega) _) ⟨⟨bGW.alloc _, hpre⟩, hBW.alloc (by omega) _⟩ ⟨W.heap.size, hlt, pc_new W x.1 x.2, by rw [HT.out]; rfl⟩
  case body =>
    rintro l pre x a' W hl ⟨r, hr⟩ ⟨⟨bGW, hpre⟩, hBW⟩ ⟨Bx, hBx, hPX, rfl⟩ hlt
    obtain ⟨x1, x2⟩ := x
    rw [hT]
    clear hT
    simp only [List.setIfInBounds_toArray, List.set_cons_zero, List.set_cons_succ]
    have hmixed : Try.prog.follows .mixedOrders = true := by kernel_rfl
    have HPRE := Aside0.mk hpre
    clear hpre
    have bNW : Boxed W N 3 (.int .i64 0) := (hBW.block _ hN6).trans bN6
    have bSW : Boxed W w.heap.size 3 (.int .i64 a1) := (hBW.block _ hS6).trans bS6
    have bRW : Boxed W (w.heap.size + 1) 4 (.bool false) := (hBW.block _ hR6).trans bR6
    have bWW : Boxed W w2.heap.size 36 (.slice A want.length c) := (hBW.block _ hW6').trans bW6
    have cN := bNW.cell
    have cS := bSW.cell
    have cR := bRW.cell
    have fR := bRW.frozen
    have cW := bWW.cell
    have cG := bGW.cell
    have fG := bGW.frozen
    obtain ⟨cx1, cx2, hx3⟩ := hPX
    have hsz := hBW.size
    have hwl : want.length = (allL a0).length := by rw [← HE.out, List.length_map]
    have hne1 : N ≠ G := by omega
    have hne2 : G ≠ N := by omega
    have hne3 : w.heap.size ≠ G := by omega
    have hne4 : G ≠ w.heap.size := by omega
    have hM7 : w2.heap.size + 2 ≤ G := by omega
    by_cases hx : pre ++ [(x1, x2)] <+: allL a0
    · obtain ⟨hl2, hxe⟩ := (pre_snoc HPRE.out).1 hx
      have HX := Aside0.mk hx
      clear hx
      have hCW : Kd.C k23 W A want.length want := Kd.C_below hC5 (by rw [HG.out]; exact hB56.trans hBW)
      obtain ⟨ad, rfl, ha1, ha2⟩ := at_T23 hCW (pre.length : Nat) (by omega) (by omega)
      have hwx : rd_T23 want ((pre.length : Nat) : Int) = ⟨x1, x2⟩ := by
        unfold rd_T23
        rw [Int.toNat_natCast, List.getD_eq_getElem?_getD, List.getElem?_eq_getElem (by omega), Option.getD_some]
        have h3 : (want.map toP)[pre.length]'(by rw [List.length_map]; omega) = (x1, x2) := by simp only [HE.out]; exact hxe
        rw [List.getElem_map] at h3
        unfold toP at h3
        cases hq : want[pre.length]'(by omega)
        rw [hq] at h3
        cases h3
        rfl
      rw [hwx, Int.toNat_natCast] at ha1 ha2
      clear hwx
      have hw0 := len_all a0
      have g1 : decide (want.length ≤ pre.length) = false := by simp; omega
      have hpl : pre.length < want.length := by omega
      clear hxe
      have HWL := Aside0.mk hwl
      clear hwl
      gi_wp2
      refine region_quiet_r (by kernel_rfl) (by assumption) (by kernel_rfl) ?_
      repeat (gi_big_quiet_step (fail))
      refine wpQuietIn_nil ?_
      intro _ hw'; obtain ⟨nq, hw''⟩ := hw'; subst hw''
      gi_wp2
      all_goals first
        | (have hq : (((pre.length : Nat) : Int) + 1 == a1) = true := by assumption
           exact ⟨((KeepsOthers.setCell _ _ _).trans (keeps_drewN _ _)).from _, .inl ⟨rfl, by rw [← eq_of_beq hq]; simp, by rw [List.length_append]; exact bGW.set _, pw_below_drewN (hBW.setCell (p := ⟨G, 0, none⟩) (Nat.le_refl _) _) _⟩⟩)
        | exact ⟨((KeepsOthers.setCell _ _ _).trans (keeps_drewN _ _)).from _, pw_below_drewN ((Below.refl _ W).setCell (p := ⟨G, 0, none⟩) hM7 _) _, ⟨by rw [List.length_append]; exact bGW.set _, HX.out⟩, pw_below_drewN (hBW.setCell (p := ⟨G, 0, none⟩) (Nat.le_refl _) _) _⟩
    · have HX := Aside0.mk hx
      by_cases hpl : pre.length < want.length
      · have hCW : Kd.C k23 W A want.length want := Kd.C_below hC5 (by rw [HG.out]; exact hB56.trans hBW)
        obtain ⟨ad, rfl, ha1, ha2⟩ := at_T23 hCW (pre.length : Nat) (by omega) (by omega)
        have hwx : toP (rd_T23 want ((pre.length : Nat) : Int)) ≠ (x1, x2) := by
          intro hq
          refine hx ((pre_snoc HPRE.out).2 ⟨by omega, ?_⟩)
          have h3 : (want.map toP)[pre.length]'(by rw [List.length_map]; omega) = (x1, x2) := by
            rw [List.getElem_map, ← hq]
            unfold rd_T23
            rw [Int.toNat_natCast, List.getD_eq_getElem?_getD, List.getElem?_eq_getElem (by omega), Option.getD_some]
          simp only [HE.out] at h3
          exact h3
        rw [Int.toNat_natCast] at ha1 ha2
        obtain ⟨⟨z1, z2⟩, hz⟩ : ∃ z, rd_T23 want ((pre.length : Nat) : Int) = z := ⟨_, rfl⟩
        rw [hz] at ha1 ha2 hwx
        clear hz hx
        have hne : (x1 == z1) = false ∨ (x1 == z1) = true ∧ (x2 == z2) = false := by
          by_cases h1 : x1 = z1
          · refine .inr ⟨by simpa using h1, ?_⟩
            simp only [beq_eq_false_iff_ne, ne_eq]
            exact fun h2 => hwx (by unfold toP; rw [h1, h2])
          · exact .inl (by simpa using h1)
        clear hwx
        have hw0 := len_all a0
        have g1 : decide (want.length ≤ pre.length) = false := by simp; omega
        have HWL := Aside0.mk hwl
        clear hwl
        rcases hne with e1 | ⟨e1, e2⟩
        all_goals
          gi_wp2
          refine region_quiet_r (by kernel_rfl) (by assumption) (by kernel_rfl) ?_
          repeat (gi_big_quiet_step (fail))
          refine wpQuietIn_nil ?_
          intro _ hw'; obtain ⟨nq, hw''⟩ := hw'; subst hw''
          gi_wp2
          exact ⟨((KeepsOthers.setCell _ _ _).trans (keeps_drewN _ _)).from _, .inr ⟨rfl, HX.out⟩⟩
      · clear hx
        have g1 : decide (want.length ≤ pre.length) = true := by simp; omega
        clear hwl
        gi_wp2
        refine region_quiet_r (by kernel_rfl) (by assumption) (by kernel_rfl) ?_
        repeat (gi_big_quiet_step (fail))
        refine wpQuietIn_nil ?_
        intro _ hw'; obtain ⟨nq, hw''⟩ := hw'; subst hw''
        gi_wp2
        exact ⟨((KeepsOthers.setCell _ _ _).trans (keeps_drewN _ _)).from _, .inr ⟨rfl, HX.out⟩⟩
  case done =>
    rintro D ys W hD rfl ⟨⟨bGW, hpre⟩, hBW⟩ hK
    have hwl : want.length = (allL a0).length := by rw [← HE.out, List.length_map]
    have HWL := Aside0.mk hwl
    have bNW : Boxed W N 3 (.int .i64 0) := (hBW.block _ hN6).trans bN6
    have bSW : Boxed W w.heap.size 3 (.int .i64 a1) := (hBW.block _ hS6).trans bS6
    have bRW : Boxed W (w.heap.size + 1) 4 (.bool false) := (hBW.block _ hR6).trans bR6
    have bWW : Boxed W w2.heap.size 36 (.slice A want.length c) := (hBW.block _ hW6').trans bW6
    have bMW : Boxed W (w2.heap.size + 1) 3 (.int .i64 a0) := (hBW.block _ hM6).trans bM6
    have hCW : Kd.C k23 W A want.length want := Kd.C_below hC5 (by rw [HG.out]; exact hB56.trans hBW)
    have hBw : Below w.heap.size w W := hB6.trans (hBW.mono hwz)
    have cN := bNW.cell
    have cS := bSW.cell
    have cR := bRW.cell
    have fR := bRW.frozen
    have cW := bWW.cell
    rw [← hwl] at bGW
    clear hwl hpre
    have cG := bGW.cell
    gi_wp2
    clear cG bGW
    have bN5 : Boxed (W.alloc (.cells #[.int .i64 1] 3)) W.heap.size 3 (.int .i64 1) := Boxed.new W 3 (.int .i64 1)
    have hbs : Below W.heap.size W (W.alloc (.cells #[.int .i64 1] 3)) := below_alloc (Below.refl _ _) _
    have bS5 : Boxed (W.alloc (.cells #[.int .i64 1] 3)) w.heap.size 3 (.int .i64 a1) := (hbs.block _ bSW.lt).trans bSW
    have bR5 : Boxed (W.alloc (.cells #[.int .i64 1] 3)) (w.heap.size + 1) 4 (.bool false) := (hbs.block _ bRW.lt).trans bRW
    have bW5 : Boxed (W.alloc (.cells #[.int .i64 1] 3)) w2.heap.size 36 (.slice A want.length c) := (hbs.block _ bWW.lt).trans bWW
    have bM5 : Boxed (W.alloc (.cells #[.int .i64 1] 3)) (w2.heap.size + 1) 3 (.int .i64 a0) := (hbs.block _ bMW.lt).trans bMW
    have hC5 := Kd.C_below hCW hbs
    have hB5 := below_step hBw hbs
    have hD0 := (hbs.block _ (Array.getElem?_eq_some_iff.1 hK).1).trans hK
    have HDg := Aside0.mk (show w.heap.size ≤ D by omega)
    have HDW := Aside0.mk (Array.getElem?_eq_some_iff.1 hD0).1
    clear cN cS cR fR cW bNW bSW bRW bWW bMW hCW hBw hbs hK hBW hN6 hS6 hR6 hW6' hM6 hz6 hwz hB56 hB6 bN6 bS6 bR6 bW6 bM6 bG6 HG
    obtain ⟨W5, hW7⟩ : ∃ W7, W.alloc (.cells #[.int .i64 1] 3) = W7 := ⟨_, rfl⟩
    obtain ⟨N, hN7⟩ : ∃ N7, W.heap.size = N7 := ⟨_, rfl⟩
    rw [hW7] at bN5 bS5 bR5 bW5 bM5 hC5 hB5 hD0 HDW ⊢
    rw [hN7] at bN5 ⊢
    clear hW7 hN7
    rw [roundsIn_succ]
    have cN5 := bN5.cell
    gi_wp2_with fail
    have bG6 := Boxed.new W5 3 (.int .i64 0)
    have bN6 := bN5.alloc (.cells #[.int .i64 0] 3)
    have bS6 := bS5.alloc (.cells #[.int .i64 0] 3)
    have bR6 := bR5.alloc (.cells #[.int .i64 0] 3)
    have bW6 := bW5.alloc (.cells #[.int .i64 0] 3)
    have bM6 := bM5.alloc (.cells #[.int .i64 0] 3)
    have hB56 : Below W5.heap.size W5 (W5.alloc (.cells #[.int .i64 0] 3)) := below_alloc (Below.refl _ _) _
    have hB6 : Below w.heap.size w (W5.alloc (.cells #[.int .i64 0] 3)) := below_alloc hB5 _
    have hN6 := bN5.lt
    have HDl := HDW
    have hD6 := (hB56.block _ HDl.out).trans hD0
    clear hD0
    have hS6 := bS5.lt
    have hR6 := bR5.lt
    have hW6' := bW5.lt
    have hM6 := bM5.lt
    have hz6 : (W5.alloc (.cells #[.int .i64 0] 3)).heap.size = W5.heap.size + 1 := World.size_alloc ..
    have hwz : w.heap.size ≤ W5.heap.size := hB5.size
    clear bN5 bS5 bR5 bW5 bM5 hB5 cN5
    obtain ⟨W6, hW6⟩ : ∃ W6, W5.alloc (.cells #[.int .i64 0] 3) = W6 := ⟨_, rfl⟩
    obtain ⟨G, hG⟩ : ∃ G, W5.heap.size = G := ⟨_, rfl⟩
    rw [hW6] at hD6 bG6 bN6 bS6 bR6 bW6 bM6 hB56 hB6 hz6 ⊢
    rw [hG] at HDl bG6 hN6 hS6 hR6 hW6' hM6 hz6 hwz hB56 ⊢
    have HG := Aside0.mk hG
    clear hW6 hG
    refine with_tmps ?_
    intro T hT
    dsimp only at hT
    refine wpIn_rangeFunc_ownH (n := 6) rfl (by omega) (gf := 36) (lb := #[.pointer (some ⟨w2.heap.size + 1, 0, none⟩)]) rfl trivial (enters_of Try.func36 (by kernel_rfl) rfl)
      (all_stops (w2.heap.size + 2) (w2.heap.size + 1) a0 W6 (by omega) (by omega) bM6.cell) belowK_t (belowK_b (by omega)) (Below.refl _ _) (fun _ => rfl)
      (fun pre W => (Boxed W G 3 (.int .i64 (pre.length : Nat)) ∧ pre <+: allL a0) ∧ Below G W6 W)
      (fun cc pre W => cc = .ret ∧ ¬ pre <+: allL a0)
      (OwnFrom.and (OwnFrom.and (Own.from (boxed_own G 3 (fun pre : List Pt => Value.int .i64 (pre.length : Nat))) _) (fun _ _ _ _ hs _ _ => hs)) (ownFrom_below (by omega) (by omega)))
      (fun _ _ _ _ _ hs _ _ => hs)
      ⟨⟨bG6, List.nil_prefix⟩, Below.refl _ _⟩
      (fun x a' W => ∃ Bx, G < Bx ∧ PCell W Bx x.1 x.2 ∧ a' = { tmps := (T.setIfInBounds 27 (.agg #[.int .i64 x.1, .int .i64 x.2])).setIfInBounds 9 (.pointer (some ⟨Bx, 0, none⟩)), defers := [] })
      (fun x a' _ X Y row hs hg hr => by obtain ⟨Bx, h1, h2, h3⟩ := hs; exact ⟨Bx, h1, pcell_own Bx Prod.fst Prod.snd x _ () X Y row h2 hg hr, h3⟩)
      ?assign2 ?body2 ?done2 ?stop2
    case assign2 =>
      rintro l pre x W K ⟨⟨bGW, hpre⟩, hBW⟩ hK
      have hlt := bGW.lt
      have hsz := hBW.size
      have HT := Aside0.mk hT
      clear hT
      gi_wp2
      exact hK _ _ ((KeepsOthers.alloc _ _).from _) ((Below.refl _ W).alloc (by omega) _) ⟨⟨bGW.alloc _, hpre⟩, hBW.alloc (by omega) _⟩ ⟨W.heap.size, hlt, pc_new W x.1 x.2, by rw [HT.out]; rfl⟩
    case body2 =>
      rintro l pre x a' W hl ⟨r, hr⟩ ⟨⟨bGW, hpre⟩, hBW⟩ ⟨Bx, hBx, hPX, rfl⟩ hlt
      obtain ⟨x1, x2⟩ := x
      rw [hT]
      clear hT
      simp only [List.setIfInBounds_toArray, List.set_cons_zero, List.set_cons_succ]
      have hmixed : Try.prog.follows .mixedOrders = true := by kernel_rfl
      have HPRE := Aside0.mk hpre
      clear hpre
      have bNW : Boxed W N 3 (.int .i64 1) := (hBW.block _ hN6).trans bN6
      have bSW : Boxed W w.heap.size 3 (.int .i64 a1) := (hBW.block _ hS6).trans bS6
      have bRW : Boxed W (w.heap.size + 1) 4 (.bool false) := (hBW.block _ hR6).trans bR6
      have bWW : Boxed W w2.heap.size 36 (.slice A want.length c) := (hBW.block _ hW6').trans bW6
      have cN := bNW.cell
      have cS := bSW.cell
      have cR := bRW.cell
      have fR := bRW.frozen
      have cW := bWW.cell
      have cG := bGW.cell
      have fG := bGW.frozen
      obtain ⟨cx1, cx2, hx3⟩ := hPX
      have hsz := hBW.size
      have hwl : want.length = (allL a0).length := by rw [← HE.out, List.length_map]
      have hne1 : N ≠ G := by omega
      have hne2 : G ≠ N := by omega
      have hne3 : w.heap.size ≠ G := by omega
      have hne4 : G ≠ w.heap.size := by omega
      have hM7 : w2.heap.size + 2 ≤ G := by omega
      by_cases hx : pre ++ [(x1, x2)] <+: allL a0
      · obtain ⟨hl2, hxe⟩ := (pre_snoc HPRE.out).1 hx
        have HX := Aside0.mk hx
        clear hx
        have hCW : Kd.C k23 W A want.length want := Kd.C_below hC5 (by rw [HG.out]; exact hB56.trans hBW)
        obtain ⟨ad, rfl, ha1, ha2⟩ := at_T23 hCW (pre.length : Nat) (by omega) (by omega)
        have hwx : rd_T23 want ((pre.length : Nat) : Int) = ⟨x1, x2⟩ := by
          unfold rd_T23
          rw [Int.toNat_natCast, List.getD_eq_getElem?_getD, List.getElem?_eq_getElem (by omega), Option.getD_some]
          have h3 : (want.map toP)[pre.length]'(by rw [List.length_map]; omega) = (x1, x2) := by simp only [HE.out]; exact hxe
          rw [List.getElem_map] at h3
          unfold toP at h3
          cases hq : want[pre.length]'(by omega)
          rw [hq] at h3
          cases h3
          rfl
        rw [hwx, Int.toNat_natCast] at ha1 ha2
        clear hwx
        have hw0 := len_all a0
        have g1 : decide (want.length ≤ pre.length) = false := by simp; omega
        have hpl : pre.length < want.length := by omega
        clear hxe
        have HWL := Aside0.mk hwl
        clear hwl
        gi_wp2
        refine region_quiet_r (by kernel_rfl) (by assumption) (by kernel_rfl) ?_
        repeat (gi_big_quiet_step (fail))
        refine wpQuietIn_nil ?_
        intro _ hw'; obtain ⟨nq, hw''⟩ := hw'; subst hw''
        gi_wp2
        all_goals first
          | exact ⟨((KeepsOthers.setCell _ _ _).trans (keeps_drewN _ _)).from _, pw_below_drewN ((Below.refl _ W).setCell (p := ⟨G, 0, none⟩) hM7 _) _, ⟨by rw [List.length_append]; exact bGW.set _, HX.out⟩, pw_below_drewN (hBW.setCell (p := ⟨G, 0, none⟩) (Nat.le_refl _) _) _⟩
      · have HX := Aside0.mk hx
        by_cases hpl : pre.length < want.length
        · have hCW : Kd.C k23 W A want.length want := Kd.C_below hC5 (by rw [HG.out]; exact hB56.trans hBW)
          obtain ⟨ad, rfl, ha1, ha2⟩ := at_T23 hCW (pre.length : Nat) (by omega) (by omega)
          have hwx : toP (rd_T23 want ((pre.length : Nat) : Int)) ≠ (x1, x2) := by
            intro hq
            refine hx ((pre_snoc HPRE.out).2 ⟨by omega, ?_⟩)
            have h3 : (want.map toP)[pre.length]'(by rw [List.length_map]; omega) = (x1, x2) := by
              rw [List.getElem_map, ← hq]
              unfold rd_T23
              rw [Int.toNat_natCast, List.getD_eq_getElem?_getD, List.getElem?_eq_getElem (by omega), Option.getD_some]
            simp only [HE.out] at h3
            exact h3
          rw [Int.toNat_natCast] at ha1 ha2
          obtain ⟨⟨z1, z2⟩, hz⟩ : ∃ z, rd_T23 want ((pre.length : Nat) : Int) = z := ⟨_, rfl⟩
          rw [hz] at ha1 ha2 hwx
          clear hz hx
          have hne : (x1 == z1) = false ∨ (x1 == z1) = true ∧ (x2 == z2) = false := by
            by_cases h1 : x1 = z1
            · refine .inr ⟨by simpa using h1, ?_⟩
              simp only [beq_eq_false_iff_ne, ne_eq]
              exact fun h2 => hwx (by unfold toP; rw [h1, h2])
            · exact .inl (by simpa using h1)
          clear hwx
          have hw0 := len_all a0
          have g1 : decide (want.length ≤ pre.length) = false := by simp; omega
          have HWL := Aside0.mk hwl
          clear hwl
          rcases hne with e1 | ⟨e1, e2⟩
          all_goals
            gi_wp2
            refine region_quiet_r (by kernel_rfl) (by assumption) (by kernel_rfl) ?_
            repeat (gi_big_quiet_step (fail))
            refine wpQuietIn_nil ?_
            intro _ hw'; obtain ⟨nq, hw''⟩ := hw'; subst hw''
            gi_wp2
            exact ⟨((KeepsOthers.setCell _ _ _).trans (keeps_drewN _ _)).from _, ⟨rfl, HX.out⟩⟩
        · clear hx
          have g1 : decide (want.length ≤ pre.length) = true := by simp; omega
          clear hwl
          gi_wp2
          refine region_quiet_r (by kernel_rfl) (by assumption) (by kernel_rfl) ?_
          repeat (gi_big_quiet_step (fail))
          refine wpQuietIn_nil ?_
          intro _ hw'; obtain ⟨nq, hw''⟩ := hw'; subst hw''
          gi_wp2
          exact ⟨((KeepsOthers.setCell _ _ _).trans (keeps_drewN _ _)).from _, ⟨rfl, HX.out⟩⟩
    case done2 =>
      rintro D1 ys W hD1 rfl ⟨⟨bGW, hpre⟩, hBW⟩ hK
      have hD2 : W.heap[D]? = some (.deferred (some [])) := (hBW.block _ HDl.out).trans hD6
      have hwl : want.length = (allL a0).length := by rw [← HE.out, List.length_map]
      have HWL := Aside0.mk hwl
      have bNW : Boxed W N 3 (.int .i64 1) := (hBW.block _ hN6).trans bN6
      have bSW : Boxed W w.heap.size 3 (.int .i64 a1) := (hBW.block _ hS6).trans bS6
      have bRW : Boxed W (w.heap.size + 1) 4 (.bool false) := (hBW.block _ hR6).trans bR6
      have bWW : Boxed W w2.heap.size 36 (.slice A want.length c) := (hBW.block _ hW6').trans bW6
      have bMW : Boxed W (w2.heap.size + 1) 3 (.int .i64 a0) := (hBW.block _ hM6).trans bM6
      have hCW : Kd.C k23 W A want.length want := Kd.C_below hC5 (by rw [HG.out]; exact hB56.trans hBW)
      have hBw : Below w.heap.size w W := hB6.trans (hBW.mono hwz)
      have cN := bNW.cell
      have cS := bSW.cell
      have cR := bRW.cell
      have fR := bRW.frozen
      have cW := bWW.cell
      rw [← hwl] at bGW
      clear hwl hpre
      have cG := bGW.cell
      gi_wp2
      rw [roundsIn_succ]
      have cRa := (bRW.alloc (.cells #[.int .i64 2] 3)).cell
      have fRa := (bRW.alloc (.cells #[.int .i64 2] 3)).frozen
      gi_wp2
      have hK1 := (KeepsOthers.setCell (W.alloc (.cells #[.int .i64 2] 3)) ⟨w.heap.size + 1, 0, none⟩ (.bool true)).same D1 _ ((KeepsOthers.alloc W (.cells #[.int .i64 2] 3)).same D1 _ hK rfl) rfl
      have hK2 := (KeepsOthers.setCell (W.alloc (.cells #[.int .i64 2] 3)) ⟨w.heap.size + 1, 0, none⟩ (.bool true)).same D _ ((KeepsOthers.alloc W (.cells #[.int .i64 2] 3)).same D _ hD2 rfl) rfl
      have hDD : D ≠ D1 := by have := HDl.out; omega
      refine ⟨by simp, .inl ⟨_, _, rfl, run_takeDeferred hK1, ?_⟩⟩
      have hK3 := (World.putObj_heap_other (o := .deferred none) hDD).trans hK2
      refine ⟨by simp, .inl ⟨_, _, rfl, run_takeDeferred hK3, ?_⟩⟩
      have hc := World.cell?_setCell_same' (W.alloc (.cells #[.int .i64 2] 3)) ⟨w.heap.size + 1, 0, none⟩ (.bool true) (by rw [cRa]; rfl)
      have hc1 := cell_kept hc (grownBy_putObj' _ D1 (.deferred none)) (fun r e => by cases e; exact ⟨_, hK1, rfl⟩)
      have hc2 := cell_kept hc1 (grownBy_putObj' _ D (.deferred none)) (fun r e => by cases e; exact ⟨_, hK3, rfl⟩)
      refine ⟨.bool true, by simp [results, Try.f6, go_sem, hc2], rfl, ?_⟩
      exact (((below_alloc hBw _).setCell (p := ⟨w.heap.size + 1, 0, none⟩) (show w.heap.size ≤ w.heap.size + 1 by omega) _).trans (belowK_b (w := w) (Nat.le_refl _) _ D1 _ _ (by omega) hK1 rfl rfl)).trans (belowK_b (w := w) (Nat.le_refl _) _ D _ _ HDg.out hK3 rfl rfl)
    case stop2 =>
      rintro D1 cc pre W hD1 hp ⟨rfl, h2⟩ hK
      exact (h2 hp).elim
  case stop =>
    rintro D cc pre W hD hp hs hK
    rcases hs with ⟨rfl, h2, bGW, hBW⟩ | ⟨rfl, h2⟩
    · rw [h2] at bGW
      clear h2
      have hwl : want.length = (allL a0).length := by rw [← HE.out, List.length_map]
      have HWL := Aside0.mk hwl
      have bNW : Boxed W N 3 (.int .i64 0) := (hBW.block _ hN6).trans bN6
      have bSW : Boxed W w.heap.size 3 (.int .i64 a1) := (hBW.block _ hS6).trans bS6
      have bRW : Boxed W (w.heap.size + 1) 4 (.bool false) := (hBW.block _ hR6).trans bR6
      have bWW : Boxed W w2.heap.size 36 (.slice A want.length c) := (hBW.block _ hW6').trans bW6
      have bMW : Boxed W (w2.heap.size + 1) 3 (.int .i64 a0) := (hBW.block _ hM6).trans bM6
      have hCW : Kd.C k23 W A want.length want := Kd.C_below hC5 (by rw [HG.out]; exact hB56.trans hBW)
      have hBw : Below w.heap.size w W := hB6.trans (hBW.mono hwz)
      have cN := bNW.cell
      have cS := bSW.cell
      have cR := bRW.cell
      have fR := bRW.frozen
      have cW := bWW.cell
      clear hwl hp
      have cG := bGW.cell
      cases e5 : (a1 != ((want.length : Nat) : Int))
      all_goals
        gi_wp2
        clear cG
        have bN5 : Boxed (W.alloc (.cells #[.int .i64 1] 3)) W.heap.size 3 (.int .i64 1) := Boxed.new W 3 (.int .i64 1)
        have hbs : Below W.heap.size W (W.alloc (.cells #[.int .i64 1] 3)) := below_alloc (Below.refl _ _) _
        have bS5 : Boxed (W.alloc (.cells #[.int .i64 1] 3)) w.heap.size 3 (.int .i64 a1) := (hbs.block _ bSW.lt).trans bSW
        have bR5 : Boxed (W.alloc (.cells #[.int .i64 1] 3)) (w.heap.size + 1) 4 (.bool false) := (hbs.block _ bRW.lt).trans bRW
        have bW5 : Boxed (W.alloc (.cells #[.int .i64 1] 3)) w2.heap.size 36 (.slice A want.length c) := (hbs.block _ bWW.lt).trans bWW
        have bM5 : Boxed (W.alloc (.cells #[.int .i64 1] 3)) (w2.heap.size + 1) 3 (.int .i64 a0) := (hbs.block _ bMW.lt).trans bMW
        have hC5 := Kd.C_below hCW hbs
        have hB5 := below_step hBw hbs
        have hD0 := (hbs.block _ (Array.getElem?_eq_some_iff.1 hK).1).trans hK
        have HDg := Aside0.mk (show w.heap.size ≤ D by omega)
        have HDW := Aside0.mk (Array.getElem?_eq_some_iff.1 hD0).1
        clear cN cS cR fR cW bNW bSW bRW bWW bMW hCW hBw hbs hK hBW hN6 hS6 hR6 hW6' hM6 hz6 hwz hB56 hB6 bN6 bS6 bR6 bW6 bM6 bG6 HG
        obtain ⟨W5, hW7⟩ : ∃ W7, W.alloc (.cells #[.int .i64 1] 3) = W7 := ⟨_, rfl⟩
        obtain ⟨N, hN7⟩ : ∃ N7, W.heap.size = N7 := ⟨_, rfl⟩
        rw [hW7] at bN5 bS5 bR5 bW5 bM5 hC5 hB5 hD0 HDW ⊢
        rw [hN7] at bN5 ⊢
        clear hW7 hN7
        rw [roundsIn_succ]
        have cN5 := bN5.cell
        gi_wp2_with fail
        have bG6 := Boxed.new W5 3 (.int .i64 0)
        have bN6 := bN5.alloc (.cells #[.int .i64 0] 3)
        have bS6 := bS5.alloc (.cells #[.int .i64 0] 3)
        have bR6 := bR5.alloc (.cells #[.int .i64 0] 3)
        have bW6 := bW5.alloc (.cells #[.int .i64 0] 3)
        have bM6 := bM5.alloc (.cells #[.int .i64 0] 3)
        have hB56 : Below W5.heap.size W5 (W5.alloc (.cells #[.int .i64 0] 3)) := below_alloc (Below.refl _ _) _
        have hB6 : Below w.heap.size w (W5.alloc (.cells #[.int .i64 0] 3)) := below_alloc hB5 _
        have hN6 := bN5.lt
        have HDl := HDW
        have hD6 := (hB56.block _ HDl.out).trans hD0
        clear hD0
        have hS6 := bS5.lt
        have hR6 := bR5.lt
        have hW6' := bW5.lt
        have hM6 := bM5.lt
        have hz6 : (W5.alloc (.cells #[.int .i64 0] 3)).heap.size = W5.heap.size + 1 := World.size_alloc ..
        have hwz : w.heap.size ≤ W5.heap.size := hB5.size
        clear bN5 bS5 bR5 bW5 bM5 hB5 cN5
        obtain ⟨W6, hW6⟩ : ∃ W6, W5.alloc (.cells #[.int .i64 0] 3) = W6 := ⟨_, rfl⟩
        obtain ⟨G, hG⟩ : ∃ G, W5.heap.size = G := ⟨_, rfl⟩
        rw [hW6] at hD6 bG6 bN6 bS6 bR6 bW6 bM6 hB56 hB6 hz6 ⊢
        rw [hG] at HDl bG6 hN6 hS6 hR6 hW6' hM6 hz6 hwz hB56 ⊢
        have HG := Aside0.mk hG
        clear hW6 hG
        refine with_tmps ?_
        intro T hT
        dsimp only at hT
        refine wpIn_rangeFunc_ownH (n := 6) rfl (by omega) (gf := 36) (lb := #[.pointer (some ⟨w2.heap.size + 1, 0, none⟩)]) rfl trivial (enters_of Try.func36 (by kernel_rfl) rfl)
          (all_stops (w2.heap.size + 2) (w2.heap.size + 1) a0 W6 (by omega) (by omega) bM6.cell) belowK_t (belowK_b (by omega)) (Below.refl _ _) (fun _ => rfl)
          (fun pre W => (Boxed W G 3 (.int .i64 (pre.length : Nat)) ∧ pre <+: allL a0) ∧ Below G W6 W)
          (fun cc pre W => cc = .ret ∧ ¬ pre <+: allL a0)
          (OwnFrom.and (OwnFrom.and (Own.from (boxed_own G 3 (fun pre : List Pt => Value.int .i64 (pre.length : Nat))) _) (fun _ _ _ _ hs _ _ => hs)) (ownFrom_below (by omega) (by omega)))
          (fun _ _ _ _ _ hs _ _ => hs)
          ⟨⟨bG6, List.nil_prefix⟩, Below.refl _ _⟩
          (fun x a' W => ∃ Bx, G < Bx ∧ PCell W Bx x.1 x.2 ∧ a' = { tmps := (T.setIfInBounds 27 (.agg #[.int .i64 x.1, .int .i64 x.2])).setIfInBounds 9 (.pointer (some ⟨Bx, 0, none⟩)), defers := [] })
          (fun x a' _ X Y row hs hg hr => by obtain ⟨Bx, h1, h2, h3⟩ := hs; exact ⟨Bx, h1, pcell_own Bx Prod.fst Prod.snd x _ () X Y row h2 hg hr, h3⟩)
          ?assign2 ?body2 ?done2 ?stop2
        case assign2 =>
          rintro l pre x W K ⟨⟨bGW, hpre⟩, hBW⟩ hK
          have hlt := bGW.lt
          have hsz := hBW.size
          have HT := Aside0.mk hT
          clear hT
          gi_wp2
          exact hK _ _ ((KeepsOthers.alloc _ _).from _) ((Below.refl _ W).alloc (by omega) _) ⟨⟨bGW.alloc _, hpre⟩, hBW.alloc (by omega) _⟩ ⟨W.heap.size, hlt, pc_new W x.1 x.2, by rw [HT.out]; rfl⟩
        case body2 =>
          rintro l pre x a' W hl ⟨r, hr⟩ ⟨⟨bGW, hpre⟩, hBW⟩ ⟨Bx, hBx, hPX, rfl⟩ hlt
          obtain ⟨x1, x2⟩ := x
          rw [hT]
          clear hT
          simp only [List.setIfInBounds_toArray, List.set_cons_zero, List.set_cons_succ]
          have hmixed : Try.prog.follows .mixedOrders = true := by kernel_rfl
          have HPRE := Aside0.mk hpre
          clear hpre
          have bNW : Boxed W N 3 (.int .i64 1) := (hBW.block _ hN6).trans bN6
          have bSW : Boxed W w.heap.size 3 (.int .i64 a1) := (hBW.block _ hS6).trans bS6
          have bRW : Boxed W (w.heap.size + 1) 4 (.bool false) := (hBW.block _ hR6).trans bR6
          have bWW : Boxed W w2.heap.size 36 (.slice A want.length c) := (hBW.block _ hW6').trans bW6
          have cN := bNW.cell
          have cS := bSW.cell
          have cR := bRW.cell
          have fR := bRW.frozen
          have cW := bWW.cell
          have cG := bGW.cell
          have fG := bGW.frozen
          obtain ⟨cx1, cx2, hx3⟩ := hPX
          have hsz := hBW.size
          have hwl : want.length = (allL a0).length := by rw [← HE.out, List.length_map]
          have hne1 : N ≠ G := by omega
          have hne2 : G ≠ N := by omega
          have hne3 : w.heap.size ≠ G := by omega
          have hne4 : G ≠ w.heap.size := by omega
          have hM7 : w2.heap.size + 2 ≤ G := by omega
          by_cases hx : pre ++ [(x1, x2)] <+: allL a0
          · obtain ⟨hl2, hxe⟩ := (pre_snoc HPRE.out).1 hx
            have HX := Aside0.mk hx
            clear hx
            have hCW : Kd.C k23 W A want.length want := Kd.C_below hC5 (by rw [HG.out]; exact hB56.trans hBW)
            obtain ⟨ad, rfl, ha1, ha2⟩ := at_T23 hCW (pre.length : Nat) (by omega) (by omega)
            have hwx : rd_T23 want ((pre.length : Nat) : Int) = ⟨x1, x2⟩ := by
              unfold rd_T23
              rw [Int.toNat_natCast, List.getD_eq_getElem?_getD, List.getElem?_eq_getElem (by omega), Option.getD_some]
              have h3 : (want.map toP)[pre.length]'(by rw [List.length_map]; omega) = (x1, x2) := by simp only [HE.out]; exact hxe
              rw [List.getElem_map] at h3
              unfold toP at h3
              cases hq : want[pre.length]'(by omega)
              rw [hq] at h3
              cases h3
              rfl
            rw [hwx, Int.toNat_natCast] at ha1 ha2
            clear hwx
            have hw0 := len_all a0
            have g1 : decide (want.length ≤ pre.length) = false := by simp; omega
            have hpl : pre.length < want.length := by omega
            clear hxe
            have HWL := Aside0.mk hwl
            clear hwl
            gi_wp2
            refine region_quiet_r (by kernel_rfl) (by assumption) (by kernel_rfl) ?_
            repeat (gi_big_quiet_step (fail))
            refine wpQuietIn_nil ?_
            intro _ hw'; obtain ⟨nq, hw''⟩ := hw'; subst hw''
            gi_wp2
            all_goals first
              | exact ⟨((KeepsOthers.setCell _ _ _).trans (keeps_drewN _ _)).from _, pw_below_drewN ((Below.refl _ W).setCell (p := ⟨G, 0, none⟩) hM7 _) _, ⟨by rw [List.length_append]; exact bGW.set _, HX.out⟩, pw_below_drewN (hBW.setCell (p := ⟨G, 0, none⟩) (Nat.le_refl _) _) _⟩
          · have HX := Aside0.mk hx
            by_cases hpl : pre.length < want.length
            · have hCW : Kd.C k23 W A want.length want := Kd.C_below hC5 (by rw [HG.out]; exact hB56.trans hBW)
              obtain ⟨ad, rfl, ha1, ha2⟩ := at_T23 hCW (pre.length : Nat) (by omega) (by omega)
              have hwx : toP (rd_T23 want ((pre.length : Nat) : Int)) ≠ (x1, x2) := by
                intro hq
                refine hx ((pre_snoc HPRE.out).2 ⟨by omega, ?_⟩)
                have h3 : (want.map toP)[pre.length]'(by rw [List.length_map]; omega) = (x1, x2) := by
                  rw [List.getElem_map, ← hq]
                  unfold rd_T23
                  rw [Int.toNat_natCast, List.getD_eq_getElem?_getD, List.getElem?_eq_getElem (by omega), Option.getD_some]
                simp only [HE.out] at h3
                exact h3
              rw [Int.toNat_natCast] at ha1 ha2
              obtain ⟨⟨z1, z2⟩, hz⟩ : ∃ z, rd_T23 want ((pre.length : Nat) : Int) = z := ⟨_, rfl⟩
              rw [hz] at ha1 ha2 hwx
              clear hz hx
              have hne : (x1 == z1) = false ∨ (x1 == z1) = true ∧ (x2 == z2) = false := by
                by_cases h1 : x1 = z1
                · refine .inr ⟨by simpa using h1, ?_⟩
                  simp only [beq_eq_false_iff_ne, ne_eq]
                  exact fun h2 => hwx (by unfold toP; rw [h1, h2])
                · exact .inl (by simpa using h1)
              clear hwx
              have hw0 := len_all a0
              have g1 : decide (want.length ≤ pre.length) = false := by simp; omega
              have HWL := Aside0.mk hwl
              clear hwl
              rcases hne with e1 | ⟨e1, e2⟩
              all_goals
                gi_wp2
                refine region_quiet_r (by kernel_rfl) (by assumption) (by kernel_rfl) ?_
                repeat (gi_big_quiet_step (fail))
                refine wpQuietIn_nil ?_
                intro _ hw'; obtain ⟨nq, hw''⟩ := hw'; subst hw''
                gi_wp2
                exact ⟨((KeepsOthers.setCell _ _ _).trans (keeps_drewN _ _)).from _, ⟨rfl, HX.out⟩⟩
            · clear hx
              have g1 : decide (want.length ≤ pre.length) = true := by simp; omega
              clear hwl
              gi_wp2
              refine region_quiet_r (by kernel_rfl) (by assumption) (by kernel_rfl) ?_
              repeat (gi_big_quiet_step (fail))
              refine wpQuietIn_nil ?_
              intro _ hw'; obtain ⟨nq, hw''⟩ := hw'; subst hw''
              gi_wp2
              exact ⟨((KeepsOthers.setCell _ _ _).trans (keeps_drewN _ _)).from _, ⟨rfl, HX.out⟩⟩
        case done2 =>
          rintro D1 ys W hD1 rfl ⟨⟨bGW, hpre⟩, hBW⟩ hK
          have hD2 : W.heap[D]? = some (.deferred (some [])) := (hBW.block _ HDl.out).trans hD6
          have hwl : want.length = (allL a0).length := by rw [← HE.out, List.length_map]
          have HWL := Aside0.mk hwl
          have bNW : Boxed W N 3 (.int .i64 1) := (hBW.block _ hN6).trans bN6
          have bSW : Boxed W w.heap.size 3 (.int .i64 a1) := (hBW.block _ hS6).trans bS6
          have bRW : Boxed W (w.heap.size + 1) 4 (.bool false) := (hBW.block _ hR6).trans bR6
          have bWW : Boxed W w2.heap.size 36 (.slice A want.length c) := (hBW.block _ hW6').trans bW6
          have bMW : Boxed W (w2.heap.size + 1) 3 (.int .i64 a0) := (hBW.block _ hM6).trans bM6
          have hCW : Kd.C k23 W A want.length want := Kd.C_below hC5 (by rw [HG.out]; exact hB56.trans hBW)
          have hBw : Below w.heap.size w W := hB6.trans (hBW.mono hwz)
          have cN := bNW.cell
          have cS := bSW.cell
          have cR := bRW.cell
          have fR := bRW.frozen
          have cW := bWW.cell
          rw [← hwl] at bGW
          clear hwl hpre
          have cG := bGW.cell
          gi_wp2
          rw [roundsIn_succ]
          have cRa := (bRW.alloc (.cells #[.int .i64 2] 3)).cell
          have fRa := (bRW.alloc (.cells #[.int .i64 2] 3)).frozen
          gi_wp2
          have hK1 := (KeepsOthers.setCell (W.alloc (.cells #[.int .i64 2] 3)) ⟨w.heap.size + 1, 0, none⟩ (.bool true)).same D1 _ ((KeepsOthers.alloc W (.cells #[.int .i64 2] 3)).same D1 _ hK rfl) rfl
          have hK2 := (KeepsOthers.setCell (W.alloc (.cells #[.int .i64 2] 3)) ⟨w.heap.size + 1, 0, none⟩ (.bool true)).same D _ ((KeepsOthers.alloc W (.cells #[.int .i64 2] 3)).same D _ hD2 rfl) rfl
          have hDD : D ≠ D1 := by have := HDl.out; omega
          refine ⟨by simp, .inl ⟨_, _, rfl, run_takeDeferred hK1, ?_⟩⟩
          have hK3 := (World.putObj_heap_other (o := .deferred none) hDD).trans hK2
          refine ⟨by simp, .inl ⟨_, _, rfl, run_takeDeferred hK3, ?_⟩⟩
          have hc := World.cell?_setCell_same' (W.alloc (.cells #[.int .i64 2] 3)) ⟨w.heap.size + 1, 0, none⟩ (.bool true) (by rw [cRa]; rfl)
          have hc1 := cell_kept hc (grownBy_putObj' _ D1 (.deferred none)) (fun r e => by cases e; exact ⟨_, hK1, rfl⟩)
          have hc2 := cell_kept hc1 (grownBy_putObj' _ D (.deferred none)) (fun r e => by cases e; exact ⟨_, hK3, rfl⟩)
          refine ⟨.bool true, by simp [results, Try.f6, go_sem, hc2], rfl, ?_⟩
          exact (((below_alloc hBw _).setCell (p := ⟨w.heap.size + 1, 0, none⟩) (show w.heap.size ≤ w.heap.size + 1 by omega) _).trans (belowK_b (w := w) (Nat.le_refl _) _ D1 _ _ (by omega) hK1 rfl rfl)).trans (belowK_b (w := w) (Nat.le_refl _) _ D _ _ HDg.out hK3 rfl rfl)
        case stop2 =>
          rintro D1 cc pre W hD1 hp ⟨rfl, h2⟩ hK
          exact (h2 hp).elim
    · exact (h2 hp).elim
end Go.Proofs.Ytfkjmmpolingbaa.Ring
end

section
namespace Go.Proofs.Ytfkjmmpolingbaa.XA
open Go.RowKit Go.Proofs.YtfkjmmpolingbaaW.PrintWords Go.Proofs.YtfkjmmpolingbaaW.PrintLast Go.Proofs.YtfkjmmpolingbaaW.PrintMore
attribute [local go_sem] max2_int min2_int max_two min_two max_three min_three max_four min_four   -- for this text's walks alone
set_option linter.unusedVariables false
set_option linter.unusedSimpArgs false

/-! ### swagelaw06_PointAll: function 6 -/
--IMPORT Derived.Test.YtfkjmmpolingbaaLawAll
def swagelaw06_PointAll.f (k : Nat) (a0 : Int) (a1 : Int) : Option Bool := Ring.pall k a0 a1
theorem swagelaw06_PointAll.calls (k : Nat) (a0 : Int) (a1 : Int) (r : Bool) (w : World) (h : swagelaw06_PointAll.f k a0 a1 = some r) :
    Calls Try.prog 6 #[.int .i64 a0, .int .i64 a1] w fun e w' => e = .returned (.bool r) ∧ Below w.heap.size w w' := by
  exact Ring.pall_calls k a0 a1 r w h

/-! ### integer_made: function 49 -/
def integer_made.f (a0 : Bool) (l1 : List Int) : Option (Bool × List Int) := if a0 = true then (some (decide (0 < l1.length), l1)) else (some (false, l1))
/-! ### limb_trim: function 57 -/
def limb_trim.l0 : Nat → List Int → Int → Option (List Int)
  | 0, _, _ => none
  | k + 1, x0, x3 => if x3 > 0 then (if 0 ≤ (wrap64 (x3 - 1)) then (if (wrap64 (x3 - 1)) < (x0.length : Int) then (if (rd x0 (wrap64 (x3 - 1))) = 0 then (limb_trim.l0 k x0 (wrap64 (x3 - 1))) else (if 0 ≤ x3 then (if x3 ≤ (x0.length : Int) then (some (x0.take (x3 : Int).toNat)) else (none)) else (none))) else (none)) else (none)) else (if 0 ≤ x3 then (if x3 ≤ (x0.length : Int) then (some (x0.take (x3 : Int).toNat)) else (none)) else (none))
def limb_trim.f (k : Nat) (l0 : List Int) : Option (List Int) := limb_trim.l0 k l0 (l0.length : Int)
end Go.Proofs.Ytfkjmmpolingbaa.XA
end

section
/- Arguments opened by their kinds: what is read as data at a type is a Lean value of that type's kind. Of every seat alike; its own words alone. -/
namespace Go.Proofs.Ytfkjmmpolingbaa.Opn
open Go.ChangeShapes Go.WideShapes Go.Proofs.YtfkjmmpolingbaaW.PrintWords
set_option linter.unusedVariables false

/-- Whatever is read at type t is of kind d, and wf. -/
structure Opn {α : Type} (P : Program) (t : TypeId) (d : Kd α) (wf : α → Prop) : Prop where
  get : ∀ {H : Type} {enc : TypeId × Value → H} {w : World} {base : Nat} {spare : Nat → Bool} {held : Bool} {fuel : Nat} {cs : List Value} {x : DataW H × List MemPlace},
    DataW.trod enc P w base spare held fuel t cs = some x → (∀ n ∈ DataW.weights P t x.1, n ≤ reachBytes) → ∃ a : α, d.K w a cs ∧ wf a

section
variable {P : Program} {t : TypeId}
/-- The fields of a struct, from offset off on. -/
structure OpnFs {α : Type} (P : Program) (fs : List Field) (off : Nat) (d : Kd α) (wf : α → Prop) : Prop where
  get : ∀ {H : Type} {enc : TypeId × Value → H} {w : World} {base : Nat} {spare : Nat → Bool} {held : Bool} {fuel : Nat} {cs : List Value} {xs : List (DataW H × List MemPlace)},
    cs.length = off + d.sz → xs.length = fs.length →
    (∀ (i : Nat) (f : Field), fs[i]? = some f → DataW.trod enc P w base spare held fuel f.type ((cs.drop f.offset).take (P.cellsOf f.type)) = xs[i]?) →
    (∀ n ∈ DataW.weightsEach P (fs.map (·.type)) (xs.map (·.1)), n ≤ reachBytes) → ∃ a : α, d.K w a (cs.drop off) ∧ wf a

end

section
variable {H : Type} {enc : TypeId × Value → H} {P : Program} {w : World} {base : Nat} {spare : Nat → Bool} {held : Bool} {t : TypeId}
theorem opened {α : Type} {d : Kd α} {wf : α → Prop} (ho : Opn P t d wf) {v : Value} {dd : DataW H} {ps : List MemPlace} {ts : List TypeId} {ds : List (DataW H)} {j : Nat}
    (hsz : (DataW.weightsEach P ts ds).all (· ≤ reachBytes) = true) (ht : ts[j]? = some t) (hd : ds[j]? = some dd) (h : DataW.Trod enc P w base spare held t v dd ps) : ∃ a : α, d.K w a v.cells.toList ∧ wf a := by
  obtain ⟨fuel, hf⟩ := h
  exact ho.get hf (fun n hn => by simpa using List.all_eq_true.1 hsz n (DataW.weights_mem_each ht hd n hn))
end
end Go.Proofs.Ytfkjmmpolingbaa.Opn
end

section
namespace Go.Proofs.Ytfkjmmpolingbaa.SaidPointAll
open Go.RowKit Go.Proofs.YtfkjmmpolingbaaW.PrintWords Go.Proofs.YtfkjmmpolingbaaW.PrintLast Go.Proofs.Ytfkjmmpolingbaa.Opn Go.Proofs.Ytfkjmmpolingbaa.XA
set_option linter.unusedVariables false
/-- THE PURE STATEMENT. -/
def Pure : Prop := ∀ (x0 : Int) (x1 : Int), (Lit.int .i64 x0).wf = true → (Lit.int .i64 x1).wf = true → ∃ k, swagelaw06_PointAll.f k x0 x1 = some true
end Go.Proofs.Ytfkjmmpolingbaa.SaidPointAll
end

section
namespace Go.Proofs.Ytfkjmmpolingbaa.XA
open Go.RowKit Go.Proofs.YtfkjmmpolingbaaW.PrintWords Go.Proofs.YtfkjmmpolingbaaW.PrintLast Go.Proofs.YtfkjmmpolingbaaW.PrintMore
attribute [local go_sem] max2_int min2_int max_two min_two max_three min_three max_four min_four   -- for this text's walks alone
set_option linter.unusedVariables false
set_option linter.unusedSimpArgs false

attribute [local go_sem high] eqA23
/-! ### point_One: function 14 -/
def point_One.j0 : Nat → Bool → Int → Int → Int → Int → Option (Bool × Int)
  | 0, _, _, _, _, _ => none
  | k + 1, x13, x121000, x121001, x122000, x122001 => if x13 = true then (some (false, 2)) else ((point_norm.f k x121000 x121001).bind fun bt124 => ((point_norm.f k x122000 x122001).bind fun bt126 => (some ((bt124.1 == bt126.1 && (bt124.2 == bt126.2)), 0))))
def point_One.f (k : Nat) (a0_0 : Int) (a0_1 : Int) (a1_0 : Int) (a1_1 : Int) : Option (Bool × Int) := (point_In.f a0_0 a0_1).bind fun t122 => (if t122 = true then ((point_In.f a1_0 a1_1).bind fun t123 => (point_One.j0 k (!t123) a0_0 a0_1 a1_0 a1_1)) else (point_One.j0 k true a0_0 a0_1 a1_0 a1_1))
end Go.Proofs.Ytfkjmmpolingbaa.XA
end

section
namespace Go.Proofs.Ytfkjmmpolingbaa.XA
open Go.RowKit Go.Proofs.YtfkjmmpolingbaaW.PrintWords Go.Proofs.YtfkjmmpolingbaaW.PrintLast Go.Proofs.YtfkjmmpolingbaaW.PrintMore
attribute [local go_sem] max2_int min2_int max_two min_two max_three min_three max_four min_four   -- for this text's walks alone
set_option linter.unusedVariables false
set_option linter.unusedSimpArgs false

/-! ### swageref06_Det: function 18 -/
def swageref06_Det.f (a0_0 : Int) (a0_1 : Int) (a1_0 : Int) (a1_1 : Int) : Option (Int) := some (wrap64 ((wrap64 (a0_0 * a1_1)) - (wrap64 (a1_0 * a0_1))))
/-! ### swageref06_One: function 17 -/
def swageref06_One.j0 : Nat → Bool → Int → Int → Int → Int → Option (Bool)
  | 0, _, _, _, _, _ => none
  | k + 1, x10, x140000, x140001, x141000, x141001 => if x10 = true then ((swageref06_None.f x140000 x140001).bind fun t143 => (if t143 = true then ((swageref06_None.f x141000 x141001).bind fun t144 => (some t144)) else (some false))) else ((swageref06_Det.f x140000 x140001 x141000 x141001).bind fun t145 => (some (t145 == 0)))
def swageref06_One.f (k : Nat) (a0_0 : Int) (a0_1 : Int) (a1_0 : Int) (a1_1 : Int) : Option (Bool) := (swageref06_None.f a0_0 a0_1).bind fun t141 => (if t141 = true then (swageref06_One.j0 k true a0_0 a0_1 a1_0 a1_1) else ((swageref06_None.f a1_0 a1_1).bind fun t142 => (swageref06_One.j0 k t142 a0_0 a0_1 a1_0 a1_1)))
end Go.Proofs.Ytfkjmmpolingbaa.XA
end

section
namespace Go.Proofs.Ytfkjmmpolingbaa.XA
open Go.RowKit Go.Proofs.YtfkjmmpolingbaaW.PrintWords Go.Proofs.YtfkjmmpolingbaaW.PrintLast Go.Proofs.YtfkjmmpolingbaaW.PrintMore
attribute [local go_sem] max2_int min2_int max_two min_two max_three min_three max_four min_four   -- for this text's walks alone
set_option linter.unusedVariables false
set_option linter.unusedSimpArgs false

attribute [local go_sem high] eqA23
/-! ### swagelaw06_PointNorms: function 3 -/
mutual
def swagelaw06_PointNorms.j0 : Nat → Bool → Bool → Bool → Int → Int → Int → Int → Option (Bool)
  | 0, _, _, _, _, _, _, _ => none
  | k + 1, x5, x6, x38, x147000, x147001, x148000, x148001 => if x38 = true then (some false) else ((point_Norm.f k x147000 x147001).bind fun bt155 => ((point_One.f k x147000 x147001 x148000 x148001).bind fun bt159 => ((point_Det.f x147000 x147001 x148000 x148001).bind fun bt161 => (if x5 = true then ((swageref06_Norm.f k x147000 x147001).bind fun bt163 => (if (!(bt155.1 == bt163.1) || (!(bt155.2.1 == bt163.2))) = true then (swagelaw06_PointNorms.j1 k x6 bt159.1 bt159.2 bt161.1 bt161.2 true x147000 x147001 x148000 x148001 bt155.1 bt155.2.1) else (swagelaw06_PointNorms.j1 k x6 bt159.1 bt159.2 bt161.1 bt161.2 (bt155.2.2 != 0) x147000 x147001 x148000 x148001 bt155.1 bt155.2.1))) else (if bt155.1 = 0 then (if bt155.2.1 = 0 then (if bt155.2.2 = 2 then (if bt159.1 = true then (some false) else (if bt159.2 = 2 then (if bt161.1 = 0 then (some (bt161.2 == 2)) else (some false)) else (some false))) else (some false)) else (some false)) else (some false))))))
def swagelaw06_PointNorms.j1 : Nat → Bool → Bool → Int → Int → Int → Bool → Int → Int → Int → Int → Int → Int → Option (Bool)
  | 0, _, _, _, _, _, _, _, _, _, _, _, _ => none
  | k + 1, x6, x9, x10, x11, x12, x93, x147000, x147001, x148000, x148001, x159000, x159001 => if x93 = true then (some false) else ((point_Norm.f k x159000 x159001).bind fun bt165 => (if (!(bt165.1 == x159000) || (!(bt165.2.1 == x159001))) = true then (swagelaw06_PointNorms.j2 k x6 x9 x10 x11 x12 true x147000 x147001 x148000 x148001 x159000 x159001) else (swagelaw06_PointNorms.j2 k x6 x9 x10 x11 x12 (bt165.2.2 != 0) x147000 x147001 x148000 x148001 x159000 x159001)))
def swagelaw06_PointNorms.j2 : Nat → Bool → Bool → Int → Int → Int → Bool → Int → Int → Int → Int → Int → Int → Option (Bool)
  | 0, _, _, _, _, _, _, _, _, _, _, _, _ => none
  | k + 1, x6, x9, x10, x11, x12, x105, x147000, x147001, x148000, x148001, x159000, x159001 => if x105 = true then (some false) else (if x6 = true then ((point_Det.f x148000 x148001 x147000 x147001).bind fun bt169 => ((point_Norm.f k x148000 x148001).bind fun bt171 => ((swageref06_One.f k x147000 x147001 x148000 x148001).bind fun t175 => (if (x9 == t175) = true then (if x10 = 0 then ((swageref06_Det.f x147000 x147001 x148000 x148001).bind fun t176 => (if x11 = t176 then (if x12 = 0 then (if bt169.1 = (wrap64 (-x11)) then (if bt169.2 = 0 then (if x11 ≤ 512 then (some ((bt171.1 == x159000 && (bt171.2.1 == x159001)) == x9)) else (some false)) else (some false)) else (some false)) else (some false)) else (some false))) else (some false)) else (some false))))) else (if x9 = true then (some false) else (if x10 = 2 then (if x11 = 0 then (some (x12 == 2)) else (some false)) else (some false))))
end
def swagelaw06_PointNorms.f (k : Nat) (a0_0 : Int) (a0_1 : Int) (a1_0 : Int) (a1_1 : Int) : Option (Bool) := (swagelaw06_live.f k).bind fun t148 => (if t148 = true then ((swageref06_In.f a0_0 a0_1).bind fun t149 => ((swageref06_In.f a1_0 a1_1).bind fun t150 => ((point_In.f a0_0 a0_1).bind fun t151 => (if (t151 != t149) = true then (swagelaw06_PointNorms.j0 k t149 t150 true a0_0 a0_1 a1_0 a1_1) else ((point_None.f a0_0 a0_1).bind fun t152 => ((swageref06_None.f a0_0 a0_1).bind fun t153 => (if (t152 != t153) = true then (swagelaw06_PointNorms.j0 k t149 t150 true a0_0 a0_1 a1_0 a1_1) else ((swagelaw06_live.f k).bind fun t154 => (swagelaw06_PointNorms.j0 k t149 t150 (!t154) a0_0 a0_1 a1_0 a1_1))))))))) else (some false))
end Go.Proofs.Ytfkjmmpolingbaa.XA
end

section
namespace Go.Proofs.Ytfkjmmpolingbaa.SaidPointNorms
open Go.RowKit Go.Proofs.YtfkjmmpolingbaaW.PrintWords Go.Proofs.YtfkjmmpolingbaaW.PrintLast Go.Proofs.Ytfkjmmpolingbaa.Opn Go.Proofs.Ytfkjmmpolingbaa.XA
set_option linter.unusedVariables false
/-- What is known of whatever is read at this type. -/
def wfS23 (x : S23) : Prop := (Lit.int .i64 x.f0).wf = true ∧ (Lit.int .i64 x.f1).wf = true
/-- THE PURE STATEMENT. -/
def Pure : Prop := ∀ (x0 : S23) (x1 : S23), wfS23 x0 → wfS23 x1 → ∃ k, swagelaw06_PointNorms.f k x0.f0 x0.f1 x1.f0 x1.f1 = some true
end Go.Proofs.Ytfkjmmpolingbaa.SaidPointNorms
end
