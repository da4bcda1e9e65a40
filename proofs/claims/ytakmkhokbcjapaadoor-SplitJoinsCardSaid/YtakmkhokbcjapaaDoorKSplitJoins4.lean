/- Part 4 of the proof of the law SplitJoins for every input: words, walks and plain laws. No condition. -/
import Derived.Laws.IdiomCopy
import Derived.Laws.StructEq
import Derived.Test.YtakmkhokbcjapaaDoorKSplitJoins3
set_option linter.unusedVariables false
set_option linter.unusedSimpArgs false
set_option maxHeartbeats 8000000
set_option maxRecDepth 100000
section
namespace Go.Proofs.YtakmkhokbcjapaaDoor.Lift
open Go
open Go.RowKit Go.Proofs.YtakmkhokbcjapaaDoorW.PrintWords Go.Proofs.YtakmkhokbcjapaaDoorW.PrintLast Go.Proofs.YtakmkhokbcjapaaDoorW.PrintMore
theorem zT {P : Prop} (h : P := by first | rfl | (simp; done) | (simp [*]; done)) : P := h
theorem zE {P : Prop} (h : P := by first | rfl | (simp [errW_none, errW_some] <;> rfl) | (simp [*, errW_none, errW_some] <;> rfl)) : P := h
theorem zO {P : Prop} (h : P := by first | omega | exact Nat.le_refl _) : P := h
theorem zD {P : Prop} (h : P := by repeat (first | exact Drawn.refl _ | apply Drawn.step)) : P := h
theorem za {P : Prop} (h : P := by first | (with_reducible assumption) | assumption) : P := h
theorem zA {P : Prop} (h : P := by (try simp only [List.map_toArray, List.map_cons, List.map_nil]); first | done | rfl | (simp only [List.length_drop, List.length_take]; rfl)) : P := h
theorem zk {P : Prop} (h : P := by kernel_rfl) : P := h
theorem zG {P : Prop} (h : P := by first | (go_simp; done) | (go_simp; rfl)) : P := h
theorem zn {P : Prop} (h : P := by first | exact Kd.R_nil _ _ _ _ _ | exact Kd.N_nil _ _ _ _ _ | exact Kd.V_nil _ _ _ _ _ | exact Kd.Q_nil _ _ _ _ _ | exact Kd.S_nil _ _ _ _ _) : P := h
theorem zbs {α β : Type} {x : Option α} {f : α → Option β} {b : β} (h : x.bind f = some b) : ∃ a, x = some a ∧ f a = some b := Option.bind_eq_some_iff.mp h
theorem zB {w0 w w1 : World} (h : Aside0 (Below w0.heap.size w0 w)) (p : Below w0.heap.size w0 w → Below w0.heap.size w0 w1 := by intro h_; repeat (first | (with_reducible first | exact h_ | apply below_alloc | apply pw_below_drewN | apply below_drew1 | refine below_set ?_ (Aside0.out (by assumption))) | (with_reducible refine below_set ?_ (I7.ge (Aside0.out (by assumption)))) | exact h_)) : Below w0.heap.size w0 w1 := p h.out
theorem zK {w0 w w1 : World} {g : Nat} (h : Aside0 (KeepBut w0 w g none)) (p : KeepBut w0 w g none → KeepBut w0 w1 g none := by intro h_; repeat (first | (with_reducible first | exact h_ | apply KeepBut.set_ | apply keep_drewN | apply keep_drew | apply keep_alloc | refine z10_ ?_ (Aside0.out (by assumption)) _) | exact h_)) : KeepBut w0 w1 g none := p h.out
theorem zS {P Q : Prop} (h : Aside0 Q) (p : Q → P := by intro h_; repeat (first | (with_reducible first | exact h_ | apply I7.alloc | apply I7.drewN | apply I7.drew | apply I7.set_1 | apply I7.set_2 | refine I7.far ?_ (Aside0.out (by assumption)) _) | exact h_)) : P := p h.out
section
variable {α : Type} {d : Kd α} {e base : Nat} {ok : Nat → Prop} {w w1 : World} {v : Value} {xs : List α}
theorem rX [l : LX w w1] (h : d.R e w base ok v xs) : d.R e w1 base ok v xs := Kd.z7_ h l.l.b
end
theorem zb {w w1 : World} {g : Nat} {o : Obj} (h : Aside0 (w.heap[g]? = some o)) (p : w.heap[g]? = some o → w1.heap[g]? = some o := by intro h_; (with_reducible repeat (first | refine blk_drewN ?_ _ | refine blk_drew ?_ | refine z11_ ?_ _ | refine z18_ ?_ (Aside0.out (by assumption)) _)); exact h_) : w1.heap[g]? = some o := p h.out
theorem zH {A Q P : Prop} (hy : A) (h : Q) (p : A → Q → P := by intro hy_ H; first | (rw [hy_]; with_reducible exact H) | (have H2_ := (Option.bind_some _ _).symm.trans H; rw [hy_]; with_reducible exact H2_) | (have H2_ := (Option.bind_some _ _).symm.trans H; with_reducible exact H2_) | with_reducible exact H | (rw [hy_]; exact H) | exact H) : P := p hy h
theorem zM {P : Prop} (h : P := by repeat' first | (with_reducible exact ih0 ..) | (with_reducible exact ih1 ..) | (with_reducible exact ih2 ..) | (with_reducible exact ih3 ..) | (with_reducible exact ih4 ..) | (with_reducible exact ih5 ..) | (with_reducible exact ih6 ..) | (with_reducible exact ih7 ..) | (with_reducible exact ih8 ..) | (with_reducible exact ih9 ..) | (with_reducible exact im0 ..) | (with_reducible exact im1 ..) | (with_reducible exact im2 ..) | (with_reducible exact im3 ..) | (with_reducible exact im4 ..) | (with_reducible exact im5 ..) | (with_reducible exact im6 ..) | (with_reducible exact im7 ..) | (with_reducible exact LeO.refl _) | (with_reducible exact LeO.none _) | (with_reducible refine LeO.ite ?_ ?_) | (with_reducible refine LeO.bind ?_ (fun _ => ?_)) | exact ih0 .. | exact ih1 .. | exact ih2 .. | exact ih3 .. | exact ih4 .. | exact ih5 .. | exact ih6 .. | exact ih7 .. | exact ih8 .. | exact ih9 .. | exact im0 .. | exact im1 .. | exact im2 .. | exact im3 .. | exact im4 .. | exact im5 .. | exact im6 .. | exact im7 .. | exact LeO.none _ | refine LeO.ite ?_ ?_ | refine LeO.bind ?_ (fun _ => ?_)) : P := h
def bl : Nat → Nat → List Bool
  | 0, _ => []
  | n + 1, m => (m % 2 == 1) :: bl n (m / 2)
def bs (n m : Nat) : Array Bool := ⟨bl n m⟩
section
variable {P : Program} {ops : Array Oper} {Q : Exit → Act → World → Prop} {md : Region.Mode} {S : World → Prop} {ds : List Nat}
theorem pQ (i n s m : Nat) {oi : Oper} {v : Value} {fuel : Nat} {l : Array Bool} {a : Act} {w : World} {a' : Act} (h : wpAnyLast P md ops Q S ds fuel (bs s m) a' w) (hi : ops[i]? = some oi := by exact rfl) (hN : oi.dst = some n := by exact rfl) (hc : anyB md ops l (bs s m) i = true := by exact any_of HT_.out (by kernel_rfl))
    (hQ : ∀ c a w, Q (.panic c) (a.put oi.dst v) w → Q (.panic c) a w := by exact fun _ _ _ h => h) (hy1 : Region.wanted oi (yielded ops a.tmps) = true := by rfl) (hy2 : ∀ w', (execOp a.eval oi).run P w' = .ok (.value v) w' := by intro w'; go_simp; with_reducible rfl)
    (ha : a.put (some n) v = a' := by simp only [Act.put, List.setIfInBounds_toArray, List.set_cons_zero, List.set_cons_succ, i64_w, i32_w]; rfl) : wpAnyLast P md ops Q S ds (fuel + 1) l a w := pure_ (bs s m) hi hN hc hQ (Or.inl ⟨hy1, hy2⟩) ha h
end
end Go.Proofs.YtakmkhokbcjapaaDoor.Lift
end
section
namespace Go.Proofs.YtakmkhokbcjapaaDoor.Own
open Go.Proofs.YtakmkhokbcjapaaDoorW.PrintWords
variable {α : Type} {d : Kd α} {e base : Nat} {W : World} {ok : Nat → Prop} {A : Option Addr} {n c m : Nat} {xs : List α}
theorem V_of_cap {v : Value} (h : Kd.V d e W base ok (.slice A n c) xs) (hv : v = .slice A n n) : Kd.V d e W base ok v xs := by
  obtain ⟨hn, _, hf⟩ := Kd.V_at h
  subst hv
  subst hn
  exact ⟨A, xs.length, rfl, Nat.le_refl _, hf⟩
end Go.Proofs.YtakmkhokbcjapaaDoor.Own
end
section
namespace Go.Proofs.YtakmkhokbcjapaaDoorW.PrintWords
open Go.RowKit
namespace Kd
section
variable {P : Program} {ops : Array Oper} {rest : List Oper} {o : Oper} {a : Act} {Q : Exit → Act → World → Prop} {α : Type}
theorem run_copy_any (w : World) (dT sT ty elem : TypeId) (b dLen dCap sz k : Nat) (ad : Addr) (sLen sCap : Nat) (cs : List Value)
    (hu : P.underlying dT = some (.slice elem)) (hs : (P.info? elem).map (·.size) = some sz) (hk : k = Nat.min sLen dLen) (hn : cs.length = k * sz)
    (hsrc : ∀ j v, cs[j]? = some v → w.cell? (ad.add j) = some v) (hc : ∀ j, j < cs.length → (w.cell? ⟨b, 0 + j, none⟩).isSome = true) (hf : ∀ j, j < cs.length → w.frozen? ⟨b, 0 + j, none⟩ = false) (h1 : ∀ v ∈ cs, v.oneCell' = true) :
    (Builtin.copy_ #[dT, sT] ty #[.slice (some ⟨b, 0, none⟩) dLen dCap, .slice (some ad) sLen sCap]).run P w = .ok (goInt k) (w.setCells b 0 cs) := by
  have hl := run_loadCells_list (P := P) w ad cs hsrc
  have hst := run_storeCells_cells (P := P) b 0 cs 0 w (by simpa using hc) (by simpa using hf) h1
  cases hq : P.info? elem with
  | none => simp [hq] at hs
  | some i =>
    have hi : i.size = sz := by simpa [hq] using hs
    rw [hn] at hl
    have hk' : sLen.min dLen = k := hk.symm
    have hst' : (storeCells ⟨b, 0, none⟩ cs 0).run P w = .ok () (w.setCells b 0 cs) := by simpa using hst
    simp [Builtin.copy_, run_underlying hu, Builtin.lenOf, Builtin.firstCells, sizeOf, typeInfo, hq, hi, hk', hl, hst']
theorem run_copy_zero (w : World) (dT sT ty elem : TypeId) (sz : Nat) (dd aa : Option Addr) (dLen dCap sLen sCap : Nat) (hu : P.underlying dT = some (.slice elem)) (hs : (P.info? elem).map (·.size) = some sz) (hn : Nat.min sLen dLen = 0) :
    (Builtin.copy_ #[dT, sT] ty #[.slice dd dLen dCap, .slice aa sLen sCap]).run P w = .ok (goInt 0) w := by
  cases hq : P.info? elem with
  | none => simp [hq] at hs
  | some i =>
    have hl : ∀ (x : Addr), (loadCells x 0).run P w = .ok #[] w := fun x => by simpa using run_loadCells_list (P := P) w x [] (by simp)
    cases dd <;> cases aa <;> simp [Builtin.copy_, run_underlying hu, Builtin.lenOf, Builtin.firstCells, sizeOf, typeInfo, hq, hn, storeCells, hl]
theorem cp_take {R : α → List Value → Prop} {size : Nat} {ps : List α} {cs : List Value} (h : Reps R size ps cs) (k : Nat) : Reps R size (ps.take k) (cs.take (k * size)) := by
  refine ⟨?_, fun j p hj => ?_⟩
  · rw [List.length_take, List.length_take, h.1]; exact Nat.mul_min_mul_right _ _ _
  · rw [List.getElem?_take] at hj
    split at hj
    · next hjk =>
      have h2 := h.2 j p hj
      have : j * size + size ≤ k * size := by rw [← Nat.succ_mul]; exact Nat.mul_le_mul_right _ hjk
      rw [List.drop_take, List.take_take, Nat.min_eq_left (by omega)]
      exact h2
    · cases hj
theorem cp_drop {R : α → List Value → Prop} {size : Nat} {ps : List α} {cs : List Value} (h : Reps R size ps cs) (k : Nat) : Reps R size (ps.drop k) (cs.drop (k * size)) := by
  refine ⟨?_, fun j p hj => ?_⟩
  · rw [List.length_drop, List.length_drop, h.1, Nat.sub_mul]
  · rw [List.getElem?_drop] at hj
    have h2 := h.2 (k + j) p hj
    rw [List.drop_drop, ← Nat.add_mul]
    exact h2
theorem raw_copy {sz e base : Nat} {W : World} {v : Value} {rows news : List (List Value)} {A : Option Addr} {m c t ty : Nat}
    (ht : P.underlying t = some (.slice e)) (hs : (P.info? e).map (·.size) = some sz) (hs0 : 0 < sz)
    (hR : (raw sz).R e W base (fun k => some k = v.ownBlock) v rows) (hC : ReadsRow (fun x cs => cs = x ∧ cs.length = sz ∧ ∀ u ∈ cs, u.oneCell' = true) sz W A m news) :
    ∃ w1, (Builtin.copy_ #[t, t] ty #[v, .slice A m c]).run P W = .ok (goInt ((min news.length rows.length : Nat) : Int)) w1 ∧
      (raw sz).R e w1 base (fun k => some k = v.ownBlock) v (news.take rows.length ++ rows.drop news.length) ∧ W.grownBy w1 v.ownBlock := by
  have hm : news.length = m := hC.1
  have hR0 := hR
  obtain ⟨hok, inner, hown, hr⟩ := hR
  have hsh : ∃ A' c', v = .slice A' rows.length c' := own_slice hown
  rcases Nat.eq_zero_or_pos (min m rows.length) with h0 | hp
  · obtain ⟨A', c', hv⟩ := hsh
    have hrows : news.take rows.length ++ rows.drop news.length = rows := by
      rcases Nat.eq_zero_or_pos rows.length with h | h
      · rw [h, List.take_zero, List.nil_append, List.eq_nil_of_length_eq_zero h, List.drop_nil]
      · have : news = [] := List.eq_nil_of_length_eq_zero (by omega)
        rw [this, List.take_nil, List.nil_append, List.length_nil, List.drop_zero]
    refine ⟨W, ?_, by rw [hrows]; exact hR0, World.grownBy.refl W _⟩
    rw [hv, hm, h0]
    exact run_copy_zero W t t ty e sz A' A rows.length c' m c ht hs h0
  · obtain ⟨ad, hA, _⟩ := hC.2.2 (by omega)
    subst hA
    obtain ⟨cells, hcr, hcc⟩ := ReadsRow.inner_ hC
    rcases hown.2 with ⟨_, hx0⟩ | ⟨g, cap, cur, hv, hb, hh, hnc, hcm, hcs, htake⟩
    · have : rows.length = 0 := hx0
      omega
    have hcl : cells.length = m * sz := by rw [hcr.1, hm]
    have hk2 : min m rows.length * sz ≤ cur.size := by
      rw [hcs]
      exact Nat.mul_le_mul_right _ (by have : rows.length ≤ cap := hnc; omega)
    have hk3 : min m rows.length * sz ≤ cells.length := by
      rw [hcl]
      exact Nat.mul_le_mul_right _ (Nat.min_le_left _ _)
    have hkl : (cells.take (min m rows.length * sz)).length = min m rows.length * sz := by rw [List.length_take]; omega
    have hone : ∀ u ∈ cells.take (min m rows.length * sz), u.oneCell' = true := by
      intro u hu
      obtain ⟨q, hq, rfl⟩ := List.mem_iff_getElem.1 (List.mem_of_mem_take hu)
      have hql : q / sz < news.length := by rw [Nat.div_lt_iff_lt_mul hs0, hm, ← hcl]; exact hq
      obtain ⟨_, _, h3⟩ := hcr.2 (q / sz) _ (List.getElem?_eq_getElem hql)
      refine h3 _ ?_
      rw [List.mem_iff_getElem?]
      refine ⟨q % sz, ?_⟩
      rw [List.getElem?_take, if_pos (Nat.mod_lt _ hs0), List.getElem?_drop, Nat.mul_comm, Nat.div_add_mod, List.getElem?_eq_getElem hq]
    have hsrc : ∀ j u, (cells.take (min m rows.length * sz))[j]? = some u → W.cell? (ad.add j) = some u := by
      intro j u hu
      rw [List.getElem?_take] at hu
      split at hu
      · exact hcc j u hu
      · cases hu
    have hrun := run_copy_any (P := P) W t t ty e g rows.length cap sz (min m rows.length) ad m c (cells.take (min m rows.length * sz)) ht hs rfl hkl hsrc
      (fun j hj => by rw [cell_of_row W g _ cur e (0, 0) hh]; simp; omega) (fun j _ => z1_ hh _) hone
    obtain ⟨cur', h3, h4, h5⟩ := setCells_row (cells.take (min m rows.length * sz)) 0 W cur hh (by rw [hkl]; omega)
    obtain ⟨s1, s2, s3, s4⟩ := setCells_same g (cells.take (min m rows.length * sz)) 0 W
    refine ⟨_, by rw [hv, hm]; exact hrun, ?_, ⟨s1, s2, s3, by rw [s4]; exact Nat.le_refl _, fun k _ hk => setCells_far _ _ k (fun he => hk (by rw [hv, he]; simp [Value.ownBlock]))⟩⟩
    have hln : (news.take rows.length ++ rows.drop news.length).length = rows.length := by
      rw [List.length_append, List.length_take, List.length_drop]
      omega
    have hreps : Reps (fun x cs => cs = x ∧ cs.length = sz ∧ ∀ u ∈ cs, u.oneCell' = true) sz (news.take rows.length ++ rows.drop news.length) (cells.take (min m rows.length * sz) ++ inner.drop (min m rows.length * sz)) := by
      have e1 : news.take rows.length = news.take (min m rows.length) := by
        rcases Nat.le_total m rows.length with h | h
        · rw [Nat.min_eq_left h, List.take_of_length_le (by omega), List.take_of_length_le (by omega)]
        · rw [Nat.min_eq_right h]
      have e2 : rows.drop news.length = rows.drop (min m rows.length) := by
        rcases Nat.le_total m rows.length with h | h
        · rw [Nat.min_eq_left h, hm]
        · rw [Nat.min_eq_right h, List.drop_of_length_le (by omega), List.drop_of_length_le (by omega)]
      rw [e1, e2]
      exact reps_append (cp_take hcr _) (cp_drop hr _)
    refine ⟨hok, _, ?_, hreps⟩
    rw [hln]
    refine ⟨by rw [hreps.1, hln]; rfl, .inr ⟨g, cap, cur', hv, hb, h3, hnc, hcm, by rw [h4, hcs], ?_⟩⟩
    rw [h5, List.take_zero, List.nil_append, hkl, Nat.zero_add]
    have hsz' : (raw sz).sz = sz := rfl
    rw [hsz'] at htake ⊢
    rw [List.take_append, hkl, List.take_of_length_le (by rw [hkl]; exact Nat.mul_le_mul_right _ (Nat.min_le_right _ _)), ← htake, List.drop_take]
theorem N_copy_rows (d : Kd α) {w0 W : World} (base : Nat) (hgd : o.guard = none) (s x : Operand) (t e : TypeId) (z : Value) (bytes : Nat)
    (ho : o.op = .call { callee := .builtin .copy, args := #[s, x], argTypes := #[t, t] })
    (ht : P.underlying t = some (.slice e)) (hinfo : (P.info? e).map (fun i => (i.zero, i.size, i.bytes)) = some (some z, d.sz, bytes)) (hs0 : 0 < d.sz)
    (v : Value) (xs ys : List α) (A : Option Addr) (m c : Nat) (ok okp : Nat → Prop) (hs : a.eval s = v) (hx : a.eval x = .slice A m c)
    (HO : N d e W base ok v xs) (HR : F d W okp A m ys) (hokp : ∀ k, okp k → ok k ∧ some k ≠ v.ownBlock)
    (HB : Below base w0 W) (hbase : base ≤ W.heap.size)
    (h : ∀ v1 w1, N d e w1 base ok v1 (ys.take xs.length ++ xs.drop ys.length) → Below base w0 w1 → W.grownBy w1 v.ownBlock → v1 = v → wpList P ops Q rest (a.put o.dst (.int .i64 ((min ys.length xs.length : Nat) : Int))) w1) :
    wpList P ops Q (o :: rest) a W := by
  have HN := HO
  obtain ⟨h0, rows, hlr, hR, hf⟩ := HO
  obtain ⟨news, hnl, hnr, hnf⟩ := reads_raw (F_rows HR) (fun y c hk => ⟨d.K_len (FK_now hk), d.K_one (FK_now hk)⟩)
  obtain ⟨i0, hi, hzz⟩ := Option.map_eq_some_iff.1 hinfo
  simp only [Prod.mk.injEq] at hzz
  obtain ⟨w1, hrun, hR1, hg⟩ := raw_copy (P := P) (c := c) (ty := o.type) ht (by rw [hi]; exact congrArg some hzz.2.1) hs0 hR hnr
  rw [hnl, hlr] at hrun hR1
  refine wpList_plain hgd fun K hK => ?_
  unfold Oper.wp execOp
  simp only [ho, resolve, invoke, builtin, Sem.run_bind, Sem.run_pure, Result.andThen_ok, List.map_toArray, List.map_cons, List.map_nil, hs, hx, hrun]
  refine hK _ _ (h v w1 ⟨h0, _, ?_, hR1, fun j y cc hy hc => ?_⟩ (HB.grown hg hbase (fun k hk => N_base HN k hk)) hg rfl)
  · simp only [List.length_append, List.length_take, List.length_drop]
    omega
  · have step : ∀ {x : α} {c : List Value} {o : Nat → Prop}, FK d W o x c → (∀ k, o k → ok k ∧ some k ≠ v.ownBlock) → FK d w1 (fun k => ok k ∧ some k ≠ v.ownBlock) x c := by
      intro x c o hq ho
      exact FK_mono (FK_step (FK_bound hq) (fun k hk hlt => hg.block k hlt (ho k hk.1).2)) (fun k hk => ho k hk.1)
    rcases Nat.lt_or_ge j (min ys.length xs.length) with hlt | hge
    · rw [List.getElem?_append_left (by rw [List.length_take]; omega), List.getElem?_take, if_pos (by omega)] at hy
      rw [List.getElem?_append_left (by rw [List.length_take]; omega), List.getElem?_take, if_pos (by omega)] at hc
      exact step (hnf j y cc hy hc) hokp
    · rw [List.getElem?_append_right (by rw [List.length_take]; omega), List.length_take, List.getElem?_drop] at hy
      rw [List.getElem?_append_right (by rw [List.length_take]; omega), List.length_take, List.getElem?_drop] at hc
      rcases Nat.le_total ys.length xs.length with hle | hle
      · rw [show ys.length + (j - min xs.length ys.length) = j by omega] at hy
        rw [show ys.length + (j - min xs.length news.length) = j by omega] at hc
        exact step (hf j y cc hy hc) (fun _ hk => hk)
      · rw [List.getElem?_eq_none (by omega)] at hy
        cases hy
end
end Kd
section
variable {P : Program} {ops : Array Oper} {rest : List Oper} {o : Oper} {a : Act} {Q : Exit → Act → World → Prop} {W : World}
theorem gate_callee_v {t : Nat} {as : Array Operand} {ts : Array TypeId} (_ho : o.op = .call { callee := .value (.tmp t), args := as, argTypes := ts }) (h : wpList P ops Q (o :: rest) a W) : wpList P ops Q (o :: rest) a W := h
theorem goesL_v {rest : List Oper} {oi : Oper} {a : Act} {w : World} (N : Option Tmp) (hd : oi.dst = N) (hg : oi.guard = none) {f : FuncId} {fn : Func} {x : Operand} {as : Array Operand} {ts : Array TypeId} (hf : P.funcs[f]? = some fn) (hname : (fn.name == "runtime.NumGoroutine") = false) (hb : fn.body.isSome = true) (args : Array Value)
    (hop : oi.op = .call { callee := .value x, args := as, argTypes := ts }) (hx : a.eval x = .func (.func f) #[] #[]) (hargs : as.map a.eval = args)
    (h : Calls P f args w fun e w' => ∃ v, e = .returned v ∧ wpList P ops Q rest (a.put N v) w') : wpList P ops Q (oi :: rest) a w := by
  refine wpList_plain hg fun K hK => ?_
  have he := PrintLast.enters_ hf hname hb args w
  have hrun : (execOp a.eval oi).run P w = .ok (.enter f args) w := by
    unfold execOp
    simp [hop, hx, resolve, Deferred.ofValue, invoke, hargs, he]
  unfold Oper.wp
  rw [hrun, Oper.upon_enter]
  refine h.mono fun e w'' hh => ?_
  obtain ⟨v, rfl, hk⟩ := hh
  subst hd
  exact hK _ _ hk
end
end Go.Proofs.YtakmkhokbcjapaaDoorW.PrintWords
end
