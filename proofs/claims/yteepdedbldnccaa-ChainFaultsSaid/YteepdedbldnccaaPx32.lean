-- Written by wip/tools/laws.py of this repo over the kit's printer, for this claim.
import Derived.Test.YteepdedbldnccaaPx0
import Derived.Test.YteepdedbldnccaaPx19
import Derived.Test.YteepdedbldnccaaPx20
import Derived.Test.YteepdedbldnccaaPx21
import Derived.Test.YteepdedbldnccaaPx24
namespace Go.Proofs.Yteepdedbldnccaa.P
open Go.RowKit Go.Proofs.YteepdedbldnccaaW.PrintWords Go.Proofs.YteepdedbldnccaaW.PrintLast Go.Proofs.YteepdedbldnccaaW.PrintMore
attribute [local go_sem] max2_int min2_int max_two min_two max_three min_three max_four min_four   -- for this text's walks alone
set_option linter.unusedVariables false
set_option linter.unusedSimpArgs false

/-! ### skiarearef16_Bypass: function 24 -/
mutual
def skiarearef16_Bypass.j0 : Nat → Int → Int → Bool → List (S48) → Int → Int → Bool → Bool → Bool → Int → Option ((List (S48)) × Int × Int)
 | 0, _, _, _, _, _, _, _, _, _, _ => none
 | k + 1, x3, x10, x32, x423000, x423001, x427000, x427001, x427002, x427003, x427004 => if x32 = true then (some (([] : List (S48)), 0, 17)) else (if x427001 = true then (some (([] : List (S48)), 0, 13)) else ((skiarearef16_bypassed.f k x423000).bind fun t427 => (if t427 ≥ 0 then (skiarearef16_Bypass.j1 k x3 x10 (t427 != x10) x423000 x423001 x427000 x427001 x427002 x427003 x427004) else (skiarearef16_Bypass.j1 k x3 x10 false x423000 x423001 x427000 x427001 x427002 x427003 x427004))))
def skiarearef16_Bypass.j1 : Nat → Int → Int → Bool → List (S48) → Int → Int → Bool → Bool → Bool → Int → Option ((List (S48)) × Int × Int)
 | 0, _, _, _, _, _, _, _, _, _, _ => none
 | k + 1, x3, x10, x46, x423000, x423001, x427000, x427001, x427002, x427003, x427004 => if x46 = true then (some (([] : List (S48)), 0, 15)) else ((skiarearef16_in.f x3 1 20000000).bind fun t428 => (if t428 = true then ((skiarearef16_with.f k x423000 x423001 x10 x427000 x427001 x427002 x427003 x3).bind fun bt429 => (some (bt429.1, bt429.2, 0))) else (some (([] : List (S48)), 0, 2))))
end
def skiarearef16_Bypass.f (k : Nat) (l0_0 : List (S48)) (a0_1 : Int) (a1 : Int) (a2 : Int) (a3 : Int) : Option ((List (S48)) × Int × Int) := (skiarearef16_index.f k l0_0 a1).bind fun t424 => (if t424 < 0 then (some (([] : List (S48)), 0, 8)) else (if 0 ≤ t424 then (if t424 < (l0_0.length : Int) then (if a2 = 0 then (skiarearef16_Bypass.j0 k a3 t424 true l0_0 a0_1 ((rd_T48 l0_0 t424).f0) ((rd_T48 l0_0 t424).f1) ((rd_T48 l0_0 t424).f2) ((rd_T48 l0_0 t424).f3) ((rd_T48 l0_0 t424).f4)) else (skiarearef16_Bypass.j0 k a3 t424 (a2 != a0_1) l0_0 a0_1 ((rd_T48 l0_0 t424).f0) ((rd_T48 l0_0 t424).f1) ((rd_T48 l0_0 t424).f2) ((rd_T48 l0_0 t424).f3) ((rd_T48 l0_0 t424).f4))) else (none)) else (none)))
theorem skiarearef16_Bypass.mono_l : ∀ k, (∀ y0 y1 y2 y3 y4 y5 y6 y7 y8 y9, LeO (skiarearef16_Bypass.j0 k y0 y1 y2 y3 y4 y5 y6 y7 y8 y9) (skiarearef16_Bypass.j0 (k + 1) y0 y1 y2 y3 y4 y5 y6 y7 y8 y9)) ∧ (∀ y0 y1 y2 y3 y4 y5 y6 y7 y8 y9, LeO (skiarearef16_Bypass.j1 k y0 y1 y2 y3 y4 y5 y6 y7 y8 y9) (skiarearef16_Bypass.j1 (k + 1) y0 y1 y2 y3 y4 y5 y6 y7 y8 y9))
 | 0 => ⟨fun _ _ _ _ _ _ _ _ _ _ r h => by simp [skiarearef16_Bypass.j0] at h, fun _ _ _ _ _ _ _ _ _ _ r h => by simp [skiarearef16_Bypass.j1] at h⟩
 | k + 1 => by
  obtain ⟨ih0, ih1⟩ := skiarearef16_Bypass.mono_l k
  refine ⟨?_, ?_⟩
  ·intro y0 y1 y2 y3 y4 y5 y6 y7 y8 y9
   unfold skiarearef16_Bypass.j0
   repeat' first
   | (with_reducible exact ih0 _ _ _ _ _ _ _ _ _ _)
   | (with_reducible exact ih1 _ _ _ _ _ _ _ _ _ _)
   | (with_reducible exact skiarearef16_bypassed.mono _ _)
   | (with_reducible exact skiarearef16_index.mono _ _ _)
   | (with_reducible exact skiarearef16_with.mono _ _ _ _ _ _ _ _ _)
   | (with_reducible exact LeO.refl _)
   | (with_reducible exact LeO.none _)
   | (with_reducible refine LeO.ite ?_ ?_)
   | (with_reducible refine LeO.bind ?_ (fun _ => ?_))
   | exact ih0 _ _ _ _ _ _ _ _ _ _
   | exact ih1 _ _ _ _ _ _ _ _ _ _
   | exact skiarearef16_bypassed.mono _ _
   | exact skiarearef16_index.mono _ _ _
   | exact skiarearef16_with.mono _ _ _ _ _ _ _ _ _
   | exact LeO.none _
   | refine LeO.ite ?_ ?_
   | refine LeO.bind ?_ (fun _ => ?_)
  ·intro y0 y1 y2 y3 y4 y5 y6 y7 y8 y9
   unfold skiarearef16_Bypass.j1
   repeat' first
   | (with_reducible exact ih0 _ _ _ _ _ _ _ _ _ _)
   | (with_reducible exact ih1 _ _ _ _ _ _ _ _ _ _)
   | (with_reducible exact skiarearef16_bypassed.mono _ _)
   | (with_reducible exact skiarearef16_index.mono _ _ _)
   | (with_reducible exact skiarearef16_with.mono _ _ _ _ _ _ _ _ _)
   | (with_reducible exact LeO.refl _)
   | (with_reducible exact LeO.none _)
   | (with_reducible refine LeO.ite ?_ ?_)
   | (with_reducible refine LeO.bind ?_ (fun _ => ?_))
   | exact ih0 _ _ _ _ _ _ _ _ _ _
   | exact ih1 _ _ _ _ _ _ _ _ _ _
   | exact skiarearef16_bypassed.mono _ _
   | exact skiarearef16_index.mono _ _ _
   | exact skiarearef16_with.mono _ _ _ _ _ _ _ _ _
   | exact LeO.none _
   | refine LeO.ite ?_ ?_
   | refine LeO.bind ?_ (fun _ => ?_)
theorem skiarearef16_Bypass.mono : ∀ a0 a1 a2 a3 a4 k, LeO (skiarearef16_Bypass.f k a0 a1 a2 a3 a4) (skiarearef16_Bypass.f (k + 1) a0 a1 a2 a3 a4) := by
 intro a0 a1 a2 a3 a4 k
 obtain ⟨ih0, ih1⟩ := skiarearef16_Bypass.mono_l k
 unfold skiarearef16_Bypass.f
 repeat' first
   | (with_reducible exact ih0 _ _ _ _ _ _ _ _ _ _)
   | (with_reducible exact ih1 _ _ _ _ _ _ _ _ _ _)
   | (with_reducible exact skiarearef16_bypassed.mono _ _)
   | (with_reducible exact skiarearef16_index.mono _ _ _)
   | (with_reducible exact skiarearef16_with.mono _ _ _ _ _ _ _ _ _)
   | (with_reducible exact LeO.refl _)
   | (with_reducible exact LeO.none _)
   | (with_reducible refine LeO.ite ?_ ?_)
   | (with_reducible refine LeO.bind ?_ (fun _ => ?_))
   | exact ih0 _ _ _ _ _ _ _ _ _ _
   | exact ih1 _ _ _ _ _ _ _ _ _ _
   | exact skiarearef16_bypassed.mono _ _
   | exact skiarearef16_index.mono _ _ _
   | exact skiarearef16_with.mono _ _ _ _ _ _ _ _ _
   | exact LeO.none _
   | refine LeO.ite ?_ ?_
   | refine LeO.bind ?_ (fun _ => ?_)
set_option maxHeartbeats 8000000 in
set_option maxRecDepth 100000 in
theorem skiarearef16_Bypass.calls (k : Nat) (A0_0 : Option Addr) (c0_0 : Nat) (l0_0 : List (S48)) (a0_1 : Int) (a1 : Int) (a2 : Int) (a3 : Int) (r1 : List (S48)) (r2 : Int) (r3 : Int) (w : World) (hr0_0 : Kd.C k48 w A0_0 l0_0.length l0_0) (hc0_0 : l0_0.length ≤ c0_0) (h : skiarearef16_Bypass.f k l0_0 a0_1 a1 a2 a3 = some (r1, r2, r3)) :
  Calls Try.prog 24 #[.agg #[.slice A0_0 l0_0.length c0_0, .int .i64 a0_1], .int .i64 a1, .int .i64 a2, .int .i64 a3] w fun e w' => ∃ v0_ : Value, e = .returned (.tuple #[.agg #[v0_, .int .i64 r2], .int .i64 r3]) ∧ Kd.R k48 48 w' w.heap.size (fun _ => True) v0_ r1 ∧ Below w.heap.size w w' := by
 have hu24 := Try.underlying24
 have hu48 := Try.underlying48
 have HR0_0 := Aside0.mk hr0_0
 have HC0_0 := Aside0.mk hc0_0
 clear hr0_0 hc0_0
 have HB := Aside0.mk (Below.refl w.heap.size w)
 have H : ((skiarearef16_index.f k l0_0 a1).bind fun t424 => (if t424 < 0 then (some (([] : List (S48)), 0, 8)) else (if 0 ≤ t424 then (if t424 < (l0_0.length : Int) then (if a2 = 0 then (skiarearef16_Bypass.j0 k a3 t424 true l0_0 a0_1 ((rd_T48 l0_0 t424).f0) ((rd_T48 l0_0 t424).f1) ((rd_T48 l0_0 t424).f2) ((rd_T48 l0_0 t424).f3) ((rd_T48 l0_0 t424).f4)) else (skiarearef16_Bypass.j0 k a3 t424 (a2 != a0_1) l0_0 a0_1 ((rd_T48 l0_0 t424).f0) ((rd_T48 l0_0 t424).f1) ((rd_T48 l0_0 t424).f2) ((rd_T48 l0_0 t424).f3) ((rd_T48 l0_0 t424).f4))) else (none)) else (none)))) = some (r1, r2, r3) := h
 clear h
 replace H := Option.bind_eq_some_iff.mp H
 obtain ⟨t424, A50, H⟩ := H
 replace H : (if t424 < 0 then (some (([] : List (S48)), 0, 8)) else (if 0 ≤ t424 then (if t424 < (l0_0.length : Int) then (if a2 = 0 then (skiarearef16_Bypass.j0 k a3 t424 true l0_0 a0_1 ((rd_T48 l0_0 t424).f0) ((rd_T48 l0_0 t424).f1) ((rd_T48 l0_0 t424).f2) ((rd_T48 l0_0 t424).f3) ((rd_T48 l0_0 t424).f4)) else (skiarearef16_Bypass.j0 k a3 t424 (a2 != a0_1) l0_0 a0_1 ((rd_T48 l0_0 t424).f0) ((rd_T48 l0_0 t424).f1) ((rd_T48 l0_0 t424).f2) ((rd_T48 l0_0 t424).f3) ((rd_T48 l0_0 t424).f4))) else (none)) else (none))) = some (r1, r2, r3) := H
 have A5 := Aside0.mk A50
 clear A50
 by_cases c6 : t424 < 0
 ·rw [if_pos c6] at H
  have c6b0 : decide (t424 < 0) = true := decide_eq_true c6; clear c6
  simp only [Option.some.injEq, Prod.mk.injEq] at H
  obtain ⟨rfl, rfl, rfl⟩ := H
  go_enter Try.func24, Try.ntmps24
  go_wp2_with (first | ((with_reducible refine gate_dst (N := 54) rfl ?_); refine whole_list (g := gb422) (l := ?l54_) (l' := ?m54_) (t := ?t54_) ?hg ?hb ?hl ?hr ?_; (case hg => rfl); (case hb => repeat (first | (with_reducible exact BK422.out) | (with_reducible refine blk_putL (l := ?_) ?_ _ _; rotate_left) | (with_reducible refine blk_drewN ?_ _) | (with_reducible refine blk_drew ?_) | refine blk_far ?_ (Aside0.out (by assumption)) _)); (case hl => first | (simp only [List.set_cons_zero, List.set_cons_succ]; done) | (simp only [List.set_cons_zero, List.set_cons_succ]; rfl) | rfl); (case hr => intro w1 hb; have hz0_ : w1.cell? ⟨gb422, 0, none⟩ = some _ := (blk_cell hb 0).trans rfl; have hz1_ : w1.cell? ⟨gb422, 1, none⟩ = some _ := (blk_cell hb 1).trans rfl; first | (go_simp; done) | (go_simp; rfl))) | ((with_reducible refine gate_dst (N := 4) rfl ?_); refine box_event ?hg (N := 4) ?hd (cs := #[.slice A0_0 l0_0.length c0_0, .int .i64 a0_1]) (t := 24) ?hr ?_; (case hd => rfl); (case hg => rfl); (case hr => first | (go_simp; done) | (go_simp; rfl)); intro gb422 hg w7 hbox hb; have n0_ := Aside0.mk (below_step (by repeat (first | (with_reducible first | exact HB.out | apply below_alloc | apply pw_below_drewN | apply below_drew1) | exact HB.out)) hb); have n1_ := Aside0.mk (hbox); have n2_ := Aside0.mk ((by rw [hg]; exact (below_size (by repeat (first | (with_reducible first | exact HB.out | apply below_alloc | apply pw_below_drewN | apply below_drew1) | exact HB.out))) : w.heap.size ≤ gb422)); have n3_ := n2_; clear HB; have HB := n0_; have BK422 := n1_; have GW422 := n2_; have GE422 := n3_; clear n0_ n1_ n2_ n3_; clear hb hbox hg) | ((with_reducible refine gate_dst (N := 8) rfl ?_); refine box_event ?hg (N := 8) ?hd (cs := #[.slice none 0 0, .int .i64 0]) (t := 24) ?hr ?_; (case hd => rfl); (case hg => rfl); (case hr => first | (go_simp; done) | (go_simp; rfl)); intro gb423 hg w8 hbox hb; have n0_ := Aside0.mk (bb_ BK422.out hb); have n1_ := Aside0.mk (below_step (by repeat (first | (with_reducible first | exact HB.out | apply below_alloc | apply pw_below_drewN | apply below_drew1 | refine below_set ?_ GE422.out) | exact HB.out)) hb); have n2_ := Aside0.mk (hbox); have n3_ := Aside0.mk ((by rw [hg]; exact (below_size (by repeat (first | (with_reducible first | exact HB.out | apply below_alloc | apply pw_below_drewN | apply below_drew1 | refine below_set ?_ GE422.out) | exact HB.out))) : w.heap.size ≤ gb423)); have n4_ := n3_; have n5_ := Aside0.mk (nl_ hg BK422.out); have n6_ := Aside0.mk (ng_ hg BK422.out); clear BK422; clear HB; have BK422 := n0_; have HB := n1_; have BK423 := n2_; have GW423 := n3_; have GE423 := n4_; have NB422_423 := n5_; have NB423_422 := n6_; clear n0_ n1_ n2_ n3_ n4_ n5_ n6_; clear hb hbox hg; have hnb9 := NB422_423.out; have hnc9 := NB423_422.out; have hcz10_0 : w8.cell? ⟨gb422, 0, none⟩ = some (.slice A0_0 l0_0.length c0_0) := (blk_cell BK422.out 0).trans rfl; have hcz10_1 : w8.cell? ⟨gb422, 1, none⟩ = some (.int .i64 a0_1) := (blk_cell BK422.out 1).trans rfl; have hfz10_0 := blk_frozen BK422.out 0; have hfz10_1 := blk_frozen BK422.out 1) | ((with_reducible refine gate_callee (f := 36) rfl ?_); refine goesL_ (some 16) rfl rfl Try.func36 (by kernel_rfl) rfl #[.slice A0_0 l0_0.length c0_0, .int .i64 a1] rfl (by (try simp only [List.map_toArray, List.map_cons, List.map_nil]); first | done | rfl | (simp only [List.length_drop, List.length_take]; rfl)) ?_; (with_reducible refine (skiarearef16_index.calls k _ _ l0_0 a1 t424 _ ?side1 ?side2 A5.out).mono ?_); (case side1 => repeat (first | exact (Kd.C_below HR0_0.out HB.out) | (with_reducible refine Kd.C_alloc ?_ _) | (with_reducible refine Kd.C_drewN ?_ _) | (with_reducible refine Kd.C_drew ?_))); (case side2 => exact HC0_0.out); rintro e w' ⟨rfl, ⟨nd, rfl⟩⟩; refine ⟨_, rfl, ?_⟩; (try (rw [drewN_self w8]; generalize hq_ : World.drewN w8 _ = w8; have n0_ : Aside0 (w8.heap[gb422]? = some (.cells #[.slice A0_0 l0_0.length c0_0, .int .i64 a0_1] 24 (0, 0))) := ⟨by rw [← hq_]; exact (sb_ BK422.out)⟩; have n1_ : Aside0 (w8.heap[gb423]? = some (.cells #[.slice none 0 0, .int .i64 0] 24 (0, 0))) := ⟨by rw [← hq_]; exact (sb_ BK423.out)⟩; have n2_ : Aside0 (Below w.heap.size w w8) := ⟨by rw [← hq_]; exact (by repeat (first | (with_reducible first | exact HB.out | apply below_alloc | apply pw_below_drewN | apply below_drew1 | refine below_set ?_ GE422.out | refine below_set ?_ GE423.out) | exact HB.out))⟩; clear BK422 BK423 HB hq_; have BK422 := n0_; have BK423 := n1_; have HB := n2_; clear n0_ n1_ n2_)); (try (have hcz10_0 : w8.cell? ⟨gb422, 0, none⟩ = some (.slice A0_0 l0_0.length c0_0) := (blk_cell BK422.out 0).trans rfl)); (try (have hcz10_1 : w8.cell? ⟨gb422, 1, none⟩ = some (.int .i64 a0_1) := (blk_cell BK422.out 1).trans rfl)); (try (have hfz10_0 := blk_frozen BK422.out 0)); (try (have hfz10_1 := blk_frozen BK422.out 1)); have hcz11_0 : w8.cell? ⟨gb423, 0, none⟩ = some (.slice none 0 0) := (blk_cell BK423.out 0).trans rfl; have hcz11_1 : w8.cell? ⟨gb423, 1, none⟩ = some (.int .i64 0) := (blk_cell BK423.out 1).trans rfl; have hfz11_0 := blk_frozen BK423.out 0; have hfz11_1 := blk_frozen BK423.out 1))
  refine bodyPost_ret (results_ct rfl _ _ gb423 24 #[.slice none 0 0, .int .i64 0] (0, 0) _ rfl (by (with_reducible repeat (first | refine blk_drewN ?_ _ | refine blk_drew ?_ | refine blk_alloc ?_ _)); refine blk_put (cs := #[.slice none 0 0, .int .i64 0]) ?_ 1 _ rfl; (with_reducible repeat (first | refine blk_drewN ?_ _ | refine blk_drew ?_ | refine blk_alloc ?_ _)); refine blk_put (cs := #[.slice none 0 0, .int .i64 0]) ?_ 0 _ rfl; (with_reducible repeat (first | refine blk_drewN ?_ _ | refine blk_drew ?_ | refine blk_alloc ?_ _)); exact BK423.out) Try.underlying24 rfl (by kernel_rfl)) rfl ?_
  exact ⟨_, by first | rfl | (simp [errW_none, errW_some] <;> rfl) | (simp [*, errW_none, errW_some] <;> rfl), by first | exact Kd.R_nil _ _ _ _ _ | exact Kd.N_nil _ _ _ _ _ | exact Kd.V_nil _ _ _ _ _ | exact Kd.Q_nil _ _ _ _ _ | exact Kd.S_nil _ _ _ _ _, by repeat (first | (with_reducible first | exact HB.out | apply below_alloc | apply pw_below_drewN | apply below_drew1 | refine below_set ?_ GE422.out | refine below_set ?_ GE423.out) | exact HB.out)⟩
 ·rw [if_neg c6] at H
  have c6b0 : decide (t424 < 0) = false := decide_eq_false c6; clear c6
  by_cases c12 : 0 ≤ t424
  ·rw [if_pos c12] at H
   have c12b0 : decide (0 ≤ t424) = true := decide_eq_true c12; clear c12
   by_cases c13 : t424 < (l0_0.length : Int)
   ·rw [if_pos c13] at H
    have c13b0 : decide (t424 < (l0_0.length : Int)) = true := decide_eq_true c13; clear c13; have HC14 := Aside0.mk H; clear H
    go_enter Try.func24, Try.ntmps24
    go_upto_region 5 with (first | ((with_reducible refine gate_dst (N := 4) rfl ?_); refine box_event ?hg (N := 4) ?hd (cs := #[.slice A0_0 l0_0.length c0_0, .int .i64 a0_1]) (t := 24) ?hr ?_; (case hd => rfl); (case hg => rfl); (case hr => first | (go_simp; done) | (go_simp; rfl)); intro gb422 hg w15 hbox hb; have n0_ := Aside0.mk (below_step (by repeat (first | (with_reducible first | exact HB.out | apply below_alloc | apply pw_below_drewN | apply below_drew1) | exact HB.out)) hb); have n1_ := Aside0.mk (hbox); have n2_ := Aside0.mk ((by rw [hg]; exact (below_size (by repeat (first | (with_reducible first | exact HB.out | apply below_alloc | apply pw_below_drewN | apply below_drew1) | exact HB.out))) : w.heap.size ≤ gb422)); have n3_ := n2_; clear HB; have HB := n0_; have BK422 := n1_; have GW422 := n2_; have GE422 := n3_; clear n0_ n1_ n2_ n3_; clear hb hbox hg) | ((with_reducible refine gate_dst (N := 8) rfl ?_); refine box_event ?hg (N := 8) ?hd (cs := #[.slice none 0 0, .int .i64 0]) (t := 24) ?hr ?_; (case hd => rfl); (case hg => rfl); (case hr => first | (go_simp; done) | (go_simp; rfl)); intro gb423 hg w16 hbox hb; have n0_ := Aside0.mk (bb_ BK422.out hb); have n1_ := Aside0.mk (below_step (by repeat (first | (with_reducible first | exact HB.out | apply below_alloc | apply pw_below_drewN | apply below_drew1 | refine below_set ?_ GE422.out) | exact HB.out)) hb); have n2_ := Aside0.mk (hbox); have n3_ := Aside0.mk ((by rw [hg]; exact (below_size (by repeat (first | (with_reducible first | exact HB.out | apply below_alloc | apply pw_below_drewN | apply below_drew1 | refine below_set ?_ GE422.out) | exact HB.out))) : w.heap.size ≤ gb423)); have n4_ := n3_; have n5_ := Aside0.mk (nl_ hg BK422.out); have n6_ := Aside0.mk (ng_ hg BK422.out); clear BK422; clear HB; have BK422 := n0_; have HB := n1_; have BK423 := n2_; have GW423 := n3_; have GE423 := n4_; have NB422_423 := n5_; have NB423_422 := n6_; clear n0_ n1_ n2_ n3_ n4_ n5_ n6_; clear hb hbox hg; have hnb17 := NB422_423.out; have hnc17 := NB423_422.out; have hcz18_0 : w16.cell? ⟨gb422, 0, none⟩ = some (.slice A0_0 l0_0.length c0_0) := (blk_cell BK422.out 0).trans rfl; have hcz18_1 : w16.cell? ⟨gb422, 1, none⟩ = some (.int .i64 a0_1) := (blk_cell BK422.out 1).trans rfl; have hfz18_0 := blk_frozen BK422.out 0; have hfz18_1 := blk_frozen BK422.out 1) | ((with_reducible refine gate_callee (f := 36) rfl ?_); refine goesL_ (some 16) rfl rfl Try.func36 (by kernel_rfl) rfl #[.slice A0_0 l0_0.length c0_0, .int .i64 a1] rfl (by (try simp only [List.map_toArray, List.map_cons, List.map_nil]); first | done | rfl | (simp only [List.length_drop, List.length_take]; rfl)) ?_; (with_reducible refine (skiarearef16_index.calls k _ _ l0_0 a1 t424 _ ?side1 ?side2 A5.out).mono ?_); (case side1 => repeat (first | exact (Kd.C_below HR0_0.out HB.out) | (with_reducible refine Kd.C_alloc ?_ _) | (with_reducible refine Kd.C_drewN ?_ _) | (with_reducible refine Kd.C_drew ?_))); (case side2 => exact HC0_0.out); rintro e w' ⟨rfl, ⟨nd, rfl⟩⟩; refine ⟨_, rfl, ?_⟩; (try (rw [drewN_self w16]; generalize hq_ : World.drewN w16 _ = w16; have n0_ : Aside0 (w16.heap[gb422]? = some (.cells #[.slice A0_0 l0_0.length c0_0, .int .i64 a0_1] 24 (0, 0))) := ⟨by rw [← hq_]; exact (sb_ BK422.out)⟩; have n1_ : Aside0 (w16.heap[gb423]? = some (.cells #[.slice none 0 0, .int .i64 0] 24 (0, 0))) := ⟨by rw [← hq_]; exact (sb_ BK423.out)⟩; have n2_ : Aside0 (Below w.heap.size w w16) := ⟨by rw [← hq_]; exact (by repeat (first | (with_reducible first | exact HB.out | apply below_alloc | apply pw_below_drewN | apply below_drew1 | refine below_set ?_ GE422.out | refine below_set ?_ GE423.out) | exact HB.out))⟩; clear BK422 BK423 HB hq_; have BK422 := n0_; have BK423 := n1_; have HB := n2_; clear n0_ n1_ n2_)); (try (have hcz18_0 : w16.cell? ⟨gb422, 0, none⟩ = some (.slice A0_0 l0_0.length c0_0) := (blk_cell BK422.out 0).trans rfl)); (try (have hcz18_1 : w16.cell? ⟨gb422, 1, none⟩ = some (.int .i64 a0_1) := (blk_cell BK422.out 1).trans rfl)); (try (have hfz18_0 := blk_frozen BK422.out 0)); (try (have hfz18_1 := blk_frozen BK422.out 1)); have p425 : 0 ≤ (t424 : Int) := of_decide_eq_true (by first | (with_reducible assumption) | assumption); have q425 : t424 < (l0_0.length : Int) := of_decide_eq_true (by first | (with_reducible assumption) | assumption); obtain ⟨ad425, e425, hx425_0, hx425_1, hx425_2, hx425_3, hx425_4⟩ := at_T48 HR0_0.out t424 p425 q425; cases e425; replace hx425_0 := (HB.out.cell (World.block_lt_of_cell? w _ hx425_0)).trans hx425_0; replace hx425_1 := (HB.out.cell (World.block_lt_of_cell? w _ hx425_1)).trans hx425_1; replace hx425_2 := (HB.out.cell (World.block_lt_of_cell? w _ hx425_2)).trans hx425_2; replace hx425_3 := (HB.out.cell (World.block_lt_of_cell? w _ hx425_3)).trans hx425_3; replace hx425_4 := (HB.out.cell (World.block_lt_of_cell? w _ hx425_4)).trans hx425_4; replace p425 := eq_true p425; replace q425 := eq_true q425) | ((with_reducible refine gate_dst (N := 11) rfl ?_); refine box_event ?hg (N := 11) ?hd (cs := #[.int .i64 0, .bool false, .bool false, .bool false, .int .i64 0]) (t := 48) ?hr ?_; (case hd => rfl); (case hg => rfl); (case hr => first | (go_simp; done) | (go_simp; rfl)); intro gb426 hg w19 hbox hb; have n0_ := Aside0.mk (bb_ BK422.out hb); have n1_ := Aside0.mk (bb_ BK423.out hb); have n2_ := Aside0.mk (below_step (by repeat (first | (with_reducible first | exact HB.out | apply below_alloc | apply pw_below_drewN | apply below_drew1 | refine below_set ?_ GE422.out | refine below_set ?_ GE423.out) | exact HB.out)) hb); have n3_ := Aside0.mk (hbox); have n4_ := Aside0.mk ((by rw [hg]; exact (below_size (by repeat (first | (with_reducible first | exact HB.out | apply below_alloc | apply pw_below_drewN | apply below_drew1 | refine below_set ?_ GE422.out | refine below_set ?_ GE423.out) | exact HB.out))) : w.heap.size ≤ gb426)); have n5_ := n4_; have n6_ := Aside0.mk (nl_ hg BK422.out); have n7_ := Aside0.mk (ng_ hg BK422.out); have n8_ := Aside0.mk (nl_ hg BK423.out); have n9_ := Aside0.mk (ng_ hg BK423.out); clear BK422; clear BK423; clear HB; have BK422 := n0_; have BK423 := n1_; have HB := n2_; have BK426 := n3_; have GW426 := n4_; have GE426 := n5_; have NB422_426 := n6_; have NB426_422 := n7_; have NB423_426 := n8_; have NB426_423 := n9_; clear n0_ n1_ n2_ n3_ n4_ n5_ n6_ n7_ n8_ n9_; clear hb hbox hg; have hnb20 := NB426_422.out; have hnc20 := NB422_426.out; have hnb21 := NB426_423.out; have hnc21 := NB423_426.out; have hcz22_0 : w19.cell? ⟨gb426, 0, none⟩ = some (.int .i64 0) := (blk_cell BK426.out 0).trans rfl; have hcz22_1 : w19.cell? ⟨gb426, 1, none⟩ = some (.bool false) := (blk_cell BK426.out 1).trans rfl; have hcz22_2 : w19.cell? ⟨gb426, 2, none⟩ = some (.bool false) := (blk_cell BK426.out 2).trans rfl; have hcz22_3 : w19.cell? ⟨gb426, 3, none⟩ = some (.bool false) := (blk_cell BK426.out 3).trans rfl; have hcz22_4 : w19.cell? ⟨gb426, 4, none⟩ = some (.int .i64 0) := (blk_cell BK426.out 4).trans rfl; have hfz22_0 := blk_frozen BK426.out 0; have hfz22_1 := blk_frozen BK426.out 1; have hfz22_2 := blk_frozen BK426.out 2; have hfz22_3 := blk_frozen BK426.out 3; have hfz22_4 := blk_frozen BK426.out 4))
    (try simp only [Act.put, List.setIfInBounds_toArray, List.set_cons_zero, List.set_cons_succ])
    go_cut [32] (fun v32 wc => ∃ (kq : Nat) (x32_13 : Bool), v32 = .bool x32_13 ∧ Aside0 (skiarearef16_Bypass.j0 kq a3 t424 x32_13 l0_0 a0_1 ((rd_T48 l0_0 t424).f0) ((rd_T48 l0_0 t424).f1) ((rd_T48 l0_0 t424).f2) ((rd_T48 l0_0 t424).f3) ((rd_T48 l0_0 t424).f4) = some (r1, r2, r3)) ∧ Aside0 (kq ≤ k) ∧ Aside0 (wc.heap[gb422]? = some (.cells #[(.slice (some ad425) l0_0.length c0_0), .int .i64 a0_1] 24 (0, 0))) ∧ Aside0 (wc.heap[gb423]? = some (.cells #[(.slice none 0 0), .int .i64 0] 24 (0, 0))) ∧ Aside0 (wc.heap[gb426]? = some (.cells #[.int .i64 ((rd_T48 l0_0 t424).f0), .bool ((rd_T48 l0_0 t424).f1), .bool ((rd_T48 l0_0 t424).f2), .bool ((rd_T48 l0_0 t424).f3), .int .i64 ((rd_T48 l0_0 t424).f4)] 48 (0, 0))) ∧ Aside0 (Below w.heap.size w wc))
    case first =>
     have H := HC14.out; clear HC14
     by_cases c23 : a2 = 0
     ·rw [if_pos c23] at H
      have c23b0 : (a2 == 0) = true := beq_iff_eq.mpr c23; have c23b1 : (a2 != 0) = false := bne_eq_false_iff_eq.mpr c23; clear c23
      (first | rw [c23b0] | (simp only [i64_w, i32_w]; rw [c23b0]) | skip)
      have H' := Aside0.mk H; clear H
      go_wp2
      go_meet
      case rel => exact ⟨_, (true), (by first | rfl | (simp; done) | (simp [*]; done)), H', ⟨by first | omega | exact Nat.le_refl _⟩, ⟨by (with_reducible repeat (first | refine blk_drewN ?_ _ | refine blk_drew ?_ | refine blk_alloc ?_ _)); refine blk_far ?_ NB422_426.out _; (with_reducible repeat (first | refine blk_drewN ?_ _ | refine blk_drew ?_ | refine blk_alloc ?_ _)); refine blk_far ?_ NB422_426.out _; (with_reducible repeat (first | refine blk_drewN ?_ _ | refine blk_drew ?_ | refine blk_alloc ?_ _)); refine blk_far ?_ NB422_426.out _; (with_reducible repeat (first | refine blk_drewN ?_ _ | refine blk_drew ?_ | refine blk_alloc ?_ _)); refine blk_far ?_ NB422_426.out _; (with_reducible repeat (first | refine blk_drewN ?_ _ | refine blk_drew ?_ | refine blk_alloc ?_ _)); refine blk_far ?_ NB422_426.out _; (with_reducible repeat (first | refine blk_drewN ?_ _ | refine blk_drew ?_ | refine blk_alloc ?_ _)); exact BK422.out⟩, ⟨by (with_reducible repeat (first | refine blk_drewN ?_ _ | refine blk_drew ?_ | refine blk_alloc ?_ _)); refine blk_far ?_ NB423_426.out _; (with_reducible repeat (first | refine blk_drewN ?_ _ | refine blk_drew ?_ | refine blk_alloc ?_ _)); refine blk_far ?_ NB423_426.out _; (with_reducible repeat (first | refine blk_drewN ?_ _ | refine blk_drew ?_ | refine blk_alloc ?_ _)); refine blk_far ?_ NB423_426.out _; (with_reducible repeat (first | refine blk_drewN ?_ _ | refine blk_drew ?_ | refine blk_alloc ?_ _)); refine blk_far ?_ NB423_426.out _; (with_reducible repeat (first | refine blk_drewN ?_ _ | refine blk_drew ?_ | refine blk_alloc ?_ _)); refine blk_far ?_ NB423_426.out _; (with_reducible repeat (first | refine blk_drewN ?_ _ | refine blk_drew ?_ | refine blk_alloc ?_ _)); exact BK423.out⟩, ⟨by (with_reducible repeat (first | refine blk_drewN ?_ _ | refine blk_drew ?_ | refine blk_alloc ?_ _)); refine blk_put (cs := #[.int .i64 ((rd_T48 l0_0 t424).f0), .bool ((rd_T48 l0_0 t424).f1), .bool ((rd_T48 l0_0 t424).f2), .bool ((rd_T48 l0_0 t424).f3), .int .i64 0]) ?_ 4 _ rfl; (with_reducible repeat (first | refine blk_drewN ?_ _ | refine blk_drew ?_ | refine blk_alloc ?_ _)); refine blk_put (cs := #[.int .i64 ((rd_T48 l0_0 t424).f0), .bool ((rd_T48 l0_0 t424).f1), .bool ((rd_T48 l0_0 t424).f2), .bool false, .int .i64 0]) ?_ 3 _ rfl; (with_reducible repeat (first | refine blk_drewN ?_ _ | refine blk_drew ?_ | refine blk_alloc ?_ _)); refine blk_put (cs := #[.int .i64 ((rd_T48 l0_0 t424).f0), .bool ((rd_T48 l0_0 t424).f1), .bool false, .bool false, .int .i64 0]) ?_ 2 _ rfl; (with_reducible repeat (first | refine blk_drewN ?_ _ | refine blk_drew ?_ | refine blk_alloc ?_ _)); refine blk_put (cs := #[.int .i64 ((rd_T48 l0_0 t424).f0), .bool false, .bool false, .bool false, .int .i64 0]) ?_ 1 _ rfl; (with_reducible repeat (first | refine blk_drewN ?_ _ | refine blk_drew ?_ | refine blk_alloc ?_ _)); refine blk_put (cs := #[.int .i64 0, .bool false, .bool false, .bool false, .int .i64 0]) ?_ 0 _ rfl; (with_reducible repeat (first | refine blk_drewN ?_ _ | refine blk_drew ?_ | refine blk_alloc ?_ _)); exact BK426.out⟩, ⟨by repeat (first | (with_reducible first | exact HB.out | apply below_alloc | apply pw_below_drewN | apply below_drew1 | refine below_set ?_ GE422.out | refine below_set ?_ GE423.out | refine below_set ?_ GE426.out) | exact HB.out)⟩⟩
     ·rw [if_neg c23] at H
      have c23b0 : (a2 == 0) = false := beq_eq_false_iff_ne.mpr c23; have c23b1 : (a2 != 0) = true := bne_iff_ne.mpr c23
      (first | rw [c23b0] | (simp only [i64_w, i32_w]; rw [c23b0]) | skip)
      have H' := Aside0.mk H; clear H; have hnb24 := NB422_423.out; have hnc24 := NB423_422.out; have hnb25 := NB422_426.out; have hnc25 := NB426_422.out; have hcz26_0 : w19.cell? ⟨gb422, 0, none⟩ = some (.slice (some ad425) l0_0.length c0_0) := (blk_cell BK422.out 0).trans rfl; have hcz26_1 : w19.cell? ⟨gb422, 1, none⟩ = some (.int .i64 a0_1) := (blk_cell BK422.out 1).trans rfl; have hfz26_0 := blk_frozen BK422.out 0; have hfz26_1 := blk_frozen BK422.out 1
      go_wp2
      go_meet
      case rel => exact ⟨_, ((a2 != a0_1)), (by first | rfl | (simp; done) | (simp [*]; done)), H', ⟨by first | omega | exact Nat.le_refl _⟩, ⟨by (with_reducible repeat (first | refine blk_drewN ?_ _ | refine blk_drew ?_ | refine blk_alloc ?_ _)); refine blk_far ?_ NB422_426.out _; (with_reducible repeat (first | refine blk_drewN ?_ _ | refine blk_drew ?_ | refine blk_alloc ?_ _)); refine blk_far ?_ NB422_426.out _; (with_reducible repeat (first | refine blk_drewN ?_ _ | refine blk_drew ?_ | refine blk_alloc ?_ _)); refine blk_far ?_ NB422_426.out _; (with_reducible repeat (first | refine blk_drewN ?_ _ | refine blk_drew ?_ | refine blk_alloc ?_ _)); refine blk_far ?_ NB422_426.out _; (with_reducible repeat (first | refine blk_drewN ?_ _ | refine blk_drew ?_ | refine blk_alloc ?_ _)); refine blk_far ?_ NB422_426.out _; (with_reducible repeat (first | refine blk_drewN ?_ _ | refine blk_drew ?_ | refine blk_alloc ?_ _)); exact BK422.out⟩, ⟨by (with_reducible repeat (first | refine blk_drewN ?_ _ | refine blk_drew ?_ | refine blk_alloc ?_ _)); refine blk_far ?_ NB423_426.out _; (with_reducible repeat (first | refine blk_drewN ?_ _ | refine blk_drew ?_ | refine blk_alloc ?_ _)); refine blk_far ?_ NB423_426.out _; (with_reducible repeat (first | refine blk_drewN ?_ _ | refine blk_drew ?_ | refine blk_alloc ?_ _)); refine blk_far ?_ NB423_426.out _; (with_reducible repeat (first | refine blk_drewN ?_ _ | refine blk_drew ?_ | refine blk_alloc ?_ _)); refine blk_far ?_ NB423_426.out _; (with_reducible repeat (first | refine blk_drewN ?_ _ | refine blk_drew ?_ | refine blk_alloc ?_ _)); refine blk_far ?_ NB423_426.out _; (with_reducible repeat (first | refine blk_drewN ?_ _ | refine blk_drew ?_ | refine blk_alloc ?_ _)); exact BK423.out⟩, ⟨by (with_reducible repeat (first | refine blk_drewN ?_ _ | refine blk_drew ?_ | refine blk_alloc ?_ _)); refine blk_put (cs := #[.int .i64 ((rd_T48 l0_0 t424).f0), .bool ((rd_T48 l0_0 t424).f1), .bool ((rd_T48 l0_0 t424).f2), .bool ((rd_T48 l0_0 t424).f3), .int .i64 0]) ?_ 4 _ rfl; (with_reducible repeat (first | refine blk_drewN ?_ _ | refine blk_drew ?_ | refine blk_alloc ?_ _)); refine blk_put (cs := #[.int .i64 ((rd_T48 l0_0 t424).f0), .bool ((rd_T48 l0_0 t424).f1), .bool ((rd_T48 l0_0 t424).f2), .bool false, .int .i64 0]) ?_ 3 _ rfl; (with_reducible repeat (first | refine blk_drewN ?_ _ | refine blk_drew ?_ | refine blk_alloc ?_ _)); refine blk_put (cs := #[.int .i64 ((rd_T48 l0_0 t424).f0), .bool ((rd_T48 l0_0 t424).f1), .bool false, .bool false, .int .i64 0]) ?_ 2 _ rfl; (with_reducible repeat (first | refine blk_drewN ?_ _ | refine blk_drew ?_ | refine blk_alloc ?_ _)); refine blk_put (cs := #[.int .i64 ((rd_T48 l0_0 t424).f0), .bool false, .bool false, .bool false, .int .i64 0]) ?_ 1 _ rfl; (with_reducible repeat (first | refine blk_drewN ?_ _ | refine blk_drew ?_ | refine blk_alloc ?_ _)); refine blk_put (cs := #[.int .i64 0, .bool false, .bool false, .bool false, .int .i64 0]) ?_ 0 _ rfl; (with_reducible repeat (first | refine blk_drewN ?_ _ | refine blk_drew ?_ | refine blk_alloc ?_ _)); exact BK426.out⟩, ⟨by repeat (first | (with_reducible first | exact HB.out | apply below_alloc | apply pw_below_drewN | apply below_drew1 | refine below_set ?_ GE422.out | refine below_set ?_ GE423.out | refine below_set ?_ GE426.out) | exact HB.out)⟩⟩
    case rest =>
     clear HC14
     try clear c1
     try clear c2
     try clear p2
     try clear c3
     try clear p4
     try clear q4
     try clear hx4
     try clear c6
     try clear c6b0
     try clear c9
     try clear c12
     try clear c12b0
     try clear c13
     try clear c13b0
     try clear c17
     try clear c20
     try clear c21
     try clear c23
     try clear c23b0
     try clear c23b1
     try clear c24
     try clear c25
     try clear hcz10_0
     try clear hcz10_1
     try clear hcz11_0
     try clear hcz11_1
     try clear hcz18_0
     try clear hcz18_1
     try clear hcz22_0
     try clear hcz22_1
     try clear hcz22_2
     try clear hcz22_3
     try clear hcz22_4
     try clear hcz26_0
     try clear hcz26_1
     try clear hfz10_0
     try clear hfz10_1
     try clear hfz11_0
     try clear hfz11_1
     try clear hfz18_0
     try clear hfz18_1
     try clear hfz22_0
     try clear hfz22_1
     try clear hfz22_2
     try clear hfz22_3
     try clear hfz22_4
     try clear hfz26_0
     try clear hfz26_1
     try clear hx425_0
     try clear hx425_1
     try clear hx425_2
     try clear hx425_3
     try clear hx425_4
     try clear p425
     try clear q425
     obtain ⟨kq, x32_13, rfl, HA, HJ13, BK422, BK423, BK426, HB⟩ := hcut
     cases kq with
     | zero => exact absurd HA.out (by simp [skiarearef16_Bypass.j0])
     | succ kj13 =>
      have H := HA.out; clear HA
      simp only [skiarearef16_Bypass.j0] at H
      by_cases c27 : x32_13 = true
      ·subst c27
       have H1 : (some (([] : List (S48)), 0, 17)) = some (r1, r2, r3) := by rw [if_pos rfl] at H; exact H
       clear H; have H := H1; clear H1
       simp only [Option.some.injEq, Prod.mk.injEq] at H
       obtain ⟨rfl, rfl, rfl⟩ := H
       have hnb28 := NB423_422.out; have hnc28 := NB422_423.out; have hnb29 := NB423_426.out; have hnc29 := NB426_423.out; have hcz30_0 : wc.cell? ⟨gb423, 0, none⟩ = some (.slice none 0 0) := (blk_cell BK423.out 0).trans rfl; have hcz30_1 : wc.cell? ⟨gb423, 1, none⟩ = some (.int .i64 0) := (blk_cell BK423.out 1).trans rfl; have hfz30_0 := blk_frozen BK423.out 0; have hfz30_1 := blk_frozen BK423.out 1
       go_wp2
       refine bodyPost_ret (results_ct rfl _ _ gb423 24 #[.slice none 0 0, .int .i64 0] (0, 0) _ rfl (by (with_reducible repeat (first | refine blk_drewN ?_ _ | refine blk_drew ?_ | refine blk_alloc ?_ _)); refine blk_put (cs := #[.slice none 0 0, .int .i64 0]) ?_ 1 _ rfl; (with_reducible repeat (first | refine blk_drewN ?_ _ | refine blk_drew ?_ | refine blk_alloc ?_ _)); refine blk_put (cs := #[.slice none 0 0, .int .i64 0]) ?_ 0 _ rfl; (with_reducible repeat (first | refine blk_drewN ?_ _ | refine blk_drew ?_ | refine blk_alloc ?_ _)); exact BK423.out) Try.underlying24 rfl (by kernel_rfl)) rfl ?_
       exact ⟨_, by first | rfl | (simp [errW_none, errW_some] <;> rfl) | (simp [*, errW_none, errW_some] <;> rfl), by first | exact Kd.R_nil _ _ _ _ _ | exact Kd.N_nil _ _ _ _ _ | exact Kd.V_nil _ _ _ _ _ | exact Kd.Q_nil _ _ _ _ _ | exact Kd.S_nil _ _ _ _ _, by repeat (first | (with_reducible first | exact HB.out | apply below_alloc | apply pw_below_drewN | apply below_drew1 | refine below_set ?_ GE422.out | refine below_set ?_ GE423.out | refine below_set ?_ GE426.out) | exact HB.out)⟩
      ·replace c27 := Bool.eq_false_iff.mpr c27
       subst c27; have H1 : (if ((rd_T48 l0_0 t424).f1) = true then (some (([] : List (S48)), 0, 13)) else ((skiarearef16_bypassed.f kj13 l0_0).bind fun t427 => (if t427 ≥ 0 then (skiarearef16_Bypass.j1 kj13 a3 t424 (t427 != t424) l0_0 a0_1 ((rd_T48 l0_0 t424).f0) ((rd_T48 l0_0 t424).f1) ((rd_T48 l0_0 t424).f2) ((rd_T48 l0_0 t424).f3) ((rd_T48 l0_0 t424).f4)) else (skiarearef16_Bypass.j1 kj13 a3 t424 false l0_0 a0_1 ((rd_T48 l0_0 t424).f0) ((rd_T48 l0_0 t424).f1) ((rd_T48 l0_0 t424).f2) ((rd_T48 l0_0 t424).f3) ((rd_T48 l0_0 t424).f4))))) = some (r1, r2, r3) := by rw [if_neg (show ¬ (false = true) by decide)] at H; exact H
       clear H; have H := H1; clear H1
       by_cases c31 : ((rd_T48 l0_0 t424).f1) = true
       ·rw [if_pos c31] at H
        have c31b0 : ((rd_T48 l0_0 t424).f1) = true := c31; clear c31
        simp only [Option.some.injEq, Prod.mk.injEq] at H
        obtain ⟨rfl, rfl, rfl⟩ := H
        have hnb32 := NB426_422.out; have hnc32 := NB422_426.out; have hnb33 := NB426_423.out; have hnc33 := NB423_426.out; have hcz34_0 : wc.cell? ⟨gb426, 0, none⟩ = some (.int .i64 ((rd_T48 l0_0 t424).f0)) := (blk_cell BK426.out 0).trans rfl; have hcz34_1 : wc.cell? ⟨gb426, 1, none⟩ = some (.bool ((rd_T48 l0_0 t424).f1)) := (blk_cell BK426.out 1).trans rfl; have hcz34_2 : wc.cell? ⟨gb426, 2, none⟩ = some (.bool ((rd_T48 l0_0 t424).f2)) := (blk_cell BK426.out 2).trans rfl; have hcz34_3 : wc.cell? ⟨gb426, 3, none⟩ = some (.bool ((rd_T48 l0_0 t424).f3)) := (blk_cell BK426.out 3).trans rfl; have hcz34_4 : wc.cell? ⟨gb426, 4, none⟩ = some (.int .i64 ((rd_T48 l0_0 t424).f4)) := (blk_cell BK426.out 4).trans rfl; have hfz34_0 := blk_frozen BK426.out 0; have hfz34_1 := blk_frozen BK426.out 1; have hfz34_2 := blk_frozen BK426.out 2; have hfz34_3 := blk_frozen BK426.out 3; have hfz34_4 := blk_frozen BK426.out 4; have hnb35 := NB423_422.out; have hnc35 := NB422_423.out; have hcz36_0 : wc.cell? ⟨gb423, 0, none⟩ = some (.slice none 0 0) := (blk_cell BK423.out 0).trans rfl; have hcz36_1 : wc.cell? ⟨gb423, 1, none⟩ = some (.int .i64 0) := (blk_cell BK423.out 1).trans rfl; have hfz36_0 := blk_frozen BK423.out 0; have hfz36_1 := blk_frozen BK423.out 1
        go_wp2
        refine bodyPost_ret (results_ct rfl _ _ gb423 24 #[.slice none 0 0, .int .i64 0] (0, 0) _ rfl (by (with_reducible repeat (first | refine blk_drewN ?_ _ | refine blk_drew ?_ | refine blk_alloc ?_ _)); refine blk_put (cs := #[.slice none 0 0, .int .i64 0]) ?_ 1 _ rfl; (with_reducible repeat (first | refine blk_drewN ?_ _ | refine blk_drew ?_ | refine blk_alloc ?_ _)); refine blk_put (cs := #[.slice none 0 0, .int .i64 0]) ?_ 0 _ rfl; (with_reducible repeat (first | refine blk_drewN ?_ _ | refine blk_drew ?_ | refine blk_alloc ?_ _)); exact BK423.out) Try.underlying24 rfl (by kernel_rfl)) rfl ?_
        exact ⟨_, by first | rfl | (simp [errW_none, errW_some] <;> rfl) | (simp [*, errW_none, errW_some] <;> rfl), by first | exact Kd.R_nil _ _ _ _ _ | exact Kd.N_nil _ _ _ _ _ | exact Kd.V_nil _ _ _ _ _ | exact Kd.Q_nil _ _ _ _ _ | exact Kd.S_nil _ _ _ _ _, by repeat (first | (with_reducible first | exact HB.out | apply below_alloc | apply pw_below_drewN | apply below_drew1 | refine below_set ?_ GE422.out | refine below_set ?_ GE423.out | refine below_set ?_ GE426.out) | exact HB.out)⟩
       ·rw [if_neg c31] at H
        have c31b0 : ((rd_T48 l0_0 t424).f1) = false := by simpa using c31
        clear c31
        replace H := Option.bind_eq_some_iff.mp H
        obtain ⟨t427, A370, H⟩ := H
        replace H : (if t427 ≥ 0 then (skiarearef16_Bypass.j1 kj13 a3 t424 (t427 != t424) l0_0 a0_1 ((rd_T48 l0_0 t424).f0) ((rd_T48 l0_0 t424).f1) ((rd_T48 l0_0 t424).f2) ((rd_T48 l0_0 t424).f3) ((rd_T48 l0_0 t424).f4)) else (skiarearef16_Bypass.j1 kj13 a3 t424 false l0_0 a0_1 ((rd_T48 l0_0 t424).f0) ((rd_T48 l0_0 t424).f1) ((rd_T48 l0_0 t424).f2) ((rd_T48 l0_0 t424).f3) ((rd_T48 l0_0 t424).f4))) = some (r1, r2, r3) := H
        have A37 := Aside0.mk A370; clear A370; have HC38 := Aside0.mk H; clear H; have hnb39 := NB426_422.out; have hnc39 := NB422_426.out; have hnb40 := NB426_423.out; have hnc40 := NB423_426.out; have hcz41_0 : wc.cell? ⟨gb426, 0, none⟩ = some (.int .i64 ((rd_T48 l0_0 t424).f0)) := (blk_cell BK426.out 0).trans rfl; have hcz41_1 : wc.cell? ⟨gb426, 1, none⟩ = some (.bool ((rd_T48 l0_0 t424).f1)) := (blk_cell BK426.out 1).trans rfl; have hcz41_2 : wc.cell? ⟨gb426, 2, none⟩ = some (.bool ((rd_T48 l0_0 t424).f2)) := (blk_cell BK426.out 2).trans rfl; have hcz41_3 : wc.cell? ⟨gb426, 3, none⟩ = some (.bool ((rd_T48 l0_0 t424).f3)) := (blk_cell BK426.out 3).trans rfl; have hcz41_4 : wc.cell? ⟨gb426, 4, none⟩ = some (.int .i64 ((rd_T48 l0_0 t424).f4)) := (blk_cell BK426.out 4).trans rfl; have hfz41_0 := blk_frozen BK426.out 0; have hfz41_1 := blk_frozen BK426.out 1; have hfz41_2 := blk_frozen BK426.out 2; have hfz41_3 := blk_frozen BK426.out 3; have hfz41_4 := blk_frozen BK426.out 4; have hnb42 := NB422_423.out; have hnc42 := NB423_422.out; have hcz43_0 : wc.cell? ⟨gb422, 0, none⟩ = some (.slice (some ad425) l0_0.length c0_0) := (blk_cell BK422.out 0).trans rfl; have hcz43_1 : wc.cell? ⟨gb422, 1, none⟩ = some (.int .i64 a0_1) := (blk_cell BK422.out 1).trans rfl; have hfz43_0 := blk_frozen BK422.out 0; have hfz43_1 := blk_frozen BK422.out 1
        go_upto_region 10 with (first | ((with_reducible refine gate_callee (f := 37) rfl ?_); refine goesL_ (some 39) rfl rfl Try.func37 (by kernel_rfl) rfl #[.slice (some ad425) l0_0.length c0_0] rfl (by (try simp only [List.map_toArray, List.map_cons, List.map_nil]); first | done | rfl | (simp only [List.length_drop, List.length_take]; rfl)) ?_; (with_reducible refine (skiarearef16_bypassed.calls kj13 _ _ l0_0 t427 _ ?side1 ?side2 A37.out).mono ?_); (case side1 => repeat (first | exact (Kd.C_below HR0_0.out HB.out) | (with_reducible refine Kd.C_alloc ?_ _) | (with_reducible refine Kd.C_drewN ?_ _) | (with_reducible refine Kd.C_drew ?_))); (case side2 => exact HC0_0.out); rintro e w' ⟨rfl, ⟨nd, rfl⟩⟩; refine ⟨_, rfl, ?_⟩))
        (try simp only [Act.put, List.setIfInBounds_toArray, List.set_cons_zero, List.set_cons_succ])
        go_cut [46] (fun v46 wc => ∃ (kq : Nat) (x46_37 : Bool), v46 = .bool x46_37 ∧ Aside0 (skiarearef16_Bypass.j1 kq a3 t424 x46_37 l0_0 a0_1 ((rd_T48 l0_0 t424).f0) ((rd_T48 l0_0 t424).f1) ((rd_T48 l0_0 t424).f2) ((rd_T48 l0_0 t424).f3) ((rd_T48 l0_0 t424).f4) = some (r1, r2, r3)) ∧ Aside0 (kq ≤ kj13) ∧ Aside0 (wc.heap[gb422]? = some (.cells #[(.slice (some ad425) l0_0.length c0_0), .int .i64 a0_1] 24 (0, 0))) ∧ Aside0 (wc.heap[gb423]? = some (.cells #[(.slice none 0 0), .int .i64 0] 24 (0, 0))) ∧ Aside0 (wc.heap[gb426]? = some (.cells #[.int .i64 ((rd_T48 l0_0 t424).f0), .bool ((rd_T48 l0_0 t424).f1), .bool ((rd_T48 l0_0 t424).f2), .bool ((rd_T48 l0_0 t424).f3), .int .i64 ((rd_T48 l0_0 t424).f4)] 48 (0, 0))) ∧ Aside0 (Below w.heap.size w wc))
        case first =>
         have H := HC38.out; clear HC38
         by_cases c44 : t427 ≥ 0
         ·rw [if_pos c44] at H
          have c44b0 : decide (0 ≤ t427) = true := decide_eq_true c44; clear c44
          (first | rw [c44b0] | (simp only [i64_w, i32_w]; rw [c44b0]) | skip)
          have H' := Aside0.mk H; clear H
          go_wp2
          go_meet
          case rel => exact ⟨_, ((t427 != t424)), (by first | rfl | (simp; done) | (simp [*]; done)), H', ⟨by have := HJ13.out; first | omega | exact Nat.le_refl _⟩, ⟨by (with_reducible repeat (first | refine blk_drewN ?_ _ | refine blk_drew ?_ | refine blk_alloc ?_ _)); exact BK422.out⟩, ⟨by (with_reducible repeat (first | refine blk_drewN ?_ _ | refine blk_drew ?_ | refine blk_alloc ?_ _)); exact BK423.out⟩, ⟨by (with_reducible repeat (first | refine blk_drewN ?_ _ | refine blk_drew ?_ | refine blk_alloc ?_ _)); exact BK426.out⟩, ⟨by repeat (first | (with_reducible first | exact HB.out | apply below_alloc | apply pw_below_drewN | apply below_drew1 | refine below_set ?_ GE422.out | refine below_set ?_ GE423.out | refine below_set ?_ GE426.out) | exact HB.out)⟩⟩
         ·rw [if_neg c44] at H
          have c44b0 : decide (0 ≤ t427) = false := decide_eq_false c44; clear c44
          (first | rw [c44b0] | (simp only [i64_w, i32_w]; rw [c44b0]) | skip)
          have H' := Aside0.mk H; clear H
          go_wp2
          go_meet
          case rel => exact ⟨_, (false), (by first | rfl | (simp; done) | (simp [*]; done)), H', ⟨by have := HJ13.out; first | omega | exact Nat.le_refl _⟩, ⟨by (with_reducible repeat (first | refine blk_drewN ?_ _ | refine blk_drew ?_ | refine blk_alloc ?_ _)); exact BK422.out⟩, ⟨by (with_reducible repeat (first | refine blk_drewN ?_ _ | refine blk_drew ?_ | refine blk_alloc ?_ _)); exact BK423.out⟩, ⟨by (with_reducible repeat (first | refine blk_drewN ?_ _ | refine blk_drew ?_ | refine blk_alloc ?_ _)); exact BK426.out⟩, ⟨by repeat (first | (with_reducible first | exact HB.out | apply below_alloc | apply pw_below_drewN | apply below_drew1 | refine below_set ?_ GE422.out | refine below_set ?_ GE423.out | refine below_set ?_ GE426.out) | exact HB.out)⟩⟩
        case rest =>
         clear HC38
         try clear c1
         try clear c2
         try clear p2
         try clear c3
         try clear c4
         try clear p4
         try clear q4
         try clear hx4
         try clear c6
         try clear c6b0
         try clear c9
         try clear c12
         try clear c12b0
         try clear c13
         try clear c13b0
         try clear c17
         try clear c20
         try clear c21
         try clear c23
         try clear c23b0
         try clear c23b1
         try clear c24
         try clear c25
         try clear c27
         try clear c28
         try clear c29
         try clear c31
         try clear c31b0
         try clear c32
         try clear c33
         try clear c35
         try clear c36
         try clear c37
         try clear c39
         try clear c40
         try clear c42
         try clear p42
         try clear q42
         try clear hx42
         try clear c44
         try clear c44b0
         try clear hcz10_0
         try clear hcz10_1
         try clear hcz11_0
         try clear hcz11_1
         try clear hcz18_0
         try clear hcz18_1
         try clear hcz22_0
         try clear hcz22_1
         try clear hcz22_2
         try clear hcz22_3
         try clear hcz22_4
         try clear hcz26_0
         try clear hcz26_1
         try clear hcz30_0
         try clear hcz30_1
         try clear hcz34_0
         try clear hcz34_1
         try clear hcz34_2
         try clear hcz34_3
         try clear hcz34_4
         try clear hcz36_0
         try clear hcz36_1
         try clear hcz41_0
         try clear hcz41_1
         try clear hcz41_2
         try clear hcz41_3
         try clear hcz41_4
         try clear hcz43_0
         try clear hcz43_1
         try clear hfz10_0
         try clear hfz10_1
         try clear hfz11_0
         try clear hfz11_1
         try clear hfz18_0
         try clear hfz18_1
         try clear hfz22_0
         try clear hfz22_1
         try clear hfz22_2
         try clear hfz22_3
         try clear hfz22_4
         try clear hfz26_0
         try clear hfz26_1
         try clear hfz30_0
         try clear hfz30_1
         try clear hfz34_0
         try clear hfz34_1
         try clear hfz34_2
         try clear hfz34_3
         try clear hfz34_4
         try clear hfz36_0
         try clear hfz36_1
         try clear hfz41_0
         try clear hfz41_1
         try clear hfz41_2
         try clear hfz41_3
         try clear hfz41_4
         try clear hfz43_0
         try clear hfz43_1
         try clear hx425_0
         try clear hx425_1
         try clear hx425_2
         try clear hx425_3
         try clear hx425_4
         try clear p2
         try clear p4
         try clear p425
         try clear q4
         try clear q425
         obtain ⟨kq, x46_37, rfl, HA, HJ37, BK422, BK423, BK426, HB⟩ := hcut
         cases kq with
         | zero => exact absurd HA.out (by simp [skiarearef16_Bypass.j1])
         | succ kj37 =>
          have H := HA.out; clear HA
          simp only [skiarearef16_Bypass.j1] at H
          by_cases c45 : x46_37 = true
          ·subst c45
           have H1 : (some (([] : List (S48)), 0, 15)) = some (r1, r2, r3) := by rw [if_pos rfl] at H; exact H
           clear H; have H := H1; clear H1
           simp only [Option.some.injEq, Prod.mk.injEq] at H
           obtain ⟨rfl, rfl, rfl⟩ := H
           have hnb46 := NB423_422.out; have hnc46 := NB422_423.out; have hnb47 := NB423_426.out; have hnc47 := NB426_423.out; have hcz48_0 : wc.cell? ⟨gb423, 0, none⟩ = some (.slice none 0 0) := (blk_cell BK423.out 0).trans rfl; have hcz48_1 : wc.cell? ⟨gb423, 1, none⟩ = some (.int .i64 0) := (blk_cell BK423.out 1).trans rfl; have hfz48_0 := blk_frozen BK423.out 0; have hfz48_1 := blk_frozen BK423.out 1
           go_wp2
           refine bodyPost_ret (results_ct rfl _ _ gb423 24 #[.slice none 0 0, .int .i64 0] (0, 0) _ rfl (by (with_reducible repeat (first | refine blk_drewN ?_ _ | refine blk_drew ?_ | refine blk_alloc ?_ _)); refine blk_put (cs := #[.slice none 0 0, .int .i64 0]) ?_ 1 _ rfl; (with_reducible repeat (first | refine blk_drewN ?_ _ | refine blk_drew ?_ | refine blk_alloc ?_ _)); refine blk_put (cs := #[.slice none 0 0, .int .i64 0]) ?_ 0 _ rfl; (with_reducible repeat (first | refine blk_drewN ?_ _ | refine blk_drew ?_ | refine blk_alloc ?_ _)); exact BK423.out) Try.underlying24 rfl (by kernel_rfl)) rfl ?_
           exact ⟨_, by first | rfl | (simp [errW_none, errW_some] <;> rfl) | (simp [*, errW_none, errW_some] <;> rfl), by first | exact Kd.R_nil _ _ _ _ _ | exact Kd.N_nil _ _ _ _ _ | exact Kd.V_nil _ _ _ _ _ | exact Kd.Q_nil _ _ _ _ _ | exact Kd.S_nil _ _ _ _ _, by repeat (first | (with_reducible first | exact HB.out | apply below_alloc | apply pw_below_drewN | apply below_drew1 | refine below_set ?_ GE422.out | refine below_set ?_ GE423.out | refine below_set ?_ GE426.out) | exact HB.out)⟩
          ·replace c45 := Bool.eq_false_iff.mpr c45
           subst c45; have H1 : ((skiarearef16_in.f a3 1 20000000).bind fun t428 => (if t428 = true then ((skiarearef16_with.f kj37 l0_0 a0_1 t424 ((rd_T48 l0_0 t424).f0) ((rd_T48 l0_0 t424).f1) ((rd_T48 l0_0 t424).f2) ((rd_T48 l0_0 t424).f3) a3).bind fun bt429 => (some (bt429.1, bt429.2, 0))) else (some (([] : List (S48)), 0, 2)))) = some (r1, r2, r3) := by rw [if_neg (show ¬ (false = true) by decide)] at H; exact H
           clear H; have H := H1; clear H1
           replace H := Option.bind_eq_some_iff.mp H
           obtain ⟨t428, A490, H⟩ := H
           replace H : (if t428 = true then ((skiarearef16_with.f kj37 l0_0 a0_1 t424 ((rd_T48 l0_0 t424).f0) ((rd_T48 l0_0 t424).f1) ((rd_T48 l0_0 t424).f2) ((rd_T48 l0_0 t424).f3) a3).bind fun bt429 => (some (bt429.1, bt429.2, 0))) else (some (([] : List (S48)), 0, 2))) = some (r1, r2, r3) := H
           have A49 := Aside0.mk A490; clear A490
           by_cases c50 : t428 = true
           ·subst c50
            have H1 : ((skiarearef16_with.f kj37 l0_0 a0_1 t424 ((rd_T48 l0_0 t424).f0) ((rd_T48 l0_0 t424).f1) ((rd_T48 l0_0 t424).f2) ((rd_T48 l0_0 t424).f3) a3).bind fun bt429 => (some (bt429.1, bt429.2, 0))) = some (r1, r2, r3) := by rw [if_pos rfl] at H; exact H
            clear H; have H := H1; clear H1
            replace H := Option.bind_eq_some_iff.mp H
            obtain ⟨⟨t429, t432⟩, A510, H⟩ := H
            replace H : (some (t429, t432, 0)) = some (r1, r2, r3) := H
            have A51 := Aside0.mk A510; clear A510
            simp only [Option.some.injEq, Prod.mk.injEq] at H
            obtain ⟨rfl, rfl, rfl⟩ := H
            go_wp2_with (first | ((with_reducible refine gate_dst (N := 54) rfl ?_); refine whole_list (g := gb422) (l := ?l54_) (l' := ?m54_) (t := ?t54_) ?hg ?hb ?hl ?hr ?_; (case hg => rfl); (case hb => repeat (first | (with_reducible exact BK422.out) | (with_reducible refine blk_putL (l := ?_) ?_ _ _; rotate_left) | (with_reducible refine blk_drewN ?_ _) | (with_reducible refine blk_drew ?_) | refine blk_far ?_ (Aside0.out (by assumption)) _)); (case hl => first | (simp only [List.set_cons_zero, List.set_cons_succ]; done) | (simp only [List.set_cons_zero, List.set_cons_succ]; rfl) | rfl); (case hr => intro w1 hb; have hz0_ : w1.cell? ⟨gb422, 0, none⟩ = some _ := (blk_cell hb 0).trans rfl; have hz1_ : w1.cell? ⟨gb422, 1, none⟩ = some _ := (blk_cell hb 1).trans rfl; first | (go_simp; done) | (go_simp; rfl))) | ((with_reducible refine gate_dst (N := 56) rfl ?_); refine whole_list (g := gb426) (l := ?l56_) (l' := ?m56_) (t := ?t56_) ?hg ?hb ?hl ?hr ?_; (case hg => rfl); (case hb => repeat (first | (with_reducible exact BK426.out) | (with_reducible refine blk_putL (l := ?_) ?_ _ _; rotate_left) | (with_reducible refine blk_drewN ?_ _) | (with_reducible refine blk_drew ?_) | refine blk_far ?_ (Aside0.out (by assumption)) _)); (case hl => first | (simp only [List.set_cons_zero, List.set_cons_succ]; done) | (simp only [List.set_cons_zero, List.set_cons_succ]; rfl) | rfl); (case hr => intro w1 hb; have hz0_ : w1.cell? ⟨gb426, 0, none⟩ = some _ := (blk_cell hb 0).trans rfl; have hz1_ : w1.cell? ⟨gb426, 1, none⟩ = some _ := (blk_cell hb 1).trans rfl; have hz2_ : w1.cell? ⟨gb426, 2, none⟩ = some _ := (blk_cell hb 2).trans rfl; have hz3_ : w1.cell? ⟨gb426, 3, none⟩ = some _ := (blk_cell hb 3).trans rfl; have hz4_ : w1.cell? ⟨gb426, 4, none⟩ = some _ := (blk_cell hb 4).trans rfl; first | (go_simp; done) | (go_simp; rfl))) | ((with_reducible refine gate_callee (f := 35) rfl ?_); refine goesL_ (some 49) rfl rfl Try.func35 (by kernel_rfl) rfl #[.int .i64 a3, .int .i64 1, .int .i64 20000000] rfl (by (try simp only [List.map_toArray, List.map_cons, List.map_nil]); first | done | rfl | (simp only [List.length_drop, List.length_take]; rfl)) ?_; (with_reducible refine (skiarearef16_in.calls a3 1 20000000 true _ A49.out).mono ?_); rintro e w' ⟨rfl, ⟨nd, rfl⟩⟩; refine ⟨_, rfl, ?_⟩; (try (rw [drewN_self wc]; generalize hq_ : World.drewN wc _ = wc; have n0_ : Aside0 (wc.heap[gb422]? = some (.cells #[.slice (some ad425) l0_0.length c0_0, .int .i64 a0_1] 24 (0, 0))) := ⟨by rw [← hq_]; exact (sb_ BK422.out)⟩; have n1_ : Aside0 (wc.heap[gb423]? = some (.cells #[.slice none 0 0, .int .i64 0] 24 (0, 0))) := ⟨by rw [← hq_]; exact (sb_ BK423.out)⟩; have n2_ : Aside0 (wc.heap[gb426]? = some (.cells #[.int .i64 ((rd_T48 l0_0 t424).f0), .bool ((rd_T48 l0_0 t424).f1), .bool ((rd_T48 l0_0 t424).f2), .bool ((rd_T48 l0_0 t424).f3), .int .i64 ((rd_T48 l0_0 t424).f4)] 48 (0, 0))) := ⟨by rw [← hq_]; exact (sb_ BK426.out)⟩; have n3_ : Aside0 (Below w.heap.size w wc) := ⟨by rw [← hq_]; exact (by repeat (first | (with_reducible first | exact HB.out | apply below_alloc | apply pw_below_drewN | apply below_drew1 | refine below_set ?_ GE422.out | refine below_set ?_ GE423.out | refine below_set ?_ GE426.out) | exact HB.out))⟩; clear BK422 BK423 BK426 HB hq_; have BK422 := n0_; have BK423 := n1_; have BK426 := n2_; have HB := n3_; clear n0_ n1_ n2_ n3_)); have hnb52 := NB426_422.out; have hnc52 := NB422_426.out; have hnb53 := NB426_423.out; have hnc53 := NB423_426.out; have hcz54_0 : wc.cell? ⟨gb426, 0, none⟩ = some (.int .i64 ((rd_T48 l0_0 t424).f0)) := (blk_cell BK426.out 0).trans rfl; have hcz54_1 : wc.cell? ⟨gb426, 1, none⟩ = some (.bool ((rd_T48 l0_0 t424).f1)) := (blk_cell BK426.out 1).trans rfl; have hcz54_2 : wc.cell? ⟨gb426, 2, none⟩ = some (.bool ((rd_T48 l0_0 t424).f2)) := (blk_cell BK426.out 2).trans rfl; have hcz54_3 : wc.cell? ⟨gb426, 3, none⟩ = some (.bool ((rd_T48 l0_0 t424).f3)) := (blk_cell BK426.out 3).trans rfl; have hcz54_4 : wc.cell? ⟨gb426, 4, none⟩ = some (.int .i64 ((rd_T48 l0_0 t424).f4)) := (blk_cell BK426.out 4).trans rfl; have hfz54_0 := blk_frozen BK426.out 0; have hfz54_1 := blk_frozen BK426.out 1; have hfz54_2 := blk_frozen BK426.out 2; have hfz54_3 := blk_frozen BK426.out 3; have hfz54_4 := blk_frozen BK426.out 4; have hnb55 := NB422_423.out; have hnc55 := NB423_422.out; have hcz56_0 : wc.cell? ⟨gb422, 0, none⟩ = some (.slice (some ad425) l0_0.length c0_0) := (blk_cell BK422.out 0).trans rfl; have hcz56_1 : wc.cell? ⟨gb422, 1, none⟩ = some (.int .i64 a0_1) := (blk_cell BK422.out 1).trans rfl; have hfz56_0 := blk_frozen BK422.out 0; have hfz56_1 := blk_frozen BK422.out 1) | ((with_reducible refine gate_callee (f := 39) rfl ?_); refine goesL_ (some 57) rfl rfl Try.func39 (by kernel_rfl) rfl #[.agg #[.slice (some ad425) l0_0.length c0_0, .int .i64 a0_1], .int .i64 t424, .agg #[.int .i64 ((rd_T48 l0_0 t424).f0), .bool ((rd_T48 l0_0 t424).f1), .bool ((rd_T48 l0_0 t424).f2), .bool ((rd_T48 l0_0 t424).f3), .int .i64 a3]] rfl (by (try simp only [List.map_toArray, List.map_cons, List.map_nil]); first | done | rfl | (simp only [List.length_drop, List.length_take]; rfl)) ?_; (with_reducible refine (skiarearef16_with.calls kj37 _ _ l0_0 a0_1 t424 ((rd_T48 l0_0 t424).f0) ((rd_T48 l0_0 t424).f1) ((rd_T48 l0_0 t424).f2) ((rd_T48 l0_0 t424).f3) a3 t429 t432 _ ?side1 ?side2 A51.out).mono ?_); (case side1 => exact Kd.C_below HR0_0.out (by repeat (first | (with_reducible first | exact HB.out | apply below_alloc | apply pw_below_drewN | apply below_drew1 | refine below_set ?_ GE422.out | refine below_set ?_ GE423.out | refine below_set ?_ GE426.out) | exact HB.out))); (case side2 => exact HC0_0.out); rintro e w57 ⟨v430, rfl, ho0, hb⟩; refine ⟨_, rfl, ?_⟩; have n0_ := Aside0.mk (Kd.R_lower (Kd.R_newB ho0 (g := gb426) (o := .cells #[.int .i64 ((rd_T48 l0_0 t424).f0), .bool ((rd_T48 l0_0 t424).f1), .bool ((rd_T48 l0_0 t424).f2), .bool ((rd_T48 l0_0 t424).f3), .int .i64 a3] 48 (0, 0)) (by (with_reducible repeat (first | refine blk_drewN ?_ _ | refine blk_drew ?_ | refine blk_alloc ?_ _)); refine blk_put (cs := #[.int .i64 ((rd_T48 l0_0 t424).f0), .bool ((rd_T48 l0_0 t424).f1), .bool ((rd_T48 l0_0 t424).f2), .bool ((rd_T48 l0_0 t424).f3), .int .i64 ((rd_T48 l0_0 t424).f4)]) ?_ 4 _ rfl; (with_reducible repeat (first | refine blk_drewN ?_ _ | refine blk_drew ?_ | refine blk_alloc ?_ _)); exact BK426.out)) (below_size (by repeat (first | (with_reducible first | exact HB.out | apply below_alloc | apply pw_below_drewN | apply below_drew1 | refine below_set ?_ GE422.out | refine below_set ?_ GE423.out | refine below_set ?_ GE426.out) | exact HB.out)))); have n1_ := Aside0.mk (blk_below (g := gb422) (o := .cells #[.slice (some ad425) l0_0.length c0_0, .int .i64 a0_1] 24 (0, 0)) (by (with_reducible repeat (first | refine blk_drewN ?_ _ | refine blk_drew ?_ | refine blk_alloc ?_ _)); refine blk_far ?_ NB422_426.out _; (with_reducible repeat (first | refine blk_drewN ?_ _ | refine blk_drew ?_ | refine blk_alloc ?_ _)); exact BK422.out) hb); have n2_ := Aside0.mk (blk_below (g := gb423) (o := .cells #[.slice none 0 0, .int .i64 0] 24 (0, 0)) (by (with_reducible repeat (first | refine blk_drewN ?_ _ | refine blk_drew ?_ | refine blk_alloc ?_ _)); refine blk_far ?_ NB423_426.out _; (with_reducible repeat (first | refine blk_drewN ?_ _ | refine blk_drew ?_ | refine blk_alloc ?_ _)); exact BK423.out) hb); have n3_ := Aside0.mk (blk_below (g := gb426) (o := .cells #[.int .i64 ((rd_T48 l0_0 t424).f0), .bool ((rd_T48 l0_0 t424).f1), .bool ((rd_T48 l0_0 t424).f2), .bool ((rd_T48 l0_0 t424).f3), .int .i64 a3] 48 (0, 0)) (by (with_reducible repeat (first | refine blk_drewN ?_ _ | refine blk_drew ?_ | refine blk_alloc ?_ _)); refine blk_put (cs := #[.int .i64 ((rd_T48 l0_0 t424).f0), .bool ((rd_T48 l0_0 t424).f1), .bool ((rd_T48 l0_0 t424).f2), .bool ((rd_T48 l0_0 t424).f3), .int .i64 ((rd_T48 l0_0 t424).f4)]) ?_ 4 _ rfl; (with_reducible repeat (first | refine blk_drewN ?_ _ | refine blk_drew ?_ | refine blk_alloc ?_ _)); exact BK426.out) hb); have n4_ := Aside0.mk (below_step (by repeat (first | (with_reducible first | exact HB.out | apply below_alloc | apply pw_below_drewN | apply below_drew1 | refine below_set ?_ GE422.out | refine below_set ?_ GE423.out | refine below_set ?_ GE426.out) | exact HB.out)) hb); clear BK422; clear BK423; clear BK426; clear HB; have HO431 := n0_; have BK422 := n1_; have BK423 := n2_; have BK426 := n3_; have HB := n4_; clear n0_ n1_ n2_ n3_ n4_; (try clear hb); (try clear hb2); (try clear hk); (try clear hi); (try clear ho0); obtain ⟨Ao58, co58, eo58⟩ := Kd.R_slice HO431.out; subst eo58; have hcz59_0 : w57.cell? ⟨gb423, 0, none⟩ = some (.slice none 0 0) := (blk_cell BK423.out 0).trans rfl; have hcz59_1 : w57.cell? ⟨gb423, 1, none⟩ = some (.int .i64 0) := (blk_cell BK423.out 1).trans rfl; have hfz59_0 := blk_frozen BK423.out 0; have hfz59_1 := blk_frozen BK423.out 1))
            refine bodyPost_ret (results_ct rfl _ _ gb423 24 #[.slice Ao58 t429.length co58, .int .i64 t432] (0, 0) _ rfl (by (with_reducible repeat (first | refine blk_drewN ?_ _ | refine blk_drew ?_ | refine blk_alloc ?_ _)); refine blk_put (cs := #[.slice Ao58 t429.length co58, .int .i64 0]) ?_ 1 _ rfl; (with_reducible repeat (first | refine blk_drewN ?_ _ | refine blk_drew ?_ | refine blk_alloc ?_ _)); refine blk_put (cs := #[.slice none 0 0, .int .i64 0]) ?_ 0 _ rfl; (with_reducible repeat (first | refine blk_drewN ?_ _ | refine blk_drew ?_ | refine blk_alloc ?_ _)); exact BK423.out) Try.underlying24 rfl (by kernel_rfl)) rfl ?_
            exact ⟨_, by first | rfl | (simp [errW_none, errW_some] <;> rfl) | (simp [*, errW_none, errW_some] <;> rfl), by (with_reducible repeat (first | apply Kd.R_alloc | apply Kd.R_drewN | apply Kd.R_drew)); exact Kd.R_mono (Kd.R_far (p := ⟨gb423, 1, none⟩) (Kd.R_far (p := ⟨gb423, 0, none⟩) (Kd.R_types HO431.out BK423.out (by decide)) (fun _ hk => hk.2) (.slice Ao58 t429.length co58)) (fun _ hk => hk.2) (.int .i64 t432)) (fun _ hk => trivial), by repeat (first | (with_reducible first | exact HB.out | apply below_alloc | apply pw_below_drewN | apply below_drew1 | refine below_set ?_ GE422.out | refine below_set ?_ GE423.out | refine below_set ?_ GE426.out) | exact HB.out)⟩
           ·replace c50 := Bool.eq_false_iff.mpr c50
            subst c50; have H1 : (some (([] : List (S48)), 0, 2)) = some (r1, r2, r3) := by rw [if_neg (show ¬ (false = true) by decide)] at H; exact H
            clear H; have H := H1; clear H1
            simp only [Option.some.injEq, Prod.mk.injEq] at H
            obtain ⟨rfl, rfl, rfl⟩ := H
            go_wp2_with (first | ((with_reducible refine gate_dst (N := 54) rfl ?_); refine whole_list (g := gb422) (l := ?l54_) (l' := ?m54_) (t := ?t54_) ?hg ?hb ?hl ?hr ?_; (case hg => rfl); (case hb => repeat (first | (with_reducible exact BK422.out) | (with_reducible refine blk_putL (l := ?_) ?_ _ _; rotate_left) | (with_reducible refine blk_drewN ?_ _) | (with_reducible refine blk_drew ?_) | refine blk_far ?_ (Aside0.out (by assumption)) _)); (case hl => first | (simp only [List.set_cons_zero, List.set_cons_succ]; done) | (simp only [List.set_cons_zero, List.set_cons_succ]; rfl) | rfl); (case hr => intro w1 hb; have hz0_ : w1.cell? ⟨gb422, 0, none⟩ = some _ := (blk_cell hb 0).trans rfl; have hz1_ : w1.cell? ⟨gb422, 1, none⟩ = some _ := (blk_cell hb 1).trans rfl; first | (go_simp; done) | (go_simp; rfl))) | ((with_reducible refine gate_dst (N := 56) rfl ?_); refine whole_list (g := gb426) (l := ?l56_) (l' := ?m56_) (t := ?t56_) ?hg ?hb ?hl ?hr ?_; (case hg => rfl); (case hb => repeat (first | (with_reducible exact BK426.out) | (with_reducible refine blk_putL (l := ?_) ?_ _ _; rotate_left) | (with_reducible refine blk_drewN ?_ _) | (with_reducible refine blk_drew ?_) | refine blk_far ?_ (Aside0.out (by assumption)) _)); (case hl => first | (simp only [List.set_cons_zero, List.set_cons_succ]; done) | (simp only [List.set_cons_zero, List.set_cons_succ]; rfl) | rfl); (case hr => intro w1 hb; have hz0_ : w1.cell? ⟨gb426, 0, none⟩ = some _ := (blk_cell hb 0).trans rfl; have hz1_ : w1.cell? ⟨gb426, 1, none⟩ = some _ := (blk_cell hb 1).trans rfl; have hz2_ : w1.cell? ⟨gb426, 2, none⟩ = some _ := (blk_cell hb 2).trans rfl; have hz3_ : w1.cell? ⟨gb426, 3, none⟩ = some _ := (blk_cell hb 3).trans rfl; have hz4_ : w1.cell? ⟨gb426, 4, none⟩ = some _ := (blk_cell hb 4).trans rfl; first | (go_simp; done) | (go_simp; rfl))) | ((with_reducible refine gate_callee (f := 35) rfl ?_); refine goesL_ (some 49) rfl rfl Try.func35 (by kernel_rfl) rfl #[.int .i64 a3, .int .i64 1, .int .i64 20000000] rfl (by (try simp only [List.map_toArray, List.map_cons, List.map_nil]); first | done | rfl | (simp only [List.length_drop, List.length_take]; rfl)) ?_; (with_reducible refine (skiarearef16_in.calls a3 1 20000000 false _ A49.out).mono ?_); rintro e w' ⟨rfl, ⟨nd, rfl⟩⟩; refine ⟨_, rfl, ?_⟩; (try (rw [drewN_self wc]; generalize hq_ : World.drewN wc _ = wc; have n0_ : Aside0 (wc.heap[gb422]? = some (.cells #[.slice (some ad425) l0_0.length c0_0, .int .i64 a0_1] 24 (0, 0))) := ⟨by rw [← hq_]; exact (sb_ BK422.out)⟩; have n1_ : Aside0 (wc.heap[gb423]? = some (.cells #[.slice none 0 0, .int .i64 0] 24 (0, 0))) := ⟨by rw [← hq_]; exact (sb_ BK423.out)⟩; have n2_ : Aside0 (wc.heap[gb426]? = some (.cells #[.int .i64 ((rd_T48 l0_0 t424).f0), .bool ((rd_T48 l0_0 t424).f1), .bool ((rd_T48 l0_0 t424).f2), .bool ((rd_T48 l0_0 t424).f3), .int .i64 ((rd_T48 l0_0 t424).f4)] 48 (0, 0))) := ⟨by rw [← hq_]; exact (sb_ BK426.out)⟩; have n3_ : Aside0 (Below w.heap.size w wc) := ⟨by rw [← hq_]; exact (by repeat (first | (with_reducible first | exact HB.out | apply below_alloc | apply pw_below_drewN | apply below_drew1 | refine below_set ?_ GE422.out | refine below_set ?_ GE423.out | refine below_set ?_ GE426.out) | exact HB.out))⟩; clear BK422 BK423 BK426 HB hq_; have BK422 := n0_; have BK423 := n1_; have BK426 := n2_; have HB := n3_; clear n0_ n1_ n2_ n3_)); have hnb60 := NB423_422.out; have hnc60 := NB422_423.out; have hnb61 := NB423_426.out; have hnc61 := NB426_423.out; have hcz62_0 : wc.cell? ⟨gb423, 0, none⟩ = some (.slice none 0 0) := (blk_cell BK423.out 0).trans rfl; have hcz62_1 : wc.cell? ⟨gb423, 1, none⟩ = some (.int .i64 0) := (blk_cell BK423.out 1).trans rfl; have hfz62_0 := blk_frozen BK423.out 0; have hfz62_1 := blk_frozen BK423.out 1))
            refine bodyPost_ret (results_ct rfl _ _ gb423 24 #[.slice none 0 0, .int .i64 0] (0, 0) _ rfl (by (with_reducible repeat (first | refine blk_drewN ?_ _ | refine blk_drew ?_ | refine blk_alloc ?_ _)); refine blk_put (cs := #[.slice none 0 0, .int .i64 0]) ?_ 1 _ rfl; (with_reducible repeat (first | refine blk_drewN ?_ _ | refine blk_drew ?_ | refine blk_alloc ?_ _)); refine blk_put (cs := #[.slice none 0 0, .int .i64 0]) ?_ 0 _ rfl; (with_reducible repeat (first | refine blk_drewN ?_ _ | refine blk_drew ?_ | refine blk_alloc ?_ _)); exact BK423.out) Try.underlying24 rfl (by kernel_rfl)) rfl ?_
            exact ⟨_, by first | rfl | (simp [errW_none, errW_some] <;> rfl) | (simp [*, errW_none, errW_some] <;> rfl), by first | exact Kd.R_nil _ _ _ _ _ | exact Kd.N_nil _ _ _ _ _ | exact Kd.V_nil _ _ _ _ _ | exact Kd.Q_nil _ _ _ _ _ | exact Kd.S_nil _ _ _ _ _, by repeat (first | (with_reducible first | exact HB.out | apply below_alloc | apply pw_below_drewN | apply below_drew1 | refine below_set ?_ GE422.out | refine below_set ?_ GE423.out | refine below_set ?_ GE426.out) | exact HB.out)⟩
   ·rw [if_neg c13] at H
    exact absurd H (by simp)
  ·rw [if_neg c12] at H
   exact absurd H (by simp)

end Go.Proofs.Yteepdedbldnccaa.P
