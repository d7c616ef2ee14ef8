-- Written by wip/tools/laws.py of this repo over the kit's printer, for this claim.
import Derived.Test.YteepdedbldnccaaPx0
namespace Go.Proofs.Yteepdedbldnccaa.P
open Go.RowKit Go.Proofs.YteepdedbldnccaaW.PrintWords Go.Proofs.YteepdedbldnccaaW.PrintLast Go.Proofs.YteepdedbldnccaaW.PrintMore
attribute [local go_sem] max2_int min2_int max_two min_two max_three min_three max_four min_four   -- for this text's walks alone
set_option linter.unusedVariables false
set_option linter.unusedSimpArgs false

/-! ### skiarearef16_with: function 39 -/
def skiarearef16_with.l0 : Nat → Int → Int → List (S48) → Int → Int → Bool → Bool → Bool → Int → List (S48) → Int → Option ((List (S48)) × Int)
 | 0, _, _, _, _, _, _, _, _, _, _, _ => none
 | k + 1, x1, x8, x302000, x302001, x303000, x303001, x303002, x303003, x303004, x305000, x305001 => if x8 < (x302000.length : Int) then (if x8 = x1 then (if x305000.length < 5864062014805 then (skiarearef16_with.l0 k x1 (wrap64 (x8 + 1)) x302000 x302001 x303000 x303001 x303002 x303003 x303004 (x305000 ++ [(⟨x303000, x303001, x303002, x303003, x303004⟩ : S48)]) x305001) else (none)) else (if 0 ≤ x8 then (if x305000.length < 5864062014805 then (skiarearef16_with.l0 k x1 (wrap64 (x8 + 1)) x302000 x302001 x303000 x303001 x303002 x303003 x303004 (x305000 ++ [(⟨(rd_T48 x302000 x8).f0, (rd_T48 x302000 x8).f1, (rd_T48 x302000 x8).f2, (rd_T48 x302000 x8).f3, (rd_T48 x302000 x8).f4⟩ : S48)]) x305001) else (none)) else (none))) else (some (x305000, x305001))
def skiarearef16_with.f (k : Nat) (l0_0 : List (S48)) (a0_1 : Int) (a1 : Int) (a2_0 : Int) (a2_1 : Bool) (a2_2 : Bool) (a2_3 : Bool) (a2_4 : Int) : Option ((List (S48)) × Int) := skiarearef16_with.l0 k a1 0 l0_0 a0_1 a2_0 a2_1 a2_2 a2_3 a2_4 ([] : List (S48)) a0_1
theorem skiarearef16_with.mono_l : ∀ k, (∀ y0 y1 y2 y3 y4 y5 y6 y7 y8 y9 y10, LeO (skiarearef16_with.l0 k y0 y1 y2 y3 y4 y5 y6 y7 y8 y9 y10) (skiarearef16_with.l0 (k + 1) y0 y1 y2 y3 y4 y5 y6 y7 y8 y9 y10))
 | 0 => fun _ _ _ _ _ _ _ _ _ _ _ r h => by simp [skiarearef16_with.l0] at h
 | k + 1 => by
  have ih0 := skiarearef16_with.mono_l k
  ·intro y0 y1 y2 y3 y4 y5 y6 y7 y8 y9 y10
   unfold skiarearef16_with.l0
   repeat' first
   | (with_reducible exact ih0 _ _ _ _ _ _ _ _ _ _ _)
   | (with_reducible exact LeO.refl _)
   | (with_reducible exact LeO.none _)
   | (with_reducible refine LeO.ite ?_ ?_)
   | (with_reducible refine LeO.bind ?_ (fun _ => ?_))
   | exact ih0 _ _ _ _ _ _ _ _ _ _ _
   | exact LeO.none _
   | refine LeO.ite ?_ ?_
   | refine LeO.bind ?_ (fun _ => ?_)
theorem skiarearef16_with.mono : ∀ a0 a1 a2 a3 a4 a5 a6 a7 k, LeO (skiarearef16_with.f k a0 a1 a2 a3 a4 a5 a6 a7) (skiarearef16_with.f (k + 1) a0 a1 a2 a3 a4 a5 a6 a7) := by
 intro a0 a1 a2 a3 a4 a5 a6 a7 k
 have ih0 := skiarearef16_with.mono_l k
 unfold skiarearef16_with.f
 repeat' first
   | (with_reducible exact ih0 _ _ _ _ _ _ _ _ _ _ _)
   | (with_reducible exact LeO.refl _)
   | (with_reducible exact LeO.none _)
   | (with_reducible refine LeO.ite ?_ ?_)
   | (with_reducible refine LeO.bind ?_ (fun _ => ?_))
   | exact ih0 _ _ _ _ _ _ _ _ _ _ _
   | exact LeO.none _
   | refine LeO.ite ?_ ?_
   | refine LeO.bind ?_ (fun _ => ?_)
def skiarearef16_with.T7 : Bool × List (List Nat × List Nat) := (true, [([], []), ([0], [0]), ([], []), ([2], [2]), ([], []), ([3, 4], [3, 4]), ([5], [5]), ([6], [6]), ([1, 7], [1, 7]), ([0, 1, 2, 3, 4, 5, 6, 7, 8], []), ([9, 8, 8, 0, 1, 2, 3, 4, 5, 6, 7, 8], [8, 9])])
def skiarearef16_with.B7 : List Nat := [0, 1, 0, 4, 0, 28, 60, 124, 255, 511, 1023]
theorem skiarearef16_with.tab7 : rtab .any (opsOf Try.f39 7) = skiarearef16_with.T7 := by kernel_rfl
theorem skiarearef16_with.bits7 : waitsOk skiarearef16_with.T7.2 skiarearef16_with.B7 = true := by kernel_rfl
set_option maxHeartbeats 8000000 in
set_option maxRecDepth 100000 in
theorem skiarearef16_with.calls (k : Nat) (A0_0 : Option Addr) (c0_0 : Nat) (l0_0 : List (S48)) (a0_1 : Int) (a1 : Int) (a2_0 : Int) (a2_1 : Bool) (a2_2 : Bool) (a2_3 : Bool) (a2_4 : Int) (r1 : List (S48)) (r2 : Int) (w : World) (hr0_0 : Kd.C k48 w A0_0 l0_0.length l0_0) (hc0_0 : l0_0.length ≤ c0_0) (h : skiarearef16_with.f k l0_0 a0_1 a1 a2_0 a2_1 a2_2 a2_3 a2_4 = some (r1, r2)) :
  Calls Try.prog 39 #[.agg #[.slice A0_0 l0_0.length c0_0, .int .i64 a0_1], .int .i64 a1, .agg #[.int .i64 a2_0, .bool a2_1, .bool a2_2, .bool a2_3, .int .i64 a2_4]] w fun e w' => ∃ v0_ : Value, e = .returned (.agg #[v0_, .int .i64 r2]) ∧ Kd.R k48 48 w' w.heap.size (fun _ => True) v0_ r1 ∧ Below w.heap.size w w' := by
 have hu24 := Try.underlying24
 have hu48 := Try.underlying48
 have HR0_0 := Aside0.mk hr0_0
 have HC0_0 := Aside0.mk hc0_0
 clear hr0_0 hc0_0
 have HB := Aside0.mk (Below.refl w.heap.size w)
 have H : (skiarearef16_with.l0 k a1 0 l0_0 a0_1 a2_0 a2_1 a2_2 a2_3 a2_4 ([] : List (S48)) a0_1) = some (r1, r2) := h
 clear h
 have H' := Aside0.mk H
 clear H
 go_enter Try.func39, Try.ntmps39
 go_wp2_with (first | ((with_reducible refine gate_dst (N := 3) rfl ?_); refine box_event ?hg (N := 3) ?hd (cs := #[.slice A0_0 l0_0.length c0_0, .int .i64 a0_1]) (t := 24) ?hr ?_; (case hd => rfl); (case hg => rfl); (case hr => first | (go_simp; done) | (go_simp; rfl)); intro gb301 hg w4 hbox hb; have n0_ := Aside0.mk (below_step (by repeat (first | (with_reducible first | exact HB.out | apply below_alloc | apply pw_below_drewN | apply below_drew1) | exact HB.out)) hb); have n1_ := Aside0.mk (hbox); have n2_ := Aside0.mk ((by rw [hg]; exact (below_size (by repeat (first | (with_reducible first | exact HB.out | apply below_alloc | apply pw_below_drewN | apply below_drew1) | exact HB.out))) : w.heap.size ≤ gb301)); have n3_ := n2_; clear HB; have HB := n0_; have BK301 := n1_; have GW301 := n2_; have GE301 := n3_; clear n0_ n1_ n2_ n3_; clear hb hbox hg) | ((with_reducible refine gate_dst (N := 5) rfl ?_); refine box_event ?hg (N := 5) ?hd (cs := #[.int .i64 a2_0, .bool a2_1, .bool a2_2, .bool a2_3, .int .i64 a2_4]) (t := 48) ?hr ?_; (case hd => rfl); (case hg => rfl); (case hr => first | (go_simp; done) | (go_simp; rfl)); intro gb302 hg w5 hbox hb; have n0_ := Aside0.mk (bb_ BK301.out hb); have n1_ := Aside0.mk (below_step (by repeat (first | (with_reducible first | exact HB.out | apply below_alloc | apply pw_below_drewN | apply below_drew1 | refine below_set ?_ GE301.out) | exact HB.out)) hb); have n2_ := Aside0.mk (hbox); have n3_ := Aside0.mk ((by rw [hg]; exact (below_size (by repeat (first | (with_reducible first | exact HB.out | apply below_alloc | apply pw_below_drewN | apply below_drew1 | refine below_set ?_ GE301.out) | exact HB.out))) : w.heap.size ≤ gb302)); have n4_ := n3_; have n5_ := Aside0.mk (nl_ hg BK301.out); have n6_ := Aside0.mk (ng_ hg BK301.out); clear BK301; clear HB; have BK301 := n0_; have HB := n1_; have BK302 := n2_; have GW302 := n3_; have GE302 := n4_; have NB301_302 := n5_; have NB302_301 := n6_; clear n0_ n1_ n2_ n3_ n4_ n5_ n6_; clear hb hbox hg) | ((with_reducible refine gate_dst (N := 6) rfl ?_); refine box_event ?hg (N := 6) ?hd (cs := #[.slice none 0 0, .int .i64 0]) (t := 24) ?hr ?_; (case hd => rfl); (case hg => rfl); (case hr => first | (go_simp; done) | (go_simp; rfl)); intro gb303 hg w6 hbox hb; have n0_ := Aside0.mk (bb_ BK301.out hb); have n1_ := Aside0.mk (bb_ BK302.out hb); have n2_ := Aside0.mk (below_step (by repeat (first | (with_reducible first | exact HB.out | apply below_alloc | apply pw_below_drewN | apply below_drew1 | refine below_set ?_ GE301.out | refine below_set ?_ GE302.out) | exact HB.out)) hb); have n3_ := Aside0.mk (hbox); have n4_ := Aside0.mk ((by rw [hg]; exact (below_size (by repeat (first | (with_reducible first | exact HB.out | apply below_alloc | apply pw_below_drewN | apply below_drew1 | refine below_set ?_ GE301.out | refine below_set ?_ GE302.out) | exact HB.out))) : w.heap.size ≤ gb303)); have n5_ := n4_; have n6_ := Aside0.mk (nl_ hg BK301.out); have n7_ := Aside0.mk (ng_ hg BK301.out); have n8_ := Aside0.mk (nl_ hg BK302.out); have n9_ := Aside0.mk (ng_ hg BK302.out); clear BK301; clear BK302; clear HB; have BK301 := n0_; have BK302 := n1_; have HB := n2_; have BK303 := n3_; have GW303 := n4_; have GE303 := n5_; have NB301_303 := n6_; have NB303_301 := n7_; have NB302_303 := n8_; have NB303_302 := n9_; clear n0_ n1_ n2_ n3_ n4_ n5_ n6_ n7_ n8_ n9_; clear hb hbox hg; have hnb7 := NB301_302.out; have hnc7 := NB302_301.out; have hnb8 := NB301_303.out; have hnc8 := NB303_301.out; have hcz9_0 : w6.cell? ⟨gb301, 0, none⟩ = some (.slice A0_0 l0_0.length c0_0) := (blk_cell BK301.out 0).trans rfl; have hcz9_1 : w6.cell? ⟨gb301, 1, none⟩ = some (.int .i64 a0_1) := (blk_cell BK301.out 1).trans rfl; have hfz9_0 := blk_frozen BK301.out 0; have hfz9_1 := blk_frozen BK301.out 1) | ((with_reducible refine gate_dst (N := 7) rfl ?_); refine box_event ?hg (N := 7) ?hd (cs := #[.slice none 0 0, .int .i64 0]) (t := 24) ?hr ?_; (case hd => rfl); (case hg => rfl); (case hr => first | (go_simp; done) | (go_simp; rfl)); intro gb304 hg w10 hbox hb; have n0_ := Aside0.mk (bb_ BK301.out hb); have n1_ := Aside0.mk (bb_ BK302.out hb); have n2_ := Aside0.mk (bb_ BK303.out hb); have n3_ := Aside0.mk (below_step (by repeat (first | (with_reducible first | exact HB.out | apply below_alloc | apply pw_below_drewN | apply below_drew1 | refine below_set ?_ GE301.out | refine below_set ?_ GE302.out | refine below_set ?_ GE303.out) | exact HB.out)) hb); have n4_ := Aside0.mk (hbox); have n5_ := Aside0.mk ((by rw [hg]; exact (below_size (by repeat (first | (with_reducible first | exact HB.out | apply below_alloc | apply pw_below_drewN | apply below_drew1 | refine below_set ?_ GE301.out | refine below_set ?_ GE302.out | refine below_set ?_ GE303.out) | exact HB.out))) : w.heap.size ≤ gb304)); have n6_ := n5_; have n7_ := Aside0.mk (nl_ hg BK301.out); have n8_ := Aside0.mk (ng_ hg BK301.out); have n9_ := Aside0.mk (nl_ hg BK302.out); have n10_ := Aside0.mk (ng_ hg BK302.out); have n11_ := Aside0.mk (nl_ hg BK303.out); have n12_ := Aside0.mk (ng_ hg BK303.out); clear BK301; clear BK302; clear BK303; clear HB; have BK301 := n0_; have BK302 := n1_; have BK303 := n2_; have HB := n3_; have BK304 := n4_; have GW304 := n5_; have GE304 := n6_; have NB301_304 := n7_; have NB304_301 := n8_; have NB302_304 := n9_; have NB304_302 := n10_; have NB303_304 := n11_; have NB304_303 := n12_; clear n0_ n1_ n2_ n3_ n4_ n5_ n6_ n7_ n8_ n9_ n10_ n11_ n12_; clear hb hbox hg; have hnb11 := NB304_301.out; have hnc11 := NB301_304.out; have hnb12 := NB304_302.out; have hnc12 := NB302_304.out; have hnb13 := NB304_303.out; have hnc13 := NB303_304.out; have hcz14_0 : w10.cell? ⟨gb304, 0, none⟩ = some (.slice none 0 0) := (blk_cell BK304.out 0).trans rfl; have hcz14_1 : w10.cell? ⟨gb304, 1, none⟩ = some (.int .i64 0) := (blk_cell BK304.out 1).trans rfl; have hfz14_0 := blk_frozen BK304.out 0; have hfz14_1 := blk_frozen BK304.out 1))
 go_loopg [8] k (fun kq v8 w' => ∃ (x8_1 : Int) (x305000_1 : List (S48)) (u305000 : Value), v8 = .int .i64 x8_1 ∧ Aside0 (skiarearef16_with.l0 kq a1 x8_1 l0_0 a0_1 a2_0 a2_1 a2_2 a2_3 a2_4 x305000_1 a0_1 = some (r1, r2)) ∧ Aside0 (kq ≤ k) ∧ Aside0 (Kd.R k48 48 w' w.heap.size (fun k_ => k_ ≠ gb302) u305000 x305000_1) ∧ Aside0 (w'.heap[gb301]? = some (.cells #[(.slice A0_0 l0_0.length c0_0), .int .i64 a0_1] 24 (0, 0))) ∧ Aside0 (w'.heap[gb302]? = some (.cells #[.int .i64 a2_0, .bool a2_1, .bool a2_2, .bool a2_3, .int .i64 a2_4] 48 (0, 0))) ∧ Aside0 (w'.heap[gb303]? = some (.cells #[(.slice none 0 0), .int .i64 0] 24 (0, 0))) ∧ Aside0 (w'.heap[gb304]? = some (.cells #[u305000, .int .i64 a0_1] 24 (0, 0))) ∧ Aside0 (Below w.heap.size w w'))
 case atStart => exact ⟨(0), (([] : List (S48))), (.slice none 0 0), (by first | rfl | (simp; done) | (simp [*]; done)), H', ⟨Nat.le_refl _⟩, ⟨by first | exact Kd.R_nil _ _ _ _ _ | exact Kd.N_nil _ _ _ _ _ | exact Kd.V_nil _ _ _ _ _ | exact Kd.Q_nil _ _ _ _ _ | exact Kd.S_nil _ _ _ _ _⟩, ⟨by (with_reducible repeat (first | refine blk_drewN ?_ _ | refine blk_drew ?_ | refine blk_alloc ?_ _)); refine blk_far ?_ NB301_304.out _; (with_reducible repeat (first | refine blk_drewN ?_ _ | refine blk_drew ?_ | refine blk_alloc ?_ _)); refine blk_far ?_ NB301_304.out _; (with_reducible repeat (first | refine blk_drewN ?_ _ | refine blk_drew ?_ | refine blk_alloc ?_ _)); exact BK301.out⟩, ⟨by (with_reducible repeat (first | refine blk_drewN ?_ _ | refine blk_drew ?_ | refine blk_alloc ?_ _)); refine blk_far ?_ NB302_304.out _; (with_reducible repeat (first | refine blk_drewN ?_ _ | refine blk_drew ?_ | refine blk_alloc ?_ _)); refine blk_far ?_ NB302_304.out _; (with_reducible repeat (first | refine blk_drewN ?_ _ | refine blk_drew ?_ | refine blk_alloc ?_ _)); exact BK302.out⟩, ⟨by (with_reducible repeat (first | refine blk_drewN ?_ _ | refine blk_drew ?_ | refine blk_alloc ?_ _)); refine blk_far ?_ NB303_304.out _; (with_reducible repeat (first | refine blk_drewN ?_ _ | refine blk_drew ?_ | refine blk_alloc ?_ _)); refine blk_far ?_ NB303_304.out _; (with_reducible repeat (first | refine blk_drewN ?_ _ | refine blk_drew ?_ | refine blk_alloc ?_ _)); exact BK303.out⟩, ⟨by (with_reducible repeat (first | refine blk_drewN ?_ _ | refine blk_drew ?_ | refine blk_alloc ?_ _)); refine blk_put (cs := #[.slice none 0 0, .int .i64 0]) ?_ 1 _ rfl; (with_reducible repeat (first | refine blk_drewN ?_ _ | refine blk_drew ?_ | refine blk_alloc ?_ _)); refine blk_put (cs := #[.slice none 0 0, .int .i64 0]) ?_ 0 _ rfl; (with_reducible repeat (first | refine blk_drewN ?_ _ | refine blk_drew ?_ | refine blk_alloc ?_ _)); exact BK304.out⟩, ⟨by repeat (first | (with_reducible first | exact HB.out | apply below_alloc | apply pw_below_drewN | apply below_drew1 | refine below_set ?_ GE301.out | refine below_set ?_ GE302.out | refine below_set ?_ GE303.out | refine below_set ?_ GE304.out) | exact HB.out)⟩⟩
 case round =>
  clear H'
  try clear c1
  try clear p2
  try clear c3
  try clear c7
  try clear c8
  try clear c11
  try clear c12
  try clear c13
  try clear hcz14_0
  try clear hcz14_1
  try clear hcz9_0
  try clear hcz9_1
  try clear hfz14_0
  try clear hfz14_1
  try clear hfz9_0
  try clear hfz9_1
  obtain ⟨x8_1, x305000_1, u305000, rfl, HA, HK1, HO_305000, BK301, BK302, BK303, BK304, HB⟩ := hrel
  cases gk with
  | zero => exact absurd HA.out (by simp [skiarearef16_with.l0])
  | succ k1 =>
   have H := HA.out; clear HA
   simp only [skiarearef16_with.l0] at H
   by_cases c15 : x8_1 < (l0_0.length : Int)
   ·rw [if_pos c15] at H
    have c15b0 : decide (x8_1 < (l0_0.length : Int)) = true := decide_eq_true c15; clear c15
    by_cases c16 : x8_1 = a1
    ·rw [if_pos c16] at H
     have c16b0 : (x8_1 == a1) = true := beq_iff_eq.mpr c16; have c16b1 : (x8_1 != a1) = false := bne_eq_false_iff_eq.mpr c16; clear c16
     by_cases c17 : x305000_1.length < 5864062014805
     ·rw [if_pos c17] at H
      have LMc17 := Aside0.mk c17; clear c17
      obtain ⟨y305, hy305⟩ : ∃ y_ : List (S48), y_ = (x305000_1 ++ [(⟨a2_0, a2_1, a2_2, a2_3, a2_4⟩ : S48)]) := ⟨_, rfl⟩
      replace H : (skiarearef16_with.l0 k1 a1 (wrap64 (x8_1 + 1)) l0_0 a0_1 a2_0 a2_1 a2_2 a2_3 a2_4 y305 a0_1) = some (r1, r2) := by first | (rw [hy305]; with_reducible exact H) | (have H2_ := (Option.bind_some _ _).symm.trans H; rw [hy305]; with_reducible exact H2_) | (have H2_ := (Option.bind_some _ _).symm.trans H; with_reducible exact H2_) | with_reducible exact H | (rw [hy305]; exact H) | exact H
      have Ny305 := Aside0.mk hy305; clear hy305; have H' := Aside0.mk H; clear H; have hnb18 := NB301_302.out; have hnc18 := NB302_301.out; have hnb19 := NB301_303.out; have hnc19 := NB303_301.out; have hnb20 := NB301_304.out; have hnc20 := NB304_301.out; have hcz21_0 : wr.cell? ⟨gb301, 0, none⟩ = some (.slice A0_0 l0_0.length c0_0) := (blk_cell BK301.out 0).trans rfl; have hcz21_1 : wr.cell? ⟨gb301, 1, none⟩ = some (.int .i64 a0_1) := (blk_cell BK301.out 1).trans rfl; have hfz21_0 := blk_frozen BK301.out 0; have hfz21_1 := blk_frozen BK301.out 1; have hnb22 := NB304_302.out; have hnc22 := NB302_304.out; have hnb23 := NB304_303.out; have hnc23 := NB303_304.out; have hcz24_0 : wr.cell? ⟨gb304, 0, none⟩ = some (u305000) := (blk_cell BK304.out 0).trans rfl; have hcz24_1 : wr.cell? ⟨gb304, 1, none⟩ = some (.int .i64 a0_1) := (blk_cell BK304.out 1).trans rfl; have hfz24_0 := blk_frozen BK304.out 0; have hfz24_1 := blk_frozen BK304.out 1; have hnb25 := NB302_303.out; have hnc25 := NB303_302.out; have hcz26_0 : wr.cell? ⟨gb302, 0, none⟩ = some (.int .i64 a2_0) := (blk_cell BK302.out 0).trans rfl; have hcz26_1 : wr.cell? ⟨gb302, 1, none⟩ = some (.bool a2_1) := (blk_cell BK302.out 1).trans rfl; have hcz26_2 : wr.cell? ⟨gb302, 2, none⟩ = some (.bool a2_2) := (blk_cell BK302.out 2).trans rfl; have hcz26_3 : wr.cell? ⟨gb302, 3, none⟩ = some (.bool a2_3) := (blk_cell BK302.out 3).trans rfl; have hcz26_4 : wr.cell? ⟨gb302, 4, none⟩ = some (.int .i64 a2_4) := (blk_cell BK302.out 4).trans rfl; have hfz26_0 := blk_frozen BK302.out 0; have hfz26_1 := blk_frozen BK302.out 1; have hfz26_2 := blk_frozen BK302.out 2; have hfz26_3 := blk_frozen BK302.out 3; have hfz26_4 := blk_frozen BK302.out 4
      go_wp2_with (first | ((with_reducible refine gate_dst (N := 24) rfl ?_); refine whole_event (g := gb302) (v := .agg #[.int .i64 a2_0, .bool a2_1, .bool a2_2, .bool a2_3, .int .i64 a2_4]) (cs := #[.int .i64 a2_0, .bool a2_1, .bool a2_2, .bool a2_3, .int .i64 a2_4]) (t := 48) ?hg ?hr ?hb ?_; (case hg => rfl); (case hr => intro w1 hb; have hz0_ : w1.cell? ⟨gb302, 0, none⟩ = some (.int .i64 a2_0) := (blk_cell hb 0).trans rfl; have hz1_ : w1.cell? ⟨gb302, 1, none⟩ = some (.bool a2_1) := (blk_cell hb 1).trans rfl; have hz2_ : w1.cell? ⟨gb302, 2, none⟩ = some (.bool a2_2) := (blk_cell hb 2).trans rfl; have hz3_ : w1.cell? ⟨gb302, 3, none⟩ = some (.bool a2_3) := (blk_cell hb 3).trans rfl; have hz4_ : w1.cell? ⟨gb302, 4, none⟩ = some (.int .i64 a2_4) := (blk_cell hb 4).trans rfl; first | (go_simp; done) | (go_simp; rfl)); (case hb => (with_reducible repeat (first | refine blk_drewN ?_ _ | refine blk_drew ?_ | refine blk_alloc ?_ _)); exact BK302.out)) | ((with_reducible refine gate_builtin (b := .append) (xs := #[.tmp 23, .tmp 25]) rfl ?_); at_builtin; refine Kd.R_append k48 (w0 := w) w.heap.size rfl (.tmp 23) (.tmp 25) 22 48 (.agg #[(.int .i64 0), (.bool false), (.bool false), (.bool false), (.int .i64 0)]) 24 rfl Try.underlying22 info48 rfl (by decide) (by omega) u305000 x305000_1 (⟨a2_0, a2_1, a2_2, a2_3, a2_4⟩ : S48) [.int .i64 a2_0, .bool a2_1, .bool a2_2, .bool a2_3, .int .i64 a2_4] (fun k_ => k_ ≠ gb302) (fun _ => False) rfl rfl ?aP (fun _ hk => hk.elim) ?aF ?aO ?aB ?aS ?aL ?_; (case aP => exact k48_mkM _ _ _ (⟨a2_0, a2_1, a2_2, a2_3, a2_4⟩ : S48)); (case aB => exact (by repeat (first | (with_reducible first | exact HB.out | apply below_alloc | apply pw_below_drewN | apply below_drew1 | refine below_set ?_ GE301.out | refine below_set ?_ GE302.out | refine below_set ?_ GE303.out | refine below_set ?_ GE304.out) | exact HB.out))); (case aF => exact (fun k_ hk => Kd.freshB (g := gb302) (o := .cells #[.int .i64 a2_0, .bool a2_1, .bool a2_2, .bool a2_3, .int .i64 a2_4] 48 (0, 0)) (sb_ BK302.out) k_ hk)); (case aO => exact (sr_ HO_305000.out)); (case aS => exact (below_size (by repeat (first | (with_reducible first | exact HB.out | apply below_alloc | apply pw_below_drewN | apply below_drew1 | refine below_set ?_ GE301.out | refine below_set ?_ GE302.out | refine below_set ?_ GE303.out | refine below_set ?_ GE304.out) | exact HB.out)))); (case aL => have := LMc17.out; omega); intro v306 w27 ho hb hg hat; rw [← Ny305.out] at ho; have n0_ := Aside0.mk (blk_grown (g := gb301) (o := .cells #[.slice A0_0 l0_0.length c0_0, .int .i64 a0_1] 24 (0, 0)) (sb_ BK301.out) hg (Kd.R_ne HO_305000.out BK301.out (by decide))); have n1_ := Aside0.mk (blk_grown (g := gb302) (o := .cells #[.int .i64 a2_0, .bool a2_1, .bool a2_2, .bool a2_3, .int .i64 a2_4] 48 (0, 0)) (sb_ BK302.out) hg (Kd.R_away HO_305000.out (fun _ hk => hk))); have n2_ := Aside0.mk (blk_grown (g := gb303) (o := .cells #[.slice none 0 0, .int .i64 0] 24 (0, 0)) (sb_ BK303.out) hg (Kd.R_ne HO_305000.out BK303.out (by decide))); have n3_ := Aside0.mk (blk_grown (g := gb304) (o := .cells #[u305000, .int .i64 a0_1] 24 (0, 0)) (sb_ BK304.out) hg (Kd.R_ne HO_305000.out BK304.out (by decide))); have n4_ := Aside0.mk (hb); have n5_ := Aside0.mk (ho); clear BK301; clear BK302; clear BK303; clear BK304; clear HB; clear HO_305000; have BK301 := n0_; have BK302 := n1_; have BK303 := n2_; have BK304 := n3_; have HB := n4_; have HO307 := n5_; clear n0_ n1_ n2_ n3_ n4_ n5_; clear ho hb hg hat; obtain ⟨Ao28, co28, eo28⟩ := Kd.R_slice HO307.out; subst eo28; have hcz29_0 : w27.cell? ⟨gb304, 0, none⟩ = some (u305000) := (blk_cell BK304.out 0).trans rfl; have hcz29_1 : w27.cell? ⟨gb304, 1, none⟩ = some (.int .i64 a0_1) := (blk_cell BK304.out 1).trans rfl; have hfz29_0 := blk_frozen BK304.out 0; have hfz29_1 := blk_frozen BK304.out 1))
      go_roundg k1
      case measure => have := HK1.out; omega
      case rel => exact ⟨(wrap64 (x8_1 + 1)), (y305), (.slice Ao28 y305.length co28), (by first | rfl | (simp; done) | (simp [*]; done)), H', ⟨by have := HK1.out; omega⟩, ⟨by (with_reducible repeat (first | apply Kd.R_alloc | apply Kd.R_drewN | apply Kd.R_drew)); exact Kd.R_mono (Kd.R_far (p := ⟨gb304, 0, none⟩) (Kd.R_types HO307.out BK304.out (by decide)) (fun _ hk => hk.2) (.slice Ao28 y305.length co28)) (fun _ hk => hk.1)⟩, ⟨by (with_reducible repeat (first | refine blk_drewN ?_ _ | refine blk_drew ?_ | refine blk_alloc ?_ _)); refine blk_far ?_ NB301_304.out _; (with_reducible repeat (first | refine blk_drewN ?_ _ | refine blk_drew ?_ | refine blk_alloc ?_ _)); exact BK301.out⟩, ⟨by (with_reducible repeat (first | refine blk_drewN ?_ _ | refine blk_drew ?_ | refine blk_alloc ?_ _)); refine blk_far ?_ NB302_304.out _; (with_reducible repeat (first | refine blk_drewN ?_ _ | refine blk_drew ?_ | refine blk_alloc ?_ _)); exact BK302.out⟩, ⟨by (with_reducible repeat (first | refine blk_drewN ?_ _ | refine blk_drew ?_ | refine blk_alloc ?_ _)); refine blk_far ?_ NB303_304.out _; (with_reducible repeat (first | refine blk_drewN ?_ _ | refine blk_drew ?_ | refine blk_alloc ?_ _)); exact BK303.out⟩, ⟨by (with_reducible repeat (first | refine blk_drewN ?_ _ | refine blk_drew ?_ | refine blk_alloc ?_ _)); refine blk_put (cs := #[u305000, .int .i64 a0_1]) ?_ 0 _ rfl; (with_reducible repeat (first | refine blk_drewN ?_ _ | refine blk_drew ?_ | refine blk_alloc ?_ _)); exact BK304.out⟩, ⟨by repeat (first | (with_reducible first | exact HB.out | apply below_alloc | apply pw_below_drewN | apply below_drew1 | refine below_set ?_ GE301.out | refine below_set ?_ GE302.out | refine below_set ?_ GE303.out | refine below_set ?_ GE304.out) | exact HB.out)⟩⟩
     ·rw [if_neg c17] at H
      exact absurd H (by simp)
    ·rw [if_neg c16] at H
     have c16b0 : (x8_1 == a1) = false := beq_eq_false_iff_ne.mpr c16; have c16b1 : (x8_1 != a1) = true := bne_iff_ne.mpr c16
     by_cases c30 : 0 ≤ x8_1
     ·rw [if_pos c30] at H
      have c30b0 : decide (0 ≤ x8_1) = true := decide_eq_true c30; clear c30
      by_cases c31 : x305000_1.length < 5864062014805
      ·rw [if_pos c31] at H
       have LMc31 := Aside0.mk c31; clear c31
       obtain ⟨y309, hy309⟩ : ∃ y_ : List (S48), y_ = (x305000_1 ++ [(⟨(rd_T48 l0_0 x8_1).f0, (rd_T48 l0_0 x8_1).f1, (rd_T48 l0_0 x8_1).f2, (rd_T48 l0_0 x8_1).f3, (rd_T48 l0_0 x8_1).f4⟩ : S48)]) := ⟨_, rfl⟩
       replace H : (skiarearef16_with.l0 k1 a1 (wrap64 (x8_1 + 1)) l0_0 a0_1 a2_0 a2_1 a2_2 a2_3 a2_4 y309 a0_1) = some (r1, r2) := by first | (rw [hy309]; with_reducible exact H) | (have H2_ := (Option.bind_some _ _).symm.trans H; rw [hy309]; with_reducible exact H2_) | (have H2_ := (Option.bind_some _ _).symm.trans H; with_reducible exact H2_) | with_reducible exact H | (rw [hy309]; exact H) | exact H
       have Ny309 := Aside0.mk hy309; clear hy309; have H' := Aside0.mk H; clear H; have hnb32 := NB301_302.out; have hnc32 := NB302_301.out; have hnb33 := NB301_303.out; have hnc33 := NB303_301.out; have hnb34 := NB301_304.out; have hnc34 := NB304_301.out; have hcz35_0 : wr.cell? ⟨gb301, 0, none⟩ = some (.slice A0_0 l0_0.length c0_0) := (blk_cell BK301.out 0).trans rfl; have hcz35_1 : wr.cell? ⟨gb301, 1, none⟩ = some (.int .i64 a0_1) := (blk_cell BK301.out 1).trans rfl; have hfz35_0 := blk_frozen BK301.out 0; have hfz35_1 := blk_frozen BK301.out 1
       try go_wp2
       have n0_ := Aside0.mk (Kd.R_drew HO_305000.out); have n1_ := Aside0.mk (blk_drew BK301.out); have n2_ := Aside0.mk (blk_drew BK302.out); have n3_ := Aside0.mk (blk_drew BK303.out); have n4_ := Aside0.mk (blk_drew BK304.out); have n5_ := Aside0.mk (below_drew1 HB.out); clear HO_305000; clear BK301; clear BK302; clear BK303; clear BK304; clear HB; have HO_305000 := n0_; have BK301 := n1_; have BK302 := n2_; have BK303 := n3_; have BK304 := n4_; have HB := n5_; clear n0_ n1_ n2_ n3_ n4_ n5_; have p308 : 0 ≤ (x8_1 : Int) := of_decide_eq_true (by first | (with_reducible assumption) | assumption)
       have q308 : x8_1 < (l0_0.length : Int) := of_decide_eq_true (by first | (with_reducible assumption) | assumption)
       obtain ⟨ad308, e308, hx308_0, hx308_1, hx308_2, hx308_3, hx308_4⟩ := at_T48 HR0_0.out x8_1 p308 q308
       have hw308_4 := hx308_4; have hw308_3 := hx308_3; have hw308_2 := hx308_2; have hw308_1 := hx308_1; have hw308_0 := hx308_0
       cases e308
       replace hx308_0 := (HB.out.cell (World.block_lt_of_cell? w _ hx308_0)).trans hx308_0
       replace hx308_1 := (HB.out.cell (World.block_lt_of_cell? w _ hx308_1)).trans hx308_1
       replace hx308_2 := (HB.out.cell (World.block_lt_of_cell? w _ hx308_2)).trans hx308_2
       replace hx308_3 := (HB.out.cell (World.block_lt_of_cell? w _ hx308_3)).trans hx308_3
       replace hx308_4 := (HB.out.cell (World.block_lt_of_cell? w _ hx308_4)).trans hx308_4
       replace p308 := eq_true p308
       replace q308 := eq_true q308
       refine start_ (n := 11) (S := fun w' => w'.cell? ⟨gb304, 0, none⟩ = some (u305000) ∧ w'.cell? ⟨gb304, 1, none⟩ = some (.int .i64 a0_1) ∧ w'.cell? ⟨gb301, 0, none⟩ = some (.slice (some ad308) l0_0.length c0_0) ∧ w'.cell? ⟨gb301, 1, none⟩ = some (.int .i64 a0_1) ∧ w'.cell? (ad308.add ((x8_1).toNat * 5)) = some (.int .i64 ((rd_T48 l0_0 x8_1).f0)) ∧ w'.cell? ⟨(ad308.add ((x8_1).toNat * 5)).block, (ad308.add ((x8_1).toNat * 5)).off + 1, none⟩ = some (.bool ((rd_T48 l0_0 x8_1).f1)) ∧ w'.cell? ⟨(ad308.add ((x8_1).toNat * 5)).block, (ad308.add ((x8_1).toNat * 5)).off + 2, none⟩ = some (.bool ((rd_T48 l0_0 x8_1).f2)) ∧ w'.cell? ⟨(ad308.add ((x8_1).toNat * 5)).block, (ad308.add ((x8_1).toNat * 5)).off + 3, none⟩ = some (.bool ((rd_T48 l0_0 x8_1).f3)) ∧ w'.cell? ⟨(ad308.add ((x8_1).toNat * 5)).block, (ad308.add ((x8_1).toNat * 5)).off + 4, none⟩ = some (.int .i64 ((rd_T48 l0_0 x8_1).f4))) (ds := [10]) #[false, false, false, false, false, false, false, false, false, false, false] (by kernel_rfl) rfl rfl ⟨(blk_cell BK304.out 0).trans rfl, (blk_cell BK304.out 1).trans rfl, (blk_cell BK301.out 0).trans rfl, (blk_cell BK301.out 1).trans rfl, ((HB.out.cell (World.block_lt_of_cell? w _ hw308_0)).trans hw308_0), ((HB.out.cell (World.block_lt_of_cell? w _ hw308_1)).trans hw308_1), ((HB.out.cell (World.block_lt_of_cell? w _ hw308_2)).trans hw308_2), ((HB.out.cell (World.block_lt_of_cell? w _ hw308_3)).trans hw308_3), ((HB.out.cell (World.block_lt_of_cell? w _ hw308_4)).trans hw308_4)⟩ (fun hHeld => ?_); refine with_tabW skiarearef16_with.tab7 skiarearef16_with.bits7 (fun HT_ HW_ => ?_)
       generalize wr.drew = w36 at HO_305000 BK301 BK302 BK303 BK304 HB hx308_0 hx308_1 hx308_2 hx308_3 hx308_4 hHeld ⊢
       refine pure_ (i := 0) (N := some 28) (v := ?_) (a' := ?_) #[true, false, false, false, false, false, false, false, false, false, false] rfl rfl (any_of HT_.out (by kernel_rfl)) (fun _ _ _ h => h) (Or.inl ⟨by rfl, ?_⟩) ?_ ?_
       rotate_left
       ·intro w'
        go_simp
        with_reducible rfl
       rotate_left
       ·simp only [Act.put, List.setIfInBounds_toArray, List.set_cons_zero, List.set_cons_succ, i64_w, i32_w]
        rfl
       refine pure_ (i := 2) (N := some 30) (v := ?_) (a' := ?_) #[true, false, true, false, false, false, false, false, false, false, false] rfl rfl (any_of HT_.out (by kernel_rfl)) (fun _ _ _ h => h) (Or.inl ⟨by rfl, ?_⟩) ?_ ?_
       rotate_left
       ·intro w'
        go_simp
        with_reducible rfl
       rotate_left
       ·simp only [Act.put, List.setIfInBounds_toArray, List.set_cons_zero, List.set_cons_succ, i64_w, i32_w]
        rfl
       refine pure_ (i := 4) (N := some 32) (v := ?_) (a' := ?_) #[true, false, true, false, true, false, false, false, false, false, false] rfl rfl (any_of HT_.out (by kernel_rfl)) (fun _ _ _ h => h) (Or.inl ⟨by rfl, ?_⟩) ?_ ?_
       rotate_left
       ·intro w'
        go_simp
        with_reducible rfl
       rotate_left
       ·simp only [Act.put, List.setIfInBounds_toArray, List.set_cons_zero, List.set_cons_succ, i64_w, i32_w]
        rfl
       refine take_ (i := 1) (N := some 29) (v := ?_) (a' := ?_) #[true, true, true, false, true, false, false, false, false, false, false] rfl rfl (take_ofW HT_.out HW_.out (by kernel_rfl)) (fun _ _ _ h => h) (Or.inl ⟨by rfl, ?_⟩) hHeld ?_ ?_
       rotate_left
       ·rintro w' ⟨s0, s1, s2, s3, s4, s5, s6, s7, s8⟩
        go_simp
        with_reducible rfl
       rotate_left
       ·simp only [Act.put, List.setIfInBounds_toArray, List.set_cons_zero, List.set_cons_succ, i64_w, i32_w]
        rfl
       refine take_ (i := 3) (N := some 31) (v := ?_) (a' := ?_) #[true, true, true, true, true, false, false, false, false, false, false] rfl rfl (take_ofW HT_.out HW_.out (by kernel_rfl)) (fun _ _ _ h => h) (Or.inl ⟨by rfl, ?_⟩) hHeld ?_ ?_
       rotate_left
       ·rintro w' ⟨s0, s1, s2, s3, s4, s5, s6, s7, s8⟩
        go_simp
        with_reducible rfl
       rotate_left
       ·simp only [Act.put, List.setIfInBounds_toArray, List.set_cons_zero, List.set_cons_succ, i64_w, i32_w]
        rfl
       refine pure_ (i := 5) (N := some 33) (v := ?_) (a' := ?_) #[true, true, true, true, true, true, false, false, false, false, false] rfl rfl (any_of HT_.out (by kernel_rfl)) (fun _ _ _ h => h) (Or.inl ⟨by rfl, ?_⟩) ?_ ?_
       rotate_left
       ·intro w'
        go_simp
        with_reducible rfl
       rotate_left
       ·simp only [Act.put, List.setIfInBounds_toArray, List.set_cons_zero, List.set_cons_succ, i64_w, i32_w]
        rfl
       refine take_ (i := 6) (N := some 34) (v := ?_) (a' := ?_) #[true, true, true, true, true, true, true, false, false, false, false] rfl rfl (take_ofW HT_.out HW_.out (by kernel_rfl)) (fun _ _ _ h => h) (Or.inl ⟨by rfl, ?_⟩) hHeld ?_ ?_
       rotate_left
       ·rintro w' ⟨s0, s1, s2, s3, s4, s5, s6, s7, s8⟩
        go_simp
        with_reducible rfl
       rotate_left
       ·simp only [Act.put, List.setIfInBounds_toArray, List.set_cons_zero, List.set_cons_succ, i64_w, i32_w]
        rfl
       refine one_ (i := 7) (N := some 35) #[true, true, true, true, true, true, true, true, false, false, false] rfl rfl (one_of HT_.out (by kernel_rfl)) (by decide) (fun K hK => ?_)
       refine value_ (w1 := ?_) (v := ?_) (by rfl) rfl ?_ ?_
       rotate_left 2
       ·go_simp
        constructor
        ·rfl
        ·rfl
       refine hK.out _ _ ⟨(blk_cell (blk_alloc BK304.out _) 0).trans rfl, (blk_cell (blk_alloc BK304.out _) 1).trans rfl, (blk_cell (blk_alloc BK301.out _) 0).trans rfl, (blk_cell (blk_alloc BK301.out _) 1).trans rfl, (World.cell?_alloc_lt _ _ _ (World.block_lt_of_cell? _ _ (((HB.out.cell (World.block_lt_of_cell? w _ hw308_0)).trans hw308_0)))).trans (((HB.out.cell (World.block_lt_of_cell? w _ hw308_0)).trans hw308_0)), (World.cell?_alloc_lt _ _ _ (World.block_lt_of_cell? _ _ (((HB.out.cell (World.block_lt_of_cell? w _ hw308_1)).trans hw308_1)))).trans (((HB.out.cell (World.block_lt_of_cell? w _ hw308_1)).trans hw308_1)), (World.cell?_alloc_lt _ _ _ (World.block_lt_of_cell? _ _ (((HB.out.cell (World.block_lt_of_cell? w _ hw308_2)).trans hw308_2)))).trans (((HB.out.cell (World.block_lt_of_cell? w _ hw308_2)).trans hw308_2)), (World.cell?_alloc_lt _ _ _ (World.block_lt_of_cell? _ _ (((HB.out.cell (World.block_lt_of_cell? w _ hw308_3)).trans hw308_3)))).trans (((HB.out.cell (World.block_lt_of_cell? w _ hw308_3)).trans hw308_3)), (World.cell?_alloc_lt _ _ _ (World.block_lt_of_cell? _ _ (((HB.out.cell (World.block_lt_of_cell? w _ hw308_4)).trans hw308_4)))).trans (((HB.out.cell (World.block_lt_of_cell? w _ hw308_4)).trans hw308_4))⟩ (fun hHeld => ?_)
       clear hK K
       refine norm_ (a' := ?_) ?_ ?_
       rotate_left
       ·show Act.put _ (some 35) _ = _
        simp only [Act.put, List.setIfInBounds_toArray, List.set_cons_zero, List.set_cons_succ, i64_w, i32_w]
        rfl
       refine one_ (i := 8) (N := some 36) #[true, true, true, true, true, true, true, true, true, false, false] rfl rfl (one_of HT_.out (by kernel_rfl)) (by decide) (fun K hK => ?_)
       refine Kd.R_append_step k48 (w0 := w) w.heap.size (by rfl) (.tmp 29) (.tmp 35) 22 48 (.agg #[(.int .i64 0), (.bool false), (.bool false), (.bool false), (.int .i64 0)]) 24 rfl Try.underlying22 info48 rfl (by decide) (by omega) u305000 x305000_1 (⟨(rd_T48 l0_0 x8_1).f0, (rd_T48 l0_0 x8_1).f1, (rd_T48 l0_0 x8_1).f2, (rd_T48 l0_0 x8_1).f3, (rd_T48 l0_0 x8_1).f4⟩ : S48) [.int .i64 ((rd_T48 l0_0 x8_1).f0), .bool ((rd_T48 l0_0 x8_1).f1), .bool ((rd_T48 l0_0 x8_1).f2), .bool ((rd_T48 l0_0 x8_1).f3), .int .i64 ((rd_T48 l0_0 x8_1).f4)] (fun k_ => k_ ≠ gb302) (fun _ => False) rfl rfl ?aP (fun _ hk => hk.elim) ?aF ?aO ?aB ?aS ?aL ?_
       (case aP => exact k48_mkM _ _ _ (⟨(rd_T48 l0_0 x8_1).f0, (rd_T48 l0_0 x8_1).f1, (rd_T48 l0_0 x8_1).f2, (rd_T48 l0_0 x8_1).f3, (rd_T48 l0_0 x8_1).f4⟩ : S48))
       (case aB => exact (by repeat (first | (with_reducible first | exact HB.out | apply below_alloc | apply pw_below_drewN | apply below_drew1 | refine below_set ?_ GE301.out | refine below_set ?_ GE302.out | refine below_set ?_ GE303.out | refine below_set ?_ GE304.out) | exact HB.out)))
       (case aF => exact (fun k_ hk => Kd.freshB (g := gb302) (o := .cells #[.int .i64 a2_0, .bool a2_1, .bool a2_2, .bool a2_3, .int .i64 a2_4] 48 (0, 0)) (sb_ BK302.out) k_ hk))
       (case aO => exact (sr_ HO_305000.out))
       (case aS => exact (below_size (by repeat (first | (with_reducible first | exact HB.out | apply below_alloc | apply pw_below_drewN | apply below_drew1 | refine below_set ?_ GE301.out | refine below_set ?_ GE302.out | refine below_set ?_ GE303.out | refine below_set ?_ GE304.out) | exact HB.out))))
       (case aL => have := LMc31.out; omega)
       intro v310 w37 ho hb hg hat
       rw [← Ny309.out] at ho
       have n0_ := Aside0.mk (blk_grown (g := gb301) (o := .cells #[.slice (some ad308) l0_0.length c0_0, .int .i64 a0_1] 24 (0, 0)) (sb_ BK301.out) hg (Kd.R_ne HO_305000.out BK301.out (by decide)))
       have n1_ := Aside0.mk (blk_grown (g := gb302) (o := .cells #[.int .i64 a2_0, .bool a2_1, .bool a2_2, .bool a2_3, .int .i64 a2_4] 48 (0, 0)) (sb_ BK302.out) hg (Kd.R_away HO_305000.out (fun _ hk => hk)))
       have n2_ := Aside0.mk (blk_grown (g := gb303) (o := .cells #[.slice none 0 0, .int .i64 0] 24 (0, 0)) (sb_ BK303.out) hg (Kd.R_ne HO_305000.out BK303.out (by decide)))
       have n3_ := Aside0.mk (blk_grown (g := gb304) (o := .cells #[u305000, .int .i64 a0_1] 24 (0, 0)) (sb_ BK304.out) hg (Kd.R_ne HO_305000.out BK304.out (by decide)))
       have n4_ := Aside0.mk (hb); have n5_ := Aside0.mk (ho); clear BK301; clear BK302; clear BK303; clear BK304; clear HB; clear HO_305000; have BK301 := n0_; have BK302 := n1_; have BK303 := n2_; have BK304 := n3_; have HB := n4_; have HO311 := n5_; clear n0_ n1_ n2_ n3_ n4_ n5_; clear ho hb hg hat
       obtain ⟨Ao38, co38, eo38⟩ := Kd.R_slice HO311.out
       (first | subst eo38 | (injection eo38 with f1_ f2_ f3_; have f4_ := f1_.symm; have f5_ := f3_.symm; clear f1_ f2_ f3_; subst f4_; subst f5_))
       refine hK.out _ _ ⟨(blk_cell BK304.out 0).trans rfl, (blk_cell BK304.out 1).trans rfl, (blk_cell BK301.out 0).trans rfl, (blk_cell BK301.out 1).trans rfl, ((HB.out.cell (World.block_lt_of_cell? w _ hw308_0)).trans hw308_0), ((HB.out.cell (World.block_lt_of_cell? w _ hw308_1)).trans hw308_1), ((HB.out.cell (World.block_lt_of_cell? w _ hw308_2)).trans hw308_2), ((HB.out.cell (World.block_lt_of_cell? w _ hw308_3)).trans hw308_3), ((HB.out.cell (World.block_lt_of_cell? w _ hw308_4)).trans hw308_4)⟩ (fun hHeld => ?_)
       clear hK K
       refine norm_ (a' := ?_) ?_ ?_
       rotate_left
       ·show Act.put _ (some 36) _ = _
        simp only [Act.put, List.setIfInBounds_toArray, List.set_cons_zero, List.set_cons_succ, i64_w, i32_w]
        rfl
       refine pure_ (i := 9) (N := some 37) (v := ?_) (a' := ?_) #[true, true, true, true, true, true, true, true, true, true, false] rfl rfl (any_of HT_.out (by kernel_rfl)) (fun _ _ _ h => h) (Or.inl ⟨by rfl, ?_⟩) ?_ ?_
       rotate_left
       ·intro w'
        go_simp
        with_reducible rfl
       rotate_left
       ·simp only [Act.put, List.setIfInBounds_toArray, List.set_cons_zero, List.set_cons_succ, i64_w, i32_w]
        rfl
       refine last_ (i := 10) (N := none) #[true, true, true, true, true, true, true, true, true, true, true] rfl rfl (one_of HT_.out (by kernel_rfl)) (by decide) (fun K hK => ?_)
       have hs39 : w37.cell? ⟨gb304, 0, none⟩ = some (u305000) := (blk_cell BK304.out 0).trans rfl; have hfs39 := blk_frozen BK304.out 0; have hns39_0 := NB301_304.out; have hns39_1 := NB302_304.out; have hns39_2 := NB303_304.out; have hms39_0 := NB304_301.out; have hms39_1 := NB304_302.out; have hms39_2 := NB304_303.out
       refine skip_ (w1 := ?_) (by rfl) rfl ?_ ?_
       rotate_left
       ·go_simp
        rfl
       refine hK.out _ _ ?_
       clear hK K
       refine done_ (done_of HT_.out (by kernel_rfl)) ?_
       try go_wp2
       go_roundg k1
       case measure => have := HK1.out; omega
       case rel => exact ⟨(wrap64 (x8_1 + 1)), (y309), (.slice Ao38 y309.length co38), (by first | rfl | (simp; done) | (simp [*]; done)), H', ⟨by have := HK1.out; omega⟩, ⟨by (with_reducible repeat (first | apply Kd.R_alloc | apply Kd.R_drewN | apply Kd.R_drew)); exact Kd.R_mono (Kd.R_far (p := ⟨gb304, 0, none⟩) (Kd.R_types HO311.out BK304.out (by decide)) (fun _ hk => hk.2) (.slice Ao38 y309.length co38)) (fun _ hk => hk.1)⟩, ⟨by (with_reducible repeat (first | refine blk_drewN ?_ _ | refine blk_drew ?_ | refine blk_alloc ?_ _)); refine blk_far ?_ NB301_304.out _; (with_reducible repeat (first | refine blk_drewN ?_ _ | refine blk_drew ?_ | refine blk_alloc ?_ _)); exact BK301.out⟩, ⟨by (with_reducible repeat (first | refine blk_drewN ?_ _ | refine blk_drew ?_ | refine blk_alloc ?_ _)); refine blk_far ?_ NB302_304.out _; (with_reducible repeat (first | refine blk_drewN ?_ _ | refine blk_drew ?_ | refine blk_alloc ?_ _)); exact BK302.out⟩, ⟨by (with_reducible repeat (first | refine blk_drewN ?_ _ | refine blk_drew ?_ | refine blk_alloc ?_ _)); refine blk_far ?_ NB303_304.out _; (with_reducible repeat (first | refine blk_drewN ?_ _ | refine blk_drew ?_ | refine blk_alloc ?_ _)); exact BK303.out⟩, ⟨by (with_reducible repeat (first | refine blk_drewN ?_ _ | refine blk_drew ?_ | refine blk_alloc ?_ _)); refine blk_put (cs := #[u305000, .int .i64 a0_1]) ?_ 0 _ rfl; (with_reducible repeat (first | refine blk_drewN ?_ _ | refine blk_drew ?_ | refine blk_alloc ?_ _)); exact BK304.out⟩, ⟨by repeat (first | (with_reducible first | exact HB.out | apply below_alloc | apply pw_below_drewN | apply below_drew1 | refine below_set ?_ GE301.out | refine below_set ?_ GE302.out | refine below_set ?_ GE303.out | refine below_set ?_ GE304.out) | exact HB.out)⟩⟩
      ·rw [if_neg c31] at H
       exact absurd H (by simp)
     ·rw [if_neg c30] at H
      exact absurd H (by simp)
   ·rw [if_neg c15] at H
    have c15b0 : decide (x8_1 < (l0_0.length : Int)) = false := decide_eq_false c15; clear c15
    simp only [Option.some.injEq, Prod.mk.injEq] at H
    obtain ⟨rfl, rfl⟩ := H
    have hnb40 := NB301_302.out; have hnc40 := NB302_301.out; have hnb41 := NB301_303.out; have hnc41 := NB303_301.out; have hnb42 := NB301_304.out; have hnc42 := NB304_301.out; have hcz43_0 : wr.cell? ⟨gb301, 0, none⟩ = some (.slice A0_0 l0_0.length c0_0) := (blk_cell BK301.out 0).trans rfl; have hcz43_1 : wr.cell? ⟨gb301, 1, none⟩ = some (.int .i64 a0_1) := (blk_cell BK301.out 1).trans rfl; have hfz43_0 := blk_frozen BK301.out 0; have hfz43_1 := blk_frozen BK301.out 1; have hnb44 := NB304_302.out; have hnc44 := NB302_304.out; have hnb45 := NB304_303.out; have hnc45 := NB303_304.out; have hcz46_0 : wr.cell? ⟨gb304, 0, none⟩ = some (u305000) := (blk_cell BK304.out 0).trans rfl; have hcz46_1 : wr.cell? ⟨gb304, 1, none⟩ = some (.int .i64 a0_1) := (blk_cell BK304.out 1).trans rfl; have hfz46_0 := blk_frozen BK304.out 0; have hfz46_1 := blk_frozen BK304.out 1
    obtain ⟨Ao47, co47, eo47⟩ := Kd.R_slice HO_305000.out
    subst eo47; have hnb48 := NB303_302.out; have hnc48 := NB302_303.out; have hcz49_0 : wr.cell? ⟨gb303, 0, none⟩ = some (.slice none 0 0) := (blk_cell BK303.out 0).trans rfl; have hcz49_1 : wr.cell? ⟨gb303, 1, none⟩ = some (.int .i64 0) := (blk_cell BK303.out 1).trans rfl; have hfz49_0 := blk_frozen BK303.out 0; have hfz49_1 := blk_frozen BK303.out 1
    go_wp2
    refine bodyPost_ret (results_cell_row rfl _ _ gb303 24 #[.slice Ao47 x305000_1.length co47, .int .i64 a0_1] (0, 0) _ rfl (by (with_reducible repeat (first | refine blk_drewN ?_ _ | refine blk_drew ?_ | refine blk_alloc ?_ _)); refine blk_put (cs := #[.slice Ao47 x305000_1.length co47, .int .i64 0]) ?_ 1 _ rfl; (with_reducible repeat (first | refine blk_drewN ?_ _ | refine blk_drew ?_ | refine blk_alloc ?_ _)); refine blk_put (cs := #[.slice none 0 0, .int .i64 0]) ?_ 0 _ rfl; (with_reducible repeat (first | refine blk_drewN ?_ _ | refine blk_drew ?_ | refine blk_alloc ?_ _)); exact BK303.out) Try.underlying24 rfl (by kernel_rfl)) rfl ?_
    exact ⟨_, by first | rfl | (simp [errW_none, errW_some] <;> rfl) | (simp [*, errW_none, errW_some] <;> rfl), by (with_reducible repeat (first | apply Kd.R_alloc | apply Kd.R_drewN | apply Kd.R_drew)); exact Kd.R_mono (Kd.R_far (p := ⟨gb303, 1, none⟩) (Kd.R_far (p := ⟨gb303, 0, none⟩) (Kd.R_types HO_305000.out BK303.out (by decide)) (fun _ hk => hk.2) (.slice Ao47 x305000_1.length co47)) (fun _ hk => hk.2) (.int .i64 a0_1)) (fun _ hk => trivial), by repeat (first | (with_reducible first | exact HB.out | apply below_alloc | apply pw_below_drewN | apply below_drew1 | refine below_set ?_ GE301.out | refine below_set ?_ GE302.out | refine below_set ?_ GE303.out | refine below_set ?_ GE304.out) | exact HB.out)⟩

end Go.Proofs.Yteepdedbldnccaa.P
