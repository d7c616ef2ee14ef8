-- Written by wip/tools/laws.py of this repo over the kit's printer, for this claim.
import Derived.Test.YtaleljinebkdkaaPx0
namespace Go.Proofs.Ytaleljinebkdkaa.P
open Go.RowKit Go.Proofs.YtaleljinebkdkaaW.PrintWords Go.Proofs.YtaleljinebkdkaaW.PrintLast Go.Proofs.YtaleljinebkdkaaW.PrintMore
attribute [local go_sem] max2_int min2_int max_two min_two max_three min_three max_four min_four   -- for this text's walks alone
set_option linter.unusedVariables false
set_option linter.unusedSimpArgs false

/-! ### skiarearef14_speed: function 32 -/
def skiarearef14_speed.j0 : Nat → Bool → Int → Int → Int → Int → Int → Int → Int → Int → Option (Int)
 | 0, _, _, _, _, _, _, _, _, _ => none
 | k + 1, x14, x265000, x265001, x265002, x265003, x266000, x266001, x266002, x266003 => if x14 = true then (some (mn (wrap64 (x266001 + x265001)) x266002)) else (if x266000 = 1 then (some (mx (wrap64 (x266001 - x265002)) x266002)) else (if x266000 = 2 then (some (mx (wrap64 (x266001 - x265002)) 0)) else (if x266000 = 3 then (some (mx (wrap64 (x266001 - x265003)) 0)) else (some x266001))))
def skiarearef14_speed.f (k : Nat) (a0_0 : Int) (a0_1 : Int) (a0_2 : Int) (a0_3 : Int) (a1_0 : Int) (a1_1 : Int) (a1_2 : Int) (a1_3 : Int) : Option (Int) := if a1_0 = 1 then (skiarearef14_speed.j0 k (decide (a1_1 < a1_2)) a0_0 a0_1 a0_2 a0_3 a1_0 a1_1 a1_2 a1_3) else (skiarearef14_speed.j0 k false a0_0 a0_1 a0_2 a0_3 a1_0 a1_1 a1_2 a1_3)
theorem skiarearef14_speed.mono_l : ∀ k, (∀ y0 y1 y2 y3 y4 y5 y6 y7 y8, LeO (skiarearef14_speed.j0 k y0 y1 y2 y3 y4 y5 y6 y7 y8) (skiarearef14_speed.j0 (k + 1) y0 y1 y2 y3 y4 y5 y6 y7 y8))
 | 0 => fun _ _ _ _ _ _ _ _ _ r h => by simp [skiarearef14_speed.j0] at h
 | k + 1 => by
  have ih0 := skiarearef14_speed.mono_l k
  ·intro y0 y1 y2 y3 y4 y5 y6 y7 y8
   unfold skiarearef14_speed.j0
   repeat' first
   | (with_reducible exact ih0 _ _ _ _ _ _ _ _ _)
   | (with_reducible exact LeO.refl _)
   | (with_reducible exact LeO.none _)
   | (with_reducible refine LeO.ite ?_ ?_)
   | (with_reducible refine LeO.bind ?_ (fun _ => ?_))
   | exact ih0 _ _ _ _ _ _ _ _ _
   | exact LeO.none _
   | refine LeO.ite ?_ ?_
   | refine LeO.bind ?_ (fun _ => ?_)
theorem skiarearef14_speed.mono : ∀ a0 a1 a2 a3 a4 a5 a6 a7 k, LeO (skiarearef14_speed.f k a0 a1 a2 a3 a4 a5 a6 a7) (skiarearef14_speed.f (k + 1) a0 a1 a2 a3 a4 a5 a6 a7) := by
 intro a0 a1 a2 a3 a4 a5 a6 a7 k
 have ih0 := skiarearef14_speed.mono_l k
 unfold skiarearef14_speed.f
 repeat' first
   | (with_reducible exact ih0 _ _ _ _ _ _ _ _ _)
   | (with_reducible exact LeO.refl _)
   | (with_reducible exact LeO.none _)
   | (with_reducible refine LeO.ite ?_ ?_)
   | (with_reducible refine LeO.bind ?_ (fun _ => ?_))
   | exact ih0 _ _ _ _ _ _ _ _ _
   | exact LeO.none _
   | refine LeO.ite ?_ ?_
   | refine LeO.bind ?_ (fun _ => ?_)
set_option maxHeartbeats 8000000 in
set_option maxRecDepth 100000 in
theorem skiarearef14_speed.calls (k : Nat) (a0_0 : Int) (a0_1 : Int) (a0_2 : Int) (a0_3 : Int) (a1_0 : Int) (a1_1 : Int) (a1_2 : Int) (a1_3 : Int) (r : Int) (w : World) (h : skiarearef14_speed.f k a0_0 a0_1 a0_2 a0_3 a1_0 a1_1 a1_2 a1_3 = some r) :
  Calls Try.prog 32 #[.agg #[.int .i64 a0_0, .int .i64 a0_1, .int .i64 a0_2, .int .i64 a0_3], .agg #[.int .i64 a1_0, .int .i64 a1_1, .int .i64 a1_2, .int .i64 a1_3]] w fun e w' => e = .returned (.int .i64 r) ∧ Below w.heap.size w w' := by
 have hu23 := Try.underlying23
 have hu25 := Try.underlying25
 have HB := Aside0.mk (Below.refl w.heap.size w)
 have H : (if a1_0 = 1 then (skiarearef14_speed.j0 k (decide (a1_1 < a1_2)) a0_0 a0_1 a0_2 a0_3 a1_0 a1_1 a1_2 a1_3) else (skiarearef14_speed.j0 k false a0_0 a0_1 a0_2 a0_3 a1_0 a1_1 a1_2 a1_3)) = some r := h
 clear h
 have HC3 := Aside0.mk H
 clear H
 go_enter Try.func32, Try.ntmps32
 go_upto_region 1 with (first | ((with_reducible refine gate_dst (N := 2) rfl ?_); refine box_event ?hg (N := 2) ?hd (cs := #[.int .i64 a0_0, .int .i64 a0_1, .int .i64 a0_2, .int .i64 a0_3]) (t := 23) ?hr ?_; (case hd => rfl); (case hg => rfl); (case hr => first | (go_simp; done) | (go_simp; rfl)); intro gb264 hg w4 hbox hb; have n0_ := Aside0.mk (below_step (by repeat (first | (with_reducible first | exact HB.out | apply below_alloc | apply pw_below_drewN | apply below_drew1) | exact HB.out)) hb); have n1_ := Aside0.mk (hbox); have n2_ := Aside0.mk ((by rw [hg]; exact (below_size (by repeat (first | (with_reducible first | exact HB.out | apply below_alloc | apply pw_below_drewN | apply below_drew1) | exact HB.out))) : w.heap.size ≤ gb264)); have n3_ := Aside0.mk ((by rw [hg]; exact (below_size (by repeat (first | (with_reducible first | exact HB.out | apply below_alloc | apply pw_below_drewN | apply below_drew1) | exact HB.out))) : w.heap.size ≤ gb264)); clear HB; have HB := n0_; have BK264 := n1_; have GW264 := n2_; have GE264 := n3_; clear n0_ n1_ n2_ n3_; clear hb hbox hg) | ((with_reducible refine gate_dst (N := 3) rfl ?_); refine box_event ?hg (N := 3) ?hd (cs := #[.int .i64 a1_0, .int .i64 a1_1, .int .i64 a1_2, .int .i64 a1_3]) (t := 25) ?hr ?_; (case hd => rfl); (case hg => rfl); (case hr => first | (go_simp; done) | (go_simp; rfl)); intro gb265 hg w5 hbox hb; have n0_ := Aside0.mk (bb_ BK264.out hb); have n1_ := Aside0.mk (below_step (by repeat (first | (with_reducible first | exact HB.out | apply below_alloc | apply pw_below_drewN | apply below_drew1 | refine below_set ?_ GE264.out) | exact HB.out)) hb); have n2_ := Aside0.mk (hbox); have n3_ := Aside0.mk ((by rw [hg]; exact (below_size (by repeat (first | (with_reducible first | exact HB.out | apply below_alloc | apply pw_below_drewN | apply below_drew1 | refine below_set ?_ GE264.out) | exact HB.out))) : w.heap.size ≤ gb265)); have n4_ := Aside0.mk ((by rw [hg]; exact (below_size (by repeat (first | (with_reducible first | exact HB.out | apply below_alloc | apply pw_below_drewN | apply below_drew1 | refine below_set ?_ GE264.out) | exact HB.out))) : w.heap.size ≤ gb265)); have n5_ := Aside0.mk ((by rw [hg]; exact Nat.ne_of_lt (blk_lt (g := gb264) (o := .cells #[.int .i64 a0_0, .int .i64 a0_1, .int .i64 a0_2, .int .i64 a0_3] 23 (0, 0)) (by (with_reducible repeat (first | refine blk_drewN ?_ _ | refine blk_drew ?_ | refine blk_alloc ?_ _)); exact BK264.out)) : gb264 ≠ gb265)); have n6_ := Aside0.mk ((by rw [hg]; exact Nat.ne_of_gt (blk_lt (g := gb264) (o := .cells #[.int .i64 a0_0, .int .i64 a0_1, .int .i64 a0_2, .int .i64 a0_3] 23 (0, 0)) (by (with_reducible repeat (first | refine blk_drewN ?_ _ | refine blk_drew ?_ | refine blk_alloc ?_ _)); exact BK264.out)) : gb265 ≠ gb264)); clear BK264; clear HB; have BK264 := n0_; have HB := n1_; have BK265 := n2_; have GW265 := n3_; have GE265 := n4_; have NB264_265 := n5_; have NB265_264 := n6_; clear n0_ n1_ n2_ n3_ n4_ n5_ n6_; clear hb hbox hg))
 (try simp only [Act.put, List.setIfInBounds_toArray, List.set_cons_zero, List.set_cons_succ])
 go_cut [14] (fun v14 wc => ∃ (kq : Nat) (x14_2 : Bool), v14 = .bool x14_2 ∧ Aside0 (skiarearef14_speed.j0 kq x14_2 a0_0 a0_1 a0_2 a0_3 a1_0 a1_1 a1_2 a1_3 = some r) ∧ Aside0 (kq ≤ k) ∧ Aside0 (wc.heap[gb264]? = some (.cells #[.int .i64 a0_0, .int .i64 a0_1, .int .i64 a0_2, .int .i64 a0_3] 23 (0, 0))) ∧ Aside0 (wc.heap[gb265]? = some (.cells #[.int .i64 a1_0, .int .i64 a1_1, .int .i64 a1_2, .int .i64 a1_3] 25 (0, 0))) ∧ Aside0 (Below w.heap.size w wc))
 case first =>
  have H := HC3.out
  clear HC3
  by_cases c6 : a1_0 = 1
  ·rw [if_pos c6] at H
   have c6b0 : (a1_0 == 1) = true := beq_iff_eq.mpr c6
   have c6b1 : (a1_0 != 1) = false := bne_eq_false_iff_eq.mpr c6
   clear c6
   (first | rw [c6b0] | (simp only [i64_w, i32_w]; rw [c6b0]) | skip)
   have H' := Aside0.mk H
   clear H
   have hnb7 := NB265_264.out
   have hnc7 := NB264_265.out
   have hcz8_0 : w5.cell? ⟨gb265, 0, none⟩ = some (.int .i64 a1_0) := (blk_cell BK265.out 0).trans rfl
   have hcz8_1 : w5.cell? ⟨gb265, 1, none⟩ = some (.int .i64 a1_1) := (blk_cell BK265.out 1).trans rfl
   have hcz8_2 : w5.cell? ⟨gb265, 2, none⟩ = some (.int .i64 a1_2) := (blk_cell BK265.out 2).trans rfl
   have hcz8_3 : w5.cell? ⟨gb265, 3, none⟩ = some (.int .i64 a1_3) := (blk_cell BK265.out 3).trans rfl
   have hfz8_0 := blk_frozen BK265.out 0
   have hfz8_1 := blk_frozen BK265.out 1
   have hfz8_2 := blk_frozen BK265.out 2
   have hfz8_3 := blk_frozen BK265.out 3
   go_wp2
   go_meet
   case rel => exact ⟨_, (decide (a1_1 < a1_2)), (by first | rfl | (simp; done) | (simp [*]; done)), H', ⟨by first | omega | exact Nat.le_refl _⟩, ⟨by (with_reducible repeat (first | refine blk_drewN ?_ _ | refine blk_drew ?_ | refine blk_alloc ?_ _)); exact BK264.out⟩, ⟨by (with_reducible repeat (first | refine blk_drewN ?_ _ | refine blk_drew ?_ | refine blk_alloc ?_ _)); exact BK265.out⟩, ⟨by repeat (first | (with_reducible first | exact HB.out | apply below_alloc | apply pw_below_drewN | apply below_drew1 | refine below_set ?_ GE264.out | refine below_set ?_ GE265.out) | exact HB.out)⟩⟩
  ·rw [if_neg c6] at H
   have c6b0 : (a1_0 == 1) = false := beq_eq_false_iff_ne.mpr c6
   have c6b1 : (a1_0 != 1) = true := bne_iff_ne.mpr c6
   (first | rw [c6b0] | (simp only [i64_w, i32_w]; rw [c6b0]) | skip)
   have H' := Aside0.mk H
   clear H
   have hnb9 := NB265_264.out
   have hnc9 := NB264_265.out
   have hcz10_0 : w5.cell? ⟨gb265, 0, none⟩ = some (.int .i64 a1_0) := (blk_cell BK265.out 0).trans rfl
   have hcz10_1 : w5.cell? ⟨gb265, 1, none⟩ = some (.int .i64 a1_1) := (blk_cell BK265.out 1).trans rfl
   have hcz10_2 : w5.cell? ⟨gb265, 2, none⟩ = some (.int .i64 a1_2) := (blk_cell BK265.out 2).trans rfl
   have hcz10_3 : w5.cell? ⟨gb265, 3, none⟩ = some (.int .i64 a1_3) := (blk_cell BK265.out 3).trans rfl
   have hfz10_0 := blk_frozen BK265.out 0
   have hfz10_1 := blk_frozen BK265.out 1
   have hfz10_2 := blk_frozen BK265.out 2
   have hfz10_3 := blk_frozen BK265.out 3
   go_wp2
   go_meet
   case rel => exact ⟨_, (false), (by first | rfl | (simp; done) | (simp [*]; done)), H', ⟨by first | omega | exact Nat.le_refl _⟩, ⟨by (with_reducible repeat (first | refine blk_drewN ?_ _ | refine blk_drew ?_ | refine blk_alloc ?_ _)); exact BK264.out⟩, ⟨by (with_reducible repeat (first | refine blk_drewN ?_ _ | refine blk_drew ?_ | refine blk_alloc ?_ _)); exact BK265.out⟩, ⟨by repeat (first | (with_reducible first | exact HB.out | apply below_alloc | apply pw_below_drewN | apply below_drew1 | refine below_set ?_ GE264.out | refine below_set ?_ GE265.out) | exact HB.out)⟩⟩
 case rest =>
  clear HC3
  try clear p2
  try clear c3
  try clear c6
  try clear c6b0
  try clear c6b1
  try clear c7
  try clear c9
  try clear hcz10_0
  try clear hcz10_1
  try clear hcz10_2
  try clear hcz10_3
  try clear hcz8_0
  try clear hcz8_1
  try clear hcz8_2
  try clear hcz8_3
  try clear hfz10_0
  try clear hfz10_1
  try clear hfz10_2
  try clear hfz10_3
  try clear hfz8_0
  try clear hfz8_1
  try clear hfz8_2
  try clear hfz8_3
  obtain ⟨kq, x14_2, rfl, HA, HJ2, BK264, BK265, HB⟩ := hcut
  cases kq with
  | zero => exact absurd HA.out (by simp [skiarearef14_speed.j0])
  | succ kj2 =>
   have H := HA.out
   clear HA
   simp only [skiarearef14_speed.j0] at H
   by_cases c11 : x14_2 = true
   ·subst c11
    have H1 : (some (mn (wrap64 (a1_1 + a0_1)) a1_2)) = some r := by rw [if_pos rfl] at H; exact H
    clear H
    have H := H1
    clear H1
    obtain ⟨ji12, hji12⟩ : ∃ j_ : Int, (mn (wrap64 (a1_1 + a0_1)) a1_2) = j_ := ⟨_, rfl⟩
    replace H : (some ji12) = some r := by first | (rw [hji12] at H; exact H) | (simp only [hji12] at H ⊢; exact H)
    have hji12_ : (if a1_2 < (wrap64 (a1_1 + a0_1)) then a1_2 else (wrap64 (a1_1 + a0_1))) = ji12 := hji12
    obtain rfl := Option.some.inj H
    have hnb13 := NB265_264.out
    have hnc13 := NB264_265.out
    have hcz14_0 : wc.cell? ⟨gb265, 0, none⟩ = some (.int .i64 a1_0) := (blk_cell BK265.out 0).trans rfl
    have hcz14_1 : wc.cell? ⟨gb265, 1, none⟩ = some (.int .i64 a1_1) := (blk_cell BK265.out 1).trans rfl
    have hcz14_2 : wc.cell? ⟨gb265, 2, none⟩ = some (.int .i64 a1_2) := (blk_cell BK265.out 2).trans rfl
    have hcz14_3 : wc.cell? ⟨gb265, 3, none⟩ = some (.int .i64 a1_3) := (blk_cell BK265.out 3).trans rfl
    have hfz14_0 := blk_frozen BK265.out 0
    have hfz14_1 := blk_frozen BK265.out 1
    have hfz14_2 := blk_frozen BK265.out 2
    have hfz14_3 := blk_frozen BK265.out 3
    have hcz15_0 : wc.cell? ⟨gb264, 0, none⟩ = some (.int .i64 a0_0) := (blk_cell BK264.out 0).trans rfl
    have hcz15_1 : wc.cell? ⟨gb264, 1, none⟩ = some (.int .i64 a0_1) := (blk_cell BK264.out 1).trans rfl
    have hcz15_2 : wc.cell? ⟨gb264, 2, none⟩ = some (.int .i64 a0_2) := (blk_cell BK264.out 2).trans rfl
    have hcz15_3 : wc.cell? ⟨gb264, 3, none⟩ = some (.int .i64 a0_3) := (blk_cell BK264.out 3).trans rfl
    have hfz15_0 := blk_frozen BK264.out 0
    have hfz15_1 := blk_frozen BK264.out 1
    have hfz15_2 := blk_frozen BK264.out 2
    have hfz15_3 := blk_frozen BK264.out 3
    go_wp2
    go_ret
    exact ⟨by first | rfl | (simp [errW_none, errW_some] <;> rfl) | (simp only [← hji12]; first | rfl | (simp [errW_none, errW_some] <;> rfl)) | (simp [*, errW_none, errW_some] <;> rfl), by repeat (first | (with_reducible first | exact HB.out | apply below_alloc | apply pw_below_drewN | apply below_drew1 | refine below_set ?_ GE264.out | refine below_set ?_ GE265.out) | exact HB.out)⟩
   ·replace c11 := Bool.eq_false_iff.mpr c11
    subst c11
    have H1 : (if a1_0 = 1 then (some (mx (wrap64 (a1_1 - a0_2)) a1_2)) else (if a1_0 = 2 then (some (mx (wrap64 (a1_1 - a0_2)) 0)) else (if a1_0 = 3 then (some (mx (wrap64 (a1_1 - a0_3)) 0)) else (some a1_1)))) = some r := by rw [if_neg (show ¬ (false = true) by decide)] at H; exact H
    clear H
    have H := H1
    clear H1
    by_cases c16 : a1_0 = 1
    ·rw [if_pos c16] at H
     have c16b0 : (a1_0 == 1) = true := beq_iff_eq.mpr c16
     have c16b1 : (a1_0 != 1) = false := bne_eq_false_iff_eq.mpr c16
     clear c16
     obtain ⟨ji17, hji17⟩ : ∃ j_ : Int, (mx (wrap64 (a1_1 - a0_2)) a1_2) = j_ := ⟨_, rfl⟩
     replace H : (some ji17) = some r := by first | (rw [hji17] at H; exact H) | (simp only [hji17] at H ⊢; exact H)
     have hji17_ : (if (wrap64 (a1_1 - a0_2)) < a1_2 then a1_2 else (wrap64 (a1_1 - a0_2))) = ji17 := hji17
     obtain rfl := Option.some.inj H
     have hnb18 := NB265_264.out
     have hnc18 := NB264_265.out
     have hcz19_0 : wc.cell? ⟨gb265, 0, none⟩ = some (.int .i64 a1_0) := (blk_cell BK265.out 0).trans rfl
     have hcz19_1 : wc.cell? ⟨gb265, 1, none⟩ = some (.int .i64 a1_1) := (blk_cell BK265.out 1).trans rfl
     have hcz19_2 : wc.cell? ⟨gb265, 2, none⟩ = some (.int .i64 a1_2) := (blk_cell BK265.out 2).trans rfl
     have hcz19_3 : wc.cell? ⟨gb265, 3, none⟩ = some (.int .i64 a1_3) := (blk_cell BK265.out 3).trans rfl
     have hfz19_0 := blk_frozen BK265.out 0
     have hfz19_1 := blk_frozen BK265.out 1
     have hfz19_2 := blk_frozen BK265.out 2
     have hfz19_3 := blk_frozen BK265.out 3
     have hcz20_0 : wc.cell? ⟨gb264, 0, none⟩ = some (.int .i64 a0_0) := (blk_cell BK264.out 0).trans rfl
     have hcz20_1 : wc.cell? ⟨gb264, 1, none⟩ = some (.int .i64 a0_1) := (blk_cell BK264.out 1).trans rfl
     have hcz20_2 : wc.cell? ⟨gb264, 2, none⟩ = some (.int .i64 a0_2) := (blk_cell BK264.out 2).trans rfl
     have hcz20_3 : wc.cell? ⟨gb264, 3, none⟩ = some (.int .i64 a0_3) := (blk_cell BK264.out 3).trans rfl
     have hfz20_0 := blk_frozen BK264.out 0
     have hfz20_1 := blk_frozen BK264.out 1
     have hfz20_2 := blk_frozen BK264.out 2
     have hfz20_3 := blk_frozen BK264.out 3
     go_wp2
     go_ret
     exact ⟨by first | rfl | (simp [errW_none, errW_some] <;> rfl) | (simp only [← hji17]; first | rfl | (simp [errW_none, errW_some] <;> rfl)) | (simp [*, errW_none, errW_some] <;> rfl), by repeat (first | (with_reducible first | exact HB.out | apply below_alloc | apply pw_below_drewN | apply below_drew1 | refine below_set ?_ GE264.out | refine below_set ?_ GE265.out) | exact HB.out)⟩
    ·rw [if_neg c16] at H
     have c16b0 : (a1_0 == 1) = false := beq_eq_false_iff_ne.mpr c16
     have c16b1 : (a1_0 != 1) = true := bne_iff_ne.mpr c16
     by_cases c21 : a1_0 = 2
     ·rw [if_pos c21] at H
      have c21b0 : (a1_0 == 2) = true := beq_iff_eq.mpr c21
      have c21b1 : (a1_0 != 2) = false := bne_eq_false_iff_eq.mpr c21
      clear c21
      obtain ⟨ji22, hji22⟩ : ∃ j_ : Int, (mx (wrap64 (a1_1 - a0_2)) 0) = j_ := ⟨_, rfl⟩
      replace H : (some ji22) = some r := by first | (rw [hji22] at H; exact H) | (simp only [hji22] at H ⊢; exact H)
      (try (have hji22l : 0 ≤ ji22 := by (rw [← hji22]; unfold mx; (repeat' split) <;> omega)))
      (try (have hji22m : 0 ≤ ji22 := by omega))
      have hji22_ : (if (wrap64 (a1_1 - a0_2)) < 0 then 0 else (wrap64 (a1_1 - a0_2))) = ji22 := hji22
      obtain rfl := Option.some.inj H
      have hnb23 := NB265_264.out
      have hnc23 := NB264_265.out
      have hcz24_0 : wc.cell? ⟨gb265, 0, none⟩ = some (.int .i64 a1_0) := (blk_cell BK265.out 0).trans rfl
      have hcz24_1 : wc.cell? ⟨gb265, 1, none⟩ = some (.int .i64 a1_1) := (blk_cell BK265.out 1).trans rfl
      have hcz24_2 : wc.cell? ⟨gb265, 2, none⟩ = some (.int .i64 a1_2) := (blk_cell BK265.out 2).trans rfl
      have hcz24_3 : wc.cell? ⟨gb265, 3, none⟩ = some (.int .i64 a1_3) := (blk_cell BK265.out 3).trans rfl
      have hfz24_0 := blk_frozen BK265.out 0
      have hfz24_1 := blk_frozen BK265.out 1
      have hfz24_2 := blk_frozen BK265.out 2
      have hfz24_3 := blk_frozen BK265.out 3
      have hcz25_0 : wc.cell? ⟨gb264, 0, none⟩ = some (.int .i64 a0_0) := (blk_cell BK264.out 0).trans rfl
      have hcz25_1 : wc.cell? ⟨gb264, 1, none⟩ = some (.int .i64 a0_1) := (blk_cell BK264.out 1).trans rfl
      have hcz25_2 : wc.cell? ⟨gb264, 2, none⟩ = some (.int .i64 a0_2) := (blk_cell BK264.out 2).trans rfl
      have hcz25_3 : wc.cell? ⟨gb264, 3, none⟩ = some (.int .i64 a0_3) := (blk_cell BK264.out 3).trans rfl
      have hfz25_0 := blk_frozen BK264.out 0
      have hfz25_1 := blk_frozen BK264.out 1
      have hfz25_2 := blk_frozen BK264.out 2
      have hfz25_3 := blk_frozen BK264.out 3
      go_wp2
      go_ret
      exact ⟨by first | rfl | (simp [errW_none, errW_some] <;> rfl) | (simp only [← hji22]; first | rfl | (simp [errW_none, errW_some] <;> rfl)) | (simp [*, errW_none, errW_some] <;> rfl), by repeat (first | (with_reducible first | exact HB.out | apply below_alloc | apply pw_below_drewN | apply below_drew1 | refine below_set ?_ GE264.out | refine below_set ?_ GE265.out) | exact HB.out)⟩
     ·rw [if_neg c21] at H
      have c21b0 : (a1_0 == 2) = false := beq_eq_false_iff_ne.mpr c21
      have c21b1 : (a1_0 != 2) = true := bne_iff_ne.mpr c21
      by_cases c26 : a1_0 = 3
      ·rw [if_pos c26] at H
       have c26b0 : (a1_0 == 3) = true := beq_iff_eq.mpr c26
       have c26b1 : (a1_0 != 3) = false := bne_eq_false_iff_eq.mpr c26
       clear c26
       obtain ⟨ji27, hji27⟩ : ∃ j_ : Int, (mx (wrap64 (a1_1 - a0_3)) 0) = j_ := ⟨_, rfl⟩
       replace H : (some ji27) = some r := by first | (rw [hji27] at H; exact H) | (simp only [hji27] at H ⊢; exact H)
       (try (have hji27l : 0 ≤ ji27 := by (rw [← hji27]; unfold mx; (repeat' split) <;> omega)))
       (try (have hji27m : 0 ≤ ji27 := by omega))
       have hji27_ : (if (wrap64 (a1_1 - a0_3)) < 0 then 0 else (wrap64 (a1_1 - a0_3))) = ji27 := hji27
       obtain rfl := Option.some.inj H
       have hnb28 := NB265_264.out
       have hnc28 := NB264_265.out
       have hcz29_0 : wc.cell? ⟨gb265, 0, none⟩ = some (.int .i64 a1_0) := (blk_cell BK265.out 0).trans rfl
       have hcz29_1 : wc.cell? ⟨gb265, 1, none⟩ = some (.int .i64 a1_1) := (blk_cell BK265.out 1).trans rfl
       have hcz29_2 : wc.cell? ⟨gb265, 2, none⟩ = some (.int .i64 a1_2) := (blk_cell BK265.out 2).trans rfl
       have hcz29_3 : wc.cell? ⟨gb265, 3, none⟩ = some (.int .i64 a1_3) := (blk_cell BK265.out 3).trans rfl
       have hfz29_0 := blk_frozen BK265.out 0
       have hfz29_1 := blk_frozen BK265.out 1
       have hfz29_2 := blk_frozen BK265.out 2
       have hfz29_3 := blk_frozen BK265.out 3
       have hcz30_0 : wc.cell? ⟨gb264, 0, none⟩ = some (.int .i64 a0_0) := (blk_cell BK264.out 0).trans rfl
       have hcz30_1 : wc.cell? ⟨gb264, 1, none⟩ = some (.int .i64 a0_1) := (blk_cell BK264.out 1).trans rfl
       have hcz30_2 : wc.cell? ⟨gb264, 2, none⟩ = some (.int .i64 a0_2) := (blk_cell BK264.out 2).trans rfl
       have hcz30_3 : wc.cell? ⟨gb264, 3, none⟩ = some (.int .i64 a0_3) := (blk_cell BK264.out 3).trans rfl
       have hfz30_0 := blk_frozen BK264.out 0
       have hfz30_1 := blk_frozen BK264.out 1
       have hfz30_2 := blk_frozen BK264.out 2
       have hfz30_3 := blk_frozen BK264.out 3
       go_wp2
       go_ret
       exact ⟨by first | rfl | (simp [errW_none, errW_some] <;> rfl) | (simp only [← hji27]; first | rfl | (simp [errW_none, errW_some] <;> rfl)) | (simp [*, errW_none, errW_some] <;> rfl), by repeat (first | (with_reducible first | exact HB.out | apply below_alloc | apply pw_below_drewN | apply below_drew1 | refine below_set ?_ GE264.out | refine below_set ?_ GE265.out) | exact HB.out)⟩
      ·rw [if_neg c26] at H
       have c26b0 : (a1_0 == 3) = false := beq_eq_false_iff_ne.mpr c26
       have c26b1 : (a1_0 != 3) = true := bne_iff_ne.mpr c26
       obtain rfl := Option.some.inj H
       have hnb31 := NB265_264.out
       have hnc31 := NB264_265.out
       have hcz32_0 : wc.cell? ⟨gb265, 0, none⟩ = some (.int .i64 a1_0) := (blk_cell BK265.out 0).trans rfl
       have hcz32_1 : wc.cell? ⟨gb265, 1, none⟩ = some (.int .i64 a1_1) := (blk_cell BK265.out 1).trans rfl
       have hcz32_2 : wc.cell? ⟨gb265, 2, none⟩ = some (.int .i64 a1_2) := (blk_cell BK265.out 2).trans rfl
       have hcz32_3 : wc.cell? ⟨gb265, 3, none⟩ = some (.int .i64 a1_3) := (blk_cell BK265.out 3).trans rfl
       have hfz32_0 := blk_frozen BK265.out 0
       have hfz32_1 := blk_frozen BK265.out 1
       have hfz32_2 := blk_frozen BK265.out 2
       have hfz32_3 := blk_frozen BK265.out 3
       go_wp2
       go_ret
       exact ⟨by first | rfl | (simp [errW_none, errW_some] <;> rfl) | (simp [*, errW_none, errW_some] <;> rfl), by repeat (first | (with_reducible first | exact HB.out | apply below_alloc | apply pw_below_drewN | apply below_drew1 | refine below_set ?_ GE264.out | refine below_set ?_ GE265.out) | exact HB.out)⟩

end Go.Proofs.Ytaleljinebkdkaa.P
