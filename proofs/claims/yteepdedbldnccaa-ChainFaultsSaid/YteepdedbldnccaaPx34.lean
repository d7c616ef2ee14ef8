-- Written by wip/tools/laws.py of this repo over the kit's printer, for this claim.
import Derived.Test.YteepdedbldnccaaPx0
namespace Go.Proofs.Yteepdedbldnccaa.P
open Go.RowKit Go.Proofs.YteepdedbldnccaaW.PrintWords Go.Proofs.YteepdedbldnccaaW.PrintLast Go.Proofs.YteepdedbldnccaaW.PrintMore
attribute [local go_sem] max2_int min2_int max_two min_two max_three min_three max_four min_four   -- for this text's walks alone
set_option linter.unusedVariables false
set_option linter.unusedSimpArgs false

/-! ### skiarearef16_Faults: function 29 -/
def skiarearef16_Faults.l0 : Nat → Int → List Int → Int → List (S48) → Int → Option (List Int)
 | 0, _, _, _, _, _ => none
 | k + 1, x1, x5, x6, x450000, x450001 => if x6 < (x450000.length : Int) then (if 0 ≤ x6 then (if (rd_T48 x450000 x6).f3 = true then (if x1 ≥ ((rd_T48 x450000 x6).f4) then (if x5.length < 17592186044416 then (skiarearef16_Faults.l0 k x1 (x5 ++ [(rd_T48 x450000 x6).f0]) (wrap64 (x6 + 1)) x450000 x450001) else (none)) else (skiarearef16_Faults.l0 k x1 x5 (wrap64 (x6 + 1)) x450000 x450001)) else (if ((rd_T48 x450000 x6).f2 = true) then (skiarearef16_Faults.l0 k x1 x5 (wrap64 (x6 + 1)) x450000 x450001) else (if x1 ≥ ((rd_T48 x450000 x6).f4) then (if x5.length < 17592186044416 then (skiarearef16_Faults.l0 k x1 (x5 ++ [(rd_T48 x450000 x6).f0]) (wrap64 (x6 + 1)) x450000 x450001) else (none)) else (skiarearef16_Faults.l0 k x1 x5 (wrap64 (x6 + 1)) x450000 x450001)))) else (none)) else (some x5)
def skiarearef16_Faults.f (k : Nat) (l0_0 : List (S48)) (a0_1 : Int) (a1 : Int) : Option (List Int) := skiarearef16_Faults.l0 k a1 ([] : List Int) 0 l0_0 a0_1
theorem skiarearef16_Faults.mono_l : ∀ k, (∀ y0 y1 y2 y3 y4, LeO (skiarearef16_Faults.l0 k y0 y1 y2 y3 y4) (skiarearef16_Faults.l0 (k + 1) y0 y1 y2 y3 y4))
 | 0 => fun _ _ _ _ _ r h => by simp [skiarearef16_Faults.l0] at h
 | k + 1 => by
  have ih0 := skiarearef16_Faults.mono_l k
  ·intro y0 y1 y2 y3 y4
   unfold skiarearef16_Faults.l0
   repeat' first
   | (with_reducible exact ih0 _ _ _ _ _)
   | (with_reducible exact LeO.refl _)
   | (with_reducible exact LeO.none _)
   | (with_reducible refine LeO.ite ?_ ?_)
   | (with_reducible refine LeO.bind ?_ (fun _ => ?_))
   | exact ih0 _ _ _ _ _
   | exact LeO.none _
   | refine LeO.ite ?_ ?_
   | refine LeO.bind ?_ (fun _ => ?_)
theorem skiarearef16_Faults.mono : ∀ a0 a1 a2 k, LeO (skiarearef16_Faults.f k a0 a1 a2) (skiarearef16_Faults.f (k + 1) a0 a1 a2) := by
 intro a0 a1 a2 k
 have ih0 := skiarearef16_Faults.mono_l k
 unfold skiarearef16_Faults.f
 repeat' first
   | (with_reducible exact ih0 _ _ _ _ _)
   | (with_reducible exact LeO.refl _)
   | (with_reducible exact LeO.none _)
   | (with_reducible refine LeO.ite ?_ ?_)
   | (with_reducible refine LeO.bind ?_ (fun _ => ?_))
   | exact ih0 _ _ _ _ _
   | exact LeO.none _
   | refine LeO.ite ?_ ?_
   | refine LeO.bind ?_ (fun _ => ?_)
set_option maxHeartbeats 8000000 in
set_option maxRecDepth 100000 in
theorem skiarearef16_Faults.calls (k : Nat) (A0_0 : Option Addr) (c0_0 : Nat) (l0_0 : List (S48)) (a0_1 : Int) (a1 : Int) (r : List Int) (w : World) (hr0_0 : Kd.C k48 w A0_0 l0_0.length l0_0) (hc0_0 : l0_0.length ≤ c0_0) (h : skiarearef16_Faults.f k l0_0 a0_1 a1 = some r) :
  Calls Try.prog 29 #[.agg #[.slice A0_0 l0_0.length c0_0, .int .i64 a0_1], .int .i64 a1] w fun e w' => ∃ v0_ : Value, e = .returned (v0_) ∧ Kd.R (Kd.int .i64) 3 w' w.heap.size (fun _ => True) v0_ r ∧ Below w.heap.size w w' := by
 have hu24 := Try.underlying24
 have hu48 := Try.underlying48
 have HR0_0 := Aside0.mk hr0_0
 have HC0_0 := Aside0.mk hc0_0
 clear hr0_0 hc0_0
 have HB := Aside0.mk (Below.refl w.heap.size w)
 have H : (skiarearef16_Faults.l0 k a1 ([] : List Int) 0 l0_0 a0_1) = some r := h
 clear h
 have H' := Aside0.mk H
 clear H
 go_enter Try.func29, Try.ntmps29
 go_wp2_with (first | ((with_reducible refine gate_dst (N := 2) rfl ?_); refine box_event ?hg (N := 2) ?hd (cs := #[.slice A0_0 l0_0.length c0_0, .int .i64 a0_1]) (t := 24) ?hr ?_; (case hd => rfl); (case hg => rfl); (case hr => first | (go_simp; done) | (go_simp; rfl)); intro gb449 hg w3 hbox hb; have n0_ := Aside0.mk (below_step (by repeat (first | (with_reducible first | exact HB.out | apply below_alloc | apply pw_below_drewN | apply below_drew1) | exact HB.out)) hb); have n1_ := Aside0.mk (hbox); have n2_ := Aside0.mk ((by rw [hg]; exact (below_size (by repeat (first | (with_reducible first | exact HB.out | apply below_alloc | apply pw_below_drewN | apply below_drew1) | exact HB.out))) : w.heap.size ≤ gb449)); have n3_ := n2_; clear HB; have HB := n0_; have BK449 := n1_; have GW449 := n2_; have GE449 := n3_; clear n0_ n1_ n2_ n3_; clear hb hbox hg))
 go_loopg [5, 6] k (fun kq v5 v6 w' => ∃ (x5_1 : List Int) (x6_1 : Int), v6 = .int .i64 x6_1 ∧ Aside0 (skiarearef16_Faults.l0 kq a1 x5_1 x6_1 l0_0 a0_1 = some r) ∧ Aside0 (kq ≤ k) ∧ Aside0 (Kd.R (Kd.int .i64) 3 w' w.heap.size (fun _ => True) v5 x5_1) ∧ Aside0 (w'.heap[gb449]? = some (.cells #[(.slice A0_0 l0_0.length c0_0), .int .i64 a0_1] 24 (0, 0))) ∧ Aside0 (Below w.heap.size w w'))
 case atStart => exact ⟨(([] : List Int)), (0), (by first | rfl | (simp; done) | (simp [*]; done)), H', ⟨Nat.le_refl _⟩, ⟨by first | exact Kd.R_nil _ _ _ _ _ | exact Kd.N_nil _ _ _ _ _ | exact Kd.V_nil _ _ _ _ _ | exact Kd.Q_nil _ _ _ _ _ | exact Kd.S_nil _ _ _ _ _⟩, ⟨by (with_reducible repeat (first | refine blk_drewN ?_ _ | refine blk_drew ?_ | refine blk_alloc ?_ _)); exact BK449.out⟩, ⟨by repeat (first | (with_reducible first | exact HB.out | apply below_alloc | apply pw_below_drewN | apply below_drew1 | refine below_set ?_ GE449.out) | exact HB.out)⟩⟩
 case round =>
  clear H'
  try clear c2
  try clear p2
  obtain ⟨x5_1, x6_1, rfl, HA, HK1, HO_5, BK449, HB⟩ := hrel
  cases gk with
  | zero => exact absurd HA.out (by simp [skiarearef16_Faults.l0])
  | succ k1 =>
   have H := HA.out; clear HA
   simp only [skiarearef16_Faults.l0] at H
   by_cases c4 : x6_1 < (l0_0.length : Int)
   ·rw [if_pos c4] at H
    have c4b0 : decide (x6_1 < (l0_0.length : Int)) = true := decide_eq_true c4; clear c4
    by_cases c5 : 0 ≤ x6_1
    ·rw [if_pos c5] at H
     have c5b0 : decide (0 ≤ x6_1) = true := decide_eq_true c5; clear c5
     obtain ⟨bq6, hbq6⟩ : ∃ b_ : Bool, b_ = ((rd_T48 l0_0 x6_1).f3) := ⟨_, rfl⟩
     replace H : (if bq6 = true then (if a1 ≥ ((rd_T48 l0_0 x6_1).f4) then (if x5_1.length < 17592186044416 then (skiarearef16_Faults.l0 k1 a1 (x5_1 ++ [(rd_T48 l0_0 x6_1).f0]) (wrap64 (x6_1 + 1)) l0_0 a0_1) else (none)) else (skiarearef16_Faults.l0 k1 a1 x5_1 (wrap64 (x6_1 + 1)) l0_0 a0_1)) else (if ((rd_T48 l0_0 x6_1).f2 = true) then (skiarearef16_Faults.l0 k1 a1 x5_1 (wrap64 (x6_1 + 1)) l0_0 a0_1) else (if a1 ≥ ((rd_T48 l0_0 x6_1).f4) then (if x5_1.length < 17592186044416 then (skiarearef16_Faults.l0 k1 a1 (x5_1 ++ [(rd_T48 l0_0 x6_1).f0]) (wrap64 (x6_1 + 1)) l0_0 a0_1) else (none)) else (skiarearef16_Faults.l0 k1 a1 x5_1 (wrap64 (x6_1 + 1)) l0_0 a0_1)))) = some r := by rw [← hbq6] at H; exact H
     have Nbq6 := Aside0.mk hbq6; clear hbq6
     by_cases c7 : bq6 = true
     ·subst c7
      have H1 : (if a1 ≥ ((rd_T48 l0_0 x6_1).f4) then (if x5_1.length < 17592186044416 then (skiarearef16_Faults.l0 k1 a1 (x5_1 ++ [(rd_T48 l0_0 x6_1).f0]) (wrap64 (x6_1 + 1)) l0_0 a0_1) else (none)) else (skiarearef16_Faults.l0 k1 a1 x5_1 (wrap64 (x6_1 + 1)) l0_0 a0_1)) = some r := by rw [if_pos rfl] at H; exact H
      clear H; have H := H1; clear H1
      by_cases c8 : a1 ≥ ((rd_T48 l0_0 x6_1).f4)
      ·rw [if_pos c8] at H
       have c8b0 : decide (((rd_T48 l0_0 x6_1).f4) ≤ a1) = true := decide_eq_true c8; clear c8
       by_cases c9 : x5_1.length < 17592186044416
       ·rw [if_pos c9] at H
        have LMc9 := Aside0.mk c9; clear c9
        obtain ⟨y452, hy452⟩ : ∃ y_ : List Int, y_ = (x5_1 ++ [(rd_T48 l0_0 x6_1).f0]) := ⟨_, rfl⟩
        replace H : (skiarearef16_Faults.l0 k1 a1 y452 (wrap64 (x6_1 + 1)) l0_0 a0_1) = some r := by first | (rw [hy452]; with_reducible exact H) | (have H2_ := (Option.bind_some _ _).symm.trans H; rw [hy452]; with_reducible exact H2_) | (have H2_ := (Option.bind_some _ _).symm.trans H; with_reducible exact H2_) | with_reducible exact H | (rw [hy452]; exact H) | exact H
        have Ny452 := Aside0.mk hy452; clear hy452; have H' := Aside0.mk H; clear H; have hcz10_0 : wr.cell? ⟨gb449, 0, none⟩ = some (.slice A0_0 l0_0.length c0_0) := (blk_cell BK449.out 0).trans rfl; have hcz10_1 : wr.cell? ⟨gb449, 1, none⟩ = some (.int .i64 a0_1) := (blk_cell BK449.out 1).trans rfl; have hfz10_0 := blk_frozen BK449.out 0; have hfz10_1 := blk_frozen BK449.out 1; have p450 : 0 ≤ (x6_1 : Int) := of_decide_eq_true (by first | (with_reducible assumption) | assumption)
        have q450 : x6_1 < (l0_0.length : Int) := of_decide_eq_true (by first | (with_reducible assumption) | assumption)
        obtain ⟨ad450, e450, hx450_0, hx450_1, hx450_2, hx450_3, hx450_4⟩ := at_T48 HR0_0.out x6_1 p450 q450
        (try rw [← Nbq6.out] at hx450_1)
        (try rw [← Nbq6.out] at hx450_2)
        (try rw [← Nbq6.out] at hx450_3)
        cases e450
        replace hx450_0 := (HB.out.cell (World.block_lt_of_cell? w _ hx450_0)).trans hx450_0
        replace hx450_1 := (HB.out.cell (World.block_lt_of_cell? w _ hx450_1)).trans hx450_1
        replace hx450_2 := (HB.out.cell (World.block_lt_of_cell? w _ hx450_2)).trans hx450_2
        replace hx450_3 := (HB.out.cell (World.block_lt_of_cell? w _ hx450_3)).trans hx450_3
        replace hx450_4 := (HB.out.cell (World.block_lt_of_cell? w _ hx450_4)).trans hx450_4
        replace p450 := eq_true p450
        replace q450 := eq_true q450
        go_wp2_with (first | ((with_reducible refine gate_dst (N := 7) rfl ?_); refine box_event ?hg (N := 7) ?hd (cs := #[.int .i64 0, .bool false, .bool false, .bool false, .int .i64 0]) (t := 48) ?hr ?_; (case hd => rfl); (case hg => rfl); (case hr => first | (go_simp; done) | (go_simp; rfl)); intro gb451 hg w11 hbox hb; have n0_ := Aside0.mk (rb_ HO_5.out hb); have n1_ := Aside0.mk (bb_ BK449.out hb); have n2_ := Aside0.mk (below_step (by repeat (first | (with_reducible first | exact HB.out | apply below_alloc | apply pw_below_drewN | apply below_drew1 | refine below_set ?_ GE449.out) | exact HB.out)) hb); have n3_ := Aside0.mk (hbox); have n4_ := Aside0.mk ((by rw [hg]; exact (below_size (by repeat (first | (with_reducible first | exact HB.out | apply below_alloc | apply pw_below_drewN | apply below_drew1 | refine below_set ?_ GE449.out) | exact HB.out))) : w.heap.size ≤ gb451)); have n5_ := n4_; have n6_ := Aside0.mk (nl_ hg BK449.out); have n7_ := Aside0.mk (ng_ hg BK449.out); clear HO_5; clear BK449; clear HB; have HO_5 := n0_; have BK449 := n1_; have HB := n2_; have BK451 := n3_; have GW451 := n4_; have GE451 := n5_; have NB449_451 := n6_; have NB451_449 := n7_; clear n0_ n1_ n2_ n3_ n4_ n5_ n6_ n7_; clear hb hbox hg; have hnb12 := NB451_449.out; have hnc12 := NB449_451.out; have hcz13_0 : w11.cell? ⟨gb451, 0, none⟩ = some (.int .i64 0) := (blk_cell BK451.out 0).trans rfl; have hcz13_1 : w11.cell? ⟨gb451, 1, none⟩ = some (.bool false) := (blk_cell BK451.out 1).trans rfl; have hcz13_2 : w11.cell? ⟨gb451, 2, none⟩ = some (.bool false) := (blk_cell BK451.out 2).trans rfl; have hcz13_3 : w11.cell? ⟨gb451, 3, none⟩ = some (.bool false) := (blk_cell BK451.out 3).trans rfl; have hcz13_4 : w11.cell? ⟨gb451, 4, none⟩ = some (.int .i64 0) := (blk_cell BK451.out 4).trans rfl; have hfz13_0 := blk_frozen BK451.out 0; have hfz13_1 := blk_frozen BK451.out 1; have hfz13_2 := blk_frozen BK451.out 2; have hfz13_3 := blk_frozen BK451.out 3; have hfz13_4 := blk_frozen BK451.out 4) | ((with_reducible refine gate_builtin (b := .append) (xs := #[.tmp 33, .tmp 36]) rfl ?_); at_builtin; refine Kd.R_append (Kd.int .i64) (w0 := w) w.heap.size rfl (.tmp 33) (.tmp 36) 39 3 (.int .i64 0) 8 rfl Try.underlying39 info3 rfl (by decide) (by omega) u5 x5_1 ((rd_T48 l0_0 x6_1).f0) [.int .i64 ((rd_T48 l0_0 x6_1).f0)] (fun _ => True) (fun _ => False) rfl (by first | (go_simp; done) | (go_simp; rfl)) ?aP (fun _ hk => hk.elim) ?aF ?aO ?aB ?aS ?aL ?_; (case aP => exact rfl); (case aB => exact (by repeat (first | (with_reducible first | exact HB.out | apply below_alloc | apply pw_below_drewN | apply below_drew1 | refine below_set ?_ GE449.out | refine below_set ?_ GE451.out) | exact HB.out))); (case aF => exact (fun _ _ => trivial)); (case aO => exact (by (with_reducible repeat (first | apply Kd.R_alloc | apply Kd.R_drewN | apply Kd.R_drew)); exact Kd.R_mono (Kd.R_far (p := ⟨gb451, 4, none⟩) (Kd.R_far (p := ⟨gb451, 3, none⟩) (Kd.R_far (p := ⟨gb451, 2, none⟩) (Kd.R_far (p := ⟨gb451, 1, none⟩) (Kd.R_far (p := ⟨gb451, 0, none⟩) (Kd.R_types HO_5.out BK451.out (by decide)) (fun _ hk => hk.2) (.int .i64 ((rd_T48 l0_0 x6_1).f0))) (fun _ hk => hk.2) (.bool ((rd_T48 l0_0 x6_1).f1))) (fun _ hk => hk.2) (.bool ((rd_T48 l0_0 x6_1).f2))) (fun _ hk => hk.2) (.bool true)) (fun _ hk => hk.2) (.int .i64 ((rd_T48 l0_0 x6_1).f4))) (fun _ hk => trivial))); (case aS => exact (below_size (by repeat (first | (with_reducible first | exact HB.out | apply below_alloc | apply pw_below_drewN | apply below_drew1 | refine below_set ?_ GE449.out | refine below_set ?_ GE451.out) | exact HB.out)))); (case aL => have := LMc9.out; omega); intro v453 w14 ho hb hg hat; rw [← Ny452.out] at ho; have n0_ := Aside0.mk (blk_grown (g := gb449) (o := .cells #[.slice (some ad450) l0_0.length c0_0, .int .i64 a0_1] 24 (0, 0)) (by (with_reducible repeat (first | refine blk_drewN ?_ _ | refine blk_drew ?_ | refine blk_alloc ?_ _)); refine blk_far ?_ NB449_451.out _; (with_reducible repeat (first | refine blk_drewN ?_ _ | refine blk_drew ?_ | refine blk_alloc ?_ _)); refine blk_far ?_ NB449_451.out _; (with_reducible repeat (first | refine blk_drewN ?_ _ | refine blk_drew ?_ | refine blk_alloc ?_ _)); refine blk_far ?_ NB449_451.out _; (with_reducible repeat (first | refine blk_drewN ?_ _ | refine blk_drew ?_ | refine blk_alloc ?_ _)); refine blk_far ?_ NB449_451.out _; (with_reducible repeat (first | refine blk_drewN ?_ _ | refine blk_drew ?_ | refine blk_alloc ?_ _)); refine blk_far ?_ NB449_451.out _; (with_reducible repeat (first | refine blk_drewN ?_ _ | refine blk_drew ?_ | refine blk_alloc ?_ _)); exact BK449.out) hg (Kd.R_ne HO_5.out BK449.out (by decide))); have n1_ := Aside0.mk (blk_grown (g := gb451) (o := .cells #[.int .i64 ((rd_T48 l0_0 x6_1).f0), .bool ((rd_T48 l0_0 x6_1).f1), .bool ((rd_T48 l0_0 x6_1).f2), .bool true, .int .i64 ((rd_T48 l0_0 x6_1).f4)] 48 (0, 0)) (by (with_reducible repeat (first | refine blk_drewN ?_ _ | refine blk_drew ?_ | refine blk_alloc ?_ _)); refine blk_put (cs := #[.int .i64 ((rd_T48 l0_0 x6_1).f0), .bool ((rd_T48 l0_0 x6_1).f1), .bool ((rd_T48 l0_0 x6_1).f2), .bool true, .int .i64 0]) ?_ 4 _ rfl; (with_reducible repeat (first | refine blk_drewN ?_ _ | refine blk_drew ?_ | refine blk_alloc ?_ _)); refine blk_put (cs := #[.int .i64 ((rd_T48 l0_0 x6_1).f0), .bool ((rd_T48 l0_0 x6_1).f1), .bool ((rd_T48 l0_0 x6_1).f2), .bool false, .int .i64 0]) ?_ 3 _ rfl; (with_reducible repeat (first | refine blk_drewN ?_ _ | refine blk_drew ?_ | refine blk_alloc ?_ _)); refine blk_put (cs := #[.int .i64 ((rd_T48 l0_0 x6_1).f0), .bool ((rd_T48 l0_0 x6_1).f1), .bool false, .bool false, .int .i64 0]) ?_ 2 _ rfl; (with_reducible repeat (first | refine blk_drewN ?_ _ | refine blk_drew ?_ | refine blk_alloc ?_ _)); refine blk_put (cs := #[.int .i64 ((rd_T48 l0_0 x6_1).f0), .bool false, .bool false, .bool false, .int .i64 0]) ?_ 1 _ rfl; (with_reducible repeat (first | refine blk_drewN ?_ _ | refine blk_drew ?_ | refine blk_alloc ?_ _)); refine blk_put (cs := #[.int .i64 0, .bool false, .bool false, .bool false, .int .i64 0]) ?_ 0 _ rfl; (with_reducible repeat (first | refine blk_drewN ?_ _ | refine blk_drew ?_ | refine blk_alloc ?_ _)); exact BK451.out) hg (Kd.R_ne HO_5.out BK451.out (by decide))); have n2_ := Aside0.mk (hb); have n3_ := Aside0.mk (ho); clear BK449; clear BK451; clear HB; clear HO_5; have BK449 := n0_; have BK451 := n1_; have HB := n2_; have HO454 := n3_; clear n0_ n1_ n2_ n3_; clear ho hb hg hat))
        go_roundg k1
        case measure => have := HK1.out; omega
        case rel => exact ⟨(y452), (wrap64 (x6_1 + 1)), (by first | rfl | (simp; done) | (simp [*]; done)), H', ⟨by have := HK1.out; omega⟩, ⟨by (with_reducible repeat (first | apply Kd.R_alloc | apply Kd.R_drewN | apply Kd.R_drew)); exact HO454.out⟩, ⟨by (with_reducible repeat (first | refine blk_drewN ?_ _ | refine blk_drew ?_ | refine blk_alloc ?_ _)); exact BK449.out⟩, ⟨by repeat (first | (with_reducible first | exact HB.out | apply below_alloc | apply pw_below_drewN | apply below_drew1 | refine below_set ?_ GE449.out | refine below_set ?_ GE451.out) | exact HB.out)⟩⟩
       ·rw [if_neg c9] at H
        exact absurd H (by simp)
      ·rw [if_neg c8] at H
       have c8b0 : decide (((rd_T48 l0_0 x6_1).f4) ≤ a1) = false := decide_eq_false c8; clear c8; have H' := Aside0.mk H; clear H; have hcz15_0 : wr.cell? ⟨gb449, 0, none⟩ = some (.slice A0_0 l0_0.length c0_0) := (blk_cell BK449.out 0).trans rfl; have hcz15_1 : wr.cell? ⟨gb449, 1, none⟩ = some (.int .i64 a0_1) := (blk_cell BK449.out 1).trans rfl; have hfz15_0 := blk_frozen BK449.out 0; have hfz15_1 := blk_frozen BK449.out 1; have p450 : 0 ≤ (x6_1 : Int) := of_decide_eq_true (by first | (with_reducible assumption) | assumption)
       have q450 : x6_1 < (l0_0.length : Int) := of_decide_eq_true (by first | (with_reducible assumption) | assumption)
       obtain ⟨ad450, e450, hx450_0, hx450_1, hx450_2, hx450_3, hx450_4⟩ := at_T48 HR0_0.out x6_1 p450 q450
       (try rw [← Nbq6.out] at hx450_1)
       (try rw [← Nbq6.out] at hx450_2)
       (try rw [← Nbq6.out] at hx450_3)
       cases e450
       replace hx450_0 := (HB.out.cell (World.block_lt_of_cell? w _ hx450_0)).trans hx450_0
       replace hx450_1 := (HB.out.cell (World.block_lt_of_cell? w _ hx450_1)).trans hx450_1
       replace hx450_2 := (HB.out.cell (World.block_lt_of_cell? w _ hx450_2)).trans hx450_2
       replace hx450_3 := (HB.out.cell (World.block_lt_of_cell? w _ hx450_3)).trans hx450_3
       replace hx450_4 := (HB.out.cell (World.block_lt_of_cell? w _ hx450_4)).trans hx450_4
       replace p450 := eq_true p450
       replace q450 := eq_true q450
       go_wp2_with (first | ((with_reducible refine gate_dst (N := 7) rfl ?_); refine box_event ?hg (N := 7) ?hd (cs := #[.int .i64 0, .bool false, .bool false, .bool false, .int .i64 0]) (t := 48) ?hr ?_; (case hd => rfl); (case hg => rfl); (case hr => first | (go_simp; done) | (go_simp; rfl)); intro gb451 hg w16 hbox hb; have n0_ := Aside0.mk (rb_ HO_5.out hb); have n1_ := Aside0.mk (bb_ BK449.out hb); have n2_ := Aside0.mk (below_step (by repeat (first | (with_reducible first | exact HB.out | apply below_alloc | apply pw_below_drewN | apply below_drew1 | refine below_set ?_ GE449.out) | exact HB.out)) hb); have n3_ := Aside0.mk (hbox); have n4_ := Aside0.mk ((by rw [hg]; exact (below_size (by repeat (first | (with_reducible first | exact HB.out | apply below_alloc | apply pw_below_drewN | apply below_drew1 | refine below_set ?_ GE449.out) | exact HB.out))) : w.heap.size ≤ gb451)); have n5_ := n4_; have n6_ := Aside0.mk (nl_ hg BK449.out); have n7_ := Aside0.mk (ng_ hg BK449.out); clear HO_5; clear BK449; clear HB; have HO_5 := n0_; have BK449 := n1_; have HB := n2_; have BK451 := n3_; have GW451 := n4_; have GE451 := n5_; have NB449_451 := n6_; have NB451_449 := n7_; clear n0_ n1_ n2_ n3_ n4_ n5_ n6_ n7_; clear hb hbox hg; have hnb17 := NB451_449.out; have hnc17 := NB449_451.out; have hcz18_0 : w16.cell? ⟨gb451, 0, none⟩ = some (.int .i64 0) := (blk_cell BK451.out 0).trans rfl; have hcz18_1 : w16.cell? ⟨gb451, 1, none⟩ = some (.bool false) := (blk_cell BK451.out 1).trans rfl; have hcz18_2 : w16.cell? ⟨gb451, 2, none⟩ = some (.bool false) := (blk_cell BK451.out 2).trans rfl; have hcz18_3 : w16.cell? ⟨gb451, 3, none⟩ = some (.bool false) := (blk_cell BK451.out 3).trans rfl; have hcz18_4 : w16.cell? ⟨gb451, 4, none⟩ = some (.int .i64 0) := (blk_cell BK451.out 4).trans rfl; have hfz18_0 := blk_frozen BK451.out 0; have hfz18_1 := blk_frozen BK451.out 1; have hfz18_2 := blk_frozen BK451.out 2; have hfz18_3 := blk_frozen BK451.out 3; have hfz18_4 := blk_frozen BK451.out 4))
       go_roundg k1
       case measure => have := HK1.out; omega
       case rel => exact ⟨(x5_1), (wrap64 (x6_1 + 1)), (by first | rfl | (simp; done) | (simp [*]; done)), H', ⟨by have := HK1.out; omega⟩, ⟨by (with_reducible repeat (first | apply Kd.R_alloc | apply Kd.R_drewN | apply Kd.R_drew)); exact Kd.R_mono (Kd.R_far (p := ⟨gb451, 4, none⟩) (Kd.R_far (p := ⟨gb451, 3, none⟩) (Kd.R_far (p := ⟨gb451, 2, none⟩) (Kd.R_far (p := ⟨gb451, 1, none⟩) (Kd.R_far (p := ⟨gb451, 0, none⟩) (Kd.R_types HO_5.out BK451.out (by decide)) (fun _ hk => hk.2) (.int .i64 ((rd_T48 l0_0 x6_1).f0))) (fun _ hk => hk.2) (.bool ((rd_T48 l0_0 x6_1).f1))) (fun _ hk => hk.2) (.bool ((rd_T48 l0_0 x6_1).f2))) (fun _ hk => hk.2) (.bool true)) (fun _ hk => hk.2) (.int .i64 ((rd_T48 l0_0 x6_1).f4))) (fun _ hk => trivial)⟩, ⟨by (with_reducible repeat (first | refine blk_drewN ?_ _ | refine blk_drew ?_ | refine blk_alloc ?_ _)); refine blk_far ?_ NB449_451.out _; (with_reducible repeat (first | refine blk_drewN ?_ _ | refine blk_drew ?_ | refine blk_alloc ?_ _)); refine blk_far ?_ NB449_451.out _; (with_reducible repeat (first | refine blk_drewN ?_ _ | refine blk_drew ?_ | refine blk_alloc ?_ _)); refine blk_far ?_ NB449_451.out _; (with_reducible repeat (first | refine blk_drewN ?_ _ | refine blk_drew ?_ | refine blk_alloc ?_ _)); refine blk_far ?_ NB449_451.out _; (with_reducible repeat (first | refine blk_drewN ?_ _ | refine blk_drew ?_ | refine blk_alloc ?_ _)); refine blk_far ?_ NB449_451.out _; (with_reducible repeat (first | refine blk_drewN ?_ _ | refine blk_drew ?_ | refine blk_alloc ?_ _)); exact BK449.out⟩, ⟨by repeat (first | (with_reducible first | exact HB.out | apply below_alloc | apply pw_below_drewN | apply below_drew1 | refine below_set ?_ GE449.out | refine below_set ?_ GE451.out) | exact HB.out)⟩⟩
     ·replace c7 := Bool.eq_false_iff.mpr c7
      subst c7; have H1 : (if ((rd_T48 l0_0 x6_1).f2 = true) then (skiarearef16_Faults.l0 k1 a1 x5_1 (wrap64 (x6_1 + 1)) l0_0 a0_1) else (if a1 ≥ ((rd_T48 l0_0 x6_1).f4) then (if x5_1.length < 17592186044416 then (skiarearef16_Faults.l0 k1 a1 (x5_1 ++ [(rd_T48 l0_0 x6_1).f0]) (wrap64 (x6_1 + 1)) l0_0 a0_1) else (none)) else (skiarearef16_Faults.l0 k1 a1 x5_1 (wrap64 (x6_1 + 1)) l0_0 a0_1))) = some r := by rw [if_neg (show ¬ (false = true) by decide)] at H; exact H
      clear H; have H := H1; clear H1
      obtain ⟨bq19, hbq19⟩ : ∃ b_ : Bool, b_ = ((rd_T48 l0_0 x6_1).f2) := ⟨_, rfl⟩
      replace H : (if (bq19 = true) then (skiarearef16_Faults.l0 k1 a1 x5_1 (wrap64 (x6_1 + 1)) l0_0 a0_1) else (if a1 ≥ ((rd_T48 l0_0 x6_1).f4) then (if x5_1.length < 17592186044416 then (skiarearef16_Faults.l0 k1 a1 (x5_1 ++ [(rd_T48 l0_0 x6_1).f0]) (wrap64 (x6_1 + 1)) l0_0 a0_1) else (none)) else (skiarearef16_Faults.l0 k1 a1 x5_1 (wrap64 (x6_1 + 1)) l0_0 a0_1))) = some r := by rw [← hbq19] at H; exact H
      have Nbq19 := Aside0.mk hbq19; clear hbq19
      by_cases c20 : (bq19 = true)
      ·subst c20
       have H1 : (skiarearef16_Faults.l0 k1 a1 x5_1 (wrap64 (x6_1 + 1)) l0_0 a0_1) = some r := by rw [if_pos rfl] at H; exact H
       clear H; have H := H1; clear H1; have H' := Aside0.mk H; clear H; have hcz21_0 : wr.cell? ⟨gb449, 0, none⟩ = some (.slice A0_0 l0_0.length c0_0) := (blk_cell BK449.out 0).trans rfl; have hcz21_1 : wr.cell? ⟨gb449, 1, none⟩ = some (.int .i64 a0_1) := (blk_cell BK449.out 1).trans rfl; have hfz21_0 := blk_frozen BK449.out 0; have hfz21_1 := blk_frozen BK449.out 1; have p450 : 0 ≤ (x6_1 : Int) := of_decide_eq_true (by first | (with_reducible assumption) | assumption)
       have q450 : x6_1 < (l0_0.length : Int) := of_decide_eq_true (by first | (with_reducible assumption) | assumption)
       obtain ⟨ad450, e450, hx450_0, hx450_1, hx450_2, hx450_3, hx450_4⟩ := at_T48 HR0_0.out x6_1 p450 q450
       (try rw [← Nbq6.out] at hx450_1)
       (try rw [← Nbq19.out] at hx450_1)
       (try rw [← Nbq6.out] at hx450_2)
       (try rw [← Nbq19.out] at hx450_2)
       (try rw [← Nbq6.out] at hx450_3)
       (try rw [← Nbq19.out] at hx450_3)
       cases e450
       replace hx450_0 := (HB.out.cell (World.block_lt_of_cell? w _ hx450_0)).trans hx450_0
       replace hx450_1 := (HB.out.cell (World.block_lt_of_cell? w _ hx450_1)).trans hx450_1
       replace hx450_2 := (HB.out.cell (World.block_lt_of_cell? w _ hx450_2)).trans hx450_2
       replace hx450_3 := (HB.out.cell (World.block_lt_of_cell? w _ hx450_3)).trans hx450_3
       replace hx450_4 := (HB.out.cell (World.block_lt_of_cell? w _ hx450_4)).trans hx450_4
       replace p450 := eq_true p450
       replace q450 := eq_true q450
       go_wp2_with (first | ((with_reducible refine gate_dst (N := 7) rfl ?_); refine box_event ?hg (N := 7) ?hd (cs := #[.int .i64 0, .bool false, .bool false, .bool false, .int .i64 0]) (t := 48) ?hr ?_; (case hd => rfl); (case hg => rfl); (case hr => first | (go_simp; done) | (go_simp; rfl)); intro gb451 hg w22 hbox hb; have n0_ := Aside0.mk (rb_ HO_5.out hb); have n1_ := Aside0.mk (bb_ BK449.out hb); have n2_ := Aside0.mk (below_step (by repeat (first | (with_reducible first | exact HB.out | apply below_alloc | apply pw_below_drewN | apply below_drew1 | refine below_set ?_ GE449.out) | exact HB.out)) hb); have n3_ := Aside0.mk (hbox); have n4_ := Aside0.mk ((by rw [hg]; exact (below_size (by repeat (first | (with_reducible first | exact HB.out | apply below_alloc | apply pw_below_drewN | apply below_drew1 | refine below_set ?_ GE449.out) | exact HB.out))) : w.heap.size ≤ gb451)); have n5_ := n4_; have n6_ := Aside0.mk (nl_ hg BK449.out); have n7_ := Aside0.mk (ng_ hg BK449.out); clear HO_5; clear BK449; clear HB; have HO_5 := n0_; have BK449 := n1_; have HB := n2_; have BK451 := n3_; have GW451 := n4_; have GE451 := n5_; have NB449_451 := n6_; have NB451_449 := n7_; clear n0_ n1_ n2_ n3_ n4_ n5_ n6_ n7_; clear hb hbox hg; have hnb23 := NB451_449.out; have hnc23 := NB449_451.out; have hcz24_0 : w22.cell? ⟨gb451, 0, none⟩ = some (.int .i64 0) := (blk_cell BK451.out 0).trans rfl; have hcz24_1 : w22.cell? ⟨gb451, 1, none⟩ = some (.bool false) := (blk_cell BK451.out 1).trans rfl; have hcz24_2 : w22.cell? ⟨gb451, 2, none⟩ = some (.bool false) := (blk_cell BK451.out 2).trans rfl; have hcz24_3 : w22.cell? ⟨gb451, 3, none⟩ = some (.bool false) := (blk_cell BK451.out 3).trans rfl; have hcz24_4 : w22.cell? ⟨gb451, 4, none⟩ = some (.int .i64 0) := (blk_cell BK451.out 4).trans rfl; have hfz24_0 := blk_frozen BK451.out 0; have hfz24_1 := blk_frozen BK451.out 1; have hfz24_2 := blk_frozen BK451.out 2; have hfz24_3 := blk_frozen BK451.out 3; have hfz24_4 := blk_frozen BK451.out 4))
       go_roundg k1
       case measure => have := HK1.out; omega
       case rel => exact ⟨(x5_1), (wrap64 (x6_1 + 1)), (by first | rfl | (simp; done) | (simp [*]; done)), H', ⟨by have := HK1.out; omega⟩, ⟨by (with_reducible repeat (first | apply Kd.R_alloc | apply Kd.R_drewN | apply Kd.R_drew)); exact Kd.R_mono (Kd.R_far (p := ⟨gb451, 4, none⟩) (Kd.R_far (p := ⟨gb451, 3, none⟩) (Kd.R_far (p := ⟨gb451, 2, none⟩) (Kd.R_far (p := ⟨gb451, 1, none⟩) (Kd.R_far (p := ⟨gb451, 0, none⟩) (Kd.R_types HO_5.out BK451.out (by decide)) (fun _ hk => hk.2) (.int .i64 ((rd_T48 l0_0 x6_1).f0))) (fun _ hk => hk.2) (.bool ((rd_T48 l0_0 x6_1).f1))) (fun _ hk => hk.2) (.bool true)) (fun _ hk => hk.2) (.bool false)) (fun _ hk => hk.2) (.int .i64 ((rd_T48 l0_0 x6_1).f4))) (fun _ hk => trivial)⟩, ⟨by (with_reducible repeat (first | refine blk_drewN ?_ _ | refine blk_drew ?_ | refine blk_alloc ?_ _)); refine blk_far ?_ NB449_451.out _; (with_reducible repeat (first | refine blk_drewN ?_ _ | refine blk_drew ?_ | refine blk_alloc ?_ _)); refine blk_far ?_ NB449_451.out _; (with_reducible repeat (first | refine blk_drewN ?_ _ | refine blk_drew ?_ | refine blk_alloc ?_ _)); refine blk_far ?_ NB449_451.out _; (with_reducible repeat (first | refine blk_drewN ?_ _ | refine blk_drew ?_ | refine blk_alloc ?_ _)); refine blk_far ?_ NB449_451.out _; (with_reducible repeat (first | refine blk_drewN ?_ _ | refine blk_drew ?_ | refine blk_alloc ?_ _)); refine blk_far ?_ NB449_451.out _; (with_reducible repeat (first | refine blk_drewN ?_ _ | refine blk_drew ?_ | refine blk_alloc ?_ _)); exact BK449.out⟩, ⟨by repeat (first | (with_reducible first | exact HB.out | apply below_alloc | apply pw_below_drewN | apply below_drew1 | refine below_set ?_ GE449.out | refine below_set ?_ GE451.out) | exact HB.out)⟩⟩
      ·replace c20 := Bool.eq_false_iff.mpr c20
       subst c20; have H1 : (if a1 ≥ ((rd_T48 l0_0 x6_1).f4) then (if x5_1.length < 17592186044416 then (skiarearef16_Faults.l0 k1 a1 (x5_1 ++ [(rd_T48 l0_0 x6_1).f0]) (wrap64 (x6_1 + 1)) l0_0 a0_1) else (none)) else (skiarearef16_Faults.l0 k1 a1 x5_1 (wrap64 (x6_1 + 1)) l0_0 a0_1)) = some r := by rw [if_neg (show ¬ (false = true) by decide)] at H; exact H
       clear H; have H := H1; clear H1
       by_cases c25 : a1 ≥ ((rd_T48 l0_0 x6_1).f4)
       ·rw [if_pos c25] at H
        have c25b0 : decide (((rd_T48 l0_0 x6_1).f4) ≤ a1) = true := decide_eq_true c25; clear c25
        by_cases c26 : x5_1.length < 17592186044416
        ·rw [if_pos c26] at H
         have LMc26 := Aside0.mk c26; clear c26
         obtain ⟨y455, hy455⟩ : ∃ y_ : List Int, y_ = (x5_1 ++ [(rd_T48 l0_0 x6_1).f0]) := ⟨_, rfl⟩
         replace H : (skiarearef16_Faults.l0 k1 a1 y455 (wrap64 (x6_1 + 1)) l0_0 a0_1) = some r := by first | (rw [hy455]; with_reducible exact H) | (have H2_ := (Option.bind_some _ _).symm.trans H; rw [hy455]; with_reducible exact H2_) | (have H2_ := (Option.bind_some _ _).symm.trans H; with_reducible exact H2_) | with_reducible exact H | (rw [hy455]; exact H) | exact H
         have Ny455 := Aside0.mk hy455; clear hy455; have H' := Aside0.mk H; clear H; have hcz27_0 : wr.cell? ⟨gb449, 0, none⟩ = some (.slice A0_0 l0_0.length c0_0) := (blk_cell BK449.out 0).trans rfl; have hcz27_1 : wr.cell? ⟨gb449, 1, none⟩ = some (.int .i64 a0_1) := (blk_cell BK449.out 1).trans rfl; have hfz27_0 := blk_frozen BK449.out 0; have hfz27_1 := blk_frozen BK449.out 1; have p450 : 0 ≤ (x6_1 : Int) := of_decide_eq_true (by first | (with_reducible assumption) | assumption)
         have q450 : x6_1 < (l0_0.length : Int) := of_decide_eq_true (by first | (with_reducible assumption) | assumption)
         obtain ⟨ad450, e450, hx450_0, hx450_1, hx450_2, hx450_3, hx450_4⟩ := at_T48 HR0_0.out x6_1 p450 q450
         (try rw [← Nbq6.out] at hx450_1)
         (try rw [← Nbq19.out] at hx450_1)
         (try rw [← Nbq6.out] at hx450_2)
         (try rw [← Nbq19.out] at hx450_2)
         (try rw [← Nbq6.out] at hx450_3)
         (try rw [← Nbq19.out] at hx450_3)
         cases e450
         replace hx450_0 := (HB.out.cell (World.block_lt_of_cell? w _ hx450_0)).trans hx450_0
         replace hx450_1 := (HB.out.cell (World.block_lt_of_cell? w _ hx450_1)).trans hx450_1
         replace hx450_2 := (HB.out.cell (World.block_lt_of_cell? w _ hx450_2)).trans hx450_2
         replace hx450_3 := (HB.out.cell (World.block_lt_of_cell? w _ hx450_3)).trans hx450_3
         replace hx450_4 := (HB.out.cell (World.block_lt_of_cell? w _ hx450_4)).trans hx450_4
         replace p450 := eq_true p450
         replace q450 := eq_true q450
         go_wp2_with (first | ((with_reducible refine gate_dst (N := 7) rfl ?_); refine box_event ?hg (N := 7) ?hd (cs := #[.int .i64 0, .bool false, .bool false, .bool false, .int .i64 0]) (t := 48) ?hr ?_; (case hd => rfl); (case hg => rfl); (case hr => first | (go_simp; done) | (go_simp; rfl)); intro gb451 hg w28 hbox hb; have n0_ := Aside0.mk (rb_ HO_5.out hb); have n1_ := Aside0.mk (bb_ BK449.out hb); have n2_ := Aside0.mk (below_step (by repeat (first | (with_reducible first | exact HB.out | apply below_alloc | apply pw_below_drewN | apply below_drew1 | refine below_set ?_ GE449.out) | exact HB.out)) hb); have n3_ := Aside0.mk (hbox); have n4_ := Aside0.mk ((by rw [hg]; exact (below_size (by repeat (first | (with_reducible first | exact HB.out | apply below_alloc | apply pw_below_drewN | apply below_drew1 | refine below_set ?_ GE449.out) | exact HB.out))) : w.heap.size ≤ gb451)); have n5_ := n4_; have n6_ := Aside0.mk (nl_ hg BK449.out); have n7_ := Aside0.mk (ng_ hg BK449.out); clear HO_5; clear BK449; clear HB; have HO_5 := n0_; have BK449 := n1_; have HB := n2_; have BK451 := n3_; have GW451 := n4_; have GE451 := n5_; have NB449_451 := n6_; have NB451_449 := n7_; clear n0_ n1_ n2_ n3_ n4_ n5_ n6_ n7_; clear hb hbox hg; have hnb29 := NB451_449.out; have hnc29 := NB449_451.out; have hcz30_0 : w28.cell? ⟨gb451, 0, none⟩ = some (.int .i64 0) := (blk_cell BK451.out 0).trans rfl; have hcz30_1 : w28.cell? ⟨gb451, 1, none⟩ = some (.bool false) := (blk_cell BK451.out 1).trans rfl; have hcz30_2 : w28.cell? ⟨gb451, 2, none⟩ = some (.bool false) := (blk_cell BK451.out 2).trans rfl; have hcz30_3 : w28.cell? ⟨gb451, 3, none⟩ = some (.bool false) := (blk_cell BK451.out 3).trans rfl; have hcz30_4 : w28.cell? ⟨gb451, 4, none⟩ = some (.int .i64 0) := (blk_cell BK451.out 4).trans rfl; have hfz30_0 := blk_frozen BK451.out 0; have hfz30_1 := blk_frozen BK451.out 1; have hfz30_2 := blk_frozen BK451.out 2; have hfz30_3 := blk_frozen BK451.out 3; have hfz30_4 := blk_frozen BK451.out 4) | ((with_reducible refine gate_builtin (b := .append) (xs := #[.tmp 33, .tmp 36]) rfl ?_); at_builtin; refine Kd.R_append (Kd.int .i64) (w0 := w) w.heap.size rfl (.tmp 33) (.tmp 36) 39 3 (.int .i64 0) 8 rfl Try.underlying39 info3 rfl (by decide) (by omega) u5 x5_1 ((rd_T48 l0_0 x6_1).f0) [.int .i64 ((rd_T48 l0_0 x6_1).f0)] (fun _ => True) (fun _ => False) rfl (by first | (go_simp; done) | (go_simp; rfl)) ?aP (fun _ hk => hk.elim) ?aF ?aO ?aB ?aS ?aL ?_; (case aP => exact rfl); (case aB => exact (by repeat (first | (with_reducible first | exact HB.out | apply below_alloc | apply pw_below_drewN | apply below_drew1 | refine below_set ?_ GE449.out | refine below_set ?_ GE451.out) | exact HB.out))); (case aF => exact (fun _ _ => trivial)); (case aO => exact (by (with_reducible repeat (first | apply Kd.R_alloc | apply Kd.R_drewN | apply Kd.R_drew)); exact Kd.R_mono (Kd.R_far (p := ⟨gb451, 4, none⟩) (Kd.R_far (p := ⟨gb451, 3, none⟩) (Kd.R_far (p := ⟨gb451, 2, none⟩) (Kd.R_far (p := ⟨gb451, 1, none⟩) (Kd.R_far (p := ⟨gb451, 0, none⟩) (Kd.R_types HO_5.out BK451.out (by decide)) (fun _ hk => hk.2) (.int .i64 ((rd_T48 l0_0 x6_1).f0))) (fun _ hk => hk.2) (.bool ((rd_T48 l0_0 x6_1).f1))) (fun _ hk => hk.2) (.bool false)) (fun _ hk => hk.2) (.bool false)) (fun _ hk => hk.2) (.int .i64 ((rd_T48 l0_0 x6_1).f4))) (fun _ hk => trivial))); (case aS => exact (below_size (by repeat (first | (with_reducible first | exact HB.out | apply below_alloc | apply pw_below_drewN | apply below_drew1 | refine below_set ?_ GE449.out | refine below_set ?_ GE451.out) | exact HB.out)))); (case aL => have := LMc26.out; omega); intro v456 w31 ho hb hg hat; rw [← Ny455.out] at ho; have n0_ := Aside0.mk (blk_grown (g := gb449) (o := .cells #[.slice (some ad450) l0_0.length c0_0, .int .i64 a0_1] 24 (0, 0)) (by (with_reducible repeat (first | refine blk_drewN ?_ _ | refine blk_drew ?_ | refine blk_alloc ?_ _)); refine blk_far ?_ NB449_451.out _; (with_reducible repeat (first | refine blk_drewN ?_ _ | refine blk_drew ?_ | refine blk_alloc ?_ _)); refine blk_far ?_ NB449_451.out _; (with_reducible repeat (first | refine blk_drewN ?_ _ | refine blk_drew ?_ | refine blk_alloc ?_ _)); refine blk_far ?_ NB449_451.out _; (with_reducible repeat (first | refine blk_drewN ?_ _ | refine blk_drew ?_ | refine blk_alloc ?_ _)); refine blk_far ?_ NB449_451.out _; (with_reducible repeat (first | refine blk_drewN ?_ _ | refine blk_drew ?_ | refine blk_alloc ?_ _)); refine blk_far ?_ NB449_451.out _; (with_reducible repeat (first | refine blk_drewN ?_ _ | refine blk_drew ?_ | refine blk_alloc ?_ _)); exact BK449.out) hg (Kd.R_ne HO_5.out BK449.out (by decide))); have n1_ := Aside0.mk (blk_grown (g := gb451) (o := .cells #[.int .i64 ((rd_T48 l0_0 x6_1).f0), .bool ((rd_T48 l0_0 x6_1).f1), .bool false, .bool false, .int .i64 ((rd_T48 l0_0 x6_1).f4)] 48 (0, 0)) (by (with_reducible repeat (first | refine blk_drewN ?_ _ | refine blk_drew ?_ | refine blk_alloc ?_ _)); refine blk_put (cs := #[.int .i64 ((rd_T48 l0_0 x6_1).f0), .bool ((rd_T48 l0_0 x6_1).f1), .bool false, .bool false, .int .i64 0]) ?_ 4 _ rfl; (with_reducible repeat (first | refine blk_drewN ?_ _ | refine blk_drew ?_ | refine blk_alloc ?_ _)); refine blk_put (cs := #[.int .i64 ((rd_T48 l0_0 x6_1).f0), .bool ((rd_T48 l0_0 x6_1).f1), .bool false, .bool false, .int .i64 0]) ?_ 3 _ rfl; (with_reducible repeat (first | refine blk_drewN ?_ _ | refine blk_drew ?_ | refine blk_alloc ?_ _)); refine blk_put (cs := #[.int .i64 ((rd_T48 l0_0 x6_1).f0), .bool ((rd_T48 l0_0 x6_1).f1), .bool false, .bool false, .int .i64 0]) ?_ 2 _ rfl; (with_reducible repeat (first | refine blk_drewN ?_ _ | refine blk_drew ?_ | refine blk_alloc ?_ _)); refine blk_put (cs := #[.int .i64 ((rd_T48 l0_0 x6_1).f0), .bool false, .bool false, .bool false, .int .i64 0]) ?_ 1 _ rfl; (with_reducible repeat (first | refine blk_drewN ?_ _ | refine blk_drew ?_ | refine blk_alloc ?_ _)); refine blk_put (cs := #[.int .i64 0, .bool false, .bool false, .bool false, .int .i64 0]) ?_ 0 _ rfl; (with_reducible repeat (first | refine blk_drewN ?_ _ | refine blk_drew ?_ | refine blk_alloc ?_ _)); exact BK451.out) hg (Kd.R_ne HO_5.out BK451.out (by decide))); have n2_ := Aside0.mk (hb); have n3_ := Aside0.mk (ho); clear BK449; clear BK451; clear HB; clear HO_5; have BK449 := n0_; have BK451 := n1_; have HB := n2_; have HO457 := n3_; clear n0_ n1_ n2_ n3_; clear ho hb hg hat))
         go_roundg k1
         case measure => have := HK1.out; omega
         case rel => exact ⟨(y455), (wrap64 (x6_1 + 1)), (by first | rfl | (simp; done) | (simp [*]; done)), H', ⟨by have := HK1.out; omega⟩, ⟨by (with_reducible repeat (first | apply Kd.R_alloc | apply Kd.R_drewN | apply Kd.R_drew)); exact HO457.out⟩, ⟨by (with_reducible repeat (first | refine blk_drewN ?_ _ | refine blk_drew ?_ | refine blk_alloc ?_ _)); exact BK449.out⟩, ⟨by repeat (first | (with_reducible first | exact HB.out | apply below_alloc | apply pw_below_drewN | apply below_drew1 | refine below_set ?_ GE449.out | refine below_set ?_ GE451.out) | exact HB.out)⟩⟩
        ·rw [if_neg c26] at H
         exact absurd H (by simp)
       ·rw [if_neg c25] at H
        have c25b0 : decide (((rd_T48 l0_0 x6_1).f4) ≤ a1) = false := decide_eq_false c25; clear c25; have H' := Aside0.mk H; clear H; have hcz32_0 : wr.cell? ⟨gb449, 0, none⟩ = some (.slice A0_0 l0_0.length c0_0) := (blk_cell BK449.out 0).trans rfl; have hcz32_1 : wr.cell? ⟨gb449, 1, none⟩ = some (.int .i64 a0_1) := (blk_cell BK449.out 1).trans rfl; have hfz32_0 := blk_frozen BK449.out 0; have hfz32_1 := blk_frozen BK449.out 1; have p450 : 0 ≤ (x6_1 : Int) := of_decide_eq_true (by first | (with_reducible assumption) | assumption)
        have q450 : x6_1 < (l0_0.length : Int) := of_decide_eq_true (by first | (with_reducible assumption) | assumption)
        obtain ⟨ad450, e450, hx450_0, hx450_1, hx450_2, hx450_3, hx450_4⟩ := at_T48 HR0_0.out x6_1 p450 q450
        (try rw [← Nbq6.out] at hx450_1)
        (try rw [← Nbq19.out] at hx450_1)
        (try rw [← Nbq6.out] at hx450_2)
        (try rw [← Nbq19.out] at hx450_2)
        (try rw [← Nbq6.out] at hx450_3)
        (try rw [← Nbq19.out] at hx450_3)
        cases e450
        replace hx450_0 := (HB.out.cell (World.block_lt_of_cell? w _ hx450_0)).trans hx450_0
        replace hx450_1 := (HB.out.cell (World.block_lt_of_cell? w _ hx450_1)).trans hx450_1
        replace hx450_2 := (HB.out.cell (World.block_lt_of_cell? w _ hx450_2)).trans hx450_2
        replace hx450_3 := (HB.out.cell (World.block_lt_of_cell? w _ hx450_3)).trans hx450_3
        replace hx450_4 := (HB.out.cell (World.block_lt_of_cell? w _ hx450_4)).trans hx450_4
        replace p450 := eq_true p450
        replace q450 := eq_true q450
        go_wp2_with (first | ((with_reducible refine gate_dst (N := 7) rfl ?_); refine box_event ?hg (N := 7) ?hd (cs := #[.int .i64 0, .bool false, .bool false, .bool false, .int .i64 0]) (t := 48) ?hr ?_; (case hd => rfl); (case hg => rfl); (case hr => first | (go_simp; done) | (go_simp; rfl)); intro gb451 hg w33 hbox hb; have n0_ := Aside0.mk (rb_ HO_5.out hb); have n1_ := Aside0.mk (bb_ BK449.out hb); have n2_ := Aside0.mk (below_step (by repeat (first | (with_reducible first | exact HB.out | apply below_alloc | apply pw_below_drewN | apply below_drew1 | refine below_set ?_ GE449.out) | exact HB.out)) hb); have n3_ := Aside0.mk (hbox); have n4_ := Aside0.mk ((by rw [hg]; exact (below_size (by repeat (first | (with_reducible first | exact HB.out | apply below_alloc | apply pw_below_drewN | apply below_drew1 | refine below_set ?_ GE449.out) | exact HB.out))) : w.heap.size ≤ gb451)); have n5_ := n4_; have n6_ := Aside0.mk (nl_ hg BK449.out); have n7_ := Aside0.mk (ng_ hg BK449.out); clear HO_5; clear BK449; clear HB; have HO_5 := n0_; have BK449 := n1_; have HB := n2_; have BK451 := n3_; have GW451 := n4_; have GE451 := n5_; have NB449_451 := n6_; have NB451_449 := n7_; clear n0_ n1_ n2_ n3_ n4_ n5_ n6_ n7_; clear hb hbox hg; have hnb34 := NB451_449.out; have hnc34 := NB449_451.out; have hcz35_0 : w33.cell? ⟨gb451, 0, none⟩ = some (.int .i64 0) := (blk_cell BK451.out 0).trans rfl; have hcz35_1 : w33.cell? ⟨gb451, 1, none⟩ = some (.bool false) := (blk_cell BK451.out 1).trans rfl; have hcz35_2 : w33.cell? ⟨gb451, 2, none⟩ = some (.bool false) := (blk_cell BK451.out 2).trans rfl; have hcz35_3 : w33.cell? ⟨gb451, 3, none⟩ = some (.bool false) := (blk_cell BK451.out 3).trans rfl; have hcz35_4 : w33.cell? ⟨gb451, 4, none⟩ = some (.int .i64 0) := (blk_cell BK451.out 4).trans rfl; have hfz35_0 := blk_frozen BK451.out 0; have hfz35_1 := blk_frozen BK451.out 1; have hfz35_2 := blk_frozen BK451.out 2; have hfz35_3 := blk_frozen BK451.out 3; have hfz35_4 := blk_frozen BK451.out 4))
        go_roundg k1
        case measure => have := HK1.out; omega
        case rel => exact ⟨(x5_1), (wrap64 (x6_1 + 1)), (by first | rfl | (simp; done) | (simp [*]; done)), H', ⟨by have := HK1.out; omega⟩, ⟨by (with_reducible repeat (first | apply Kd.R_alloc | apply Kd.R_drewN | apply Kd.R_drew)); exact Kd.R_mono (Kd.R_far (p := ⟨gb451, 4, none⟩) (Kd.R_far (p := ⟨gb451, 3, none⟩) (Kd.R_far (p := ⟨gb451, 2, none⟩) (Kd.R_far (p := ⟨gb451, 1, none⟩) (Kd.R_far (p := ⟨gb451, 0, none⟩) (Kd.R_types HO_5.out BK451.out (by decide)) (fun _ hk => hk.2) (.int .i64 ((rd_T48 l0_0 x6_1).f0))) (fun _ hk => hk.2) (.bool ((rd_T48 l0_0 x6_1).f1))) (fun _ hk => hk.2) (.bool false)) (fun _ hk => hk.2) (.bool false)) (fun _ hk => hk.2) (.int .i64 ((rd_T48 l0_0 x6_1).f4))) (fun _ hk => trivial)⟩, ⟨by (with_reducible repeat (first | refine blk_drewN ?_ _ | refine blk_drew ?_ | refine blk_alloc ?_ _)); refine blk_far ?_ NB449_451.out _; (with_reducible repeat (first | refine blk_drewN ?_ _ | refine blk_drew ?_ | refine blk_alloc ?_ _)); refine blk_far ?_ NB449_451.out _; (with_reducible repeat (first | refine blk_drewN ?_ _ | refine blk_drew ?_ | refine blk_alloc ?_ _)); refine blk_far ?_ NB449_451.out _; (with_reducible repeat (first | refine blk_drewN ?_ _ | refine blk_drew ?_ | refine blk_alloc ?_ _)); refine blk_far ?_ NB449_451.out _; (with_reducible repeat (first | refine blk_drewN ?_ _ | refine blk_drew ?_ | refine blk_alloc ?_ _)); refine blk_far ?_ NB449_451.out _; (with_reducible repeat (first | refine blk_drewN ?_ _ | refine blk_drew ?_ | refine blk_alloc ?_ _)); exact BK449.out⟩, ⟨by repeat (first | (with_reducible first | exact HB.out | apply below_alloc | apply pw_below_drewN | apply below_drew1 | refine below_set ?_ GE449.out | refine below_set ?_ GE451.out) | exact HB.out)⟩⟩
    ·rw [if_neg c5] at H
     exact absurd H (by simp)
   ·rw [if_neg c4] at H
    have c4b0 : decide (x6_1 < (l0_0.length : Int)) = false := decide_eq_false c4; clear c4
    obtain rfl := Option.some.inj H
    have hcz36_0 : wr.cell? ⟨gb449, 0, none⟩ = some (.slice A0_0 l0_0.length c0_0) := (blk_cell BK449.out 0).trans rfl; have hcz36_1 : wr.cell? ⟨gb449, 1, none⟩ = some (.int .i64 a0_1) := (blk_cell BK449.out 1).trans rfl; have hfz36_0 := blk_frozen BK449.out 0; have hfz36_1 := blk_frozen BK449.out 1
    go_wp2
    go_ret
    exact ⟨_, by first | rfl | (simp [errW_none, errW_some] <;> rfl) | (simp [*, errW_none, errW_some] <;> rfl), by (with_reducible repeat (first | apply Kd.R_alloc | apply Kd.R_drewN | apply Kd.R_drew)); exact HO_5.out, by repeat (first | (with_reducible first | exact HB.out | apply below_alloc | apply pw_below_drewN | apply below_drew1 | refine below_set ?_ GE449.out) | exact HB.out)⟩

end Go.Proofs.Yteepdedbldnccaa.P
