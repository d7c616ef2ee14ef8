-- Written by wip/tools/laws.py of this repo over the kit's printer, for this claim.
import Derived.Test.YteepdedbldnccaaPx0
import Derived.Test.YteepdedbldnccaaPx6
namespace Go.Proofs.Yteepdedbldnccaa.P
open Go.RowKit Go.Proofs.YteepdedbldnccaaW.PrintWords Go.Proofs.YteepdedbldnccaaW.PrintLast Go.Proofs.YteepdedbldnccaaW.PrintMore
attribute [local go_sem] max2_int min2_int max_two min_two max_three min_three max_four min_four   -- for this text's walks alone
set_option linter.unusedVariables false
set_option linter.unusedSimpArgs false

/-! ### chain_Expire: function 25 -/
def chain_Expire.l0 : Nat → Int → Int → Int → List (S48) → Int → Option ((List (S48)) × Int)
 | 0, _, _, _, _, _ => none
 | k + 1, x1, x15, x16, x161000, x161001 => if x16 < x15 then (if 0 ≤ x16 then (if x16 < (x161000.length : Int) then (if ((rd_T48 x161000 x16).f4) ≤ x1 then (chain_Expire.l0 k x1 x15 (wrap64 (x16 + 1)) (x161000.set (x16 : Int).toNat (⟨(rd_T48 x161000 x16).f0, (rd_T48 x161000 x16).f1, (rd_T48 x161000 x16).f2, (rd_T48 x161000 x16).f3, 0⟩ : S48)) x161001) else (chain_Expire.l0 k x1 x15 (wrap64 (x16 + 1)) x161000 x161001)) else (none)) else (none)) else (some (x161000, x161001))
def chain_Expire.f (k : Nat) (l0_0 : List (S48)) (a0_1 : Int) (a1 : Int) : Option ((List (S48)) × Int) := (chain_own.f l0_0 a0_1 0).bind fun bt155 => (chain_Expire.l0 k a1 (bt155.1.length : Int) 0 bt155.1 bt155.2.1)
theorem chain_Expire.mono_l : ∀ k, (∀ y0 y1 y2 y3 y4, LeO (chain_Expire.l0 k y0 y1 y2 y3 y4) (chain_Expire.l0 (k + 1) y0 y1 y2 y3 y4))
 | 0 => fun _ _ _ _ _ r h => by simp [chain_Expire.l0] at h
 | k + 1 => by
  have ih0 := chain_Expire.mono_l k
  ·intro y0 y1 y2 y3 y4
   unfold chain_Expire.l0
   repeat' first
   | (with_reducible exact ih0 _ _ _ _ _)
   | (with_reducible exact LeO.refl _)
   | (with_reducible exact LeO.none _)
   | (with_reducible refine LeO.ite ?_ ?_)
   | (with_reducible refine LeO.bind ?_ (fun _ => ?_))
   | exact ih0 _ _ _ _ _
   | exact LeO.none _
   | refine LeO.ite ?_ ?_
   | refine LeO.bind ?_ (fun _ => ?_)
theorem chain_Expire.mono : ∀ a0 a1 a2 k, LeO (chain_Expire.f k a0 a1 a2) (chain_Expire.f (k + 1) a0 a1 a2) := by
 intro a0 a1 a2 k
 have ih0 := chain_Expire.mono_l k
 unfold chain_Expire.f
 repeat' first
   | (with_reducible exact ih0 _ _ _ _ _)
   | (with_reducible exact LeO.refl _)
   | (with_reducible exact LeO.none _)
   | (with_reducible refine LeO.ite ?_ ?_)
   | (with_reducible refine LeO.bind ?_ (fun _ => ?_))
   | exact ih0 _ _ _ _ _
   | exact LeO.none _
   | refine LeO.ite ?_ ?_
   | refine LeO.bind ?_ (fun _ => ?_)
set_option maxHeartbeats 8000000 in
set_option maxRecDepth 100000 in
theorem chain_Expire.calls (k : Nat) (A0_0 : Option Addr) (c0_0 : Nat) (l0_0 : List (S48)) (a0_1 : Int) (a1 : Int) (r1 : List (S48)) (r2 : Int) (w : World) (hr0_0 : Kd.C k48 w A0_0 l0_0.length l0_0) (hc0_0 : l0_0.length ≤ c0_0) (h : chain_Expire.f k l0_0 a0_1 a1 = some (r1, r2)) :
  Calls Try.prog 25 #[.agg #[.slice A0_0 l0_0.length c0_0, .int .i64 a0_1], .int .i64 a1] w fun e w' => ∃ v0_ : Value, e = .returned (.agg #[v0_, .int .i64 r2]) ∧ Kd.R k48 48 w' w.heap.size (fun _ => True) v0_ r1 ∧ Below w.heap.size w w' := by
 have hu24 := Try.underlying24
 have HR0_0 := Aside0.mk hr0_0
 have HC0_0 := Aside0.mk hc0_0
 clear hr0_0 hc0_0
 have HB := Aside0.mk (Below.refl w.heap.size w)
 have H : ((chain_own.f l0_0 a0_1 0).bind fun bt155 => (chain_Expire.l0 k a1 (bt155.1.length : Int) 0 bt155.1 bt155.2.1)) = some (r1, r2) := h
 clear h
 replace H := Option.bind_eq_some_iff.mp H
 obtain ⟨⟨t155, t158, t159⟩, A30, H⟩ := H
 replace H : (chain_Expire.l0 k a1 (t155.length : Int) 0 t155 t158) = some (r1, r2) := H
 have A3 := Aside0.mk A30
 clear A30
 have H' := Aside0.mk H
 clear H
 go_enter Try.func25, Try.ntmps25
 go_wp2_with (first | ((with_reducible refine gate_dst (N := 2) rfl ?_); refine box_event ?hg (N := 2) ?hd (cs := #[.slice A0_0 l0_0.length c0_0, .int .i64 a0_1]) (t := 24) ?hr ?_; (case hd => rfl); (case hg => rfl); (case hr => first | (go_simp; done) | (go_simp; rfl)); intro gb153 hg w4 hbox hb; have n0_ := Aside0.mk (below_step (by repeat (first | (with_reducible first | exact HB.out | apply below_alloc | apply pw_below_drewN | apply below_drew1) | exact HB.out)) hb); have n1_ := Aside0.mk (hbox); have n2_ := Aside0.mk ((by rw [hg]; exact (below_size (by repeat (first | (with_reducible first | exact HB.out | apply below_alloc | apply pw_below_drewN | apply below_drew1) | exact HB.out))) : w.heap.size ≤ gb153)); have n3_ := n2_; clear HB; have HB := n0_; have BK153 := n1_; have GW153 := n2_; have GE153 := n3_; clear n0_ n1_ n2_ n3_; clear hb hbox hg) | ((with_reducible refine gate_dst (N := 4) rfl ?_); refine box_event ?hg (N := 4) ?hd (cs := #[.slice none 0 0, .int .i64 0]) (t := 24) ?hr ?_; (case hd => rfl); (case hg => rfl); (case hr => first | (go_simp; done) | (go_simp; rfl)); intro gb154 hg w5 hbox hb; have n0_ := Aside0.mk (bb_ BK153.out hb); have n1_ := Aside0.mk (below_step (by repeat (first | (with_reducible first | exact HB.out | apply below_alloc | apply pw_below_drewN | apply below_drew1 | refine below_set ?_ GE153.out) | exact HB.out)) hb); have n2_ := Aside0.mk (hbox); have n3_ := Aside0.mk ((by rw [hg]; exact (below_size (by repeat (first | (with_reducible first | exact HB.out | apply below_alloc | apply pw_below_drewN | apply below_drew1 | refine below_set ?_ GE153.out) | exact HB.out))) : w.heap.size ≤ gb154)); have n4_ := n3_; have n5_ := Aside0.mk (nl_ hg BK153.out); have n6_ := Aside0.mk (ng_ hg BK153.out); clear BK153; clear HB; have BK153 := n0_; have HB := n1_; have BK154 := n2_; have GW154 := n3_; have GE154 := n4_; have NB153_154 := n5_; have NB154_153 := n6_; clear n0_ n1_ n2_ n3_ n4_ n5_ n6_; clear hb hbox hg; have hnb6 := NB153_154.out; have hnc6 := NB154_153.out; have hcz7_0 : w5.cell? ⟨gb153, 0, none⟩ = some (.slice A0_0 l0_0.length c0_0) := (blk_cell BK153.out 0).trans rfl; have hcz7_1 : w5.cell? ⟨gb153, 1, none⟩ = some (.int .i64 a0_1) := (blk_cell BK153.out 1).trans rfl; have hfz7_0 := blk_frozen BK153.out 0; have hfz7_1 := blk_frozen BK153.out 1) | ((with_reducible refine gate_callee (f := 38) rfl ?_); refine goesL_ (some 10) rfl rfl Try.func38 (by kernel_rfl) rfl #[.agg #[.slice A0_0 l0_0.length c0_0, .int .i64 a0_1], .int .i64 0] rfl (by (try simp only [List.map_toArray, List.map_cons, List.map_nil]); first | done | rfl | (simp only [List.length_drop, List.length_take]; rfl)) ?_; (with_reducible refine (chain_own.calls _ _ l0_0 a0_1 0 t155 t158 t159 _ ?side1 ?side2 A3.out).mono ?_); (case side1 => repeat (first | exact (Kd.C_below HR0_0.out HB.out) | (with_reducible refine Kd.C_alloc ?_ _) | (with_reducible refine Kd.C_drewN ?_ _) | (with_reducible refine Kd.C_drew ?_))); (case side2 => exact HC0_0.out); rintro e w8 ⟨v156, rfl, ho0, hb⟩; refine ⟨_, rfl, ?_⟩; have n0_ := Aside0.mk (Kd.R_lower ho0 (below_size (by repeat (first | (with_reducible first | exact HB.out | apply below_alloc | apply pw_below_drewN | apply below_drew1 | refine below_set ?_ GE153.out | refine below_set ?_ GE154.out) | exact HB.out)))); have n1_ := Aside0.mk (bb_ BK153.out hb); have n2_ := Aside0.mk (bb_ BK154.out hb); have n3_ := Aside0.mk (below_step (by repeat (first | (with_reducible first | exact HB.out | apply below_alloc | apply pw_below_drewN | apply below_drew1 | refine below_set ?_ GE153.out | refine below_set ?_ GE154.out) | exact HB.out)) hb); clear BK153; clear BK154; clear HB; have HO157 := n0_; have BK153 := n1_; have BK154 := n2_; have HB := n3_; clear n0_ n1_ n2_ n3_; (try clear hb); (try clear hb2); (try clear hk); (try clear hi); (try clear ho0)) | ((with_reducible refine gate_dst (N := 5) rfl ?_); refine box_event ?hg (N := 5) ?hd (cs := #[.slice none 0 0, .int .i64 0]) (t := 24) ?hr ?_; (case hd => rfl); (case hg => rfl); (case hr => first | (go_simp; done) | (go_simp; rfl)); intro gb160 hg w9 hbox hb; have n0_ := Aside0.mk (rb_ HO157.out hb); have n1_ := Aside0.mk (bb_ BK153.out hb); have n2_ := Aside0.mk (bb_ BK154.out hb); have n3_ := Aside0.mk (below_step (by repeat (first | (with_reducible first | exact HB.out | apply below_alloc | apply pw_below_drewN | apply below_drew1 | refine below_set ?_ GE153.out | refine below_set ?_ GE154.out) | exact HB.out)) hb); have n4_ := Aside0.mk (hbox); have n5_ := Aside0.mk ((by rw [hg]; exact (below_size (by repeat (first | (with_reducible first | exact HB.out | apply below_alloc | apply pw_below_drewN | apply below_drew1 | refine below_set ?_ GE153.out | refine below_set ?_ GE154.out) | exact HB.out))) : w.heap.size ≤ gb160)); have n6_ := n5_; have n7_ := Aside0.mk (nl_ hg BK153.out); have n8_ := Aside0.mk (ng_ hg BK153.out); have n9_ := Aside0.mk (nl_ hg BK154.out); have n10_ := Aside0.mk (ng_ hg BK154.out); clear HO157; clear BK153; clear BK154; clear HB; have HO157 := n0_; have BK153 := n1_; have BK154 := n2_; have HB := n3_; have BK160 := n4_; have GW160 := n5_; have GE160 := n6_; have NB153_160 := n7_; have NB160_153 := n8_; have NB154_160 := n9_; have NB160_154 := n10_; clear n0_ n1_ n2_ n3_ n4_ n5_ n6_ n7_ n8_ n9_ n10_; clear hb hbox hg; obtain ⟨Ao10, co10, eo10⟩ := Kd.R_slice HO157.out; subst eo10; have hnb11 := NB160_153.out; have hnc11 := NB153_160.out; have hnb12 := NB160_154.out; have hnc12 := NB154_160.out; have hcz13_0 : w9.cell? ⟨gb160, 0, none⟩ = some (.slice none 0 0) := (blk_cell BK160.out 0).trans rfl; have hcz13_1 : w9.cell? ⟨gb160, 1, none⟩ = some (.int .i64 0) := (blk_cell BK160.out 1).trans rfl; have hfz13_0 := blk_frozen BK160.out 0; have hfz13_1 := blk_frozen BK160.out 1))
 go_loopg [16] k (fun kq v16 w' => ∃ (x16_1 : Int) (x161000_1 : List (S48)) (u161000 : Value), v16 = .int .i64 x16_1 ∧ Aside0 (chain_Expire.l0 kq a1 (t155.length : Int) x16_1 x161000_1 t158 = some (r1, r2)) ∧ Aside0 (kq ≤ k) ∧ Aside0 (Kd.R k48 48 w' w.heap.size (fun _ => True) u161000 x161000_1) ∧ Aside0 (w'.heap[gb153]? = some (.cells #[(.slice A0_0 l0_0.length c0_0), .int .i64 a0_1] 24 (0, 0))) ∧ Aside0 (w'.heap[gb154]? = some (.cells #[(.slice none 0 0), .int .i64 0] 24 (0, 0))) ∧ Aside0 (w'.heap[gb160]? = some (.cells #[u161000, .int .i64 t158] 24 (0, 0))) ∧ Aside0 (Below w.heap.size w w'))
 case atStart => exact ⟨(0), (t155), (.slice Ao10 t155.length co10), (by first | rfl | (simp; done) | (simp [*]; done)), H', ⟨Nat.le_refl _⟩, ⟨by (with_reducible repeat (first | apply Kd.R_alloc | apply Kd.R_drewN | apply Kd.R_drew)); exact Kd.R_mono (Kd.R_far (p := ⟨gb160, 1, none⟩) (Kd.R_far (p := ⟨gb160, 0, none⟩) (Kd.R_types HO157.out BK160.out (by decide)) (fun _ hk => hk.2) (.slice Ao10 t155.length co10)) (fun _ hk => hk.2) (.int .i64 t158)) (fun _ hk => trivial)⟩, ⟨by (with_reducible repeat (first | refine blk_drewN ?_ _ | refine blk_drew ?_ | refine blk_alloc ?_ _)); refine blk_far ?_ NB153_160.out _; (with_reducible repeat (first | refine blk_drewN ?_ _ | refine blk_drew ?_ | refine blk_alloc ?_ _)); refine blk_far ?_ NB153_160.out _; (with_reducible repeat (first | refine blk_drewN ?_ _ | refine blk_drew ?_ | refine blk_alloc ?_ _)); exact BK153.out⟩, ⟨by (with_reducible repeat (first | refine blk_drewN ?_ _ | refine blk_drew ?_ | refine blk_alloc ?_ _)); refine blk_far ?_ NB154_160.out _; (with_reducible repeat (first | refine blk_drewN ?_ _ | refine blk_drew ?_ | refine blk_alloc ?_ _)); refine blk_far ?_ NB154_160.out _; (with_reducible repeat (first | refine blk_drewN ?_ _ | refine blk_drew ?_ | refine blk_alloc ?_ _)); exact BK154.out⟩, ⟨by (with_reducible repeat (first | refine blk_drewN ?_ _ | refine blk_drew ?_ | refine blk_alloc ?_ _)); refine blk_put (cs := #[.slice Ao10 t155.length co10, .int .i64 0]) ?_ 1 _ rfl; (with_reducible repeat (first | refine blk_drewN ?_ _ | refine blk_drew ?_ | refine blk_alloc ?_ _)); refine blk_put (cs := #[.slice none 0 0, .int .i64 0]) ?_ 0 _ rfl; (with_reducible repeat (first | refine blk_drewN ?_ _ | refine blk_drew ?_ | refine blk_alloc ?_ _)); exact BK160.out⟩, ⟨by repeat (first | (with_reducible first | exact HB.out | apply below_alloc | apply pw_below_drewN | apply below_drew1 | refine below_set ?_ GE153.out | refine below_set ?_ GE154.out | refine below_set ?_ GE160.out) | exact HB.out)⟩⟩
 case round =>
  clear H'
  try clear c1
  try clear c2
  try clear p2
  try clear c3
  try clear c6
  try clear c11
  try clear c12
  try clear hcz13_0
  try clear hcz13_1
  try clear hcz7_0
  try clear hcz7_1
  try clear hfz13_0
  try clear hfz13_1
  try clear hfz7_0
  try clear hfz7_1
  obtain ⟨x16_1, x161000_1, u161000, rfl, HA, HK1, HO_161000, BK153, BK154, BK160, HB⟩ := hrel
  cases gk with
  | zero => exact absurd HA.out (by simp [chain_Expire.l0])
  | succ k1 =>
   have H := HA.out; clear HA
   simp only [chain_Expire.l0] at H
   by_cases c14 : x16_1 < (t155.length : Int)
   ·rw [if_pos c14] at H
    have c14b0 : decide (x16_1 < (t155.length : Int)) = true := decide_eq_true c14; clear c14
    by_cases c15 : 0 ≤ x16_1
    ·rw [if_pos c15] at H
     have c15b0 : decide (0 ≤ x16_1) = true := decide_eq_true c15; clear c15
     by_cases c16 : x16_1 < (x161000_1.length : Int)
     ·rw [if_pos c16] at H
      have c16b0 : decide (x16_1 < (x161000_1.length : Int)) = true := decide_eq_true c16; clear c16
      by_cases c17 : ((rd_T48 x161000_1 x16_1).f4) ≤ a1
      ·rw [if_pos c17] at H
       have c17b0 : decide (((rd_T48 x161000_1 x16_1).f4) ≤ a1) = true := decide_eq_true c17; clear c17
       obtain ⟨y162, hy162⟩ : ∃ y_ : List (S48), y_ = (x161000_1.set (x16_1 : Int).toNat (⟨(rd_T48 x161000_1 x16_1).f0, (rd_T48 x161000_1 x16_1).f1, (rd_T48 x161000_1 x16_1).f2, (rd_T48 x161000_1 x16_1).f3, 0⟩ : S48)) := ⟨_, rfl⟩
       replace H : (chain_Expire.l0 k1 a1 (t155.length : Int) (wrap64 (x16_1 + 1)) y162 t158) = some (r1, r2) := by first | (rw [hy162]; with_reducible exact H) | (have H2_ := (Option.bind_some _ _).symm.trans H; rw [hy162]; with_reducible exact H2_) | (have H2_ := (Option.bind_some _ _).symm.trans H; with_reducible exact H2_) | with_reducible exact H | (rw [hy162]; exact H) | exact H
       have Ny162 := Aside0.mk hy162; clear hy162; have H' := Aside0.mk H; clear H; have hnb19 := NB160_153.out; have hnc19 := NB153_160.out; have hnb20 := NB160_154.out; have hnc20 := NB154_160.out; have hcz21_0 : wr.cell? ⟨gb160, 0, none⟩ = some (u161000) := (blk_cell BK160.out 0).trans rfl; have hcz21_1 : wr.cell? ⟨gb160, 1, none⟩ = some (.int .i64 t158) := (blk_cell BK160.out 1).trans rfl; have hfz21_0 := blk_frozen BK160.out 0; have hfz21_1 := blk_frozen BK160.out 1
       obtain ⟨Ao22, co22, eo22⟩ := Kd.R_slice HO_161000.out
       subst eo22; have p161 : 0 ≤ (x16_1 : Int) := of_decide_eq_true (by first | (with_reducible assumption) | assumption)
       have q161 : x16_1 < (x161000_1.length : Int) := of_decide_eq_true (by first | (with_reducible assumption) | assumption)
       obtain ⟨ad161, e161, hx161_0, hx161_1, hx161_2, hx161_3, hx161_4⟩ := at_T48 (Kd.R_reads' HO_161000.out).2.2 x16_1 p161 q161
       cases e161
       replace p161 := eq_true p161
       replace q161 := eq_true q161
       have p18 : 0 ≤ (x16_1 : Int) := of_decide_eq_true (by first | (with_reducible assumption) | assumption)
       have q18 : (x16_1 : Int) < ((x161000_1.length : Int) : Int) := of_decide_eq_true (by first | (with_reducible assumption) | assumption)
       obtain ⟨go18, co18, eo18, gb18, gl18, cl18, HG18⟩ := Kd.R_form HO_161000.out (by omega)
       (first | cases eo18 | (injection eo18 with ea_ en_ ec_; (first | subst ea_ | (injection ea_ with ea_; subst ea_)); subst ec_; clear en_))
       have GB18 := Aside0.mk gb18; have GG18 := Aside0.mk HG18; clear gb18 gl18 HG18
       (first | simp only [add_plain] at hx161_0 | skip)
       (first | simp only [add_plain] at hx161_1 | skip)
       (first | simp only [add_plain] at hx161_2 | skip)
       (first | simp only [add_plain] at hx161_3 | skip)
       (first | simp only [add_plain] at hx161_4 | skip)
       obtain ⟨ce18, hcl18, hM18, hcc18, hfr18⟩ := Kd.R_elem HO_161000.out z48 (x16_1 : Int) p18 q18
       obtain rfl := k48_openM hM18
       have hx18_0 : wr.cell? ⟨go18, (x16_1 : Int).toNat * 5, none⟩ = some (.int .i64 ((rd_T48 x161000_1 x16_1).f0)) := hcc18 0 _ rfl; have hx18_1 : wr.cell? ⟨go18, (x16_1 : Int).toNat * 5 + 1, none⟩ = some (.bool ((rd_T48 x161000_1 x16_1).f1)) := hcc18 1 _ rfl; have hx18_2 : wr.cell? ⟨go18, (x16_1 : Int).toNat * 5 + 2, none⟩ = some (.bool ((rd_T48 x161000_1 x16_1).f2)) := hcc18 2 _ rfl; have hx18_3 : wr.cell? ⟨go18, (x16_1 : Int).toNat * 5 + 3, none⟩ = some (.bool ((rd_T48 x161000_1 x16_1).f3)) := hcc18 3 _ rfl; have hx18_4 : wr.cell? ⟨go18, (x16_1 : Int).toNat * 5 + 4, none⟩ = some (.int .i64 ((rd_T48 x161000_1 x16_1).f4)) := hcc18 4 _ rfl; have hf18_0 : wr.frozen? ⟨go18, (x16_1 : Int).toNat * 5, none⟩ = false := hfr18 0; have hf18_1 : wr.frozen? ⟨go18, (x16_1 : Int).toNat * 5 + 1, none⟩ = false := hfr18 1; have hf18_2 : wr.frozen? ⟨go18, (x16_1 : Int).toNat * 5 + 2, none⟩ = false := hfr18 2; have hf18_3 : wr.frozen? ⟨go18, (x16_1 : Int).toNat * 5 + 3, none⟩ = false := hfr18 3; have hf18_4 : wr.frozen? ⟨go18, (x16_1 : Int).toNat * 5 + 4, none⟩ = false := hfr18 4; clear hcl18 hcc18 hfr18 hM18
       replace p18 := eq_true p18
       replace q18 := eq_true q18
       have HX23 := Aside0.mk (show Kd.R k48 48 wr w.heap.size (fun _ => True) (.slice (some ⟨go18, 0, none⟩) x161000_1.length co22) x161000_1 from (sr_ HO_161000.out))
       obtain ⟨ce23, hcl23, hM23, hcc23, hfr23⟩ := Kd.R_elem HX23.out z48 (x16_1 : Int) (of_decide_eq_true (by first | (with_reducible assumption) | assumption)) (by have h_ : (x16_1 : Int) < ((x161000_1.length : Int) : Int) := of_decide_eq_true (by first | (with_reducible assumption) | assumption); first | exact h_ | (have e_ := (Kd.R_reads' HO_161000.out).1; omega) | simpa using h_)
       obtain rfl := k48_openM hM23
       have HP23 := Kd.R_seg HX23.out (x16_1 : Int) (of_decide_eq_true (by first | (with_reducible assumption) | assumption)) (by have h_ : (x16_1 : Int) < ((x161000_1.length : Int) : Int) := of_decide_eq_true (by first | (with_reducible assumption) | assumption); first | exact h_ | (have e_ := (Kd.R_reads' HO_161000.out).1; omega) | simpa using h_) (seg := [.int .i64 0]) (j := 4) hcl23 hcc23 (show 5 ≤ 5 from by decide) (x' := (⟨(rd_T48 x161000_1 x16_1).f0, (rd_T48 x161000_1 x16_1).f1, (rd_T48 x161000_1 x16_1).f2, (rd_T48 x161000_1 x16_1).f3, 0⟩ : S48)) (k48_mkM _ _ _ (⟨(rd_T48 x161000_1 x16_1).f0, (rd_T48 x161000_1 x16_1).f1, (rd_T48 x161000_1 x16_1).f2, (rd_T48 x161000_1 x16_1).f3, 0⟩ : S48) ) (fun _ hk => hk)
       have hx23_4 := hcc23 4 _ rfl
       (try simp only [show (k48).sz = 5 from rfl, Nat.mul_one, Nat.add_zero] at hx23_4)
       have hf23_4 := hfr23 4
       (try simp only [show (k48).sz = 5 from rfl, Nat.mul_one, Nat.add_zero] at hf23_4)
       clear hcl23 hcc23 hfr23 hM23
       go_wp2_with (first | ((with_reducible refine gate_store (t := 3) (p := 31) rfl ?_); refine store_event (t := 3) (p := 31) (v := ?vo_w24) (w1 := (wr.setCell ⟨go18, (x16_1 : Int).toNat * 5 + 4, none⟩ (.int .i64 0))) ?hg ?ho ?hn ?hr ?_; (case ho => rfl); (case hg => rfl); (case hn => rfl); (case hr => first | (go_simp; done) | (go_simp; rfl)); intro w24 hw; have hg : wr.grownBy w24 (some go18) := (by rw [hw]; exact HP23.2); have hp_ : Kd.R k48 48 w24 w.heap.size (fun _ => True) (.slice (some ⟨go18, 0, none⟩) x161000_1.length co22) y162 := (by rw [hw, Ny162.out]; exact HP23.1); clear HP23; have n0_ := Aside0.mk (hp_); have n1_ := Aside0.mk (blk_grown (g := gb153) (o := .cells #[.slice A0_0 l0_0.length c0_0, .int .i64 a0_1] 24 (0, 0)) (sb_ BK153.out) hg (Kd.R_ne HO_161000.out BK153.out (by decide))); have n2_ := Aside0.mk (blk_grown (g := gb154) (o := .cells #[.slice none 0 0, .int .i64 0] 24 (0, 0)) (sb_ BK154.out) hg (Kd.R_ne HO_161000.out BK154.out (by decide))); have n3_ := Aside0.mk (blk_grown (g := gb160) (o := .cells #[.slice (some ⟨go18, 0, none⟩) x161000_1.length co22, .int .i64 t158] 24 (0, 0)) (sb_ BK160.out) hg (Kd.R_ne HO_161000.out BK160.out (by decide))); have n4_ := Aside0.mk ((by rw [hw]; exact below_set (HB.out) GB18.out : Below w.heap.size w w24)); clear HO_161000; clear BK153; clear BK154; clear BK160; clear HB; have HO_161000 := n0_; have BK153 := n1_; have BK154 := n2_; have BK160 := n3_; have HB := n4_; clear n0_ n1_ n2_ n3_ n4_; clear hg hw hp_))
       go_roundg k1
       case measure => have := HK1.out; omega
       case rel => exact ⟨(wrap64 (x16_1 + 1)), (y162), (.slice (some ⟨go18, 0, none⟩) x161000_1.length co22), (by first | rfl | (simp; done) | (simp [*]; done)), H', ⟨by have := HK1.out; omega⟩, ⟨by (with_reducible repeat (first | apply Kd.R_alloc | apply Kd.R_drewN | apply Kd.R_drew)); exact HO_161000.out⟩, ⟨by (with_reducible repeat (first | refine blk_drewN ?_ _ | refine blk_drew ?_ | refine blk_alloc ?_ _)); exact BK153.out⟩, ⟨by (with_reducible repeat (first | refine blk_drewN ?_ _ | refine blk_drew ?_ | refine blk_alloc ?_ _)); exact BK154.out⟩, ⟨by (with_reducible repeat (first | refine blk_drewN ?_ _ | refine blk_drew ?_ | refine blk_alloc ?_ _)); exact BK160.out⟩, ⟨by repeat (first | (with_reducible first | exact HB.out | apply below_alloc | apply pw_below_drewN | apply below_drew1 | refine below_set ?_ GE153.out | refine below_set ?_ GE154.out | refine below_set ?_ GE160.out) | exact HB.out)⟩⟩
      ·rw [if_neg c17] at H
       have c17b0 : decide (((rd_T48 x161000_1 x16_1).f4) ≤ a1) = false := decide_eq_false c17; clear c17; have H' := Aside0.mk H; clear H; have hnb25 := NB160_153.out; have hnc25 := NB153_160.out; have hnb26 := NB160_154.out; have hnc26 := NB154_160.out; have hcz27_0 : wr.cell? ⟨gb160, 0, none⟩ = some (u161000) := (blk_cell BK160.out 0).trans rfl; have hcz27_1 : wr.cell? ⟨gb160, 1, none⟩ = some (.int .i64 t158) := (blk_cell BK160.out 1).trans rfl; have hfz27_0 := blk_frozen BK160.out 0; have hfz27_1 := blk_frozen BK160.out 1
       obtain ⟨Ao28, co28, eo28⟩ := Kd.R_slice HO_161000.out
       subst eo28; have p161 : 0 ≤ (x16_1 : Int) := of_decide_eq_true (by first | (with_reducible assumption) | assumption)
       have q161 : x16_1 < (x161000_1.length : Int) := of_decide_eq_true (by first | (with_reducible assumption) | assumption)
       obtain ⟨ad161, e161, hx161_0, hx161_1, hx161_2, hx161_3, hx161_4⟩ := at_T48 (Kd.R_reads' HO_161000.out).2.2 x16_1 p161 q161
       cases e161
       replace p161 := eq_true p161
       replace q161 := eq_true q161
       go_wp2
       go_roundg k1
       case measure => have := HK1.out; omega
       case rel => exact ⟨(wrap64 (x16_1 + 1)), (x161000_1), (.slice (some ad161) x161000_1.length co28), (by first | rfl | (simp; done) | (simp [*]; done)), H', ⟨by have := HK1.out; omega⟩, ⟨by (with_reducible repeat (first | apply Kd.R_alloc | apply Kd.R_drewN | apply Kd.R_drew)); exact HO_161000.out⟩, ⟨by (with_reducible repeat (first | refine blk_drewN ?_ _ | refine blk_drew ?_ | refine blk_alloc ?_ _)); exact BK153.out⟩, ⟨by (with_reducible repeat (first | refine blk_drewN ?_ _ | refine blk_drew ?_ | refine blk_alloc ?_ _)); exact BK154.out⟩, ⟨by (with_reducible repeat (first | refine blk_drewN ?_ _ | refine blk_drew ?_ | refine blk_alloc ?_ _)); exact BK160.out⟩, ⟨by repeat (first | (with_reducible first | exact HB.out | apply below_alloc | apply pw_below_drewN | apply below_drew1 | refine below_set ?_ GE153.out | refine below_set ?_ GE154.out | refine below_set ?_ GE160.out) | exact HB.out)⟩⟩
     ·rw [if_neg c16] at H
      exact absurd H (by simp)
    ·rw [if_neg c15] at H
     exact absurd H (by simp)
   ·rw [if_neg c14] at H
    have c14b0 : decide (x16_1 < (t155.length : Int)) = false := decide_eq_false c14; clear c14
    simp only [Option.some.injEq, Prod.mk.injEq] at H
    obtain ⟨rfl, rfl⟩ := H
    have hnb29 := NB160_153.out; have hnc29 := NB153_160.out; have hnb30 := NB160_154.out; have hnc30 := NB154_160.out; have hcz31_0 : wr.cell? ⟨gb160, 0, none⟩ = some (u161000) := (blk_cell BK160.out 0).trans rfl; have hcz31_1 : wr.cell? ⟨gb160, 1, none⟩ = some (.int .i64 t158) := (blk_cell BK160.out 1).trans rfl; have hfz31_0 := blk_frozen BK160.out 0; have hfz31_1 := blk_frozen BK160.out 1
    obtain ⟨Ao32, co32, eo32⟩ := Kd.R_slice HO_161000.out
    subst eo32; have hnb33 := NB154_153.out; have hnc33 := NB153_154.out; have hcz34_0 : wr.cell? ⟨gb154, 0, none⟩ = some (.slice none 0 0) := (blk_cell BK154.out 0).trans rfl; have hcz34_1 : wr.cell? ⟨gb154, 1, none⟩ = some (.int .i64 0) := (blk_cell BK154.out 1).trans rfl; have hfz34_0 := blk_frozen BK154.out 0; have hfz34_1 := blk_frozen BK154.out 1
    go_wp2
    refine bodyPost_ret (results_cell_row rfl _ _ gb154 24 #[.slice Ao32 x161000_1.length co32, .int .i64 t158] (0, 0) _ rfl (by (with_reducible repeat (first | refine blk_drewN ?_ _ | refine blk_drew ?_ | refine blk_alloc ?_ _)); refine blk_put (cs := #[.slice Ao32 x161000_1.length co32, .int .i64 0]) ?_ 1 _ rfl; (with_reducible repeat (first | refine blk_drewN ?_ _ | refine blk_drew ?_ | refine blk_alloc ?_ _)); refine blk_put (cs := #[.slice none 0 0, .int .i64 0]) ?_ 0 _ rfl; (with_reducible repeat (first | refine blk_drewN ?_ _ | refine blk_drew ?_ | refine blk_alloc ?_ _)); exact BK154.out) Try.underlying24 rfl (by kernel_rfl)) rfl ?_
    exact ⟨_, by first | rfl | (simp [errW_none, errW_some] <;> rfl) | (simp [*, errW_none, errW_some] <;> rfl), by (with_reducible repeat (first | apply Kd.R_alloc | apply Kd.R_drewN | apply Kd.R_drew)); exact Kd.R_mono (Kd.R_far (p := ⟨gb154, 1, none⟩) (Kd.R_far (p := ⟨gb154, 0, none⟩) (Kd.R_types HO_161000.out BK154.out (by decide)) (fun _ hk => hk.2) (.slice Ao32 x161000_1.length co32)) (fun _ hk => hk.2) (.int .i64 t158)) (fun _ hk => trivial), by repeat (first | (with_reducible first | exact HB.out | apply below_alloc | apply pw_below_drewN | apply below_drew1 | refine below_set ?_ GE153.out | refine below_set ?_ GE154.out | refine below_set ?_ GE160.out) | exact HB.out)⟩

end Go.Proofs.Yteepdedbldnccaa.P
