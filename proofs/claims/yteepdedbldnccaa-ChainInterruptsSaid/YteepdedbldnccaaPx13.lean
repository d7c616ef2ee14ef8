-- Written by wip/tools/laws.py of this repo over the kit's printer, for this claim.
import Derived.Test.YteepdedbldnccaaPx0
import Derived.Test.YteepdedbldnccaaPx6
namespace Go.Proofs.Yteepdedbldnccaa.P
open Go.RowKit Go.Proofs.YteepdedbldnccaaW.PrintWords Go.Proofs.YteepdedbldnccaaW.PrintLast Go.Proofs.YteepdedbldnccaaW.PrintMore
attribute [local go_sem] max2_int min2_int max_two min_two max_three min_three max_four min_four   -- for this text's walks alone
set_option linter.unusedVariables false
set_option linter.unusedSimpArgs false

/-! ### chain_Bypass: function 23 -/
mutual
def chain_Bypass.l0 : Nat → Int → Int → Int → Bool → Int → Int → List (S48) → Int → List (S48) → Int → Option ((List (S48)) × Int × Int)
 | 0, _, _, _, _, _, _, _, _, _, _ => none
 | k + 1, x2, x3, x11, x12, x22, x23, x143000, x143001, x150000, x150001 => if x23 < x22 then (if x12 = true then (chain_Bypass.l0 k x2 x3 x11 true x22 (wrap64 (x23 + 1)) x143000 x143001 x150000 x150001) else (if x23 = x11 then (chain_Bypass.l0 k x2 x3 x11 false x22 (wrap64 (x23 + 1)) x143000 x143001 x150000 x150001) else (if 0 ≤ x23 then (if x23 < (x150000.length : Int) then (chain_Bypass.l0 k x2 x3 x11 (((rd_T48 x150000 x23).f4) != 0) x22 (wrap64 (x23 + 1)) x143000 x143001 x150000 x150001) else (none)) else (none)))) else (if x11 < 0 then (some (([] : List (S48)), 0, 8)) else (if x2 = 0 then (chain_Bypass.j1 k x3 x11 x12 true x150000 x150001) else (chain_Bypass.j1 k x3 x11 x12 (x2 != x143001) x150000 x150001)))
def chain_Bypass.j1 : Nat → Int → Int → Bool → Bool → List (S48) → Int → Option ((List (S48)) × Int × Int)
 | 0, _, _, _, _, _, _ => none
 | k + 1, x3, x11, x12, x46, x150000, x150001 => if x46 = true then (some (([] : List (S48)), 0, 17)) else (if 0 ≤ x11 then (if x11 < (x150000.length : Int) then (if (rd_T48 x150000 x11).f1 = true then (some (([] : List (S48)), 0, 13)) else (if x12 = true then (some (([] : List (S48)), 0, 15)) else (if x3 < 1 then (some (([] : List (S48)), 0, 2)) else (if x3 > 20000000 then (some (([] : List (S48)), 0, 2)) else (some ((x150000.set (x11 : Int).toNat (⟨(rd_T48 x150000 x11).f0, (rd_T48 x150000 x11).f1, (rd_T48 x150000 x11).f2, (rd_T48 x150000 x11).f3, x3⟩ : S48)), x150001, 0)))))) else (none)) else (none))
end
def chain_Bypass.f (k : Nat) (l0_0 : List (S48)) (a0_1 : Int) (a1 : Int) (a2 : Int) (a3 : Int) : Option ((List (S48)) × Int × Int) := (chain_own.f l0_0 a0_1 a1).bind fun bt144 => (chain_Bypass.l0 k a2 a3 bt144.2.2 false (bt144.1.length : Int) 0 l0_0 a0_1 bt144.1 bt144.2.1)
theorem chain_Bypass.mono_l : ∀ k, (∀ y0 y1 y2 y3 y4 y5 y6 y7 y8 y9, LeO (chain_Bypass.l0 k y0 y1 y2 y3 y4 y5 y6 y7 y8 y9) (chain_Bypass.l0 (k + 1) y0 y1 y2 y3 y4 y5 y6 y7 y8 y9)) ∧ (∀ y0 y1 y2 y3 y4 y5, LeO (chain_Bypass.j1 k y0 y1 y2 y3 y4 y5) (chain_Bypass.j1 (k + 1) y0 y1 y2 y3 y4 y5))
 | 0 => ⟨fun _ _ _ _ _ _ _ _ _ _ r h => by simp [chain_Bypass.l0] at h, fun _ _ _ _ _ _ r h => by simp [chain_Bypass.j1] at h⟩
 | k + 1 => by
  obtain ⟨ih0, ih1⟩ := chain_Bypass.mono_l k
  refine ⟨?_, ?_⟩
  ·intro y0 y1 y2 y3 y4 y5 y6 y7 y8 y9
   unfold chain_Bypass.l0
   repeat' first
   | (with_reducible exact ih0 _ _ _ _ _ _ _ _ _ _)
   | (with_reducible exact ih1 _ _ _ _ _ _)
   | (with_reducible exact LeO.refl _)
   | (with_reducible exact LeO.none _)
   | (with_reducible refine LeO.ite ?_ ?_)
   | (with_reducible refine LeO.bind ?_ (fun _ => ?_))
   | exact ih0 _ _ _ _ _ _ _ _ _ _
   | exact ih1 _ _ _ _ _ _
   | exact LeO.none _
   | refine LeO.ite ?_ ?_
   | refine LeO.bind ?_ (fun _ => ?_)
  ·intro y0 y1 y2 y3 y4 y5
   unfold chain_Bypass.j1
   repeat' first
   | (with_reducible exact ih0 _ _ _ _ _ _ _ _ _ _)
   | (with_reducible exact ih1 _ _ _ _ _ _)
   | (with_reducible exact LeO.refl _)
   | (with_reducible exact LeO.none _)
   | (with_reducible refine LeO.ite ?_ ?_)
   | (with_reducible refine LeO.bind ?_ (fun _ => ?_))
   | exact ih0 _ _ _ _ _ _ _ _ _ _
   | exact ih1 _ _ _ _ _ _
   | exact LeO.none _
   | refine LeO.ite ?_ ?_
   | refine LeO.bind ?_ (fun _ => ?_)
theorem chain_Bypass.mono : ∀ a0 a1 a2 a3 a4 k, LeO (chain_Bypass.f k a0 a1 a2 a3 a4) (chain_Bypass.f (k + 1) a0 a1 a2 a3 a4) := by
 intro a0 a1 a2 a3 a4 k
 obtain ⟨ih0, ih1⟩ := chain_Bypass.mono_l k
 unfold chain_Bypass.f
 repeat' first
   | (with_reducible exact ih0 _ _ _ _ _ _ _ _ _ _)
   | (with_reducible exact ih1 _ _ _ _ _ _)
   | (with_reducible exact LeO.refl _)
   | (with_reducible exact LeO.none _)
   | (with_reducible refine LeO.ite ?_ ?_)
   | (with_reducible refine LeO.bind ?_ (fun _ => ?_))
   | exact ih0 _ _ _ _ _ _ _ _ _ _
   | exact ih1 _ _ _ _ _ _
   | exact LeO.none _
   | refine LeO.ite ?_ ?_
   | refine LeO.bind ?_ (fun _ => ?_)
set_option maxHeartbeats 8000000 in
set_option maxRecDepth 100000 in
theorem chain_Bypass.calls (k : Nat) (A0_0 : Option Addr) (c0_0 : Nat) (l0_0 : List (S48)) (a0_1 : Int) (a1 : Int) (a2 : Int) (a3 : Int) (r1 : List (S48)) (r2 : Int) (r3 : Int) (w : World) (hr0_0 : Kd.C k48 w A0_0 l0_0.length l0_0) (hc0_0 : l0_0.length ≤ c0_0) (h : chain_Bypass.f k l0_0 a0_1 a1 a2 a3 = some (r1, r2, r3)) :
  Calls Try.prog 23 #[.agg #[.slice A0_0 l0_0.length c0_0, .int .i64 a0_1], .int .i64 a1, .int .i64 a2, .int .i64 a3] w fun e w' => ∃ v0_ : Value, e = .returned (.tuple #[.agg #[v0_, .int .i64 r2], .int .i64 r3]) ∧ Kd.R k48 48 w' w.heap.size (fun _ => True) v0_ r1 ∧ Below w.heap.size w w' := by
 have hu24 := Try.underlying24
 have HR0_0 := Aside0.mk hr0_0
 have HC0_0 := Aside0.mk hc0_0
 clear hr0_0 hc0_0
 have HB := Aside0.mk (Below.refl w.heap.size w)
 have H : ((chain_own.f l0_0 a0_1 a1).bind fun bt144 => (chain_Bypass.l0 k a2 a3 bt144.2.2 false (bt144.1.length : Int) 0 l0_0 a0_1 bt144.1 bt144.2.1)) = some (r1, r2, r3) := h
 clear h
 replace H := Option.bind_eq_some_iff.mp H
 obtain ⟨⟨t144, t147, t148⟩, A50, H⟩ := H
 replace H : (chain_Bypass.l0 k a2 a3 t148 false (t144.length : Int) 0 l0_0 a0_1 t144 t147) = some (r1, r2, r3) := H
 have A5 := Aside0.mk A50
 clear A50
 have H' := Aside0.mk H
 clear H
 go_enter Try.func23, Try.ntmps23
 go_wp2_with (first | ((with_reducible refine gate_dst (N := 4) rfl ?_); refine box_event ?hg (N := 4) ?hd (cs := #[.slice A0_0 l0_0.length c0_0, .int .i64 a0_1]) (t := 24) ?hr ?_; (case hd => rfl); (case hg => rfl); (case hr => first | (go_simp; done) | (go_simp; rfl)); intro gb142 hg w6 hbox hb; have n0_ := Aside0.mk (below_step (by repeat (first | (with_reducible first | exact HB.out | apply below_alloc | apply pw_below_drewN | apply below_drew1) | exact HB.out)) hb); have n1_ := Aside0.mk (hbox); have n2_ := Aside0.mk ((by rw [hg]; exact (below_size (by repeat (first | (with_reducible first | exact HB.out | apply below_alloc | apply pw_below_drewN | apply below_drew1) | exact HB.out))) : w.heap.size ≤ gb142)); have n3_ := n2_; clear HB; have HB := n0_; have BK142 := n1_; have GW142 := n2_; have GE142 := n3_; clear n0_ n1_ n2_ n3_; clear hb hbox hg) | ((with_reducible refine gate_dst (N := 8) rfl ?_); refine box_event ?hg (N := 8) ?hd (cs := #[.slice none 0 0, .int .i64 0]) (t := 24) ?hr ?_; (case hd => rfl); (case hg => rfl); (case hr => first | (go_simp; done) | (go_simp; rfl)); intro gb143 hg w7 hbox hb; have n0_ := Aside0.mk (bb_ BK142.out hb); have n1_ := Aside0.mk (below_step (by repeat (first | (with_reducible first | exact HB.out | apply below_alloc | apply pw_below_drewN | apply below_drew1 | refine below_set ?_ GE142.out) | exact HB.out)) hb); have n2_ := Aside0.mk (hbox); have n3_ := Aside0.mk ((by rw [hg]; exact (below_size (by repeat (first | (with_reducible first | exact HB.out | apply below_alloc | apply pw_below_drewN | apply below_drew1 | refine below_set ?_ GE142.out) | exact HB.out))) : w.heap.size ≤ gb143)); have n4_ := n3_; have n5_ := Aside0.mk (nl_ hg BK142.out); have n6_ := Aside0.mk (ng_ hg BK142.out); clear BK142; clear HB; have BK142 := n0_; have HB := n1_; have BK143 := n2_; have GW143 := n3_; have GE143 := n4_; have NB142_143 := n5_; have NB143_142 := n6_; clear n0_ n1_ n2_ n3_ n4_ n5_ n6_; clear hb hbox hg; have hnb8 := NB142_143.out; have hnc8 := NB143_142.out; have hcz9_0 : w7.cell? ⟨gb142, 0, none⟩ = some (.slice A0_0 l0_0.length c0_0) := (blk_cell BK142.out 0).trans rfl; have hcz9_1 : w7.cell? ⟨gb142, 1, none⟩ = some (.int .i64 a0_1) := (blk_cell BK142.out 1).trans rfl; have hfz9_0 := blk_frozen BK142.out 0; have hfz9_1 := blk_frozen BK142.out 1) | ((with_reducible refine gate_callee (f := 38) rfl ?_); refine goesL_ (some 17) rfl rfl Try.func38 (by kernel_rfl) rfl #[.agg #[.slice A0_0 l0_0.length c0_0, .int .i64 a0_1], .int .i64 a1] rfl (by (try simp only [List.map_toArray, List.map_cons, List.map_nil]); first | done | rfl | (simp only [List.length_drop, List.length_take]; rfl)) ?_; (with_reducible refine (chain_own.calls _ _ l0_0 a0_1 a1 t144 t147 t148 _ ?side1 ?side2 A5.out).mono ?_); (case side1 => repeat (first | exact (Kd.C_below HR0_0.out HB.out) | (with_reducible refine Kd.C_alloc ?_ _) | (with_reducible refine Kd.C_drewN ?_ _) | (with_reducible refine Kd.C_drew ?_))); (case side2 => exact HC0_0.out); rintro e w10 ⟨v145, rfl, ho0, hb⟩; refine ⟨_, rfl, ?_⟩; have n0_ := Aside0.mk (Kd.R_lower ho0 (below_size (by repeat (first | (with_reducible first | exact HB.out | apply below_alloc | apply pw_below_drewN | apply below_drew1 | refine below_set ?_ GE142.out | refine below_set ?_ GE143.out) | exact HB.out)))); have n1_ := Aside0.mk (bb_ BK142.out hb); have n2_ := Aside0.mk (bb_ BK143.out hb); have n3_ := Aside0.mk (below_step (by repeat (first | (with_reducible first | exact HB.out | apply below_alloc | apply pw_below_drewN | apply below_drew1 | refine below_set ?_ GE142.out | refine below_set ?_ GE143.out) | exact HB.out)) hb); clear BK142; clear BK143; clear HB; have HO146 := n0_; have BK142 := n1_; have BK143 := n2_; have HB := n3_; clear n0_ n1_ n2_ n3_; (try clear hb); (try clear hb2); (try clear hk); (try clear hi); (try clear ho0)) | ((with_reducible refine gate_dst (N := 10) rfl ?_); refine box_event ?hg (N := 10) ?hd (cs := #[.slice none 0 0, .int .i64 0]) (t := 24) ?hr ?_; (case hd => rfl); (case hg => rfl); (case hr => first | (go_simp; done) | (go_simp; rfl)); intro gb149 hg w11 hbox hb; have n0_ := Aside0.mk (rb_ HO146.out hb); have n1_ := Aside0.mk (bb_ BK142.out hb); have n2_ := Aside0.mk (bb_ BK143.out hb); have n3_ := Aside0.mk (below_step (by repeat (first | (with_reducible first | exact HB.out | apply below_alloc | apply pw_below_drewN | apply below_drew1 | refine below_set ?_ GE142.out | refine below_set ?_ GE143.out) | exact HB.out)) hb); have n4_ := Aside0.mk (hbox); have n5_ := Aside0.mk ((by rw [hg]; exact (below_size (by repeat (first | (with_reducible first | exact HB.out | apply below_alloc | apply pw_below_drewN | apply below_drew1 | refine below_set ?_ GE142.out | refine below_set ?_ GE143.out) | exact HB.out))) : w.heap.size ≤ gb149)); have n6_ := n5_; have n7_ := Aside0.mk (nl_ hg BK142.out); have n8_ := Aside0.mk (ng_ hg BK142.out); have n9_ := Aside0.mk (nl_ hg BK143.out); have n10_ := Aside0.mk (ng_ hg BK143.out); clear HO146; clear BK142; clear BK143; clear HB; have HO146 := n0_; have BK142 := n1_; have BK143 := n2_; have HB := n3_; have BK149 := n4_; have GW149 := n5_; have GE149 := n6_; have NB142_149 := n7_; have NB149_142 := n8_; have NB143_149 := n9_; have NB149_143 := n10_; clear n0_ n1_ n2_ n3_ n4_ n5_ n6_ n7_ n8_ n9_ n10_; clear hb hbox hg; obtain ⟨Ao12, co12, eo12⟩ := Kd.R_slice HO146.out; subst eo12; have hnb13 := NB149_142.out; have hnc13 := NB142_149.out; have hnb14 := NB149_143.out; have hnc14 := NB143_149.out; have hcz15_0 : w11.cell? ⟨gb149, 0, none⟩ = some (.slice none 0 0) := (blk_cell BK149.out 0).trans rfl; have hcz15_1 : w11.cell? ⟨gb149, 1, none⟩ = some (.int .i64 0) := (blk_cell BK149.out 1).trans rfl; have hfz15_0 := blk_frozen BK149.out 0; have hfz15_1 := blk_frozen BK149.out 1))
 go_loopg [12, 23] k (fun kq v12 v23 w' => ∃ (x12_1 : Bool) (x23_1 : Int), v12 = .bool x12_1 ∧ v23 = .int .i64 x23_1 ∧ Aside0 (chain_Bypass.l0 kq a2 a3 t148 x12_1 (t144.length : Int) x23_1 l0_0 a0_1 t144 t147 = some (r1, r2, r3)) ∧ Aside0 (kq ≤ k) ∧ Aside0 (Kd.R k48 48 w' w.heap.size (fun _ => True) (.slice Ao12 t144.length co12) t144) ∧ Aside0 (w'.heap[gb142]? = some (.cells #[(.slice A0_0 l0_0.length c0_0), .int .i64 a0_1] 24 (0, 0))) ∧ Aside0 (w'.heap[gb143]? = some (.cells #[(.slice none 0 0), .int .i64 0] 24 (0, 0))) ∧ Aside0 (w'.heap[gb149]? = some (.cells #[(.slice Ao12 t144.length co12), .int .i64 t147] 24 (0, 0))) ∧ Aside0 (Below w.heap.size w w'))
 case atStart => exact ⟨(false), (0), (by first | rfl | (simp; done) | (simp [*]; done)), (by first | rfl | (simp; done) | (simp [*]; done)), H', ⟨Nat.le_refl _⟩, ⟨by (with_reducible repeat (first | apply Kd.R_alloc | apply Kd.R_drewN | apply Kd.R_drew)); exact Kd.R_mono (Kd.R_far (p := ⟨gb149, 1, none⟩) (Kd.R_far (p := ⟨gb149, 0, none⟩) (Kd.R_types HO146.out BK149.out (by decide)) (fun _ hk => hk.2) (.slice Ao12 t144.length co12)) (fun _ hk => hk.2) (.int .i64 t147)) (fun _ hk => trivial)⟩, ⟨by (with_reducible repeat (first | refine blk_drewN ?_ _ | refine blk_drew ?_ | refine blk_alloc ?_ _)); refine blk_far ?_ NB142_149.out _; (with_reducible repeat (first | refine blk_drewN ?_ _ | refine blk_drew ?_ | refine blk_alloc ?_ _)); refine blk_far ?_ NB142_149.out _; (with_reducible repeat (first | refine blk_drewN ?_ _ | refine blk_drew ?_ | refine blk_alloc ?_ _)); exact BK142.out⟩, ⟨by (with_reducible repeat (first | refine blk_drewN ?_ _ | refine blk_drew ?_ | refine blk_alloc ?_ _)); refine blk_far ?_ NB143_149.out _; (with_reducible repeat (first | refine blk_drewN ?_ _ | refine blk_drew ?_ | refine blk_alloc ?_ _)); refine blk_far ?_ NB143_149.out _; (with_reducible repeat (first | refine blk_drewN ?_ _ | refine blk_drew ?_ | refine blk_alloc ?_ _)); exact BK143.out⟩, ⟨by (with_reducible repeat (first | refine blk_drewN ?_ _ | refine blk_drew ?_ | refine blk_alloc ?_ _)); refine blk_put (cs := #[.slice Ao12 t144.length co12, .int .i64 0]) ?_ 1 _ rfl; (with_reducible repeat (first | refine blk_drewN ?_ _ | refine blk_drew ?_ | refine blk_alloc ?_ _)); refine blk_put (cs := #[.slice none 0 0, .int .i64 0]) ?_ 0 _ rfl; (with_reducible repeat (first | refine blk_drewN ?_ _ | refine blk_drew ?_ | refine blk_alloc ?_ _)); exact BK149.out⟩, ⟨by repeat (first | (with_reducible first | exact HB.out | apply below_alloc | apply pw_below_drewN | apply below_drew1 | refine below_set ?_ GE142.out | refine below_set ?_ GE143.out | refine below_set ?_ GE149.out) | exact HB.out)⟩⟩
 case round =>
  clear H'
  try clear c1
  try clear c2
  try clear p2
  try clear c3
  try clear c8
  try clear c13
  try clear c14
  try clear hcz15_0
  try clear hcz15_1
  try clear hcz9_0
  try clear hcz9_1
  try clear hfz15_0
  try clear hfz15_1
  try clear hfz9_0
  try clear hfz9_1
  obtain ⟨x12_1, x23_1, rfl, rfl, HA, HK1, HO_150000, BK142, BK143, BK149, HB⟩ := hrel
  cases gk with
  | zero => exact absurd HA.out (by simp [chain_Bypass.l0])
  | succ k1 =>
   have H := HA.out; clear HA
   simp only [chain_Bypass.l0] at H
   by_cases c16 : x23_1 < (t144.length : Int)
   ·rw [if_pos c16] at H
    have c16b0 : decide (x23_1 < (t144.length : Int)) = true := decide_eq_true c16; clear c16
    by_cases c17 : x12_1 = true
    ·subst c17
     have H1 : (chain_Bypass.l0 k1 a2 a3 t148 true (t144.length : Int) (wrap64 (x23_1 + 1)) l0_0 a0_1 t144 t147) = some (r1, r2, r3) := by rw [if_pos rfl] at H; exact H
     clear H; have H := H1; clear H1; have H' := Aside0.mk H; clear H
     go_wp2
     go_roundg k1
     case measure => have := HK1.out; omega
     case rel => exact ⟨(true), (wrap64 (x23_1 + 1)), (by first | rfl | (simp; done) | (simp [*]; done)), (by first | rfl | (simp; done) | (simp [*]; done)), H', ⟨by have := HK1.out; omega⟩, ⟨by (with_reducible repeat (first | apply Kd.R_alloc | apply Kd.R_drewN | apply Kd.R_drew)); exact HO_150000.out⟩, ⟨by (with_reducible repeat (first | refine blk_drewN ?_ _ | refine blk_drew ?_ | refine blk_alloc ?_ _)); exact BK142.out⟩, ⟨by (with_reducible repeat (first | refine blk_drewN ?_ _ | refine blk_drew ?_ | refine blk_alloc ?_ _)); exact BK143.out⟩, ⟨by (with_reducible repeat (first | refine blk_drewN ?_ _ | refine blk_drew ?_ | refine blk_alloc ?_ _)); exact BK149.out⟩, ⟨by repeat (first | (with_reducible first | exact HB.out | apply below_alloc | apply pw_below_drewN | apply below_drew1 | refine below_set ?_ GE142.out | refine below_set ?_ GE143.out | refine below_set ?_ GE149.out) | exact HB.out)⟩⟩
    ·replace c17 := Bool.eq_false_iff.mpr c17
     subst c17; have H1 : (if x23_1 = t148 then (chain_Bypass.l0 k1 a2 a3 t148 false (t144.length : Int) (wrap64 (x23_1 + 1)) l0_0 a0_1 t144 t147) else (if 0 ≤ x23_1 then (if x23_1 < (t144.length : Int) then (chain_Bypass.l0 k1 a2 a3 t148 (((rd_T48 t144 x23_1).f4) != 0) (t144.length : Int) (wrap64 (x23_1 + 1)) l0_0 a0_1 t144 t147) else (none)) else (none))) = some (r1, r2, r3) := by rw [if_neg (show ¬ (false = true) by decide)] at H; exact H
     clear H; have H := H1; clear H1
     by_cases c18 : x23_1 = t148
     ·rw [if_pos c18] at H
      have c18b0 : (x23_1 == t148) = true := beq_iff_eq.mpr c18; have c18b1 : (x23_1 != t148) = false := bne_eq_false_iff_eq.mpr c18; clear c18; have H' := Aside0.mk H; clear H
      go_wp2
      go_roundg k1
      case measure => have := HK1.out; omega
      case rel => exact ⟨(false), (wrap64 (x23_1 + 1)), (by first | rfl | (simp; done) | (simp [*]; done)), (by first | rfl | (simp; done) | (simp [*]; done)), H', ⟨by have := HK1.out; omega⟩, ⟨by (with_reducible repeat (first | apply Kd.R_alloc | apply Kd.R_drewN | apply Kd.R_drew)); exact HO_150000.out⟩, ⟨by (with_reducible repeat (first | refine blk_drewN ?_ _ | refine blk_drew ?_ | refine blk_alloc ?_ _)); exact BK142.out⟩, ⟨by (with_reducible repeat (first | refine blk_drewN ?_ _ | refine blk_drew ?_ | refine blk_alloc ?_ _)); exact BK143.out⟩, ⟨by (with_reducible repeat (first | refine blk_drewN ?_ _ | refine blk_drew ?_ | refine blk_alloc ?_ _)); exact BK149.out⟩, ⟨by repeat (first | (with_reducible first | exact HB.out | apply below_alloc | apply pw_below_drewN | apply below_drew1 | refine below_set ?_ GE142.out | refine below_set ?_ GE143.out | refine below_set ?_ GE149.out) | exact HB.out)⟩⟩
     ·rw [if_neg c18] at H
      have c18b0 : (x23_1 == t148) = false := beq_eq_false_iff_ne.mpr c18; have c18b1 : (x23_1 != t148) = true := bne_iff_ne.mpr c18
      by_cases c19 : 0 ≤ x23_1
      ·rw [if_pos c19] at H
       have c19b0 : decide (0 ≤ x23_1) = true := decide_eq_true c19; clear c19
       by_cases c20 : x23_1 < (t144.length : Int)
       ·rw [if_pos c20] at H
        have c20b0 : decide (x23_1 < (t144.length : Int)) = true := decide_eq_true c20; clear c20; have H' := Aside0.mk H; clear H; have hnb21 := NB149_142.out; have hnc21 := NB142_149.out; have hnb22 := NB149_143.out; have hnc22 := NB143_149.out; have hcz23_0 : wr.cell? ⟨gb149, 0, none⟩ = some (.slice Ao12 t144.length co12) := (blk_cell BK149.out 0).trans rfl; have hcz23_1 : wr.cell? ⟨gb149, 1, none⟩ = some (.int .i64 t147) := (blk_cell BK149.out 1).trans rfl; have hfz23_0 := blk_frozen BK149.out 0; have hfz23_1 := blk_frozen BK149.out 1; have p150 : 0 ≤ (x23_1 : Int) := of_decide_eq_true (by first | (with_reducible assumption) | assumption)
        have q150 : x23_1 < (t144.length : Int) := of_decide_eq_true (by first | (with_reducible assumption) | assumption)
        obtain ⟨ad150, e150, hx150_0, hx150_1, hx150_2, hx150_3, hx150_4⟩ := at_T48 (Kd.R_reads' HO_150000.out).2.2 x23_1 p150 q150
        cases e150
        replace p150 := eq_true p150
        replace q150 := eq_true q150
        go_wp2
        go_roundg k1
        case measure => have := HK1.out; omega
        case rel => exact ⟨((((rd_T48 t144 x23_1).f4) != 0)), (wrap64 (x23_1 + 1)), (by first | rfl | (simp; done) | (simp [*]; done)), (by first | rfl | (simp; done) | (simp [*]; done)), H', ⟨by have := HK1.out; omega⟩, ⟨by (with_reducible repeat (first | apply Kd.R_alloc | apply Kd.R_drewN | apply Kd.R_drew)); exact HO_150000.out⟩, ⟨by (with_reducible repeat (first | refine blk_drewN ?_ _ | refine blk_drew ?_ | refine blk_alloc ?_ _)); exact BK142.out⟩, ⟨by (with_reducible repeat (first | refine blk_drewN ?_ _ | refine blk_drew ?_ | refine blk_alloc ?_ _)); exact BK143.out⟩, ⟨by (with_reducible repeat (first | refine blk_drewN ?_ _ | refine blk_drew ?_ | refine blk_alloc ?_ _)); exact BK149.out⟩, ⟨by repeat (first | (with_reducible first | exact HB.out | apply below_alloc | apply pw_below_drewN | apply below_drew1 | refine below_set ?_ GE142.out | refine below_set ?_ GE143.out | refine below_set ?_ GE149.out) | exact HB.out)⟩⟩
       ·rw [if_neg c20] at H
        exact absurd H (by simp)
      ·rw [if_neg c19] at H
       exact absurd H (by simp)
   ·rw [if_neg c16] at H
    have c16b0 : decide (x23_1 < (t144.length : Int)) = false := decide_eq_false c16; clear c16
    by_cases c24 : t148 < 0
    ·rw [if_pos c24] at H
     have c24b0 : decide (t148 < 0) = true := decide_eq_true c24; clear c24
     simp only [Option.some.injEq, Prod.mk.injEq] at H
     obtain ⟨rfl, rfl, rfl⟩ := H
     have hnb25 := NB143_142.out; have hnc25 := NB142_143.out; have hnb26 := NB143_149.out; have hnc26 := NB149_143.out; have hcz27_0 : wr.cell? ⟨gb143, 0, none⟩ = some (.slice none 0 0) := (blk_cell BK143.out 0).trans rfl; have hcz27_1 : wr.cell? ⟨gb143, 1, none⟩ = some (.int .i64 0) := (blk_cell BK143.out 1).trans rfl; have hfz27_0 := blk_frozen BK143.out 0; have hfz27_1 := blk_frozen BK143.out 1
     go_wp2
     refine bodyPost_ret (results_ct rfl _ _ gb143 24 #[.slice none 0 0, .int .i64 0] (0, 0) _ rfl (by (with_reducible repeat (first | refine blk_drewN ?_ _ | refine blk_drew ?_ | refine blk_alloc ?_ _)); refine blk_put (cs := #[.slice none 0 0, .int .i64 0]) ?_ 1 _ rfl; (with_reducible repeat (first | refine blk_drewN ?_ _ | refine blk_drew ?_ | refine blk_alloc ?_ _)); refine blk_put (cs := #[.slice none 0 0, .int .i64 0]) ?_ 0 _ rfl; (with_reducible repeat (first | refine blk_drewN ?_ _ | refine blk_drew ?_ | refine blk_alloc ?_ _)); exact BK143.out) Try.underlying24 rfl (by kernel_rfl)) rfl ?_
     exact ⟨_, by first | rfl | (simp [errW_none, errW_some] <;> rfl) | (simp [*, errW_none, errW_some] <;> rfl), by first | exact Kd.R_nil _ _ _ _ _ | exact Kd.N_nil _ _ _ _ _ | exact Kd.V_nil _ _ _ _ _ | exact Kd.Q_nil _ _ _ _ _ | exact Kd.S_nil _ _ _ _ _, by repeat (first | (with_reducible first | exact HB.out | apply below_alloc | apply pw_below_drewN | apply below_drew1 | refine below_set ?_ GE142.out | refine below_set ?_ GE143.out | refine below_set ?_ GE149.out) | exact HB.out)⟩
    ·rw [if_neg c24] at H
     have c24b0 : decide (t148 < 0) = false := decide_eq_false c24; clear c24; have HC28 := Aside0.mk H; clear H
     go_upto_region 10 with (fail)
     go_cut [46] (fun v46 wc => ∃ (kq : Nat) (x46_27 : Bool), v46 = .bool x46_27 ∧ Aside0 (chain_Bypass.j1 kq a3 t148 x12_1 x46_27 t144 t147 = some (r1, r2, r3)) ∧ Aside0 (kq ≤ k1) ∧ Aside0 (Kd.R k48 48 wc w.heap.size (fun _ => True) (.slice Ao12 t144.length co12) t144) ∧ Aside0 (wc.heap[gb142]? = some (.cells #[(.slice A0_0 l0_0.length c0_0), .int .i64 a0_1] 24 (0, 0))) ∧ Aside0 (wc.heap[gb143]? = some (.cells #[(.slice none 0 0), .int .i64 0] 24 (0, 0))) ∧ Aside0 (wc.heap[gb149]? = some (.cells #[(.slice Ao12 t144.length co12), .int .i64 t147] 24 (0, 0))) ∧ Aside0 (Below w.heap.size w wc))
     case first =>
      have H := HC28.out; clear HC28
      by_cases c29 : a2 = 0
      ·rw [if_pos c29] at H
       have c29b0 : (a2 == 0) = true := beq_iff_eq.mpr c29; have c29b1 : (a2 != 0) = false := bne_eq_false_iff_eq.mpr c29; clear c29
       (first | rw [c29b0] | (simp only [i64_w, i32_w]; rw [c29b0]) | skip)
       have H' := Aside0.mk H; clear H
       go_wp2
       go_meet
       case rel => exact ⟨_, (true), (by first | rfl | (simp; done) | (simp [*]; done)), H', ⟨by have := HK1.out; first | omega | exact Nat.le_refl _⟩, ⟨by (with_reducible repeat (first | apply Kd.R_alloc | apply Kd.R_drewN | apply Kd.R_drew)); exact HO_150000.out⟩, ⟨by (with_reducible repeat (first | refine blk_drewN ?_ _ | refine blk_drew ?_ | refine blk_alloc ?_ _)); exact BK142.out⟩, ⟨by (with_reducible repeat (first | refine blk_drewN ?_ _ | refine blk_drew ?_ | refine blk_alloc ?_ _)); exact BK143.out⟩, ⟨by (with_reducible repeat (first | refine blk_drewN ?_ _ | refine blk_drew ?_ | refine blk_alloc ?_ _)); exact BK149.out⟩, ⟨by repeat (first | (with_reducible first | exact HB.out | apply below_alloc | apply pw_below_drewN | apply below_drew1 | refine below_set ?_ GE142.out | refine below_set ?_ GE143.out | refine below_set ?_ GE149.out) | exact HB.out)⟩⟩
      ·rw [if_neg c29] at H
       have c29b0 : (a2 == 0) = false := beq_eq_false_iff_ne.mpr c29; have c29b1 : (a2 != 0) = true := bne_iff_ne.mpr c29
       (first | rw [c29b0] | (simp only [i64_w, i32_w]; rw [c29b0]) | skip)
       have H' := Aside0.mk H; clear H; have hnb30 := NB142_143.out; have hnc30 := NB143_142.out; have hnb31 := NB142_149.out; have hnc31 := NB149_142.out; have hcz32_0 : wr.cell? ⟨gb142, 0, none⟩ = some (.slice A0_0 l0_0.length c0_0) := (blk_cell BK142.out 0).trans rfl; have hcz32_1 : wr.cell? ⟨gb142, 1, none⟩ = some (.int .i64 a0_1) := (blk_cell BK142.out 1).trans rfl; have hfz32_0 := blk_frozen BK142.out 0; have hfz32_1 := blk_frozen BK142.out 1
       go_wp2
       go_meet
       case rel => exact ⟨_, ((a2 != a0_1)), (by first | rfl | (simp; done) | (simp [*]; done)), H', ⟨by have := HK1.out; first | omega | exact Nat.le_refl _⟩, ⟨by (with_reducible repeat (first | apply Kd.R_alloc | apply Kd.R_drewN | apply Kd.R_drew)); exact HO_150000.out⟩, ⟨by (with_reducible repeat (first | refine blk_drewN ?_ _ | refine blk_drew ?_ | refine blk_alloc ?_ _)); exact BK142.out⟩, ⟨by (with_reducible repeat (first | refine blk_drewN ?_ _ | refine blk_drew ?_ | refine blk_alloc ?_ _)); exact BK143.out⟩, ⟨by (with_reducible repeat (first | refine blk_drewN ?_ _ | refine blk_drew ?_ | refine blk_alloc ?_ _)); exact BK149.out⟩, ⟨by repeat (first | (with_reducible first | exact HB.out | apply below_alloc | apply pw_below_drewN | apply below_drew1 | refine below_set ?_ GE142.out | refine below_set ?_ GE143.out | refine below_set ?_ GE149.out) | exact HB.out)⟩⟩
     case rest =>
      clear HC28
      try clear c1
      try clear p1
      try clear q1
      try clear hx1
      try clear c2
      try clear p2
      try clear c3
      try clear p6
      try clear c8
      try clear c13
      try clear c14
      try clear p15
      try clear q15
      try clear hx15
      try clear c16
      try clear c16b0
      try clear c17
      try clear c18
      try clear c18b0
      try clear c18b1
      try clear c19
      try clear c19b0
      try clear c20
      try clear c20b0
      try clear c21
      try clear c22
      try clear c23
      try clear c24
      try clear c24b0
      try clear c25
      try clear c26
      try clear c29
      try clear c29b0
      try clear c29b1
      try clear c30
      try clear c31
      try clear hcz15_0
      try clear hcz15_1
      try clear hcz23_0
      try clear hcz23_1
      try clear hcz27_0
      try clear hcz27_1
      try clear hcz32_0
      try clear hcz32_1
      try clear hcz9_0
      try clear hcz9_1
      try clear hfz15_0
      try clear hfz15_1
      try clear hfz23_0
      try clear hfz23_1
      try clear hfz27_0
      try clear hfz27_1
      try clear hfz32_0
      try clear hfz32_1
      try clear hfz9_0
      try clear hfz9_1
      try clear hx150_0
      try clear hx150_1
      try clear hx150_2
      try clear hx150_3
      try clear hx150_4
      try clear p150
      try clear p2
      try clear q150
      obtain ⟨kq, x46_27, rfl, HA, HJ27, HO_150000, BK142, BK143, BK149, HB⟩ := hcut
      cases kq with
      | zero => exact absurd HA.out (by simp [chain_Bypass.j1])
      | succ kj27 =>
       have H := HA.out; clear HA
       simp only [chain_Bypass.j1] at H
       by_cases c33 : x46_27 = true
       ·subst c33
        have H1 : (some (([] : List (S48)), 0, 17)) = some (r1, r2, r3) := by rw [if_pos rfl] at H; exact H
        clear H; have H := H1; clear H1
        simp only [Option.some.injEq, Prod.mk.injEq] at H
        obtain ⟨rfl, rfl, rfl⟩ := H
        have hnb34 := NB143_142.out; have hnc34 := NB142_143.out; have hnb35 := NB143_149.out; have hnc35 := NB149_143.out; have hcz36_0 : wc.cell? ⟨gb143, 0, none⟩ = some (.slice none 0 0) := (blk_cell BK143.out 0).trans rfl; have hcz36_1 : wc.cell? ⟨gb143, 1, none⟩ = some (.int .i64 0) := (blk_cell BK143.out 1).trans rfl; have hfz36_0 := blk_frozen BK143.out 0; have hfz36_1 := blk_frozen BK143.out 1
        go_wp2
        refine bodyPost_ret (results_ct rfl _ _ gb143 24 #[.slice none 0 0, .int .i64 0] (0, 0) _ rfl (by (with_reducible repeat (first | refine blk_drewN ?_ _ | refine blk_drew ?_ | refine blk_alloc ?_ _)); refine blk_put (cs := #[.slice none 0 0, .int .i64 0]) ?_ 1 _ rfl; (with_reducible repeat (first | refine blk_drewN ?_ _ | refine blk_drew ?_ | refine blk_alloc ?_ _)); refine blk_put (cs := #[.slice none 0 0, .int .i64 0]) ?_ 0 _ rfl; (with_reducible repeat (first | refine blk_drewN ?_ _ | refine blk_drew ?_ | refine blk_alloc ?_ _)); exact BK143.out) Try.underlying24 rfl (by kernel_rfl)) rfl ?_
        exact ⟨_, by first | rfl | (simp [errW_none, errW_some] <;> rfl) | (simp [*, errW_none, errW_some] <;> rfl), by first | exact Kd.R_nil _ _ _ _ _ | exact Kd.N_nil _ _ _ _ _ | exact Kd.V_nil _ _ _ _ _ | exact Kd.Q_nil _ _ _ _ _ | exact Kd.S_nil _ _ _ _ _, by repeat (first | (with_reducible first | exact HB.out | apply below_alloc | apply pw_below_drewN | apply below_drew1 | refine below_set ?_ GE142.out | refine below_set ?_ GE143.out | refine below_set ?_ GE149.out) | exact HB.out)⟩
       ·replace c33 := Bool.eq_false_iff.mpr c33
        subst c33; have H1 : (if 0 ≤ t148 then (if t148 < (t144.length : Int) then (if (rd_T48 t144 t148).f1 = true then (some (([] : List (S48)), 0, 13)) else (if x12_1 = true then (some (([] : List (S48)), 0, 15)) else (if a3 < 1 then (some (([] : List (S48)), 0, 2)) else (if a3 > 20000000 then (some (([] : List (S48)), 0, 2)) else (some ((t144.set (t148 : Int).toNat (⟨(rd_T48 t144 t148).f0, (rd_T48 t144 t148).f1, (rd_T48 t144 t148).f2, (rd_T48 t144 t148).f3, a3⟩ : S48)), t147, 0)))))) else (none)) else (none)) = some (r1, r2, r3) := by rw [if_neg (show ¬ (false = true) by decide)] at H; exact H
        clear H; have H := H1; clear H1
        by_cases c37 : 0 ≤ t148
        ·rw [if_pos c37] at H
         have c37b0 : decide (0 ≤ t148) = true := decide_eq_true c37; clear c37
         by_cases c38 : t148 < (t144.length : Int)
         ·rw [if_pos c38] at H
          have c38b0 : decide (t148 < (t144.length : Int)) = true := decide_eq_true c38; clear c38
          obtain ⟨bq39, hbq39⟩ : ∃ b_ : Bool, b_ = ((rd_T48 t144 t148).f1) := ⟨_, rfl⟩
          replace H : (if bq39 = true then (some (([] : List (S48)), 0, 13)) else (if x12_1 = true then (some (([] : List (S48)), 0, 15)) else (if a3 < 1 then (some (([] : List (S48)), 0, 2)) else (if a3 > 20000000 then (some (([] : List (S48)), 0, 2)) else (some ((t144.set (t148 : Int).toNat (⟨(rd_T48 t144 t148).f0, bq39, (rd_T48 t144 t148).f2, (rd_T48 t144 t148).f3, a3⟩ : S48)), t147, 0)))))) = some (r1, r2, r3) := by rw [← hbq39] at H; exact H
          have Nbq39 := Aside0.mk hbq39; clear hbq39
          by_cases c40 : bq39 = true
          ·subst c40
           have H1 : (some (([] : List (S48)), 0, 13)) = some (r1, r2, r3) := by rw [if_pos rfl] at H; exact H
           clear H; have H := H1; clear H1
           simp only [Option.some.injEq, Prod.mk.injEq] at H
           obtain ⟨rfl, rfl, rfl⟩ := H
           have hnb41 := NB149_142.out; have hnc41 := NB142_149.out; have hnb42 := NB149_143.out; have hnc42 := NB143_149.out; have hcz43_0 : wc.cell? ⟨gb149, 0, none⟩ = some (.slice Ao12 t144.length co12) := (blk_cell BK149.out 0).trans rfl; have hcz43_1 : wc.cell? ⟨gb149, 1, none⟩ = some (.int .i64 t147) := (blk_cell BK149.out 1).trans rfl; have hfz43_0 := blk_frozen BK149.out 0; have hfz43_1 := blk_frozen BK149.out 1; have p151 : 0 ≤ (t148 : Int) := of_decide_eq_true (by first | (with_reducible assumption) | assumption)
           have q151 : t148 < (t144.length : Int) := of_decide_eq_true (by first | (with_reducible assumption) | assumption)
           obtain ⟨ad151, e151, hx151_0, hx151_1, hx151_2, hx151_3, hx151_4⟩ := at_T48 (Kd.R_reads' HO_150000.out).2.2 t148 p151 q151
           (try rw [← Nbq39.out] at hx151_1)
           (try rw [← Nbq39.out] at hx151_2)
           (try rw [← Nbq39.out] at hx151_3)
           cases e151
           replace p151 := eq_true p151
           replace q151 := eq_true q151
           have hnb44 := NB143_142.out; have hnc44 := NB142_143.out; have hcz45_0 : wc.cell? ⟨gb143, 0, none⟩ = some (.slice none 0 0) := (blk_cell BK143.out 0).trans rfl; have hcz45_1 : wc.cell? ⟨gb143, 1, none⟩ = some (.int .i64 0) := (blk_cell BK143.out 1).trans rfl; have hfz45_0 := blk_frozen BK143.out 0; have hfz45_1 := blk_frozen BK143.out 1
           go_wp2
           refine bodyPost_ret (results_ct rfl _ _ gb143 24 #[.slice none 0 0, .int .i64 0] (0, 0) _ rfl (by (with_reducible repeat (first | refine blk_drewN ?_ _ | refine blk_drew ?_ | refine blk_alloc ?_ _)); refine blk_put (cs := #[.slice none 0 0, .int .i64 0]) ?_ 1 _ rfl; (with_reducible repeat (first | refine blk_drewN ?_ _ | refine blk_drew ?_ | refine blk_alloc ?_ _)); refine blk_put (cs := #[.slice none 0 0, .int .i64 0]) ?_ 0 _ rfl; (with_reducible repeat (first | refine blk_drewN ?_ _ | refine blk_drew ?_ | refine blk_alloc ?_ _)); exact BK143.out) Try.underlying24 rfl (by kernel_rfl)) rfl ?_
           exact ⟨_, by first | rfl | (simp [errW_none, errW_some] <;> rfl) | (simp [*, errW_none, errW_some] <;> rfl), by first | exact Kd.R_nil _ _ _ _ _ | exact Kd.N_nil _ _ _ _ _ | exact Kd.V_nil _ _ _ _ _ | exact Kd.Q_nil _ _ _ _ _ | exact Kd.S_nil _ _ _ _ _, by repeat (first | (with_reducible first | exact HB.out | apply below_alloc | apply pw_below_drewN | apply below_drew1 | refine below_set ?_ GE142.out | refine below_set ?_ GE143.out | refine below_set ?_ GE149.out) | exact HB.out)⟩
          ·replace c40 := Bool.eq_false_iff.mpr c40
           subst c40; have H1 : (if x12_1 = true then (some (([] : List (S48)), 0, 15)) else (if a3 < 1 then (some (([] : List (S48)), 0, 2)) else (if a3 > 20000000 then (some (([] : List (S48)), 0, 2)) else (some ((t144.set (t148 : Int).toNat (⟨(rd_T48 t144 t148).f0, false, (rd_T48 t144 t148).f2, (rd_T48 t144 t148).f3, a3⟩ : S48)), t147, 0))))) = some (r1, r2, r3) := by rw [if_neg (show ¬ (false = true) by decide)] at H; exact H
           clear H; have H := H1; clear H1
           by_cases c46 : x12_1 = true
           ·subst c46
            have H1 : (some (([] : List (S48)), 0, 15)) = some (r1, r2, r3) := by rw [if_pos rfl] at H; exact H
            clear H; have H := H1; clear H1
            simp only [Option.some.injEq, Prod.mk.injEq] at H
            obtain ⟨rfl, rfl, rfl⟩ := H
            have hnb47 := NB149_142.out; have hnc47 := NB142_149.out; have hnb48 := NB149_143.out; have hnc48 := NB143_149.out; have hcz49_0 : wc.cell? ⟨gb149, 0, none⟩ = some (.slice Ao12 t144.length co12) := (blk_cell BK149.out 0).trans rfl; have hcz49_1 : wc.cell? ⟨gb149, 1, none⟩ = some (.int .i64 t147) := (blk_cell BK149.out 1).trans rfl; have hfz49_0 := blk_frozen BK149.out 0; have hfz49_1 := blk_frozen BK149.out 1; have p151 : 0 ≤ (t148 : Int) := of_decide_eq_true (by first | (with_reducible assumption) | assumption)
            have q151 : t148 < (t144.length : Int) := of_decide_eq_true (by first | (with_reducible assumption) | assumption)
            obtain ⟨ad151, e151, hx151_0, hx151_1, hx151_2, hx151_3, hx151_4⟩ := at_T48 (Kd.R_reads' HO_150000.out).2.2 t148 p151 q151
            (try rw [← Nbq39.out] at hx151_1)
            (try rw [← Nbq39.out] at hx151_2)
            (try rw [← Nbq39.out] at hx151_3)
            cases e151
            replace p151 := eq_true p151
            replace q151 := eq_true q151
            have hnb50 := NB143_142.out; have hnc50 := NB142_143.out; have hcz51_0 : wc.cell? ⟨gb143, 0, none⟩ = some (.slice none 0 0) := (blk_cell BK143.out 0).trans rfl; have hcz51_1 : wc.cell? ⟨gb143, 1, none⟩ = some (.int .i64 0) := (blk_cell BK143.out 1).trans rfl; have hfz51_0 := blk_frozen BK143.out 0; have hfz51_1 := blk_frozen BK143.out 1
            go_wp2
            refine bodyPost_ret (results_ct rfl _ _ gb143 24 #[.slice none 0 0, .int .i64 0] (0, 0) _ rfl (by (with_reducible repeat (first | refine blk_drewN ?_ _ | refine blk_drew ?_ | refine blk_alloc ?_ _)); refine blk_put (cs := #[.slice none 0 0, .int .i64 0]) ?_ 1 _ rfl; (with_reducible repeat (first | refine blk_drewN ?_ _ | refine blk_drew ?_ | refine blk_alloc ?_ _)); refine blk_put (cs := #[.slice none 0 0, .int .i64 0]) ?_ 0 _ rfl; (with_reducible repeat (first | refine blk_drewN ?_ _ | refine blk_drew ?_ | refine blk_alloc ?_ _)); exact BK143.out) Try.underlying24 rfl (by kernel_rfl)) rfl ?_
            exact ⟨_, by first | rfl | (simp [errW_none, errW_some] <;> rfl) | (simp [*, errW_none, errW_some] <;> rfl), by first | exact Kd.R_nil _ _ _ _ _ | exact Kd.N_nil _ _ _ _ _ | exact Kd.V_nil _ _ _ _ _ | exact Kd.Q_nil _ _ _ _ _ | exact Kd.S_nil _ _ _ _ _, by repeat (first | (with_reducible first | exact HB.out | apply below_alloc | apply pw_below_drewN | apply below_drew1 | refine below_set ?_ GE142.out | refine below_set ?_ GE143.out | refine below_set ?_ GE149.out) | exact HB.out)⟩
           ·replace c46 := Bool.eq_false_iff.mpr c46
            subst c46; have H1 : (if a3 < 1 then (some (([] : List (S48)), 0, 2)) else (if a3 > 20000000 then (some (([] : List (S48)), 0, 2)) else (some ((t144.set (t148 : Int).toNat (⟨(rd_T48 t144 t148).f0, false, (rd_T48 t144 t148).f2, (rd_T48 t144 t148).f3, a3⟩ : S48)), t147, 0)))) = some (r1, r2, r3) := by rw [if_neg (show ¬ (false = true) by decide)] at H; exact H
            clear H; have H := H1; clear H1
            by_cases c52 : a3 < 1
            ·rw [if_pos c52] at H
             have c52b0 : decide (a3 < 1) = true := decide_eq_true c52; clear c52
             simp only [Option.some.injEq, Prod.mk.injEq] at H
             obtain ⟨rfl, rfl, rfl⟩ := H
             have hnb53 := NB149_142.out; have hnc53 := NB142_149.out; have hnb54 := NB149_143.out; have hnc54 := NB143_149.out; have hcz55_0 : wc.cell? ⟨gb149, 0, none⟩ = some (.slice Ao12 t144.length co12) := (blk_cell BK149.out 0).trans rfl; have hcz55_1 : wc.cell? ⟨gb149, 1, none⟩ = some (.int .i64 t147) := (blk_cell BK149.out 1).trans rfl; have hfz55_0 := blk_frozen BK149.out 0; have hfz55_1 := blk_frozen BK149.out 1; have p151 : 0 ≤ (t148 : Int) := of_decide_eq_true (by first | (with_reducible assumption) | assumption)
             have q151 : t148 < (t144.length : Int) := of_decide_eq_true (by first | (with_reducible assumption) | assumption)
             obtain ⟨ad151, e151, hx151_0, hx151_1, hx151_2, hx151_3, hx151_4⟩ := at_T48 (Kd.R_reads' HO_150000.out).2.2 t148 p151 q151
             (try rw [← Nbq39.out] at hx151_1)
             (try rw [← Nbq39.out] at hx151_2)
             (try rw [← Nbq39.out] at hx151_3)
             cases e151
             replace p151 := eq_true p151
             replace q151 := eq_true q151
             have hnb56 := NB143_142.out; have hnc56 := NB142_143.out; have hcz57_0 : wc.cell? ⟨gb143, 0, none⟩ = some (.slice none 0 0) := (blk_cell BK143.out 0).trans rfl; have hcz57_1 : wc.cell? ⟨gb143, 1, none⟩ = some (.int .i64 0) := (blk_cell BK143.out 1).trans rfl; have hfz57_0 := blk_frozen BK143.out 0; have hfz57_1 := blk_frozen BK143.out 1
             go_wp2
             refine bodyPost_ret (results_ct rfl _ _ gb143 24 #[.slice none 0 0, .int .i64 0] (0, 0) _ rfl (by (with_reducible repeat (first | refine blk_drewN ?_ _ | refine blk_drew ?_ | refine blk_alloc ?_ _)); refine blk_put (cs := #[.slice none 0 0, .int .i64 0]) ?_ 1 _ rfl; (with_reducible repeat (first | refine blk_drewN ?_ _ | refine blk_drew ?_ | refine blk_alloc ?_ _)); refine blk_put (cs := #[.slice none 0 0, .int .i64 0]) ?_ 0 _ rfl; (with_reducible repeat (first | refine blk_drewN ?_ _ | refine blk_drew ?_ | refine blk_alloc ?_ _)); exact BK143.out) Try.underlying24 rfl (by kernel_rfl)) rfl ?_
             exact ⟨_, by first | rfl | (simp [errW_none, errW_some] <;> rfl) | (simp [*, errW_none, errW_some] <;> rfl), by first | exact Kd.R_nil _ _ _ _ _ | exact Kd.N_nil _ _ _ _ _ | exact Kd.V_nil _ _ _ _ _ | exact Kd.Q_nil _ _ _ _ _ | exact Kd.S_nil _ _ _ _ _, by repeat (first | (with_reducible first | exact HB.out | apply below_alloc | apply pw_below_drewN | apply below_drew1 | refine below_set ?_ GE142.out | refine below_set ?_ GE143.out | refine below_set ?_ GE149.out) | exact HB.out)⟩
            ·rw [if_neg c52] at H
             have c52b0 : decide (a3 < 1) = false := decide_eq_false c52; clear c52
             by_cases c58 : a3 > 20000000
             ·rw [if_pos c58] at H
              have c58b0 : decide (20000000 < a3) = true := decide_eq_true c58; clear c58
              simp only [Option.some.injEq, Prod.mk.injEq] at H
              obtain ⟨rfl, rfl, rfl⟩ := H
              have hnb59 := NB149_142.out; have hnc59 := NB142_149.out; have hnb60 := NB149_143.out; have hnc60 := NB143_149.out; have hcz61_0 : wc.cell? ⟨gb149, 0, none⟩ = some (.slice Ao12 t144.length co12) := (blk_cell BK149.out 0).trans rfl; have hcz61_1 : wc.cell? ⟨gb149, 1, none⟩ = some (.int .i64 t147) := (blk_cell BK149.out 1).trans rfl; have hfz61_0 := blk_frozen BK149.out 0; have hfz61_1 := blk_frozen BK149.out 1; have p151 : 0 ≤ (t148 : Int) := of_decide_eq_true (by first | (with_reducible assumption) | assumption)
              have q151 : t148 < (t144.length : Int) := of_decide_eq_true (by first | (with_reducible assumption) | assumption)
              obtain ⟨ad151, e151, hx151_0, hx151_1, hx151_2, hx151_3, hx151_4⟩ := at_T48 (Kd.R_reads' HO_150000.out).2.2 t148 p151 q151
              (try rw [← Nbq39.out] at hx151_1)
              (try rw [← Nbq39.out] at hx151_2)
              (try rw [← Nbq39.out] at hx151_3)
              cases e151
              replace p151 := eq_true p151
              replace q151 := eq_true q151
              have hnb62 := NB143_142.out; have hnc62 := NB142_143.out; have hcz63_0 : wc.cell? ⟨gb143, 0, none⟩ = some (.slice none 0 0) := (blk_cell BK143.out 0).trans rfl; have hcz63_1 : wc.cell? ⟨gb143, 1, none⟩ = some (.int .i64 0) := (blk_cell BK143.out 1).trans rfl; have hfz63_0 := blk_frozen BK143.out 0; have hfz63_1 := blk_frozen BK143.out 1
              go_wp2
              refine bodyPost_ret (results_ct rfl _ _ gb143 24 #[.slice none 0 0, .int .i64 0] (0, 0) _ rfl (by (with_reducible repeat (first | refine blk_drewN ?_ _ | refine blk_drew ?_ | refine blk_alloc ?_ _)); refine blk_put (cs := #[.slice none 0 0, .int .i64 0]) ?_ 1 _ rfl; (with_reducible repeat (first | refine blk_drewN ?_ _ | refine blk_drew ?_ | refine blk_alloc ?_ _)); refine blk_put (cs := #[.slice none 0 0, .int .i64 0]) ?_ 0 _ rfl; (with_reducible repeat (first | refine blk_drewN ?_ _ | refine blk_drew ?_ | refine blk_alloc ?_ _)); exact BK143.out) Try.underlying24 rfl (by kernel_rfl)) rfl ?_
              exact ⟨_, by first | rfl | (simp [errW_none, errW_some] <;> rfl) | (simp [*, errW_none, errW_some] <;> rfl), by first | exact Kd.R_nil _ _ _ _ _ | exact Kd.N_nil _ _ _ _ _ | exact Kd.V_nil _ _ _ _ _ | exact Kd.Q_nil _ _ _ _ _ | exact Kd.S_nil _ _ _ _ _, by repeat (first | (with_reducible first | exact HB.out | apply below_alloc | apply pw_below_drewN | apply below_drew1 | refine below_set ?_ GE142.out | refine below_set ?_ GE143.out | refine below_set ?_ GE149.out) | exact HB.out)⟩
             ·rw [if_neg c58] at H
              have c58b0 : decide (20000000 < a3) = false := decide_eq_false c58; clear c58
              obtain ⟨y152, hy152⟩ : ∃ y_ : List (S48), y_ = (t144.set (t148 : Int).toNat (⟨(rd_T48 t144 t148).f0, false, (rd_T48 t144 t148).f2, (rd_T48 t144 t148).f3, a3⟩ : S48)) := ⟨_, rfl⟩
              replace H : (some (y152, t147, 0)) = some (r1, r2, r3) := by first | (rw [hy152]; with_reducible exact H) | (have H2_ := (Option.bind_some _ _).symm.trans H; rw [hy152]; with_reducible exact H2_) | (have H2_ := (Option.bind_some _ _).symm.trans H; with_reducible exact H2_) | with_reducible exact H | (rw [hy152]; exact H) | exact H
              have Ny152 := Aside0.mk hy152; clear hy152
              simp only [Option.some.injEq, Prod.mk.injEq] at H
              obtain ⟨rfl, rfl, rfl⟩ := H
              have hnb65 := NB149_142.out; have hnc65 := NB142_149.out; have hnb66 := NB149_143.out; have hnc66 := NB143_149.out; have hcz67_0 : wc.cell? ⟨gb149, 0, none⟩ = some (.slice Ao12 t144.length co12) := (blk_cell BK149.out 0).trans rfl; have hcz67_1 : wc.cell? ⟨gb149, 1, none⟩ = some (.int .i64 t147) := (blk_cell BK149.out 1).trans rfl; have hfz67_0 := blk_frozen BK149.out 0; have hfz67_1 := blk_frozen BK149.out 1; have p151 : 0 ≤ (t148 : Int) := of_decide_eq_true (by first | (with_reducible assumption) | assumption)
              have q151 : t148 < (t144.length : Int) := of_decide_eq_true (by first | (with_reducible assumption) | assumption)
              obtain ⟨ad151, e151, hx151_0, hx151_1, hx151_2, hx151_3, hx151_4⟩ := at_T48 (Kd.R_reads' HO_150000.out).2.2 t148 p151 q151
              (try rw [← Nbq39.out] at hx151_1)
              (try rw [← Nbq39.out] at hx151_2)
              (try rw [← Nbq39.out] at hx151_3)
              cases e151
              replace p151 := eq_true p151
              replace q151 := eq_true q151
              have p64 : 0 ≤ (t148 : Int) := of_decide_eq_true (by first | (with_reducible assumption) | assumption)
              have q64 : (t148 : Int) < ((t144.length : Int) : Int) := of_decide_eq_true (by first | (with_reducible assumption) | assumption)
              obtain ⟨go64, co64, eo64, gb64, gl64, cl64, HG64⟩ := Kd.R_form HO_150000.out (by omega)
              (first | cases eo64 | (injection eo64 with ea_ en_ ec_; (first | subst ea_ | (injection ea_ with ea_; subst ea_)); subst ec_; clear en_))
              have GB64 := Aside0.mk gb64; have GG64 := Aside0.mk HG64; clear gb64 gl64 HG64
              (first | simp only [add_plain] at hx151_0 | skip)
              (first | simp only [add_plain] at hx151_1 | skip)
              (first | simp only [add_plain] at hx151_2 | skip)
              (first | simp only [add_plain] at hx151_3 | skip)
              (first | simp only [add_plain] at hx151_4 | skip)
              obtain ⟨ce64, hcl64, hM64, hcc64, hfr64⟩ := Kd.R_elem HO_150000.out z48 (t148 : Int) p64 q64
              obtain rfl := k48_openM hM64
              have hx64_0 : wc.cell? ⟨go64, (t148 : Int).toNat * 5, none⟩ = some (.int .i64 ((rd_T48 t144 t148).f0)) := hcc64 0 _ rfl; have hx64_1 : wc.cell? ⟨go64, (t148 : Int).toNat * 5 + 1, none⟩ = some (.bool ((rd_T48 t144 t148).f1)) := hcc64 1 _ rfl; have hx64_2 : wc.cell? ⟨go64, (t148 : Int).toNat * 5 + 2, none⟩ = some (.bool ((rd_T48 t144 t148).f2)) := hcc64 2 _ rfl; have hx64_3 : wc.cell? ⟨go64, (t148 : Int).toNat * 5 + 3, none⟩ = some (.bool ((rd_T48 t144 t148).f3)) := hcc64 3 _ rfl; have hx64_4 : wc.cell? ⟨go64, (t148 : Int).toNat * 5 + 4, none⟩ = some (.int .i64 ((rd_T48 t144 t148).f4)) := hcc64 4 _ rfl; have hf64_0 : wc.frozen? ⟨go64, (t148 : Int).toNat * 5, none⟩ = false := hfr64 0; have hf64_1 : wc.frozen? ⟨go64, (t148 : Int).toNat * 5 + 1, none⟩ = false := hfr64 1; have hf64_2 : wc.frozen? ⟨go64, (t148 : Int).toNat * 5 + 2, none⟩ = false := hfr64 2; have hf64_3 : wc.frozen? ⟨go64, (t148 : Int).toNat * 5 + 3, none⟩ = false := hfr64 3; have hf64_4 : wc.frozen? ⟨go64, (t148 : Int).toNat * 5 + 4, none⟩ = false := hfr64 4; clear hcl64 hcc64 hfr64 hM64
              replace p64 := eq_true p64
              replace q64 := eq_true q64
              have HX68 := Aside0.mk (show Kd.R k48 48 wc w.heap.size (fun _ => True) (.slice (some ⟨go64, 0, none⟩) t144.length co12) t144 from (sr_ HO_150000.out))
              obtain ⟨ce68, hcl68, hM68, hcc68, hfr68⟩ := Kd.R_elem HX68.out z48 (t148 : Int) (of_decide_eq_true (by first | (with_reducible assumption) | assumption)) (by have h_ : (t148 : Int) < ((t144.length : Int) : Int) := of_decide_eq_true (by first | (with_reducible assumption) | assumption); first | exact h_ | (have e_ := (Kd.R_reads' HO_150000.out).1; omega) | simpa using h_)
              obtain rfl := k48_openM hM68
              have HP68 := Kd.R_seg HX68.out (t148 : Int) (of_decide_eq_true (by first | (with_reducible assumption) | assumption)) (by have h_ : (t148 : Int) < ((t144.length : Int) : Int) := of_decide_eq_true (by first | (with_reducible assumption) | assumption); first | exact h_ | (have e_ := (Kd.R_reads' HO_150000.out).1; omega) | simpa using h_) (seg := [.int .i64 a3]) (j := 4) hcl68 hcc68 (show 5 ≤ 5 from by decide) (x' := (⟨(rd_T48 t144 t148).f0, false, (rd_T48 t144 t148).f2, (rd_T48 t144 t148).f3, a3⟩ : S48)) (by first | exact k48_mkM _ _ _ (⟨(rd_T48 t144 t148).f0, false, (rd_T48 t144 t148).f2, (rd_T48 t144 t148).f3, a3⟩ : S48) | (have n_ := Nbq39.out; unfold rd_T48 at n_; rw [← n_]; exact k48_mkM _ _ _ (⟨(rd_T48 t144 t148).f0, false, (rd_T48 t144 t148).f2, (rd_T48 t144 t148).f3, a3⟩ : S48))) (fun _ hk => hk)
              have hx68_4 := hcc68 4 _ rfl
              (try simp only [show (k48).sz = 5 from rfl, Nat.mul_one, Nat.add_zero] at hx68_4)
              have hf68_4 := hfr68 4
              (try simp only [show (k48).sz = 5 from rfl, Nat.mul_one, Nat.add_zero] at hf68_4)
              clear hcl68 hcc68 hfr68 hM68
              go_wp2_with (first | ((with_reducible refine gate_store (t := 3) (p := 80) rfl ?_); refine store_event (t := 3) (p := 80) (v := ?vo_w69) (w1 := (wc.setCell ⟨go64, (t148 : Int).toNat * 5 + 4, none⟩ (.int .i64 a3))) ?hg ?ho ?hn ?hr ?_; (case ho => rfl); (case hg => rfl); (case hn => rfl); (case hr => first | (go_simp; done) | (go_simp; rfl)); intro w69 hw; have hg : wc.grownBy w69 (some go64) := (by rw [hw]; exact HP68.2); have hp_ : Kd.R k48 48 w69 w.heap.size (fun _ => True) (.slice (some ⟨go64, 0, none⟩) t144.length co12) y152 := (by rw [hw, Ny152.out]; exact HP68.1); clear HP68; have n0_ := Aside0.mk (hp_); have n1_ := Aside0.mk (blk_grown (g := gb142) (o := .cells #[.slice A0_0 l0_0.length c0_0, .int .i64 a0_1] 24 (0, 0)) (sb_ BK142.out) hg (Kd.R_ne HO_150000.out BK142.out (by decide))); have n2_ := Aside0.mk (blk_grown (g := gb143) (o := .cells #[.slice none 0 0, .int .i64 0] 24 (0, 0)) (sb_ BK143.out) hg (Kd.R_ne HO_150000.out BK143.out (by decide))); have n3_ := Aside0.mk (blk_grown (g := gb149) (o := .cells #[.slice (some ⟨go64, 0, none⟩) t144.length co12, .int .i64 t147] 24 (0, 0)) (sb_ BK149.out) hg (Kd.R_ne HO_150000.out BK149.out (by decide))); have n4_ := Aside0.mk ((by rw [hw]; exact below_set (HB.out) GB64.out : Below w.heap.size w w69)); clear HO_150000; clear BK142; clear BK143; clear BK149; clear HB; have HO_150000 := n0_; have BK142 := n1_; have BK143 := n2_; have BK149 := n3_; have HB := n4_; clear n0_ n1_ n2_ n3_ n4_; clear hg hw hp_; have hcz70_0 : w69.cell? ⟨gb149, 0, none⟩ = some (.slice (some ⟨go64, 0, none⟩) t144.length co12) := (blk_cell BK149.out 0).trans rfl; have hcz70_1 : w69.cell? ⟨gb149, 1, none⟩ = some (.int .i64 t147) := (blk_cell BK149.out 1).trans rfl; have hfz70_0 := blk_frozen BK149.out 0; have hfz70_1 := blk_frozen BK149.out 1; have hnb71 := NB143_142.out; have hnc71 := NB142_143.out; have hcz72_0 : w69.cell? ⟨gb143, 0, none⟩ = some (.slice none 0 0) := (blk_cell BK143.out 0).trans rfl; have hcz72_1 : w69.cell? ⟨gb143, 1, none⟩ = some (.int .i64 0) := (blk_cell BK143.out 1).trans rfl; have hfz72_0 := blk_frozen BK143.out 0; have hfz72_1 := blk_frozen BK143.out 1))
              refine bodyPost_ret (results_ct rfl _ _ gb143 24 #[.slice (some ⟨go64, 0, none⟩) t144.length co12, .int .i64 t147] (0, 0) _ rfl (by (with_reducible repeat (first | refine blk_drewN ?_ _ | refine blk_drew ?_ | refine blk_alloc ?_ _)); refine blk_put (cs := #[.slice (some ⟨go64, 0, none⟩) t144.length co12, .int .i64 0]) ?_ 1 _ rfl; (with_reducible repeat (first | refine blk_drewN ?_ _ | refine blk_drew ?_ | refine blk_alloc ?_ _)); refine blk_put (cs := #[.slice none 0 0, .int .i64 0]) ?_ 0 _ rfl; (with_reducible repeat (first | refine blk_drewN ?_ _ | refine blk_drew ?_ | refine blk_alloc ?_ _)); exact BK143.out) Try.underlying24 rfl (by kernel_rfl)) rfl ?_
              exact ⟨_, by first | rfl | (simp [errW_none, errW_some] <;> rfl) | (simp [*, errW_none, errW_some] <;> rfl), by (with_reducible repeat (first | apply Kd.R_alloc | apply Kd.R_drewN | apply Kd.R_drew)); exact Kd.R_mono (Kd.R_far (p := ⟨gb143, 1, none⟩) (Kd.R_far (p := ⟨gb143, 0, none⟩) (Kd.R_types HO_150000.out BK143.out (by decide)) (fun _ hk => hk.2) (.slice (some ⟨go64, 0, none⟩) t144.length co12)) (fun _ hk => hk.2) (.int .i64 t147)) (fun _ hk => trivial), by repeat (first | (with_reducible first | exact HB.out | apply below_alloc | apply pw_below_drewN | apply below_drew1 | refine below_set ?_ GE142.out | refine below_set ?_ GE143.out | refine below_set ?_ GE149.out) | exact HB.out)⟩
         ·rw [if_neg c38] at H
          exact absurd H (by simp)
        ·rw [if_neg c37] at H
         exact absurd H (by simp)

end Go.Proofs.Yteepdedbldnccaa.P
