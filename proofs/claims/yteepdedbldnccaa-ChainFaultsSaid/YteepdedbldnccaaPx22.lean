-- Written by wip/tools/laws.py of this repo over the kit's printer, for this claim.
import Derived.Test.YteepdedbldnccaaPx0
import Derived.Test.YteepdedbldnccaaPx19
import Derived.Test.YteepdedbldnccaaPx20
import Derived.Test.YteepdedbldnccaaPx21
namespace Go.Proofs.Yteepdedbldnccaa.P
open Go.RowKit Go.Proofs.YteepdedbldnccaaW.PrintWords Go.Proofs.YteepdedbldnccaaW.PrintLast Go.Proofs.YteepdedbldnccaaW.PrintMore
attribute [local go_sem] max2_int min2_int max_two min_two max_three min_three max_four min_four   -- for this text's walks alone
set_option linter.unusedVariables false
set_option linter.unusedSimpArgs false

/-! ### skiarearef16_Right: function 13 -/
mutual
def skiarearef16_Right.l0 : Nat → Int → List (S48) → Int → Option (Int)
 | 0, _, _, _ => none
 | k + 1, x3, x282000, x282001 => if x3 < (x282000.length : Int) then (if 0 ≤ x3 then ((skiarearef16_in.f ((rd_T48 x282000 x3).f0) 1 9999).bind fun t285 => (if t285 = true then ((skiarearef16_in.f ((rd_T48 x282000 x3).f4) 0 20000000).bind fun t286 => (skiarearef16_Right.j1 k x3 (!t286) x282000 x282001 ((rd_T48 x282000 x3).f0) ((rd_T48 x282000 x3).f1) ((rd_T48 x282000 x3).f2) ((rd_T48 x282000 x3).f3) ((rd_T48 x282000 x3).f4))) else (skiarearef16_Right.j1 k x3 true x282000 x282001 ((rd_T48 x282000 x3).f0) ((rd_T48 x282000 x3).f1) ((rd_T48 x282000 x3).f2) ((rd_T48 x282000 x3).f3) ((rd_T48 x282000 x3).f4)))) else (none)) else (some 0)
def skiarearef16_Right.j1 : Nat → Int → Bool → List (S48) → Int → Int → Bool → Bool → Bool → Int → Option (Int)
 | 0, _, _, _, _, _, _, _, _, _ => none
 | k + 1, x3, x25, x282000, x282001, x285000, x285001, x285002, x285003, x285004 => if x25 = true then (some 2) else (if 0 ≤ x3 then (if x3 ≤ (x282000.length : Int) then ((skiarearef16_index.f k (x282000.take (x3 : Int).toNat) x285000).bind fun t291 => (if t291 ≥ 0 then (some 7) else (if x285002 = true then (skiarearef16_Right.j2 k x3 false x282000 x282001 x285000 x285001 x285002 x285003 x285004) else (skiarearef16_Right.j2 k x3 (!x285003) x282000 x282001 x285000 x285001 x285002 x285003 x285004)))) else (none)) else (none))
def skiarearef16_Right.j2 : Nat → Int → Bool → List (S48) → Int → Int → Bool → Bool → Bool → Int → Option (Int)
 | 0, _, _, _, _, _, _, _, _, _ => none
 | k + 1, x3, x45, x282000, x282001, x285000, x285001, x285002, x285003, x285004 => if x45 = true then (some 10) else (if x285001 = true then (skiarearef16_Right.j3 k x3 (x285004 != 0) x282000 x282001 x285000 x285001 x285002 x285003 x285004) else (skiarearef16_Right.j3 k x3 false x282000 x282001 x285000 x285001 x285002 x285003 x285004))
def skiarearef16_Right.j3 : Nat → Int → Bool → List (S48) → Int → Int → Bool → Bool → Bool → Int → Option (Int)
 | 0, _, _, _, _, _, _, _, _, _ => none
 | k + 1, x3, x54, x282000, x282001, x285000, x285001, x285002, x285003, x285004 => if x54 = true then (some 13) else (if x285004 = 0 then (skiarearef16_Right.l0 k (wrap64 (x3 + 1)) x282000 x282001) else (if x282001 = 0 then (some 15) else (if 0 ≤ x3 then (if x3 ≤ (x282000.length : Int) then ((skiarearef16_bypassed.f k (x282000.take (x3 : Int).toNat)).bind fun t296 => (if t296 ≥ 0 then (some 15) else (skiarearef16_Right.l0 k (wrap64 (x3 + 1)) x282000 x282001))) else (none)) else (none))))
end
def skiarearef16_Right.f (k : Nat) (l0_0 : List (S48)) (a0_1 : Int) : Option (Int) := if (l0_0.length : Int) > 32 then (some 4) else ((skiarearef16_in.f a0_1 0 9999).bind fun t282 => (if t282 = true then (skiarearef16_Right.l0 k 0 l0_0 a0_1) else (some 2)))
theorem skiarearef16_Right.mono_l : ∀ k, (∀ y0 y1 y2, LeO (skiarearef16_Right.l0 k y0 y1 y2) (skiarearef16_Right.l0 (k + 1) y0 y1 y2)) ∧ (∀ y0 y1 y2 y3 y4 y5 y6 y7 y8, LeO (skiarearef16_Right.j1 k y0 y1 y2 y3 y4 y5 y6 y7 y8) (skiarearef16_Right.j1 (k + 1) y0 y1 y2 y3 y4 y5 y6 y7 y8)) ∧ (∀ y0 y1 y2 y3 y4 y5 y6 y7 y8, LeO (skiarearef16_Right.j2 k y0 y1 y2 y3 y4 y5 y6 y7 y8) (skiarearef16_Right.j2 (k + 1) y0 y1 y2 y3 y4 y5 y6 y7 y8)) ∧ (∀ y0 y1 y2 y3 y4 y5 y6 y7 y8, LeO (skiarearef16_Right.j3 k y0 y1 y2 y3 y4 y5 y6 y7 y8) (skiarearef16_Right.j3 (k + 1) y0 y1 y2 y3 y4 y5 y6 y7 y8))
 | 0 => ⟨fun _ _ _ r h => by simp [skiarearef16_Right.l0] at h, fun _ _ _ _ _ _ _ _ _ r h => by simp [skiarearef16_Right.j1] at h, fun _ _ _ _ _ _ _ _ _ r h => by simp [skiarearef16_Right.j2] at h, fun _ _ _ _ _ _ _ _ _ r h => by simp [skiarearef16_Right.j3] at h⟩
 | k + 1 => by
  obtain ⟨ih0, ih1, ih2, ih3⟩ := skiarearef16_Right.mono_l k
  refine ⟨?_, ?_, ?_, ?_⟩
  ·intro y0 y1 y2
   unfold skiarearef16_Right.l0
   repeat' first
   | (with_reducible exact ih0 _ _ _)
   | (with_reducible exact ih1 _ _ _ _ _ _ _ _ _)
   | (with_reducible exact ih2 _ _ _ _ _ _ _ _ _)
   | (with_reducible exact ih3 _ _ _ _ _ _ _ _ _)
   | (with_reducible exact skiarearef16_bypassed.mono _ _)
   | (with_reducible exact skiarearef16_index.mono _ _ _)
   | (with_reducible exact LeO.refl _)
   | (with_reducible exact LeO.none _)
   | (with_reducible refine LeO.ite ?_ ?_)
   | (with_reducible refine LeO.bind ?_ (fun _ => ?_))
   | exact ih0 _ _ _
   | exact ih1 _ _ _ _ _ _ _ _ _
   | exact ih2 _ _ _ _ _ _ _ _ _
   | exact ih3 _ _ _ _ _ _ _ _ _
   | exact skiarearef16_bypassed.mono _ _
   | exact skiarearef16_index.mono _ _ _
   | exact LeO.none _
   | refine LeO.ite ?_ ?_
   | refine LeO.bind ?_ (fun _ => ?_)
  ·intro y0 y1 y2 y3 y4 y5 y6 y7 y8
   unfold skiarearef16_Right.j1
   repeat' first
   | (with_reducible exact ih0 _ _ _)
   | (with_reducible exact ih1 _ _ _ _ _ _ _ _ _)
   | (with_reducible exact ih2 _ _ _ _ _ _ _ _ _)
   | (with_reducible exact ih3 _ _ _ _ _ _ _ _ _)
   | (with_reducible exact skiarearef16_bypassed.mono _ _)
   | (with_reducible exact skiarearef16_index.mono _ _ _)
   | (with_reducible exact LeO.refl _)
   | (with_reducible exact LeO.none _)
   | (with_reducible refine LeO.ite ?_ ?_)
   | (with_reducible refine LeO.bind ?_ (fun _ => ?_))
   | exact ih0 _ _ _
   | exact ih1 _ _ _ _ _ _ _ _ _
   | exact ih2 _ _ _ _ _ _ _ _ _
   | exact ih3 _ _ _ _ _ _ _ _ _
   | exact skiarearef16_bypassed.mono _ _
   | exact skiarearef16_index.mono _ _ _
   | exact LeO.none _
   | refine LeO.ite ?_ ?_
   | refine LeO.bind ?_ (fun _ => ?_)
  ·intro y0 y1 y2 y3 y4 y5 y6 y7 y8
   unfold skiarearef16_Right.j2
   repeat' first
   | (with_reducible exact ih0 _ _ _)
   | (with_reducible exact ih1 _ _ _ _ _ _ _ _ _)
   | (with_reducible exact ih2 _ _ _ _ _ _ _ _ _)
   | (with_reducible exact ih3 _ _ _ _ _ _ _ _ _)
   | (with_reducible exact skiarearef16_bypassed.mono _ _)
   | (with_reducible exact skiarearef16_index.mono _ _ _)
   | (with_reducible exact LeO.refl _)
   | (with_reducible exact LeO.none _)
   | (with_reducible refine LeO.ite ?_ ?_)
   | (with_reducible refine LeO.bind ?_ (fun _ => ?_))
   | exact ih0 _ _ _
   | exact ih1 _ _ _ _ _ _ _ _ _
   | exact ih2 _ _ _ _ _ _ _ _ _
   | exact ih3 _ _ _ _ _ _ _ _ _
   | exact skiarearef16_bypassed.mono _ _
   | exact skiarearef16_index.mono _ _ _
   | exact LeO.none _
   | refine LeO.ite ?_ ?_
   | refine LeO.bind ?_ (fun _ => ?_)
  ·intro y0 y1 y2 y3 y4 y5 y6 y7 y8
   unfold skiarearef16_Right.j3
   repeat' first
   | (with_reducible exact ih0 _ _ _)
   | (with_reducible exact ih1 _ _ _ _ _ _ _ _ _)
   | (with_reducible exact ih2 _ _ _ _ _ _ _ _ _)
   | (with_reducible exact ih3 _ _ _ _ _ _ _ _ _)
   | (with_reducible exact skiarearef16_bypassed.mono _ _)
   | (with_reducible exact skiarearef16_index.mono _ _ _)
   | (with_reducible exact LeO.refl _)
   | (with_reducible exact LeO.none _)
   | (with_reducible refine LeO.ite ?_ ?_)
   | (with_reducible refine LeO.bind ?_ (fun _ => ?_))
   | exact ih0 _ _ _
   | exact ih1 _ _ _ _ _ _ _ _ _
   | exact ih2 _ _ _ _ _ _ _ _ _
   | exact ih3 _ _ _ _ _ _ _ _ _
   | exact skiarearef16_bypassed.mono _ _
   | exact skiarearef16_index.mono _ _ _
   | exact LeO.none _
   | refine LeO.ite ?_ ?_
   | refine LeO.bind ?_ (fun _ => ?_)
theorem skiarearef16_Right.mono : ∀ a0 a1 k, LeO (skiarearef16_Right.f k a0 a1) (skiarearef16_Right.f (k + 1) a0 a1) := by
 intro a0 a1 k
 obtain ⟨ih0, ih1, ih2, ih3⟩ := skiarearef16_Right.mono_l k
 unfold skiarearef16_Right.f
 repeat' first
   | (with_reducible exact ih0 _ _ _)
   | (with_reducible exact ih1 _ _ _ _ _ _ _ _ _)
   | (with_reducible exact ih2 _ _ _ _ _ _ _ _ _)
   | (with_reducible exact ih3 _ _ _ _ _ _ _ _ _)
   | (with_reducible exact skiarearef16_bypassed.mono _ _)
   | (with_reducible exact skiarearef16_index.mono _ _ _)
   | (with_reducible exact LeO.refl _)
   | (with_reducible exact LeO.none _)
   | (with_reducible refine LeO.ite ?_ ?_)
   | (with_reducible refine LeO.bind ?_ (fun _ => ?_))
   | exact ih0 _ _ _
   | exact ih1 _ _ _ _ _ _ _ _ _
   | exact ih2 _ _ _ _ _ _ _ _ _
   | exact ih3 _ _ _ _ _ _ _ _ _
   | exact skiarearef16_bypassed.mono _ _
   | exact skiarearef16_index.mono _ _ _
   | exact LeO.none _
   | refine LeO.ite ?_ ?_
   | refine LeO.bind ?_ (fun _ => ?_)
set_option maxHeartbeats 8000000 in
set_option maxRecDepth 100000 in
theorem skiarearef16_Right.calls (k : Nat) (A0_0 : Option Addr) (c0_0 : Nat) (l0_0 : List (S48)) (a0_1 : Int) (r : Int) (w : World) (hr0_0 : Kd.C k48 w A0_0 l0_0.length l0_0) (hc0_0 : l0_0.length ≤ c0_0) (h : skiarearef16_Right.f k l0_0 a0_1 = some r) :
  Calls Try.prog 13 #[.agg #[.slice A0_0 l0_0.length c0_0, .int .i64 a0_1]] w fun e w' => e = .returned (.int .i64 r) ∧ Below w.heap.size w w' := by
 have hu24 := Try.underlying24
 have hu48 := Try.underlying48
 have HR0_0 := Aside0.mk hr0_0
 have HC0_0 := Aside0.mk hc0_0
 clear hr0_0 hc0_0
 have HB := Aside0.mk (Below.refl w.heap.size w)
 have H : (if (l0_0.length : Int) > 32 then (some 4) else ((skiarearef16_in.f a0_1 0 9999).bind fun t282 => (if t282 = true then (skiarearef16_Right.l0 k 0 l0_0 a0_1) else (some 2)))) = some r := h
 clear h
 by_cases c2 : (l0_0.length : Int) > 32
 ·rw [if_pos c2] at H
  have c2b0 : decide (32 < (l0_0.length : Int)) = true := decide_eq_true c2; have c2b1 : decide (32 < l0_0.length) = true := decide_eq_true (by omega)
  clear c2
  obtain rfl := Option.some.inj H
  go_enter Try.func13, Try.ntmps13
  go_wp2_with (first | ((with_reducible refine gate_dst (N := 1) rfl ?_); refine box_event ?hg (N := 1) ?hd (cs := #[.slice A0_0 l0_0.length c0_0, .int .i64 a0_1]) (t := 24) ?hr ?_; (case hd => rfl); (case hg => rfl); (case hr => first | (go_simp; done) | (go_simp; rfl)); intro gb281 hg w3 hbox hb; have n0_ := Aside0.mk (below_step (by repeat (first | (with_reducible first | exact HB.out | apply below_alloc | apply pw_below_drewN | apply below_drew1) | exact HB.out)) hb); have n1_ := Aside0.mk (hbox); have n2_ := Aside0.mk ((by rw [hg]; exact (below_size (by repeat (first | (with_reducible first | exact HB.out | apply below_alloc | apply pw_below_drewN | apply below_drew1) | exact HB.out))) : w.heap.size ≤ gb281)); have n3_ := n2_; clear HB; have HB := n0_; have BK281 := n1_; have GW281 := n2_; have GE281 := n3_; clear n0_ n1_ n2_ n3_; clear hb hbox hg; have hcz4_0 : w3.cell? ⟨gb281, 0, none⟩ = some (.slice A0_0 l0_0.length c0_0) := (blk_cell BK281.out 0).trans rfl; have hcz4_1 : w3.cell? ⟨gb281, 1, none⟩ = some (.int .i64 a0_1) := (blk_cell BK281.out 1).trans rfl; have hfz4_0 := blk_frozen BK281.out 0; have hfz4_1 := blk_frozen BK281.out 1))
  repeat (go_quiet (first | ((with_reducible refine gate_dst (N := 1) rfl ?_); refine box_event ?hg (N := 1) ?hd (cs := #[.slice A0_0 l0_0.length c0_0, .int .i64 a0_1]) (t := 24) ?hr ?_; (case hd => rfl); (case hg => rfl); (case hr => first | (go_simp; done) | (go_simp; rfl)); intro gb281 hg w3 hbox hb; have n0_ := Aside0.mk (below_step (by repeat (first | (with_reducible first | exact HB.out | apply below_alloc | apply pw_below_drewN | apply below_drew1) | exact HB.out)) hb); have n1_ := Aside0.mk (hbox); have n2_ := Aside0.mk ((by rw [hg]; exact (below_size (by repeat (first | (with_reducible first | exact HB.out | apply below_alloc | apply pw_below_drewN | apply below_drew1) | exact HB.out))) : w.heap.size ≤ gb281)); have n3_ := n2_; clear HB; have HB := n0_; have BK281 := n1_; have GW281 := n2_; have GE281 := n3_; clear n0_ n1_ n2_ n3_; clear hb hbox hg; have hcz4_0 : w3.cell? ⟨gb281, 0, none⟩ = some (.slice A0_0 l0_0.length c0_0) := (blk_cell BK281.out 0).trans rfl; have hcz4_1 : w3.cell? ⟨gb281, 1, none⟩ = some (.int .i64 a0_1) := (blk_cell BK281.out 1).trans rfl; have hfz4_0 := blk_frozen BK281.out 0; have hfz4_1 := blk_frozen BK281.out 1)); try go_wp2_with (first | ((with_reducible refine gate_dst (N := 1) rfl ?_); refine box_event ?hg (N := 1) ?hd (cs := #[.slice A0_0 l0_0.length c0_0, .int .i64 a0_1]) (t := 24) ?hr ?_; (case hd => rfl); (case hg => rfl); (case hr => first | (go_simp; done) | (go_simp; rfl)); intro gb281 hg w3 hbox hb; have n0_ := Aside0.mk (below_step (by repeat (first | (with_reducible first | exact HB.out | apply below_alloc | apply pw_below_drewN | apply below_drew1) | exact HB.out)) hb); have n1_ := Aside0.mk (hbox); have n2_ := Aside0.mk ((by rw [hg]; exact (below_size (by repeat (first | (with_reducible first | exact HB.out | apply below_alloc | apply pw_below_drewN | apply below_drew1) | exact HB.out))) : w.heap.size ≤ gb281)); have n3_ := n2_; clear HB; have HB := n0_; have BK281 := n1_; have GW281 := n2_; have GE281 := n3_; clear n0_ n1_ n2_ n3_; clear hb hbox hg; have hcz4_0 : w3.cell? ⟨gb281, 0, none⟩ = some (.slice A0_0 l0_0.length c0_0) := (blk_cell BK281.out 0).trans rfl; have hcz4_1 : w3.cell? ⟨gb281, 1, none⟩ = some (.int .i64 a0_1) := (blk_cell BK281.out 1).trans rfl; have hfz4_0 := blk_frozen BK281.out 0; have hfz4_1 := blk_frozen BK281.out 1)))
  go_ret
  exact ⟨by first | rfl | (simp [errW_none, errW_some] <;> rfl) | (simp [*, errW_none, errW_some] <;> rfl), by repeat (first | (with_reducible first | exact HB.out | apply below_alloc | apply pw_below_drewN | apply below_drew1 | refine below_set ?_ GE281.out) | exact HB.out)⟩
 ·rw [if_neg c2] at H
  have c2b0 : decide (32 < (l0_0.length : Int)) = false := decide_eq_false c2; have c2b1 : decide (32 < l0_0.length) = false := decide_eq_false (by omega)
  clear c2
  replace H := Option.bind_eq_some_iff.mp H
  obtain ⟨t282, A50, H⟩ := H
  replace H : (if t282 = true then (skiarearef16_Right.l0 k 0 l0_0 a0_1) else (some 2)) = some r := H
  have A5 := Aside0.mk A50; clear A50
  by_cases c6 : t282 = true
  ·subst c6
   have H1 : (skiarearef16_Right.l0 k 0 l0_0 a0_1) = some r := by rw [if_pos rfl] at H; exact H
   clear H; have H := H1; clear H1; have H' := Aside0.mk H; clear H
   go_enter Try.func13, Try.ntmps13
   go_wp2_with (first | ((with_reducible refine gate_dst (N := 1) rfl ?_); refine box_event ?hg (N := 1) ?hd (cs := #[.slice A0_0 l0_0.length c0_0, .int .i64 a0_1]) (t := 24) ?hr ?_; (case hd => rfl); (case hg => rfl); (case hr => first | (go_simp; done) | (go_simp; rfl)); intro gb281 hg w7 hbox hb; have n0_ := Aside0.mk (below_step (by repeat (first | (with_reducible first | exact HB.out | apply below_alloc | apply pw_below_drewN | apply below_drew1) | exact HB.out)) hb); have n1_ := Aside0.mk (hbox); have n2_ := Aside0.mk ((by rw [hg]; exact (below_size (by repeat (first | (with_reducible first | exact HB.out | apply below_alloc | apply pw_below_drewN | apply below_drew1) | exact HB.out))) : w.heap.size ≤ gb281)); have n3_ := n2_; clear HB; have HB := n0_; have BK281 := n1_; have GW281 := n2_; have GE281 := n3_; clear n0_ n1_ n2_ n3_; clear hb hbox hg; have hcz8_0 : w7.cell? ⟨gb281, 0, none⟩ = some (.slice A0_0 l0_0.length c0_0) := (blk_cell BK281.out 0).trans rfl; have hcz8_1 : w7.cell? ⟨gb281, 1, none⟩ = some (.int .i64 a0_1) := (blk_cell BK281.out 1).trans rfl; have hfz8_0 := blk_frozen BK281.out 0; have hfz8_1 := blk_frozen BK281.out 1) | (go_at_call 35; (with_reducible refine (skiarearef16_in.calls a0_1 0 9999 true _ A5.out).mono ?_); rintro e w' ⟨rfl, ⟨nd, rfl⟩⟩; (try first | exact ⟨rfl, _, World.drewN_drewN _ _ _⟩ | exact ⟨rfl, _, Eq.trans (World.drewN_drewN _ _ _) (congrArg (World.drewN _) (Nat.add_assoc _ _ _))⟩)))
   repeat (go_quiet (first | ((with_reducible refine gate_dst (N := 1) rfl ?_); refine box_event ?hg (N := 1) ?hd (cs := #[.slice A0_0 l0_0.length c0_0, .int .i64 a0_1]) (t := 24) ?hr ?_; (case hd => rfl); (case hg => rfl); (case hr => first | (go_simp; done) | (go_simp; rfl)); intro gb281 hg w7 hbox hb; have n0_ := Aside0.mk (below_step (by repeat (first | (with_reducible first | exact HB.out | apply below_alloc | apply pw_below_drewN | apply below_drew1) | exact HB.out)) hb); have n1_ := Aside0.mk (hbox); have n2_ := Aside0.mk ((by rw [hg]; exact (below_size (by repeat (first | (with_reducible first | exact HB.out | apply below_alloc | apply pw_below_drewN | apply below_drew1) | exact HB.out))) : w.heap.size ≤ gb281)); have n3_ := n2_; clear HB; have HB := n0_; have BK281 := n1_; have GW281 := n2_; have GE281 := n3_; clear n0_ n1_ n2_ n3_; clear hb hbox hg; have hcz8_0 : w7.cell? ⟨gb281, 0, none⟩ = some (.slice A0_0 l0_0.length c0_0) := (blk_cell BK281.out 0).trans rfl; have hcz8_1 : w7.cell? ⟨gb281, 1, none⟩ = some (.int .i64 a0_1) := (blk_cell BK281.out 1).trans rfl; have hfz8_0 := blk_frozen BK281.out 0; have hfz8_1 := blk_frozen BK281.out 1) | (go_at_call 35; (with_reducible refine (skiarearef16_in.calls a0_1 0 9999 true _ A5.out).mono ?_); rintro e w' ⟨rfl, ⟨nd, rfl⟩⟩; (try first | exact ⟨rfl, _, World.drewN_drewN _ _ _⟩ | exact ⟨rfl, _, Eq.trans (World.drewN_drewN _ _ _) (congrArg (World.drewN _) (Nat.add_assoc _ _ _))⟩))); try go_wp2_with (first | ((with_reducible refine gate_dst (N := 1) rfl ?_); refine box_event ?hg (N := 1) ?hd (cs := #[.slice A0_0 l0_0.length c0_0, .int .i64 a0_1]) (t := 24) ?hr ?_; (case hd => rfl); (case hg => rfl); (case hr => first | (go_simp; done) | (go_simp; rfl)); intro gb281 hg w7 hbox hb; have n0_ := Aside0.mk (below_step (by repeat (first | (with_reducible first | exact HB.out | apply below_alloc | apply pw_below_drewN | apply below_drew1) | exact HB.out)) hb); have n1_ := Aside0.mk (hbox); have n2_ := Aside0.mk ((by rw [hg]; exact (below_size (by repeat (first | (with_reducible first | exact HB.out | apply below_alloc | apply pw_below_drewN | apply below_drew1) | exact HB.out))) : w.heap.size ≤ gb281)); have n3_ := n2_; clear HB; have HB := n0_; have BK281 := n1_; have GW281 := n2_; have GE281 := n3_; clear n0_ n1_ n2_ n3_; clear hb hbox hg; have hcz8_0 : w7.cell? ⟨gb281, 0, none⟩ = some (.slice A0_0 l0_0.length c0_0) := (blk_cell BK281.out 0).trans rfl; have hcz8_1 : w7.cell? ⟨gb281, 1, none⟩ = some (.int .i64 a0_1) := (blk_cell BK281.out 1).trans rfl; have hfz8_0 := blk_frozen BK281.out 0; have hfz8_1 := blk_frozen BK281.out 1) | (go_at_call 35; (with_reducible refine (skiarearef16_in.calls a0_1 0 9999 true _ A5.out).mono ?_); rintro e w' ⟨rfl, ⟨nd, rfl⟩⟩; (try first | exact ⟨rfl, _, World.drewN_drewN _ _ _⟩ | exact ⟨rfl, _, Eq.trans (World.drewN_drewN _ _ _) (congrArg (World.drewN _) (Nat.add_assoc _ _ _))⟩))))
   go_loopg [3] k (fun kq v3 w' => ∃ (x3_1 : Int), v3 = .int .i64 x3_1 ∧ Aside0 (skiarearef16_Right.l0 kq x3_1 l0_0 a0_1 = some r) ∧ Aside0 (kq ≤ k) ∧ Aside0 (w'.heap[gb281]? = some (.cells #[(.slice A0_0 l0_0.length c0_0), .int .i64 a0_1] 24 (0, 0))) ∧ Aside0 (Below w.heap.size w w'))
   case atStart => exact ⟨(0), (by first | rfl | (simp; done) | (simp [*]; done)), H', ⟨Nat.le_refl _⟩, ⟨by (with_reducible repeat (first | refine blk_drewN ?_ _ | refine blk_drew ?_ | refine blk_alloc ?_ _)); exact BK281.out⟩, ⟨by repeat (first | (with_reducible first | exact HB.out | apply below_alloc | apply pw_below_drewN | apply below_drew1 | refine below_set ?_ GE281.out) | exact HB.out)⟩⟩
   case round =>
    clear H'
    try clear c1
    try clear c2
    try clear c2b0
    try clear c2b1
    try clear p2
    try clear c6
    try clear hcz4_0
    try clear hcz4_1
    try clear hcz8_0
    try clear hcz8_1
    try clear hfz4_0
    try clear hfz4_1
    try clear hfz8_0
    try clear hfz8_1
    obtain ⟨x3_1, rfl, HA, HK1, BK281, HB⟩ := hrel
    cases gk with
    | zero => exact absurd HA.out (by simp [skiarearef16_Right.l0])
    | succ k1 =>
     have H := HA.out; clear HA
     simp only [skiarearef16_Right.l0] at H
     by_cases c9 : x3_1 < (l0_0.length : Int)
     ·rw [if_pos c9] at H
      have c9b0 : decide (x3_1 < (l0_0.length : Int)) = true := decide_eq_true c9; clear c9
      by_cases c10 : 0 ≤ x3_1
      ·rw [if_pos c10] at H
       have c10b0 : decide (0 ≤ x3_1) = true := decide_eq_true c10; clear c10; have HC11 := Aside0.mk H; clear H; have hcz12_0 : wr.cell? ⟨gb281, 0, none⟩ = some (.slice A0_0 l0_0.length c0_0) := (blk_cell BK281.out 0).trans rfl; have hcz12_1 : wr.cell? ⟨gb281, 1, none⟩ = some (.int .i64 a0_1) := (blk_cell BK281.out 1).trans rfl; have hfz12_0 := blk_frozen BK281.out 0; have hfz12_1 := blk_frozen BK281.out 1; have p283 : 0 ≤ (x3_1 : Int) := of_decide_eq_true (by first | (with_reducible assumption) | assumption)
       have q283 : x3_1 < (l0_0.length : Int) := of_decide_eq_true (by first | (with_reducible assumption) | assumption)
       obtain ⟨ad283, e283, hx283_0, hx283_1, hx283_2, hx283_3, hx283_4⟩ := at_T48 HR0_0.out x3_1 p283 q283
       cases e283
       replace hx283_0 := (HB.out.cell (World.block_lt_of_cell? w _ hx283_0)).trans hx283_0
       replace hx283_1 := (HB.out.cell (World.block_lt_of_cell? w _ hx283_1)).trans hx283_1
       replace hx283_2 := (HB.out.cell (World.block_lt_of_cell? w _ hx283_2)).trans hx283_2
       replace hx283_3 := (HB.out.cell (World.block_lt_of_cell? w _ hx283_3)).trans hx283_3
       replace hx283_4 := (HB.out.cell (World.block_lt_of_cell? w _ hx283_4)).trans hx283_4
       replace p283 := eq_true p283
       replace q283 := eq_true q283
       go_upto_region 9 with (first | ((with_reducible refine gate_dst (N := 4) rfl ?_); refine box_event ?hg (N := 4) ?hd (cs := #[.int .i64 0, .bool false, .bool false, .bool false, .int .i64 0]) (t := 48) ?hr ?_; (case hd => rfl); (case hg => rfl); (case hr => first | (go_simp; done) | (go_simp; rfl)); intro gb284 hg w13 hbox hb; have n0_ := Aside0.mk (bb_ BK281.out hb); have n1_ := Aside0.mk (below_step (by repeat (first | (with_reducible first | exact HB.out | apply below_alloc | apply pw_below_drewN | apply below_drew1 | refine below_set ?_ GE281.out) | exact HB.out)) hb); have n2_ := Aside0.mk (hbox); have n3_ := Aside0.mk ((by rw [hg]; exact (below_size (by repeat (first | (with_reducible first | exact HB.out | apply below_alloc | apply pw_below_drewN | apply below_drew1 | refine below_set ?_ GE281.out) | exact HB.out))) : w.heap.size ≤ gb284)); have n4_ := n3_; have n5_ := Aside0.mk (nl_ hg BK281.out); have n6_ := Aside0.mk (ng_ hg BK281.out); clear BK281; clear HB; have BK281 := n0_; have HB := n1_; have BK284 := n2_; have GW284 := n3_; have GE284 := n4_; have NB281_284 := n5_; have NB284_281 := n6_; clear n0_ n1_ n2_ n3_ n4_ n5_ n6_; clear hb hbox hg; have hnb14 := NB284_281.out; have hnc14 := NB281_284.out; have hcz15_0 : w13.cell? ⟨gb284, 0, none⟩ = some (.int .i64 0) := (blk_cell BK284.out 0).trans rfl; have hcz15_1 : w13.cell? ⟨gb284, 1, none⟩ = some (.bool false) := (blk_cell BK284.out 1).trans rfl; have hcz15_2 : w13.cell? ⟨gb284, 2, none⟩ = some (.bool false) := (blk_cell BK284.out 2).trans rfl; have hcz15_3 : w13.cell? ⟨gb284, 3, none⟩ = some (.bool false) := (blk_cell BK284.out 3).trans rfl; have hcz15_4 : w13.cell? ⟨gb284, 4, none⟩ = some (.int .i64 0) := (blk_cell BK284.out 4).trans rfl; have hfz15_0 := blk_frozen BK284.out 0; have hfz15_1 := blk_frozen BK284.out 1; have hfz15_2 := blk_frozen BK284.out 2; have hfz15_3 := blk_frozen BK284.out 3; have hfz15_4 := blk_frozen BK284.out 4))
       repeat (go_quiet (first | ((with_reducible refine gate_dst (N := 4) rfl ?_); refine box_event ?hg (N := 4) ?hd (cs := #[.int .i64 0, .bool false, .bool false, .bool false, .int .i64 0]) (t := 48) ?hr ?_; (case hd => rfl); (case hg => rfl); (case hr => first | (go_simp; done) | (go_simp; rfl)); intro gb284 hg w13 hbox hb; have n0_ := Aside0.mk (bb_ BK281.out hb); have n1_ := Aside0.mk (below_step (by repeat (first | (with_reducible first | exact HB.out | apply below_alloc | apply pw_below_drewN | apply below_drew1 | refine below_set ?_ GE281.out) | exact HB.out)) hb); have n2_ := Aside0.mk (hbox); have n3_ := Aside0.mk ((by rw [hg]; exact (below_size (by repeat (first | (with_reducible first | exact HB.out | apply below_alloc | apply pw_below_drewN | apply below_drew1 | refine below_set ?_ GE281.out) | exact HB.out))) : w.heap.size ≤ gb284)); have n4_ := n3_; have n5_ := Aside0.mk (nl_ hg BK281.out); have n6_ := Aside0.mk (ng_ hg BK281.out); clear BK281; clear HB; have BK281 := n0_; have HB := n1_; have BK284 := n2_; have GW284 := n3_; have GE284 := n4_; have NB281_284 := n5_; have NB284_281 := n6_; clear n0_ n1_ n2_ n3_ n4_ n5_ n6_; clear hb hbox hg; have hnb14 := NB284_281.out; have hnc14 := NB281_284.out; have hcz15_0 : w13.cell? ⟨gb284, 0, none⟩ = some (.int .i64 0) := (blk_cell BK284.out 0).trans rfl; have hcz15_1 : w13.cell? ⟨gb284, 1, none⟩ = some (.bool false) := (blk_cell BK284.out 1).trans rfl; have hcz15_2 : w13.cell? ⟨gb284, 2, none⟩ = some (.bool false) := (blk_cell BK284.out 2).trans rfl; have hcz15_3 : w13.cell? ⟨gb284, 3, none⟩ = some (.bool false) := (blk_cell BK284.out 3).trans rfl; have hcz15_4 : w13.cell? ⟨gb284, 4, none⟩ = some (.int .i64 0) := (blk_cell BK284.out 4).trans rfl; have hfz15_0 := blk_frozen BK284.out 0; have hfz15_1 := blk_frozen BK284.out 1; have hfz15_2 := blk_frozen BK284.out 2; have hfz15_3 := blk_frozen BK284.out 3; have hfz15_4 := blk_frozen BK284.out 4)); go_upto_region 9 with (first | ((with_reducible refine gate_dst (N := 4) rfl ?_); refine box_event ?hg (N := 4) ?hd (cs := #[.int .i64 0, .bool false, .bool false, .bool false, .int .i64 0]) (t := 48) ?hr ?_; (case hd => rfl); (case hg => rfl); (case hr => first | (go_simp; done) | (go_simp; rfl)); intro gb284 hg w13 hbox hb; have n0_ := Aside0.mk (bb_ BK281.out hb); have n1_ := Aside0.mk (below_step (by repeat (first | (with_reducible first | exact HB.out | apply below_alloc | apply pw_below_drewN | apply below_drew1 | refine below_set ?_ GE281.out) | exact HB.out)) hb); have n2_ := Aside0.mk (hbox); have n3_ := Aside0.mk ((by rw [hg]; exact (below_size (by repeat (first | (with_reducible first | exact HB.out | apply below_alloc | apply pw_below_drewN | apply below_drew1 | refine below_set ?_ GE281.out) | exact HB.out))) : w.heap.size ≤ gb284)); have n4_ := n3_; have n5_ := Aside0.mk (nl_ hg BK281.out); have n6_ := Aside0.mk (ng_ hg BK281.out); clear BK281; clear HB; have BK281 := n0_; have HB := n1_; have BK284 := n2_; have GW284 := n3_; have GE284 := n4_; have NB281_284 := n5_; have NB284_281 := n6_; clear n0_ n1_ n2_ n3_ n4_ n5_ n6_; clear hb hbox hg; have hnb14 := NB284_281.out; have hnc14 := NB281_284.out; have hcz15_0 : w13.cell? ⟨gb284, 0, none⟩ = some (.int .i64 0) := (blk_cell BK284.out 0).trans rfl; have hcz15_1 : w13.cell? ⟨gb284, 1, none⟩ = some (.bool false) := (blk_cell BK284.out 1).trans rfl; have hcz15_2 : w13.cell? ⟨gb284, 2, none⟩ = some (.bool false) := (blk_cell BK284.out 2).trans rfl; have hcz15_3 : w13.cell? ⟨gb284, 3, none⟩ = some (.bool false) := (blk_cell BK284.out 3).trans rfl; have hcz15_4 : w13.cell? ⟨gb284, 4, none⟩ = some (.int .i64 0) := (blk_cell BK284.out 4).trans rfl; have hfz15_0 := blk_frozen BK284.out 0; have hfz15_1 := blk_frozen BK284.out 1; have hfz15_2 := blk_frozen BK284.out 2; have hfz15_3 := blk_frozen BK284.out 3; have hfz15_4 := blk_frozen BK284.out 4)))
       (try simp only [Act.put, List.setIfInBounds_toArray, List.set_cons_zero, List.set_cons_succ])
       go_cut [25] (fun v25 wc => ∃ (kq : Nat) (x25_10 : Bool), v25 = .bool x25_10 ∧ Aside0 (skiarearef16_Right.j1 kq x3_1 x25_10 l0_0 a0_1 ((rd_T48 l0_0 x3_1).f0) ((rd_T48 l0_0 x3_1).f1) ((rd_T48 l0_0 x3_1).f2) ((rd_T48 l0_0 x3_1).f3) ((rd_T48 l0_0 x3_1).f4) = some r) ∧ Aside0 (kq ≤ k1) ∧ Aside0 (wc.heap[gb281]? = some (.cells #[(.slice (some ad283) l0_0.length c0_0), .int .i64 a0_1] 24 (0, 0))) ∧ Aside0 (wc.heap[gb284]? = some (.cells #[.int .i64 ((rd_T48 l0_0 x3_1).f0), .bool ((rd_T48 l0_0 x3_1).f1), .bool ((rd_T48 l0_0 x3_1).f2), .bool ((rd_T48 l0_0 x3_1).f3), .int .i64 ((rd_T48 l0_0 x3_1).f4)] 48 (0, 0))) ∧ Aside0 (Below w.heap.size w wc))
       case first =>
        have H := HC11.out; clear HC11
        replace H := Option.bind_eq_some_iff.mp H
        obtain ⟨t285, A160, H⟩ := H
        replace H : (if t285 = true then ((skiarearef16_in.f ((rd_T48 l0_0 x3_1).f4) 0 20000000).bind fun t286 => (skiarearef16_Right.j1 k1 x3_1 (!t286) l0_0 a0_1 ((rd_T48 l0_0 x3_1).f0) ((rd_T48 l0_0 x3_1).f1) ((rd_T48 l0_0 x3_1).f2) ((rd_T48 l0_0 x3_1).f3) ((rd_T48 l0_0 x3_1).f4))) else (skiarearef16_Right.j1 k1 x3_1 true l0_0 a0_1 ((rd_T48 l0_0 x3_1).f0) ((rd_T48 l0_0 x3_1).f1) ((rd_T48 l0_0 x3_1).f2) ((rd_T48 l0_0 x3_1).f3) ((rd_T48 l0_0 x3_1).f4))) = some r := H
        have A16 := Aside0.mk A160; clear A160
        by_cases c17 : t285 = true
        ·subst c17
         have H1 : ((skiarearef16_in.f ((rd_T48 l0_0 x3_1).f4) 0 20000000).bind fun t286 => (skiarearef16_Right.j1 k1 x3_1 (!t286) l0_0 a0_1 ((rd_T48 l0_0 x3_1).f0) ((rd_T48 l0_0 x3_1).f1) ((rd_T48 l0_0 x3_1).f2) ((rd_T48 l0_0 x3_1).f3) ((rd_T48 l0_0 x3_1).f4))) = some r := by rw [if_pos rfl] at H; exact H
         clear H; have H := H1; clear H1
         replace H := Option.bind_eq_some_iff.mp H
         obtain ⟨t286, A180, H⟩ := H
         replace H : (skiarearef16_Right.j1 k1 x3_1 (!t286) l0_0 a0_1 ((rd_T48 l0_0 x3_1).f0) ((rd_T48 l0_0 x3_1).f1) ((rd_T48 l0_0 x3_1).f2) ((rd_T48 l0_0 x3_1).f3) ((rd_T48 l0_0 x3_1).f4)) = some r := H
         have A18 := Aside0.mk A180; clear A180; have H' := Aside0.mk H; clear H; have hnb19 := NB284_281.out; have hnc19 := NB281_284.out; have hcz20_0 : w13.cell? ⟨gb284, 0, none⟩ = some (.int .i64 0) := (blk_cell BK284.out 0).trans rfl; have hcz20_1 : w13.cell? ⟨gb284, 1, none⟩ = some (.bool false) := (blk_cell BK284.out 1).trans rfl; have hcz20_2 : w13.cell? ⟨gb284, 2, none⟩ = some (.bool false) := (blk_cell BK284.out 2).trans rfl; have hcz20_3 : w13.cell? ⟨gb284, 3, none⟩ = some (.bool false) := (blk_cell BK284.out 3).trans rfl; have hcz20_4 : w13.cell? ⟨gb284, 4, none⟩ = some (.int .i64 0) := (blk_cell BK284.out 4).trans rfl; have hfz20_0 := blk_frozen BK284.out 0; have hfz20_1 := blk_frozen BK284.out 1; have hfz20_2 := blk_frozen BK284.out 2; have hfz20_3 := blk_frozen BK284.out 3; have hfz20_4 := blk_frozen BK284.out 4
         go_wp2_with (first | (go_at_call 35; (with_reducible refine (skiarearef16_in.calls ((rd_T48 l0_0 x3_1).f0) 1 9999 true _ A16.out).mono ?_); rintro e w' ⟨rfl, ⟨nd, rfl⟩⟩; (try first | exact ⟨rfl, _, World.drewN_drewN _ _ _⟩ | exact ⟨rfl, _, Eq.trans (World.drewN_drewN _ _ _) (congrArg (World.drewN _) (Nat.add_assoc _ _ _))⟩)) | (go_at_call 35; (with_reducible refine (skiarearef16_in.calls ((rd_T48 l0_0 x3_1).f4) 0 20000000 t286 _ A18.out).mono ?_); rintro e w' ⟨rfl, ⟨nd, rfl⟩⟩; (try first | exact ⟨rfl, _, World.drewN_drewN _ _ _⟩ | exact ⟨rfl, _, Eq.trans (World.drewN_drewN _ _ _) (congrArg (World.drewN _) (Nat.add_assoc _ _ _))⟩)))
         repeat (go_quiet (first | (go_at_call 35; (with_reducible refine (skiarearef16_in.calls ((rd_T48 l0_0 x3_1).f0) 1 9999 true _ A16.out).mono ?_); rintro e w' ⟨rfl, ⟨nd, rfl⟩⟩; (try first | exact ⟨rfl, _, World.drewN_drewN _ _ _⟩ | exact ⟨rfl, _, Eq.trans (World.drewN_drewN _ _ _) (congrArg (World.drewN _) (Nat.add_assoc _ _ _))⟩)) | (go_at_call 35; (with_reducible refine (skiarearef16_in.calls ((rd_T48 l0_0 x3_1).f4) 0 20000000 t286 _ A18.out).mono ?_); rintro e w' ⟨rfl, ⟨nd, rfl⟩⟩; (try first | exact ⟨rfl, _, World.drewN_drewN _ _ _⟩ | exact ⟨rfl, _, Eq.trans (World.drewN_drewN _ _ _) (congrArg (World.drewN _) (Nat.add_assoc _ _ _))⟩))); try go_wp2_with (first | (go_at_call 35; (with_reducible refine (skiarearef16_in.calls ((rd_T48 l0_0 x3_1).f0) 1 9999 true _ A16.out).mono ?_); rintro e w' ⟨rfl, ⟨nd, rfl⟩⟩; (try first | exact ⟨rfl, _, World.drewN_drewN _ _ _⟩ | exact ⟨rfl, _, Eq.trans (World.drewN_drewN _ _ _) (congrArg (World.drewN _) (Nat.add_assoc _ _ _))⟩)) | (go_at_call 35; (with_reducible refine (skiarearef16_in.calls ((rd_T48 l0_0 x3_1).f4) 0 20000000 t286 _ A18.out).mono ?_); rintro e w' ⟨rfl, ⟨nd, rfl⟩⟩; (try first | exact ⟨rfl, _, World.drewN_drewN _ _ _⟩ | exact ⟨rfl, _, Eq.trans (World.drewN_drewN _ _ _) (congrArg (World.drewN _) (Nat.add_assoc _ _ _))⟩))))
         go_meet
         case rel => exact ⟨_, (!t286), (by first | rfl | (simp; done) | (simp [*]; done)), H', ⟨by have := HK1.out; first | omega | exact Nat.le_refl _⟩, ⟨by (with_reducible repeat (first | refine blk_drewN ?_ _ | refine blk_drew ?_ | refine blk_alloc ?_ _)); refine blk_far ?_ NB281_284.out _; (with_reducible repeat (first | refine blk_drewN ?_ _ | refine blk_drew ?_ | refine blk_alloc ?_ _)); refine blk_far ?_ NB281_284.out _; (with_reducible repeat (first | refine blk_drewN ?_ _ | refine blk_drew ?_ | refine blk_alloc ?_ _)); refine blk_far ?_ NB281_284.out _; (with_reducible repeat (first | refine blk_drewN ?_ _ | refine blk_drew ?_ | refine blk_alloc ?_ _)); refine blk_far ?_ NB281_284.out _; (with_reducible repeat (first | refine blk_drewN ?_ _ | refine blk_drew ?_ | refine blk_alloc ?_ _)); refine blk_far ?_ NB281_284.out _; (with_reducible repeat (first | refine blk_drewN ?_ _ | refine blk_drew ?_ | refine blk_alloc ?_ _)); exact BK281.out⟩, ⟨by (with_reducible repeat (first | refine blk_drewN ?_ _ | refine blk_drew ?_ | refine blk_alloc ?_ _)); refine blk_put (cs := #[.int .i64 ((rd_T48 l0_0 x3_1).f0), .bool ((rd_T48 l0_0 x3_1).f1), .bool ((rd_T48 l0_0 x3_1).f2), .bool ((rd_T48 l0_0 x3_1).f3), .int .i64 0]) ?_ 4 _ rfl; (with_reducible repeat (first | refine blk_drewN ?_ _ | refine blk_drew ?_ | refine blk_alloc ?_ _)); refine blk_put (cs := #[.int .i64 ((rd_T48 l0_0 x3_1).f0), .bool ((rd_T48 l0_0 x3_1).f1), .bool ((rd_T48 l0_0 x3_1).f2), .bool false, .int .i64 0]) ?_ 3 _ rfl; (with_reducible repeat (first | refine blk_drewN ?_ _ | refine blk_drew ?_ | refine blk_alloc ?_ _)); refine blk_put (cs := #[.int .i64 ((rd_T48 l0_0 x3_1).f0), .bool ((rd_T48 l0_0 x3_1).f1), .bool false, .bool false, .int .i64 0]) ?_ 2 _ rfl; (with_reducible repeat (first | refine blk_drewN ?_ _ | refine blk_drew ?_ | refine blk_alloc ?_ _)); refine blk_put (cs := #[.int .i64 ((rd_T48 l0_0 x3_1).f0), .bool false, .bool false, .bool false, .int .i64 0]) ?_ 1 _ rfl; (with_reducible repeat (first | refine blk_drewN ?_ _ | refine blk_drew ?_ | refine blk_alloc ?_ _)); refine blk_put (cs := #[.int .i64 0, .bool false, .bool false, .bool false, .int .i64 0]) ?_ 0 _ rfl; (with_reducible repeat (first | refine blk_drewN ?_ _ | refine blk_drew ?_ | refine blk_alloc ?_ _)); exact BK284.out⟩, ⟨by repeat (first | (with_reducible first | exact HB.out | apply below_alloc | apply pw_below_drewN | apply below_drew1 | refine below_set ?_ GE281.out | refine below_set ?_ GE284.out) | exact HB.out)⟩⟩
        ·replace c17 := Bool.eq_false_iff.mpr c17
         subst c17; have H1 : (skiarearef16_Right.j1 k1 x3_1 true l0_0 a0_1 ((rd_T48 l0_0 x3_1).f0) ((rd_T48 l0_0 x3_1).f1) ((rd_T48 l0_0 x3_1).f2) ((rd_T48 l0_0 x3_1).f3) ((rd_T48 l0_0 x3_1).f4)) = some r := by rw [if_neg (show ¬ (false = true) by decide)] at H; exact H
         clear H; have H := H1; clear H1; have H' := Aside0.mk H; clear H; have hnb21 := NB284_281.out; have hnc21 := NB281_284.out; have hcz22_0 : w13.cell? ⟨gb284, 0, none⟩ = some (.int .i64 0) := (blk_cell BK284.out 0).trans rfl; have hcz22_1 : w13.cell? ⟨gb284, 1, none⟩ = some (.bool false) := (blk_cell BK284.out 1).trans rfl; have hcz22_2 : w13.cell? ⟨gb284, 2, none⟩ = some (.bool false) := (blk_cell BK284.out 2).trans rfl; have hcz22_3 : w13.cell? ⟨gb284, 3, none⟩ = some (.bool false) := (blk_cell BK284.out 3).trans rfl; have hcz22_4 : w13.cell? ⟨gb284, 4, none⟩ = some (.int .i64 0) := (blk_cell BK284.out 4).trans rfl; have hfz22_0 := blk_frozen BK284.out 0; have hfz22_1 := blk_frozen BK284.out 1; have hfz22_2 := blk_frozen BK284.out 2; have hfz22_3 := blk_frozen BK284.out 3; have hfz22_4 := blk_frozen BK284.out 4
         go_wp2_with (first | (go_at_call 35; (with_reducible refine (skiarearef16_in.calls ((rd_T48 l0_0 x3_1).f0) 1 9999 false _ A16.out).mono ?_); rintro e w' ⟨rfl, ⟨nd, rfl⟩⟩; (try first | exact ⟨rfl, _, World.drewN_drewN _ _ _⟩ | exact ⟨rfl, _, Eq.trans (World.drewN_drewN _ _ _) (congrArg (World.drewN _) (Nat.add_assoc _ _ _))⟩)))
         repeat (go_quiet (first | (go_at_call 35; (with_reducible refine (skiarearef16_in.calls ((rd_T48 l0_0 x3_1).f0) 1 9999 false _ A16.out).mono ?_); rintro e w' ⟨rfl, ⟨nd, rfl⟩⟩; (try first | exact ⟨rfl, _, World.drewN_drewN _ _ _⟩ | exact ⟨rfl, _, Eq.trans (World.drewN_drewN _ _ _) (congrArg (World.drewN _) (Nat.add_assoc _ _ _))⟩))); try go_wp2_with (first | (go_at_call 35; (with_reducible refine (skiarearef16_in.calls ((rd_T48 l0_0 x3_1).f0) 1 9999 false _ A16.out).mono ?_); rintro e w' ⟨rfl, ⟨nd, rfl⟩⟩; (try first | exact ⟨rfl, _, World.drewN_drewN _ _ _⟩ | exact ⟨rfl, _, Eq.trans (World.drewN_drewN _ _ _) (congrArg (World.drewN _) (Nat.add_assoc _ _ _))⟩))))
         go_meet
         case rel => exact ⟨_, (true), (by first | rfl | (simp; done) | (simp [*]; done)), H', ⟨by have := HK1.out; first | omega | exact Nat.le_refl _⟩, ⟨by (with_reducible repeat (first | refine blk_drewN ?_ _ | refine blk_drew ?_ | refine blk_alloc ?_ _)); refine blk_far ?_ NB281_284.out _; (with_reducible repeat (first | refine blk_drewN ?_ _ | refine blk_drew ?_ | refine blk_alloc ?_ _)); refine blk_far ?_ NB281_284.out _; (with_reducible repeat (first | refine blk_drewN ?_ _ | refine blk_drew ?_ | refine blk_alloc ?_ _)); refine blk_far ?_ NB281_284.out _; (with_reducible repeat (first | refine blk_drewN ?_ _ | refine blk_drew ?_ | refine blk_alloc ?_ _)); refine blk_far ?_ NB281_284.out _; (with_reducible repeat (first | refine blk_drewN ?_ _ | refine blk_drew ?_ | refine blk_alloc ?_ _)); refine blk_far ?_ NB281_284.out _; (with_reducible repeat (first | refine blk_drewN ?_ _ | refine blk_drew ?_ | refine blk_alloc ?_ _)); exact BK281.out⟩, ⟨by (with_reducible repeat (first | refine blk_drewN ?_ _ | refine blk_drew ?_ | refine blk_alloc ?_ _)); refine blk_put (cs := #[.int .i64 ((rd_T48 l0_0 x3_1).f0), .bool ((rd_T48 l0_0 x3_1).f1), .bool ((rd_T48 l0_0 x3_1).f2), .bool ((rd_T48 l0_0 x3_1).f3), .int .i64 0]) ?_ 4 _ rfl; (with_reducible repeat (first | refine blk_drewN ?_ _ | refine blk_drew ?_ | refine blk_alloc ?_ _)); refine blk_put (cs := #[.int .i64 ((rd_T48 l0_0 x3_1).f0), .bool ((rd_T48 l0_0 x3_1).f1), .bool ((rd_T48 l0_0 x3_1).f2), .bool false, .int .i64 0]) ?_ 3 _ rfl; (with_reducible repeat (first | refine blk_drewN ?_ _ | refine blk_drew ?_ | refine blk_alloc ?_ _)); refine blk_put (cs := #[.int .i64 ((rd_T48 l0_0 x3_1).f0), .bool ((rd_T48 l0_0 x3_1).f1), .bool false, .bool false, .int .i64 0]) ?_ 2 _ rfl; (with_reducible repeat (first | refine blk_drewN ?_ _ | refine blk_drew ?_ | refine blk_alloc ?_ _)); refine blk_put (cs := #[.int .i64 ((rd_T48 l0_0 x3_1).f0), .bool false, .bool false, .bool false, .int .i64 0]) ?_ 1 _ rfl; (with_reducible repeat (first | refine blk_drewN ?_ _ | refine blk_drew ?_ | refine blk_alloc ?_ _)); refine blk_put (cs := #[.int .i64 0, .bool false, .bool false, .bool false, .int .i64 0]) ?_ 0 _ rfl; (with_reducible repeat (first | refine blk_drewN ?_ _ | refine blk_drew ?_ | refine blk_alloc ?_ _)); exact BK284.out⟩, ⟨by repeat (first | (with_reducible first | exact HB.out | apply below_alloc | apply pw_below_drewN | apply below_drew1 | refine below_set ?_ GE281.out | refine below_set ?_ GE284.out) | exact HB.out)⟩⟩
       case rest =>
        clear HC11
        try clear c1
        try clear c2
        try clear c2b0
        try clear c2b1
        try clear p2
        try clear q2
        try clear hx2
        try clear c6
        try clear c9
        try clear c9b0
        try clear c10
        try clear c10b0
        try clear c13
        try clear c14
        try clear c17
        try clear c19
        try clear c21
        try clear hcz12_0
        try clear hcz12_1
        try clear hcz15_0
        try clear hcz15_1
        try clear hcz15_2
        try clear hcz15_3
        try clear hcz15_4
        try clear hcz20_0
        try clear hcz20_1
        try clear hcz20_2
        try clear hcz20_3
        try clear hcz20_4
        try clear hcz22_0
        try clear hcz22_1
        try clear hcz22_2
        try clear hcz22_3
        try clear hcz22_4
        try clear hcz4_0
        try clear hcz4_1
        try clear hcz8_0
        try clear hcz8_1
        try clear hfz12_0
        try clear hfz12_1
        try clear hfz15_0
        try clear hfz15_1
        try clear hfz15_2
        try clear hfz15_3
        try clear hfz15_4
        try clear hfz20_0
        try clear hfz20_1
        try clear hfz20_2
        try clear hfz20_3
        try clear hfz20_4
        try clear hfz22_0
        try clear hfz22_1
        try clear hfz22_2
        try clear hfz22_3
        try clear hfz22_4
        try clear hfz4_0
        try clear hfz4_1
        try clear hfz8_0
        try clear hfz8_1
        try clear hx283_0
        try clear hx283_1
        try clear hx283_2
        try clear hx283_3
        try clear hx283_4
        try clear p2
        try clear p283
        try clear q283
        obtain ⟨kq, x25_10, rfl, HA, HJ10, BK281, BK284, HB⟩ := hcut
        cases kq with
        | zero => exact absurd HA.out (by simp [skiarearef16_Right.j1])
        | succ kj10 =>
         have H := HA.out; clear HA
         simp only [skiarearef16_Right.j1] at H
         by_cases c23 : x25_10 = true
         ·subst c23
          have H1 : (some 2) = some r := by rw [if_pos rfl] at H; exact H
          clear H; have H := H1; clear H1
          obtain rfl := Option.some.inj H
          go_wp2
          repeat (go_quiet (fail); try go_wp2)
          go_ret
          exact ⟨by first | rfl | (simp [errW_none, errW_some] <;> rfl) | (simp [*, errW_none, errW_some] <;> rfl), by repeat (first | (with_reducible first | exact HB.out | apply below_alloc | apply pw_below_drewN | apply below_drew1 | refine below_set ?_ GE281.out | refine below_set ?_ GE284.out) | exact HB.out)⟩
         ·replace c23 := Bool.eq_false_iff.mpr c23
          subst c23; have H1 : (if 0 ≤ x3_1 then (if x3_1 ≤ (l0_0.length : Int) then ((skiarearef16_index.f kj10 (l0_0.take (x3_1 : Int).toNat) ((rd_T48 l0_0 x3_1).f0)).bind fun t291 => (if t291 ≥ 0 then (some 7) else (if ((rd_T48 l0_0 x3_1).f2) = true then (skiarearef16_Right.j2 kj10 x3_1 false l0_0 a0_1 ((rd_T48 l0_0 x3_1).f0) ((rd_T48 l0_0 x3_1).f1) ((rd_T48 l0_0 x3_1).f2) ((rd_T48 l0_0 x3_1).f3) ((rd_T48 l0_0 x3_1).f4)) else (skiarearef16_Right.j2 kj10 x3_1 (!((rd_T48 l0_0 x3_1).f3)) l0_0 a0_1 ((rd_T48 l0_0 x3_1).f0) ((rd_T48 l0_0 x3_1).f1) ((rd_T48 l0_0 x3_1).f2) ((rd_T48 l0_0 x3_1).f3) ((rd_T48 l0_0 x3_1).f4))))) else (none)) else (none)) = some r := by rw [if_neg (show ¬ (false = true) by decide)] at H; exact H
          clear H; have H := H1; clear H1
          by_cases c24 : 0 ≤ x3_1
          ·rw [if_pos c24] at H
           have c24b0 := eq_true c24; have c24b1 : decide (0 ≤ x3_1) = true := decide_eq_true c24; clear c24
           by_cases c25 : x3_1 ≤ (l0_0.length : Int)
           ·rw [if_pos c25] at H
            have c25b0 := eq_true c25; have c25b1 : decide (x3_1 ≤ (l0_0.length : Int)) = true := decide_eq_true c25; clear c25
            obtain ⟨y287, hy287⟩ : ∃ y_ : List (S48), y_ = (l0_0.take (x3_1 : Int).toNat) := ⟨_, rfl⟩
            replace H : ((skiarearef16_index.f kj10 y287 ((rd_T48 l0_0 x3_1).f0)).bind fun t291 => (if t291 ≥ 0 then (some 7) else (if ((rd_T48 l0_0 x3_1).f2) = true then (skiarearef16_Right.j2 kj10 x3_1 false l0_0 a0_1 ((rd_T48 l0_0 x3_1).f0) ((rd_T48 l0_0 x3_1).f1) ((rd_T48 l0_0 x3_1).f2) ((rd_T48 l0_0 x3_1).f3) ((rd_T48 l0_0 x3_1).f4)) else (skiarearef16_Right.j2 kj10 x3_1 (!((rd_T48 l0_0 x3_1).f3)) l0_0 a0_1 ((rd_T48 l0_0 x3_1).f0) ((rd_T48 l0_0 x3_1).f1) ((rd_T48 l0_0 x3_1).f2) ((rd_T48 l0_0 x3_1).f3) ((rd_T48 l0_0 x3_1).f4))))) = some r := by first | (rw [hy287]; with_reducible exact H) | (have H2_ := (Option.bind_some _ _).symm.trans H; rw [hy287]; with_reducible exact H2_) | (have H2_ := (Option.bind_some _ _).symm.trans H; with_reducible exact H2_) | with_reducible exact H | (rw [hy287]; exact H) | exact H
            have Ny287 := Aside0.mk hy287; clear hy287
            replace H := Option.bind_eq_some_iff.mp H
            obtain ⟨t291, A260, H⟩ := H
            replace H : (if t291 ≥ 0 then (some 7) else (if ((rd_T48 l0_0 x3_1).f2) = true then (skiarearef16_Right.j2 kj10 x3_1 false l0_0 a0_1 ((rd_T48 l0_0 x3_1).f0) ((rd_T48 l0_0 x3_1).f1) ((rd_T48 l0_0 x3_1).f2) ((rd_T48 l0_0 x3_1).f3) ((rd_T48 l0_0 x3_1).f4)) else (skiarearef16_Right.j2 kj10 x3_1 (!((rd_T48 l0_0 x3_1).f3)) l0_0 a0_1 ((rd_T48 l0_0 x3_1).f0) ((rd_T48 l0_0 x3_1).f1) ((rd_T48 l0_0 x3_1).f2) ((rd_T48 l0_0 x3_1).f3) ((rd_T48 l0_0 x3_1).f4)))) = some r := H
            have A26 := Aside0.mk A260; clear A260
            by_cases c27 : t291 ≥ 0
            ·rw [if_pos c27] at H
             have c27b0 : decide (0 ≤ t291) = true := decide_eq_true c27; clear c27
             obtain rfl := Option.some.inj H
             have hnb28 := NB281_284.out; have hnc28 := NB284_281.out; have hcz29_0 : wc.cell? ⟨gb281, 0, none⟩ = some (.slice (some ad283) l0_0.length c0_0) := (blk_cell BK281.out 0).trans rfl; have hcz29_1 : wc.cell? ⟨gb281, 1, none⟩ = some (.int .i64 a0_1) := (blk_cell BK281.out 1).trans rfl; have hfz29_0 := blk_frozen BK281.out 0; have hfz29_1 := blk_frozen BK281.out 1; have q30 : (x3_1 : Int) ≤ ((l0_0.length : Int) : Int) := of_decide_eq_true (by first | (with_reducible assumption) | assumption)
             obtain ⟨i030, hi030, _, hsz30, _⟩ := info_parts info48
             have hroom30 : l0_0.length ≤ c0_0 := HC0_0.out; have hC30 : Kd.C k48 _ (some ad283) l0_0.length l0_0 := HR0_0.out; have hcut30 := cut_to (P := Try.prog) 22 48 .i64 Try.underlying22 hi030 (some ad283) l0_0.length c0_0 x3_1 (of_decide_eq_true (by first | (with_reducible assumption) | assumption)) q30 hroom30
             have hr30 := Kd.C_take (m := (x3_1 : Int).toNat) hC30 (by omega)
             have hy30 : y287.length = (x3_1 : Int).toNat := (by rw [Ny287.out, List.length_take]; omega)
             rw [← Ny287.out] at hr30
             rw [← hy30] at hcut30
             have HR290 := Aside0.mk hr30; have HC290 := Aside0.mk (show y287.length ≤ c0_0 from by omega)
             clear hr30 hC30 hroom30 hi030 hsz30; have KY30 := Aside0.mk hy30; clear hy30
             replace q30 := eq_true q30
             have hcz31_0 : wc.cell? ⟨gb284, 0, none⟩ = some (.int .i64 ((rd_T48 l0_0 x3_1).f0)) := (blk_cell BK284.out 0).trans rfl; have hcz31_1 : wc.cell? ⟨gb284, 1, none⟩ = some (.bool ((rd_T48 l0_0 x3_1).f1)) := (blk_cell BK284.out 1).trans rfl; have hcz31_2 : wc.cell? ⟨gb284, 2, none⟩ = some (.bool ((rd_T48 l0_0 x3_1).f2)) := (blk_cell BK284.out 2).trans rfl; have hcz31_3 : wc.cell? ⟨gb284, 3, none⟩ = some (.bool ((rd_T48 l0_0 x3_1).f3)) := (blk_cell BK284.out 3).trans rfl; have hcz31_4 : wc.cell? ⟨gb284, 4, none⟩ = some (.int .i64 ((rd_T48 l0_0 x3_1).f4)) := (blk_cell BK284.out 4).trans rfl; have hfz31_0 := blk_frozen BK284.out 0; have hfz31_1 := blk_frozen BK284.out 1; have hfz31_2 := blk_frozen BK284.out 2; have hfz31_3 := blk_frozen BK284.out 3; have hfz31_4 := blk_frozen BK284.out 4
             go_wp2_with (first | (go_at_call 36; (with_reducible refine (skiarearef16_index.calls kj10 _ _ y287 ((rd_T48 l0_0 x3_1).f0) t291 _ ?side1 ?side2 A26.out).mono ?_); (case side1 => repeat (first | exact (Kd.C_below HR290.out HB.out) | (with_reducible refine Kd.C_alloc ?_ _) | (with_reducible refine Kd.C_drewN ?_ _) | (with_reducible refine Kd.C_drew ?_))); (case side2 => exact HC290.out); rintro e w' ⟨rfl, ⟨nd, rfl⟩⟩; (try first | exact ⟨rfl, _, World.drewN_drewN _ _ _⟩ | exact ⟨rfl, _, Eq.trans (World.drewN_drewN _ _ _) (congrArg (World.drewN _) (Nat.add_assoc _ _ _))⟩)))
             repeat (go_quiet (first | (go_at_call 36; (with_reducible refine (skiarearef16_index.calls kj10 _ _ y287 ((rd_T48 l0_0 x3_1).f0) t291 _ ?side1 ?side2 A26.out).mono ?_); (case side1 => repeat (first | exact (Kd.C_below HR290.out HB.out) | (with_reducible refine Kd.C_alloc ?_ _) | (with_reducible refine Kd.C_drewN ?_ _) | (with_reducible refine Kd.C_drew ?_))); (case side2 => exact HC290.out); rintro e w' ⟨rfl, ⟨nd, rfl⟩⟩; (try first | exact ⟨rfl, _, World.drewN_drewN _ _ _⟩ | exact ⟨rfl, _, Eq.trans (World.drewN_drewN _ _ _) (congrArg (World.drewN _) (Nat.add_assoc _ _ _))⟩))); try go_wp2_with (first | (go_at_call 36; (with_reducible refine (skiarearef16_index.calls kj10 _ _ y287 ((rd_T48 l0_0 x3_1).f0) t291 _ ?side1 ?side2 A26.out).mono ?_); (case side1 => repeat (first | exact (Kd.C_below HR290.out HB.out) | (with_reducible refine Kd.C_alloc ?_ _) | (with_reducible refine Kd.C_drewN ?_ _) | (with_reducible refine Kd.C_drew ?_))); (case side2 => exact HC290.out); rintro e w' ⟨rfl, ⟨nd, rfl⟩⟩; (try first | exact ⟨rfl, _, World.drewN_drewN _ _ _⟩ | exact ⟨rfl, _, Eq.trans (World.drewN_drewN _ _ _) (congrArg (World.drewN _) (Nat.add_assoc _ _ _))⟩))))
             go_ret
             exact ⟨by first | rfl | (simp [errW_none, errW_some] <;> rfl) | (simp [*, errW_none, errW_some] <;> rfl), by repeat (first | (with_reducible first | exact HB.out | apply below_alloc | apply pw_below_drewN | apply below_drew1 | refine below_set ?_ GE281.out | refine below_set ?_ GE284.out) | exact HB.out)⟩
            ·rw [if_neg c27] at H
             have c27b0 : decide (0 ≤ t291) = false := decide_eq_false c27; clear c27; have HC32 := Aside0.mk H; clear H; have hnb33 := NB281_284.out; have hnc33 := NB284_281.out; have hcz34_0 : wc.cell? ⟨gb281, 0, none⟩ = some (.slice (some ad283) l0_0.length c0_0) := (blk_cell BK281.out 0).trans rfl; have hcz34_1 : wc.cell? ⟨gb281, 1, none⟩ = some (.int .i64 a0_1) := (blk_cell BK281.out 1).trans rfl; have hfz34_0 := blk_frozen BK281.out 0; have hfz34_1 := blk_frozen BK281.out 1; have q35 : (x3_1 : Int) ≤ ((l0_0.length : Int) : Int) := of_decide_eq_true (by first | (with_reducible assumption) | assumption)
             obtain ⟨i035, hi035, _, hsz35, _⟩ := info_parts info48
             have hroom35 : l0_0.length ≤ c0_0 := HC0_0.out; have hC35 : Kd.C k48 _ (some ad283) l0_0.length l0_0 := HR0_0.out
             try clear hcut30
             have hcut35 := cut_to (P := Try.prog) 22 48 .i64 Try.underlying22 hi035 (some ad283) l0_0.length c0_0 x3_1 (of_decide_eq_true (by first | (with_reducible assumption) | assumption)) q35 hroom35
             have hr35 := Kd.C_take (m := (x3_1 : Int).toNat) hC35 (by omega)
             have hy35 : y287.length = (x3_1 : Int).toNat := (by rw [Ny287.out, List.length_take]; omega)
             rw [← Ny287.out] at hr35
             rw [← hy35] at hcut35
             have HR290 := Aside0.mk hr35; have HC290 := Aside0.mk (show y287.length ≤ c0_0 from by omega)
             clear hr35 hC35 hroom35 hi035 hsz35; have KY35 := Aside0.mk hy35; clear hy35
             replace q35 := eq_true q35
             have hcz36_0 : wc.cell? ⟨gb284, 0, none⟩ = some (.int .i64 ((rd_T48 l0_0 x3_1).f0)) := (blk_cell BK284.out 0).trans rfl; have hcz36_1 : wc.cell? ⟨gb284, 1, none⟩ = some (.bool ((rd_T48 l0_0 x3_1).f1)) := (blk_cell BK284.out 1).trans rfl; have hcz36_2 : wc.cell? ⟨gb284, 2, none⟩ = some (.bool ((rd_T48 l0_0 x3_1).f2)) := (blk_cell BK284.out 2).trans rfl; have hcz36_3 : wc.cell? ⟨gb284, 3, none⟩ = some (.bool ((rd_T48 l0_0 x3_1).f3)) := (blk_cell BK284.out 3).trans rfl; have hcz36_4 : wc.cell? ⟨gb284, 4, none⟩ = some (.int .i64 ((rd_T48 l0_0 x3_1).f4)) := (blk_cell BK284.out 4).trans rfl; have hfz36_0 := blk_frozen BK284.out 0; have hfz36_1 := blk_frozen BK284.out 1; have hfz36_2 := blk_frozen BK284.out 2; have hfz36_3 := blk_frozen BK284.out 3; have hfz36_4 := blk_frozen BK284.out 4
             go_upto_region 13 with (first | (go_at_call 36; (with_reducible refine (skiarearef16_index.calls kj10 _ _ y287 ((rd_T48 l0_0 x3_1).f0) t291 _ ?side1 ?side2 A26.out).mono ?_); (case side1 => repeat (first | exact (Kd.C_below HR290.out HB.out) | (with_reducible refine Kd.C_alloc ?_ _) | (with_reducible refine Kd.C_drewN ?_ _) | (with_reducible refine Kd.C_drew ?_))); (case side2 => exact HC290.out); rintro e w' ⟨rfl, ⟨nd, rfl⟩⟩; (try first | exact ⟨rfl, _, World.drewN_drewN _ _ _⟩ | exact ⟨rfl, _, Eq.trans (World.drewN_drewN _ _ _) (congrArg (World.drewN _) (Nat.add_assoc _ _ _))⟩)))
             repeat (go_quiet (first | (go_at_call 36; (with_reducible refine (skiarearef16_index.calls kj10 _ _ y287 ((rd_T48 l0_0 x3_1).f0) t291 _ ?side1 ?side2 A26.out).mono ?_); (case side1 => repeat (first | exact (Kd.C_below HR290.out HB.out) | (with_reducible refine Kd.C_alloc ?_ _) | (with_reducible refine Kd.C_drewN ?_ _) | (with_reducible refine Kd.C_drew ?_))); (case side2 => exact HC290.out); rintro e w' ⟨rfl, ⟨nd, rfl⟩⟩; (try first | exact ⟨rfl, _, World.drewN_drewN _ _ _⟩ | exact ⟨rfl, _, Eq.trans (World.drewN_drewN _ _ _) (congrArg (World.drewN _) (Nat.add_assoc _ _ _))⟩))); go_upto_region 13 with (first | (go_at_call 36; (with_reducible refine (skiarearef16_index.calls kj10 _ _ y287 ((rd_T48 l0_0 x3_1).f0) t291 _ ?side1 ?side2 A26.out).mono ?_); (case side1 => repeat (first | exact (Kd.C_below HR290.out HB.out) | (with_reducible refine Kd.C_alloc ?_ _) | (with_reducible refine Kd.C_drewN ?_ _) | (with_reducible refine Kd.C_drew ?_))); (case side2 => exact HC290.out); rintro e w' ⟨rfl, ⟨nd, rfl⟩⟩; (try first | exact ⟨rfl, _, World.drewN_drewN _ _ _⟩ | exact ⟨rfl, _, Eq.trans (World.drewN_drewN _ _ _) (congrArg (World.drewN _) (Nat.add_assoc _ _ _))⟩))))
             (try simp only [Act.put, List.setIfInBounds_toArray, List.set_cons_zero, List.set_cons_succ])
             go_cut [45] (fun v45 wc => ∃ (kq : Nat) (x45_31 : Bool), v45 = .bool x45_31 ∧ Aside0 (skiarearef16_Right.j2 kq x3_1 x45_31 l0_0 a0_1 ((rd_T48 l0_0 x3_1).f0) ((rd_T48 l0_0 x3_1).f1) ((rd_T48 l0_0 x3_1).f2) ((rd_T48 l0_0 x3_1).f3) ((rd_T48 l0_0 x3_1).f4) = some r) ∧ Aside0 (kq ≤ kj10) ∧ Aside0 (wc.heap[gb281]? = some (.cells #[(.slice (some ad283) l0_0.length c0_0), .int .i64 a0_1] 24 (0, 0))) ∧ Aside0 (wc.heap[gb284]? = some (.cells #[.int .i64 ((rd_T48 l0_0 x3_1).f0), .bool ((rd_T48 l0_0 x3_1).f1), .bool ((rd_T48 l0_0 x3_1).f2), .bool ((rd_T48 l0_0 x3_1).f3), .int .i64 ((rd_T48 l0_0 x3_1).f4)] 48 (0, 0))) ∧ Aside0 (Below w.heap.size w wc))
             case first =>
              have H := HC32.out; clear HC32
              by_cases c37 : ((rd_T48 l0_0 x3_1).f2) = true
              ·rw [if_pos c37] at H
               have c37b0 : ((rd_T48 l0_0 x3_1).f2) = true := c37; clear c37
               (first | rw [c37b0] | (simp only [i64_w, i32_w]; rw [c37b0]) | skip)
               have H' := Aside0.mk H; clear H; have hnb38 := NB284_281.out; have hnc38 := NB281_284.out; have hcz39_0 : wc.cell? ⟨gb284, 0, none⟩ = some (.int .i64 ((rd_T48 l0_0 x3_1).f0)) := (blk_cell BK284.out 0).trans rfl; have hcz39_1 : wc.cell? ⟨gb284, 1, none⟩ = some (.bool ((rd_T48 l0_0 x3_1).f1)) := (blk_cell BK284.out 1).trans rfl; have hcz39_2 : wc.cell? ⟨gb284, 2, none⟩ = some (.bool ((rd_T48 l0_0 x3_1).f2)) := (blk_cell BK284.out 2).trans rfl; have hcz39_3 : wc.cell? ⟨gb284, 3, none⟩ = some (.bool ((rd_T48 l0_0 x3_1).f3)) := (blk_cell BK284.out 3).trans rfl; have hcz39_4 : wc.cell? ⟨gb284, 4, none⟩ = some (.int .i64 ((rd_T48 l0_0 x3_1).f4)) := (blk_cell BK284.out 4).trans rfl; have hfz39_0 := blk_frozen BK284.out 0; have hfz39_1 := blk_frozen BK284.out 1; have hfz39_2 := blk_frozen BK284.out 2; have hfz39_3 := blk_frozen BK284.out 3; have hfz39_4 := blk_frozen BK284.out 4
               go_wp2
               repeat (go_quiet (fail); try go_wp2)
               go_meet
               case rel => exact ⟨_, (false), (by first | rfl | (simp; done) | (simp [*]; done)), H', ⟨by have := HK1.out; have := HJ10.out; first | omega | exact Nat.le_refl _⟩, ⟨by (with_reducible repeat (first | refine blk_drewN ?_ _ | refine blk_drew ?_ | refine blk_alloc ?_ _)); exact BK281.out⟩, ⟨by (with_reducible repeat (first | refine blk_drewN ?_ _ | refine blk_drew ?_ | refine blk_alloc ?_ _)); exact BK284.out⟩, ⟨by repeat (first | (with_reducible first | exact HB.out | apply below_alloc | apply pw_below_drewN | apply below_drew1 | refine below_set ?_ GE281.out | refine below_set ?_ GE284.out) | exact HB.out)⟩⟩
              ·rw [if_neg c37] at H
               have c37b0 : ((rd_T48 l0_0 x3_1).f2) = false := by simpa using c37
               clear c37
               (first | rw [c37b0] | (simp only [i64_w, i32_w]; rw [c37b0]) | skip)
               have H' := Aside0.mk H; clear H; have hnb40 := NB284_281.out; have hnc40 := NB281_284.out; have hcz41_0 : wc.cell? ⟨gb284, 0, none⟩ = some (.int .i64 ((rd_T48 l0_0 x3_1).f0)) := (blk_cell BK284.out 0).trans rfl; have hcz41_1 : wc.cell? ⟨gb284, 1, none⟩ = some (.bool ((rd_T48 l0_0 x3_1).f1)) := (blk_cell BK284.out 1).trans rfl; have hcz41_2 : wc.cell? ⟨gb284, 2, none⟩ = some (.bool ((rd_T48 l0_0 x3_1).f2)) := (blk_cell BK284.out 2).trans rfl; have hcz41_3 : wc.cell? ⟨gb284, 3, none⟩ = some (.bool ((rd_T48 l0_0 x3_1).f3)) := (blk_cell BK284.out 3).trans rfl; have hcz41_4 : wc.cell? ⟨gb284, 4, none⟩ = some (.int .i64 ((rd_T48 l0_0 x3_1).f4)) := (blk_cell BK284.out 4).trans rfl; have hfz41_0 := blk_frozen BK284.out 0; have hfz41_1 := blk_frozen BK284.out 1; have hfz41_2 := blk_frozen BK284.out 2; have hfz41_3 := blk_frozen BK284.out 3; have hfz41_4 := blk_frozen BK284.out 4
               go_wp2
               repeat (go_quiet (fail); try go_wp2)
               go_meet
               case rel => exact ⟨_, (!((rd_T48 l0_0 x3_1).f3)), (by first | rfl | (simp; done) | (simp [*]; done)), H', ⟨by have := HK1.out; have := HJ10.out; first | omega | exact Nat.le_refl _⟩, ⟨by (with_reducible repeat (first | refine blk_drewN ?_ _ | refine blk_drew ?_ | refine blk_alloc ?_ _)); exact BK281.out⟩, ⟨by (with_reducible repeat (first | refine blk_drewN ?_ _ | refine blk_drew ?_ | refine blk_alloc ?_ _)); exact BK284.out⟩, ⟨by repeat (first | (with_reducible first | exact HB.out | apply below_alloc | apply pw_below_drewN | apply below_drew1 | refine below_set ?_ GE281.out | refine below_set ?_ GE284.out) | exact HB.out)⟩⟩
             case rest =>
              clear HC32
              try clear c1
              try clear c2
              try clear c2b0
              try clear c2b1
              try clear p2
              try clear q2
              try clear hx2
              try clear c3
              try clear q3
              try clear c4
              try clear c6
              try clear c9
              try clear c9b0
              try clear c10
              try clear c10b0
              try clear c13
              try clear c14
              try clear c17
              try clear c19
              try clear c21
              try clear c23
              try clear c24
              try clear c24b0
              try clear c24b1
              try clear c25
              try clear c25b0
              try clear c25b1
              try clear c27
              try clear c27b0
              try clear c28
              try clear p28
              try clear q28
              try clear hx28
              try clear q30
              try clear c33
              try clear q35
              try clear c37
              try clear c37b0
              try clear c38
              try clear c40
              try clear hcz12_0
              try clear hcz12_1
              try clear hcz15_0
              try clear hcz15_1
              try clear hcz15_2
              try clear hcz15_3
              try clear hcz15_4
              try clear hcz20_0
              try clear hcz20_1
              try clear hcz20_2
              try clear hcz20_3
              try clear hcz20_4
              try clear hcz22_0
              try clear hcz22_1
              try clear hcz22_2
              try clear hcz22_3
              try clear hcz22_4
              try clear hcz29_0
              try clear hcz29_1
              try clear hcz31_0
              try clear hcz31_1
              try clear hcz31_2
              try clear hcz31_3
              try clear hcz31_4
              try clear hcz34_0
              try clear hcz34_1
              try clear hcz36_0
              try clear hcz36_1
              try clear hcz36_2
              try clear hcz36_3
              try clear hcz36_4
              try clear hcz39_0
              try clear hcz39_1
              try clear hcz39_2
              try clear hcz39_3
              try clear hcz39_4
              try clear hcz41_0
              try clear hcz41_1
              try clear hcz41_2
              try clear hcz41_3
              try clear hcz41_4
              try clear hcz4_0
              try clear hcz4_1
              try clear hcz8_0
              try clear hcz8_1
              try clear hfz12_0
              try clear hfz12_1
              try clear hfz15_0
              try clear hfz15_1
              try clear hfz15_2
              try clear hfz15_3
              try clear hfz15_4
              try clear hfz20_0
              try clear hfz20_1
              try clear hfz20_2
              try clear hfz20_3
              try clear hfz20_4
              try clear hfz22_0
              try clear hfz22_1
              try clear hfz22_2
              try clear hfz22_3
              try clear hfz22_4
              try clear hfz29_0
              try clear hfz29_1
              try clear hfz31_0
              try clear hfz31_1
              try clear hfz31_2
              try clear hfz31_3
              try clear hfz31_4
              try clear hfz34_0
              try clear hfz34_1
              try clear hfz36_0
              try clear hfz36_1
              try clear hfz36_2
              try clear hfz36_3
              try clear hfz36_4
              try clear hfz39_0
              try clear hfz39_1
              try clear hfz39_2
              try clear hfz39_3
              try clear hfz39_4
              try clear hfz41_0
              try clear hfz41_1
              try clear hfz41_2
              try clear hfz41_3
              try clear hfz41_4
              try clear hfz4_0
              try clear hfz4_1
              try clear hfz8_0
              try clear hfz8_1
              try clear hx283_0
              try clear hx283_1
              try clear hx283_2
              try clear hx283_3
              try clear hx283_4
              try clear p2
              try clear p283
              try clear q2
              try clear q283
              try clear q30
              try clear q35
              obtain ⟨kq, x45_31, rfl, HA, HJ31, BK281, BK284, HB⟩ := hcut
              cases kq with
              | zero => exact absurd HA.out (by simp [skiarearef16_Right.j2])
              | succ kj31 =>
               have H := HA.out; clear HA
               simp only [skiarearef16_Right.j2] at H
               by_cases c42 : x45_31 = true
               ·subst c42
                have H1 : (some 10) = some r := by rw [if_pos rfl] at H; exact H
                clear H; have H := H1; clear H1
                obtain rfl := Option.some.inj H
                go_wp2
                repeat (go_quiet (fail); try go_wp2)
                go_ret
                exact ⟨by first | rfl | (simp [errW_none, errW_some] <;> rfl) | (simp [*, errW_none, errW_some] <;> rfl), by repeat (first | (with_reducible first | exact HB.out | apply below_alloc | apply pw_below_drewN | apply below_drew1 | refine below_set ?_ GE281.out | refine below_set ?_ GE284.out) | exact HB.out)⟩
               ·replace c42 := Bool.eq_false_iff.mpr c42
                subst c42; have H1 : (if ((rd_T48 l0_0 x3_1).f1) = true then (skiarearef16_Right.j3 kj31 x3_1 (((rd_T48 l0_0 x3_1).f4) != 0) l0_0 a0_1 ((rd_T48 l0_0 x3_1).f0) ((rd_T48 l0_0 x3_1).f1) ((rd_T48 l0_0 x3_1).f2) ((rd_T48 l0_0 x3_1).f3) ((rd_T48 l0_0 x3_1).f4)) else (skiarearef16_Right.j3 kj31 x3_1 false l0_0 a0_1 ((rd_T48 l0_0 x3_1).f0) ((rd_T48 l0_0 x3_1).f1) ((rd_T48 l0_0 x3_1).f2) ((rd_T48 l0_0 x3_1).f3) ((rd_T48 l0_0 x3_1).f4))) = some r := by rw [if_neg (show ¬ (false = true) by decide)] at H; exact H
                clear H; have H := H1; clear H1; have HC43 := Aside0.mk H; clear H
                go_upto_region 15 with (fail)
                repeat (go_quiet (fail); go_upto_region 15 with (fail))
                go_cut [54] (fun v54 wc => ∃ (kq : Nat) (x54_42 : Bool), v54 = .bool x54_42 ∧ Aside0 (skiarearef16_Right.j3 kq x3_1 x54_42 l0_0 a0_1 ((rd_T48 l0_0 x3_1).f0) ((rd_T48 l0_0 x3_1).f1) ((rd_T48 l0_0 x3_1).f2) ((rd_T48 l0_0 x3_1).f3) ((rd_T48 l0_0 x3_1).f4) = some r) ∧ Aside0 (kq ≤ kj31) ∧ Aside0 (wc.heap[gb281]? = some (.cells #[(.slice (some ad283) l0_0.length c0_0), .int .i64 a0_1] 24 (0, 0))) ∧ Aside0 (wc.heap[gb284]? = some (.cells #[.int .i64 ((rd_T48 l0_0 x3_1).f0), .bool ((rd_T48 l0_0 x3_1).f1), .bool ((rd_T48 l0_0 x3_1).f2), .bool ((rd_T48 l0_0 x3_1).f3), .int .i64 ((rd_T48 l0_0 x3_1).f4)] 48 (0, 0))) ∧ Aside0 (Below w.heap.size w wc))
                case first =>
                 have H := HC43.out; clear HC43
                 by_cases c44 : ((rd_T48 l0_0 x3_1).f1) = true
                 ·rw [if_pos c44] at H
                  have c44b0 : ((rd_T48 l0_0 x3_1).f1) = true := c44; clear c44
                  (first | rw [c44b0] | (simp only [i64_w, i32_w]; rw [c44b0]) | skip)
                  have H' := Aside0.mk H; clear H; have hnb45 := NB284_281.out; have hnc45 := NB281_284.out; have hcz46_0 : wc.cell? ⟨gb284, 0, none⟩ = some (.int .i64 ((rd_T48 l0_0 x3_1).f0)) := (blk_cell BK284.out 0).trans rfl; have hcz46_1 : wc.cell? ⟨gb284, 1, none⟩ = some (.bool ((rd_T48 l0_0 x3_1).f1)) := (blk_cell BK284.out 1).trans rfl; have hcz46_2 : wc.cell? ⟨gb284, 2, none⟩ = some (.bool ((rd_T48 l0_0 x3_1).f2)) := (blk_cell BK284.out 2).trans rfl; have hcz46_3 : wc.cell? ⟨gb284, 3, none⟩ = some (.bool ((rd_T48 l0_0 x3_1).f3)) := (blk_cell BK284.out 3).trans rfl; have hcz46_4 : wc.cell? ⟨gb284, 4, none⟩ = some (.int .i64 ((rd_T48 l0_0 x3_1).f4)) := (blk_cell BK284.out 4).trans rfl; have hfz46_0 := blk_frozen BK284.out 0; have hfz46_1 := blk_frozen BK284.out 1; have hfz46_2 := blk_frozen BK284.out 2; have hfz46_3 := blk_frozen BK284.out 3; have hfz46_4 := blk_frozen BK284.out 4
                  go_wp2
                  repeat (go_quiet (fail); try go_wp2)
                  go_meet
                  case rel => exact ⟨_, ((((rd_T48 l0_0 x3_1).f4) != 0)), (by first | rfl | (simp; done) | (simp [*]; done)), H', ⟨by have := HK1.out; have := HJ10.out; have := HJ31.out; first | omega | exact Nat.le_refl _⟩, ⟨by (with_reducible repeat (first | refine blk_drewN ?_ _ | refine blk_drew ?_ | refine blk_alloc ?_ _)); exact BK281.out⟩, ⟨by (with_reducible repeat (first | refine blk_drewN ?_ _ | refine blk_drew ?_ | refine blk_alloc ?_ _)); exact BK284.out⟩, ⟨by repeat (first | (with_reducible first | exact HB.out | apply below_alloc | apply pw_below_drewN | apply below_drew1 | refine below_set ?_ GE281.out | refine below_set ?_ GE284.out) | exact HB.out)⟩⟩
                 ·rw [if_neg c44] at H
                  have c44b0 : ((rd_T48 l0_0 x3_1).f1) = false := by simpa using c44
                  clear c44
                  (first | rw [c44b0] | (simp only [i64_w, i32_w]; rw [c44b0]) | skip)
                  have H' := Aside0.mk H; clear H; have hnb47 := NB284_281.out; have hnc47 := NB281_284.out; have hcz48_0 : wc.cell? ⟨gb284, 0, none⟩ = some (.int .i64 ((rd_T48 l0_0 x3_1).f0)) := (blk_cell BK284.out 0).trans rfl; have hcz48_1 : wc.cell? ⟨gb284, 1, none⟩ = some (.bool ((rd_T48 l0_0 x3_1).f1)) := (blk_cell BK284.out 1).trans rfl; have hcz48_2 : wc.cell? ⟨gb284, 2, none⟩ = some (.bool ((rd_T48 l0_0 x3_1).f2)) := (blk_cell BK284.out 2).trans rfl; have hcz48_3 : wc.cell? ⟨gb284, 3, none⟩ = some (.bool ((rd_T48 l0_0 x3_1).f3)) := (blk_cell BK284.out 3).trans rfl; have hcz48_4 : wc.cell? ⟨gb284, 4, none⟩ = some (.int .i64 ((rd_T48 l0_0 x3_1).f4)) := (blk_cell BK284.out 4).trans rfl; have hfz48_0 := blk_frozen BK284.out 0; have hfz48_1 := blk_frozen BK284.out 1; have hfz48_2 := blk_frozen BK284.out 2; have hfz48_3 := blk_frozen BK284.out 3; have hfz48_4 := blk_frozen BK284.out 4
                  go_wp2
                  repeat (go_quiet (fail); try go_wp2)
                  go_meet
                  case rel => exact ⟨_, (false), (by first | rfl | (simp; done) | (simp [*]; done)), H', ⟨by have := HK1.out; have := HJ10.out; have := HJ31.out; first | omega | exact Nat.le_refl _⟩, ⟨by (with_reducible repeat (first | refine blk_drewN ?_ _ | refine blk_drew ?_ | refine blk_alloc ?_ _)); exact BK281.out⟩, ⟨by (with_reducible repeat (first | refine blk_drewN ?_ _ | refine blk_drew ?_ | refine blk_alloc ?_ _)); exact BK284.out⟩, ⟨by repeat (first | (with_reducible first | exact HB.out | apply below_alloc | apply pw_below_drewN | apply below_drew1 | refine below_set ?_ GE281.out | refine below_set ?_ GE284.out) | exact HB.out)⟩⟩
                case rest =>
                 clear HC43
                 try clear c1
                 try clear c2
                 try clear c2b0
                 try clear c2b1
                 try clear p2
                 try clear q2
                 try clear hx2
                 try clear c3
                 try clear q3
                 try clear c4
                 try clear c6
                 try clear c9
                 try clear c9b0
                 try clear c10
                 try clear c10b0
                 try clear c13
                 try clear c14
                 try clear c17
                 try clear c19
                 try clear c21
                 try clear c23
                 try clear c24
                 try clear c24b0
                 try clear c24b1
                 try clear c25
                 try clear c25b0
                 try clear c25b1
                 try clear c27
                 try clear c27b0
                 try clear c28
                 try clear p28
                 try clear q28
                 try clear hx28
                 try clear q30
                 try clear c33
                 try clear q35
                 try clear c37
                 try clear c37b0
                 try clear c38
                 try clear c40
                 try clear c42
                 try clear c44
                 try clear c44b0
                 try clear c45
                 try clear c47
                 try clear hcz12_0
                 try clear hcz12_1
                 try clear hcz15_0
                 try clear hcz15_1
                 try clear hcz15_2
                 try clear hcz15_3
                 try clear hcz15_4
                 try clear hcz20_0
                 try clear hcz20_1
                 try clear hcz20_2
                 try clear hcz20_3
                 try clear hcz20_4
                 try clear hcz22_0
                 try clear hcz22_1
                 try clear hcz22_2
                 try clear hcz22_3
                 try clear hcz22_4
                 try clear hcz29_0
                 try clear hcz29_1
                 try clear hcz31_0
                 try clear hcz31_1
                 try clear hcz31_2
                 try clear hcz31_3
                 try clear hcz31_4
                 try clear hcz34_0
                 try clear hcz34_1
                 try clear hcz36_0
                 try clear hcz36_1
                 try clear hcz36_2
                 try clear hcz36_3
                 try clear hcz36_4
                 try clear hcz39_0
                 try clear hcz39_1
                 try clear hcz39_2
                 try clear hcz39_3
                 try clear hcz39_4
                 try clear hcz41_0
                 try clear hcz41_1
                 try clear hcz41_2
                 try clear hcz41_3
                 try clear hcz41_4
                 try clear hcz46_0
                 try clear hcz46_1
                 try clear hcz46_2
                 try clear hcz46_3
                 try clear hcz46_4
                 try clear hcz48_0
                 try clear hcz48_1
                 try clear hcz48_2
                 try clear hcz48_3
                 try clear hcz48_4
                 try clear hcz4_0
                 try clear hcz4_1
                 try clear hcz8_0
                 try clear hcz8_1
                 try clear hfz12_0
                 try clear hfz12_1
                 try clear hfz15_0
                 try clear hfz15_1
                 try clear hfz15_2
                 try clear hfz15_3
                 try clear hfz15_4
                 try clear hfz20_0
                 try clear hfz20_1
                 try clear hfz20_2
                 try clear hfz20_3
                 try clear hfz20_4
                 try clear hfz22_0
                 try clear hfz22_1
                 try clear hfz22_2
                 try clear hfz22_3
                 try clear hfz22_4
                 try clear hfz29_0
                 try clear hfz29_1
                 try clear hfz31_0
                 try clear hfz31_1
                 try clear hfz31_2
                 try clear hfz31_3
                 try clear hfz31_4
                 try clear hfz34_0
                 try clear hfz34_1
                 try clear hfz36_0
                 try clear hfz36_1
                 try clear hfz36_2
                 try clear hfz36_3
                 try clear hfz36_4
                 try clear hfz39_0
                 try clear hfz39_1
                 try clear hfz39_2
                 try clear hfz39_3
                 try clear hfz39_4
                 try clear hfz41_0
                 try clear hfz41_1
                 try clear hfz41_2
                 try clear hfz41_3
                 try clear hfz41_4
                 try clear hfz46_0
                 try clear hfz46_1
                 try clear hfz46_2
                 try clear hfz46_3
                 try clear hfz46_4
                 try clear hfz48_0
                 try clear hfz48_1
                 try clear hfz48_2
                 try clear hfz48_3
                 try clear hfz48_4
                 try clear hfz4_0
                 try clear hfz4_1
                 try clear hfz8_0
                 try clear hfz8_1
                 try clear hx283_0
                 try clear hx283_1
                 try clear hx283_2
                 try clear hx283_3
                 try clear hx283_4
                 try clear p2
                 try clear p28
                 try clear p283
                 try clear q2
                 try clear q28
                 try clear q283
                 try clear q3
                 try clear q30
                 try clear q35
                 obtain ⟨kq, x54_42, rfl, HA, HJ42, BK281, BK284, HB⟩ := hcut
                 cases kq with
                 | zero => exact absurd HA.out (by simp [skiarearef16_Right.j3])
                 | succ kj42 =>
                  have H := HA.out; clear HA
                  simp only [skiarearef16_Right.j3] at H
                  by_cases c49 : x54_42 = true
                  ·subst c49
                   have H1 : (some 13) = some r := by rw [if_pos rfl] at H; exact H
                   clear H; have H := H1; clear H1
                   obtain rfl := Option.some.inj H
                   go_wp2
                   repeat (go_quiet (fail); try go_wp2)
                   go_ret
                   exact ⟨by first | rfl | (simp [errW_none, errW_some] <;> rfl) | (simp [*, errW_none, errW_some] <;> rfl), by repeat (first | (with_reducible first | exact HB.out | apply below_alloc | apply pw_below_drewN | apply below_drew1 | refine below_set ?_ GE281.out | refine below_set ?_ GE284.out) | exact HB.out)⟩
                  ·replace c49 := Bool.eq_false_iff.mpr c49
                   subst c49; have H1 : (if ((rd_T48 l0_0 x3_1).f4) = 0 then (skiarearef16_Right.l0 kj42 (wrap64 (x3_1 + 1)) l0_0 a0_1) else (if a0_1 = 0 then (some 15) else (if 0 ≤ x3_1 then (if x3_1 ≤ (l0_0.length : Int) then ((skiarearef16_bypassed.f kj42 (l0_0.take (x3_1 : Int).toNat)).bind fun t296 => (if t296 ≥ 0 then (some 15) else (skiarearef16_Right.l0 kj42 (wrap64 (x3_1 + 1)) l0_0 a0_1))) else (none)) else (none)))) = some r := by rw [if_neg (show ¬ (false = true) by decide)] at H; exact H
                   clear H; have H := H1; clear H1
                   by_cases c50 : ((rd_T48 l0_0 x3_1).f4) = 0
                   ·rw [if_pos c50] at H
                    have c50b0 : (((rd_T48 l0_0 x3_1).f4) == 0) = true := beq_iff_eq.mpr c50; have c50b1 : (((rd_T48 l0_0 x3_1).f4) != 0) = false := bne_eq_false_iff_eq.mpr c50; clear c50; have H' := Aside0.mk H; clear H; have hnb51 := NB284_281.out; have hnc51 := NB281_284.out; have hcz52_0 : wc.cell? ⟨gb284, 0, none⟩ = some (.int .i64 ((rd_T48 l0_0 x3_1).f0)) := (blk_cell BK284.out 0).trans rfl; have hcz52_1 : wc.cell? ⟨gb284, 1, none⟩ = some (.bool ((rd_T48 l0_0 x3_1).f1)) := (blk_cell BK284.out 1).trans rfl; have hcz52_2 : wc.cell? ⟨gb284, 2, none⟩ = some (.bool ((rd_T48 l0_0 x3_1).f2)) := (blk_cell BK284.out 2).trans rfl; have hcz52_3 : wc.cell? ⟨gb284, 3, none⟩ = some (.bool ((rd_T48 l0_0 x3_1).f3)) := (blk_cell BK284.out 3).trans rfl; have hcz52_4 : wc.cell? ⟨gb284, 4, none⟩ = some (.int .i64 ((rd_T48 l0_0 x3_1).f4)) := (blk_cell BK284.out 4).trans rfl; have hfz52_0 := blk_frozen BK284.out 0; have hfz52_1 := blk_frozen BK284.out 1; have hfz52_2 := blk_frozen BK284.out 2; have hfz52_3 := blk_frozen BK284.out 3; have hfz52_4 := blk_frozen BK284.out 4
                    go_wp2
                    repeat (go_quiet (fail); try go_wp2)
                    go_roundg kj42
                    case measure => have := HK1.out; have := HJ10.out; have := HJ31.out; have := HJ42.out; omega
                    case rel => exact ⟨(wrap64 (x3_1 + 1)), (by first | rfl | (simp; done) | (simp [*]; done)), H', ⟨by have := HK1.out; have := HJ10.out; have := HJ31.out; have := HJ42.out; omega⟩, ⟨by (with_reducible repeat (first | refine blk_drewN ?_ _ | refine blk_drew ?_ | refine blk_alloc ?_ _)); exact BK281.out⟩, ⟨by repeat (first | (with_reducible first | exact HB.out | apply below_alloc | apply pw_below_drewN | apply below_drew1 | refine below_set ?_ GE281.out | refine below_set ?_ GE284.out) | exact HB.out)⟩⟩
                   ·rw [if_neg c50] at H
                    have c50b0 : (((rd_T48 l0_0 x3_1).f4) == 0) = false := beq_eq_false_iff_ne.mpr c50; have c50b1 : (((rd_T48 l0_0 x3_1).f4) != 0) = true := bne_iff_ne.mpr c50
                    by_cases c53 : a0_1 = 0
                    ·rw [if_pos c53] at H
                     have c53b0 : (a0_1 == 0) = true := beq_iff_eq.mpr c53; have c53b1 : (a0_1 != 0) = false := bne_eq_false_iff_eq.mpr c53; clear c53
                     obtain rfl := Option.some.inj H
                     have hnb54 := NB284_281.out; have hnc54 := NB281_284.out; have hcz55_0 : wc.cell? ⟨gb284, 0, none⟩ = some (.int .i64 ((rd_T48 l0_0 x3_1).f0)) := (blk_cell BK284.out 0).trans rfl; have hcz55_1 : wc.cell? ⟨gb284, 1, none⟩ = some (.bool ((rd_T48 l0_0 x3_1).f1)) := (blk_cell BK284.out 1).trans rfl; have hcz55_2 : wc.cell? ⟨gb284, 2, none⟩ = some (.bool ((rd_T48 l0_0 x3_1).f2)) := (blk_cell BK284.out 2).trans rfl; have hcz55_3 : wc.cell? ⟨gb284, 3, none⟩ = some (.bool ((rd_T48 l0_0 x3_1).f3)) := (blk_cell BK284.out 3).trans rfl; have hcz55_4 : wc.cell? ⟨gb284, 4, none⟩ = some (.int .i64 ((rd_T48 l0_0 x3_1).f4)) := (blk_cell BK284.out 4).trans rfl; have hfz55_0 := blk_frozen BK284.out 0; have hfz55_1 := blk_frozen BK284.out 1; have hfz55_2 := blk_frozen BK284.out 2; have hfz55_3 := blk_frozen BK284.out 3; have hfz55_4 := blk_frozen BK284.out 4; have hcz56_0 : wc.cell? ⟨gb281, 0, none⟩ = some (.slice (some ad283) l0_0.length c0_0) := (blk_cell BK281.out 0).trans rfl; have hcz56_1 : wc.cell? ⟨gb281, 1, none⟩ = some (.int .i64 a0_1) := (blk_cell BK281.out 1).trans rfl; have hfz56_0 := blk_frozen BK281.out 0; have hfz56_1 := blk_frozen BK281.out 1
                     go_wp2
                     repeat (go_quiet (fail); try go_wp2)
                     go_ret
                     exact ⟨by first | rfl | (simp [errW_none, errW_some] <;> rfl) | (simp [*, errW_none, errW_some] <;> rfl), by repeat (first | (with_reducible first | exact HB.out | apply below_alloc | apply pw_below_drewN | apply below_drew1 | refine below_set ?_ GE281.out | refine below_set ?_ GE284.out) | exact HB.out)⟩
                    ·rw [if_neg c53] at H
                     have c53b0 : (a0_1 == 0) = false := beq_eq_false_iff_ne.mpr c53; have c53b1 : (a0_1 != 0) = true := bne_iff_ne.mpr c53
                     by_cases c57 : 0 ≤ x3_1
                     ·rw [if_pos c57] at H
                      have c57b0 := eq_true c57; have c57b1 : decide (0 ≤ x3_1) = true := decide_eq_true c57; clear c57
                      by_cases c58 : x3_1 ≤ (l0_0.length : Int)
                      ·rw [if_pos c58] at H
                       have c58b0 := eq_true c58; have c58b1 : decide (x3_1 ≤ (l0_0.length : Int)) = true := decide_eq_true c58; clear c58
                       obtain ⟨y292, hy292⟩ : ∃ y_ : List (S48), y_ = (l0_0.take (x3_1 : Int).toNat) := ⟨_, rfl⟩
                       replace H : ((skiarearef16_bypassed.f kj42 y292).bind fun t296 => (if t296 ≥ 0 then (some 15) else (skiarearef16_Right.l0 kj42 (wrap64 (x3_1 + 1)) l0_0 a0_1))) = some r := by first | (rw [hy292]; with_reducible exact H) | (have H2_ := (Option.bind_some _ _).symm.trans H; rw [hy292]; with_reducible exact H2_) | (have H2_ := (Option.bind_some _ _).symm.trans H; with_reducible exact H2_) | with_reducible exact H | (rw [hy292]; exact H) | exact H
                       have Ny292 := Aside0.mk hy292; clear hy292
                       replace H := Option.bind_eq_some_iff.mp H
                       obtain ⟨t296, A590, H⟩ := H
                       replace H : (if t296 ≥ 0 then (some 15) else (skiarearef16_Right.l0 kj42 (wrap64 (x3_1 + 1)) l0_0 a0_1)) = some r := H
                       have A59 := Aside0.mk A590; clear A590
                       by_cases c60 : t296 ≥ 0
                       ·rw [if_pos c60] at H
                        have c60b0 : decide (0 ≤ t296) = true := decide_eq_true c60; clear c60
                        obtain rfl := Option.some.inj H
                        have hnb61 := NB284_281.out; have hnc61 := NB281_284.out; have hcz62_0 : wc.cell? ⟨gb284, 0, none⟩ = some (.int .i64 ((rd_T48 l0_0 x3_1).f0)) := (blk_cell BK284.out 0).trans rfl; have hcz62_1 : wc.cell? ⟨gb284, 1, none⟩ = some (.bool ((rd_T48 l0_0 x3_1).f1)) := (blk_cell BK284.out 1).trans rfl; have hcz62_2 : wc.cell? ⟨gb284, 2, none⟩ = some (.bool ((rd_T48 l0_0 x3_1).f2)) := (blk_cell BK284.out 2).trans rfl; have hcz62_3 : wc.cell? ⟨gb284, 3, none⟩ = some (.bool ((rd_T48 l0_0 x3_1).f3)) := (blk_cell BK284.out 3).trans rfl; have hcz62_4 : wc.cell? ⟨gb284, 4, none⟩ = some (.int .i64 ((rd_T48 l0_0 x3_1).f4)) := (blk_cell BK284.out 4).trans rfl; have hfz62_0 := blk_frozen BK284.out 0; have hfz62_1 := blk_frozen BK284.out 1; have hfz62_2 := blk_frozen BK284.out 2; have hfz62_3 := blk_frozen BK284.out 3; have hfz62_4 := blk_frozen BK284.out 4; have hcz63_0 : wc.cell? ⟨gb281, 0, none⟩ = some (.slice (some ad283) l0_0.length c0_0) := (blk_cell BK281.out 0).trans rfl; have hcz63_1 : wc.cell? ⟨gb281, 1, none⟩ = some (.int .i64 a0_1) := (blk_cell BK281.out 1).trans rfl; have hfz63_0 := blk_frozen BK281.out 0; have hfz63_1 := blk_frozen BK281.out 1; have q64 : (x3_1 : Int) ≤ ((l0_0.length : Int) : Int) := of_decide_eq_true (by first | (with_reducible assumption) | assumption)
                        obtain ⟨i064, hi064, _, hsz64, _⟩ := info_parts info48
                        have hroom64 : l0_0.length ≤ c0_0 := HC0_0.out; have hC64 : Kd.C k48 _ (some ad283) l0_0.length l0_0 := HR0_0.out
                        try clear hcut30
                        try clear hcut35
                        have hcut64 := cut_to (P := Try.prog) 22 48 .i64 Try.underlying22 hi064 (some ad283) l0_0.length c0_0 x3_1 (of_decide_eq_true (by first | (with_reducible assumption) | assumption)) q64 hroom64
                        have hr64 := Kd.C_take (m := (x3_1 : Int).toNat) hC64 (by omega)
                        have hy64 : y292.length = (x3_1 : Int).toNat := (by rw [Ny292.out, List.length_take]; omega)
                        rw [← Ny292.out] at hr64
                        rw [← hy64] at hcut64
                        have HR295 := Aside0.mk hr64; have HC295 := Aside0.mk (show y292.length ≤ c0_0 from by omega)
                        clear hr64 hC64 hroom64 hi064 hsz64; have KY64 := Aside0.mk hy64; clear hy64
                        replace q64 := eq_true q64
                        go_wp2_with (first | (go_at_call 37; (with_reducible refine (skiarearef16_bypassed.calls kj42 _ _ y292 t296 _ ?side1 ?side2 A59.out).mono ?_); (case side1 => repeat (first | exact (Kd.C_below HR295.out HB.out) | (with_reducible refine Kd.C_alloc ?_ _) | (with_reducible refine Kd.C_drewN ?_ _) | (with_reducible refine Kd.C_drew ?_))); (case side2 => exact HC295.out); rintro e w' ⟨rfl, ⟨nd, rfl⟩⟩; (try first | exact ⟨rfl, _, World.drewN_drewN _ _ _⟩ | exact ⟨rfl, _, Eq.trans (World.drewN_drewN _ _ _) (congrArg (World.drewN _) (Nat.add_assoc _ _ _))⟩)))
                        repeat (go_quiet (first | (go_at_call 37; (with_reducible refine (skiarearef16_bypassed.calls kj42 _ _ y292 t296 _ ?side1 ?side2 A59.out).mono ?_); (case side1 => repeat (first | exact (Kd.C_below HR295.out HB.out) | (with_reducible refine Kd.C_alloc ?_ _) | (with_reducible refine Kd.C_drewN ?_ _) | (with_reducible refine Kd.C_drew ?_))); (case side2 => exact HC295.out); rintro e w' ⟨rfl, ⟨nd, rfl⟩⟩; (try first | exact ⟨rfl, _, World.drewN_drewN _ _ _⟩ | exact ⟨rfl, _, Eq.trans (World.drewN_drewN _ _ _) (congrArg (World.drewN _) (Nat.add_assoc _ _ _))⟩))); try go_wp2_with (first | (go_at_call 37; (with_reducible refine (skiarearef16_bypassed.calls kj42 _ _ y292 t296 _ ?side1 ?side2 A59.out).mono ?_); (case side1 => repeat (first | exact (Kd.C_below HR295.out HB.out) | (with_reducible refine Kd.C_alloc ?_ _) | (with_reducible refine Kd.C_drewN ?_ _) | (with_reducible refine Kd.C_drew ?_))); (case side2 => exact HC295.out); rintro e w' ⟨rfl, ⟨nd, rfl⟩⟩; (try first | exact ⟨rfl, _, World.drewN_drewN _ _ _⟩ | exact ⟨rfl, _, Eq.trans (World.drewN_drewN _ _ _) (congrArg (World.drewN _) (Nat.add_assoc _ _ _))⟩))))
                        go_ret
                        exact ⟨by first | rfl | (simp [errW_none, errW_some] <;> rfl) | (simp [*, errW_none, errW_some] <;> rfl), by repeat (first | (with_reducible first | exact HB.out | apply below_alloc | apply pw_below_drewN | apply below_drew1 | refine below_set ?_ GE281.out | refine below_set ?_ GE284.out) | exact HB.out)⟩
                       ·rw [if_neg c60] at H
                        have c60b0 : decide (0 ≤ t296) = false := decide_eq_false c60; clear c60; have H' := Aside0.mk H; clear H; have hnb65 := NB284_281.out; have hnc65 := NB281_284.out; have hcz66_0 : wc.cell? ⟨gb284, 0, none⟩ = some (.int .i64 ((rd_T48 l0_0 x3_1).f0)) := (blk_cell BK284.out 0).trans rfl; have hcz66_1 : wc.cell? ⟨gb284, 1, none⟩ = some (.bool ((rd_T48 l0_0 x3_1).f1)) := (blk_cell BK284.out 1).trans rfl; have hcz66_2 : wc.cell? ⟨gb284, 2, none⟩ = some (.bool ((rd_T48 l0_0 x3_1).f2)) := (blk_cell BK284.out 2).trans rfl; have hcz66_3 : wc.cell? ⟨gb284, 3, none⟩ = some (.bool ((rd_T48 l0_0 x3_1).f3)) := (blk_cell BK284.out 3).trans rfl; have hcz66_4 : wc.cell? ⟨gb284, 4, none⟩ = some (.int .i64 ((rd_T48 l0_0 x3_1).f4)) := (blk_cell BK284.out 4).trans rfl; have hfz66_0 := blk_frozen BK284.out 0; have hfz66_1 := blk_frozen BK284.out 1; have hfz66_2 := blk_frozen BK284.out 2; have hfz66_3 := blk_frozen BK284.out 3; have hfz66_4 := blk_frozen BK284.out 4; have hcz67_0 : wc.cell? ⟨gb281, 0, none⟩ = some (.slice (some ad283) l0_0.length c0_0) := (blk_cell BK281.out 0).trans rfl; have hcz67_1 : wc.cell? ⟨gb281, 1, none⟩ = some (.int .i64 a0_1) := (blk_cell BK281.out 1).trans rfl; have hfz67_0 := blk_frozen BK281.out 0; have hfz67_1 := blk_frozen BK281.out 1; have q68 : (x3_1 : Int) ≤ ((l0_0.length : Int) : Int) := of_decide_eq_true (by first | (with_reducible assumption) | assumption)
                        obtain ⟨i068, hi068, _, hsz68, _⟩ := info_parts info48
                        have hroom68 : l0_0.length ≤ c0_0 := HC0_0.out; have hC68 : Kd.C k48 _ (some ad283) l0_0.length l0_0 := HR0_0.out
                        try clear hcut30
                        try clear hcut35
                        try clear hcut64
                        have hcut68 := cut_to (P := Try.prog) 22 48 .i64 Try.underlying22 hi068 (some ad283) l0_0.length c0_0 x3_1 (of_decide_eq_true (by first | (with_reducible assumption) | assumption)) q68 hroom68
                        have hr68 := Kd.C_take (m := (x3_1 : Int).toNat) hC68 (by omega)
                        have hy68 : y292.length = (x3_1 : Int).toNat := (by rw [Ny292.out, List.length_take]; omega)
                        rw [← Ny292.out] at hr68
                        rw [← hy68] at hcut68
                        have HR295 := Aside0.mk hr68; have HC295 := Aside0.mk (show y292.length ≤ c0_0 from by omega)
                        clear hr68 hC68 hroom68 hi068 hsz68; have KY68 := Aside0.mk hy68; clear hy68
                        replace q68 := eq_true q68
                        go_wp2_with (first | (go_at_call 37; (with_reducible refine (skiarearef16_bypassed.calls kj42 _ _ y292 t296 _ ?side1 ?side2 A59.out).mono ?_); (case side1 => repeat (first | exact (Kd.C_below HR295.out HB.out) | (with_reducible refine Kd.C_alloc ?_ _) | (with_reducible refine Kd.C_drewN ?_ _) | (with_reducible refine Kd.C_drew ?_))); (case side2 => exact HC295.out); rintro e w' ⟨rfl, ⟨nd, rfl⟩⟩; (try first | exact ⟨rfl, _, World.drewN_drewN _ _ _⟩ | exact ⟨rfl, _, Eq.trans (World.drewN_drewN _ _ _) (congrArg (World.drewN _) (Nat.add_assoc _ _ _))⟩)))
                        repeat (go_quiet (first | (go_at_call 37; (with_reducible refine (skiarearef16_bypassed.calls kj42 _ _ y292 t296 _ ?side1 ?side2 A59.out).mono ?_); (case side1 => repeat (first | exact (Kd.C_below HR295.out HB.out) | (with_reducible refine Kd.C_alloc ?_ _) | (with_reducible refine Kd.C_drewN ?_ _) | (with_reducible refine Kd.C_drew ?_))); (case side2 => exact HC295.out); rintro e w' ⟨rfl, ⟨nd, rfl⟩⟩; (try first | exact ⟨rfl, _, World.drewN_drewN _ _ _⟩ | exact ⟨rfl, _, Eq.trans (World.drewN_drewN _ _ _) (congrArg (World.drewN _) (Nat.add_assoc _ _ _))⟩))); try go_wp2_with (first | (go_at_call 37; (with_reducible refine (skiarearef16_bypassed.calls kj42 _ _ y292 t296 _ ?side1 ?side2 A59.out).mono ?_); (case side1 => repeat (first | exact (Kd.C_below HR295.out HB.out) | (with_reducible refine Kd.C_alloc ?_ _) | (with_reducible refine Kd.C_drewN ?_ _) | (with_reducible refine Kd.C_drew ?_))); (case side2 => exact HC295.out); rintro e w' ⟨rfl, ⟨nd, rfl⟩⟩; (try first | exact ⟨rfl, _, World.drewN_drewN _ _ _⟩ | exact ⟨rfl, _, Eq.trans (World.drewN_drewN _ _ _) (congrArg (World.drewN _) (Nat.add_assoc _ _ _))⟩))))
                        go_roundg kj42
                        case measure => have := HK1.out; have := HJ10.out; have := HJ31.out; have := HJ42.out; omega
                        case rel => exact ⟨(wrap64 (x3_1 + 1)), (by first | rfl | (simp; done) | (simp [*]; done)), H', ⟨by have := HK1.out; have := HJ10.out; have := HJ31.out; have := HJ42.out; omega⟩, ⟨by (with_reducible repeat (first | refine blk_drewN ?_ _ | refine blk_drew ?_ | refine blk_alloc ?_ _)); exact BK281.out⟩, ⟨by repeat (first | (with_reducible first | exact HB.out | apply below_alloc | apply pw_below_drewN | apply below_drew1 | refine below_set ?_ GE281.out | refine below_set ?_ GE284.out) | exact HB.out)⟩⟩
                      ·rw [if_neg c58] at H
                       exact absurd H (by simp)
                     ·rw [if_neg c57] at H
                      exact absurd H (by simp)
           ·rw [if_neg c25] at H
            exact absurd H (by simp)
          ·rw [if_neg c24] at H
           exact absurd H (by simp)
      ·rw [if_neg c10] at H
       exact absurd H (by simp)
     ·rw [if_neg c9] at H
      have c9b0 : decide (x3_1 < (l0_0.length : Int)) = false := decide_eq_false c9; clear c9
      obtain rfl := Option.some.inj H
      have hcz69_0 : wr.cell? ⟨gb281, 0, none⟩ = some (.slice A0_0 l0_0.length c0_0) := (blk_cell BK281.out 0).trans rfl; have hcz69_1 : wr.cell? ⟨gb281, 1, none⟩ = some (.int .i64 a0_1) := (blk_cell BK281.out 1).trans rfl; have hfz69_0 := blk_frozen BK281.out 0; have hfz69_1 := blk_frozen BK281.out 1
      go_wp2
      repeat (go_quiet (fail); try go_wp2)
      go_ret
      exact ⟨by first | rfl | (simp [errW_none, errW_some] <;> rfl) | (simp [*, errW_none, errW_some] <;> rfl), by repeat (first | (with_reducible first | exact HB.out | apply below_alloc | apply pw_below_drewN | apply below_drew1 | refine below_set ?_ GE281.out) | exact HB.out)⟩
  ·replace c6 := Bool.eq_false_iff.mpr c6
   subst c6; have H1 : (some 2) = some r := by rw [if_neg (show ¬ (false = true) by decide)] at H; exact H
   clear H; have H := H1; clear H1
   obtain rfl := Option.some.inj H
   go_enter Try.func13, Try.ntmps13
   go_wp2_with (first | ((with_reducible refine gate_dst (N := 1) rfl ?_); refine box_event ?hg (N := 1) ?hd (cs := #[.slice A0_0 l0_0.length c0_0, .int .i64 a0_1]) (t := 24) ?hr ?_; (case hd => rfl); (case hg => rfl); (case hr => first | (go_simp; done) | (go_simp; rfl)); intro gb281 hg w70 hbox hb; have n0_ := Aside0.mk (below_step (by repeat (first | (with_reducible first | exact HB.out | apply below_alloc | apply pw_below_drewN | apply below_drew1) | exact HB.out)) hb); have n1_ := Aside0.mk (hbox); have n2_ := Aside0.mk ((by rw [hg]; exact (below_size (by repeat (first | (with_reducible first | exact HB.out | apply below_alloc | apply pw_below_drewN | apply below_drew1) | exact HB.out))) : w.heap.size ≤ gb281)); have n3_ := n2_; clear HB; have HB := n0_; have BK281 := n1_; have GW281 := n2_; have GE281 := n3_; clear n0_ n1_ n2_ n3_; clear hb hbox hg; have hcz71_0 : w70.cell? ⟨gb281, 0, none⟩ = some (.slice A0_0 l0_0.length c0_0) := (blk_cell BK281.out 0).trans rfl; have hcz71_1 : w70.cell? ⟨gb281, 1, none⟩ = some (.int .i64 a0_1) := (blk_cell BK281.out 1).trans rfl; have hfz71_0 := blk_frozen BK281.out 0; have hfz71_1 := blk_frozen BK281.out 1) | (go_at_call 35; (with_reducible refine (skiarearef16_in.calls a0_1 0 9999 false _ A5.out).mono ?_); rintro e w' ⟨rfl, ⟨nd, rfl⟩⟩; (try first | exact ⟨rfl, _, World.drewN_drewN _ _ _⟩ | exact ⟨rfl, _, Eq.trans (World.drewN_drewN _ _ _) (congrArg (World.drewN _) (Nat.add_assoc _ _ _))⟩)))
   repeat (go_quiet (first | ((with_reducible refine gate_dst (N := 1) rfl ?_); refine box_event ?hg (N := 1) ?hd (cs := #[.slice A0_0 l0_0.length c0_0, .int .i64 a0_1]) (t := 24) ?hr ?_; (case hd => rfl); (case hg => rfl); (case hr => first | (go_simp; done) | (go_simp; rfl)); intro gb281 hg w70 hbox hb; have n0_ := Aside0.mk (below_step (by repeat (first | (with_reducible first | exact HB.out | apply below_alloc | apply pw_below_drewN | apply below_drew1) | exact HB.out)) hb); have n1_ := Aside0.mk (hbox); have n2_ := Aside0.mk ((by rw [hg]; exact (below_size (by repeat (first | (with_reducible first | exact HB.out | apply below_alloc | apply pw_below_drewN | apply below_drew1) | exact HB.out))) : w.heap.size ≤ gb281)); have n3_ := n2_; clear HB; have HB := n0_; have BK281 := n1_; have GW281 := n2_; have GE281 := n3_; clear n0_ n1_ n2_ n3_; clear hb hbox hg; have hcz71_0 : w70.cell? ⟨gb281, 0, none⟩ = some (.slice A0_0 l0_0.length c0_0) := (blk_cell BK281.out 0).trans rfl; have hcz71_1 : w70.cell? ⟨gb281, 1, none⟩ = some (.int .i64 a0_1) := (blk_cell BK281.out 1).trans rfl; have hfz71_0 := blk_frozen BK281.out 0; have hfz71_1 := blk_frozen BK281.out 1) | (go_at_call 35; (with_reducible refine (skiarearef16_in.calls a0_1 0 9999 false _ A5.out).mono ?_); rintro e w' ⟨rfl, ⟨nd, rfl⟩⟩; (try first | exact ⟨rfl, _, World.drewN_drewN _ _ _⟩ | exact ⟨rfl, _, Eq.trans (World.drewN_drewN _ _ _) (congrArg (World.drewN _) (Nat.add_assoc _ _ _))⟩))); try go_wp2_with (first | ((with_reducible refine gate_dst (N := 1) rfl ?_); refine box_event ?hg (N := 1) ?hd (cs := #[.slice A0_0 l0_0.length c0_0, .int .i64 a0_1]) (t := 24) ?hr ?_; (case hd => rfl); (case hg => rfl); (case hr => first | (go_simp; done) | (go_simp; rfl)); intro gb281 hg w70 hbox hb; have n0_ := Aside0.mk (below_step (by repeat (first | (with_reducible first | exact HB.out | apply below_alloc | apply pw_below_drewN | apply below_drew1) | exact HB.out)) hb); have n1_ := Aside0.mk (hbox); have n2_ := Aside0.mk ((by rw [hg]; exact (below_size (by repeat (first | (with_reducible first | exact HB.out | apply below_alloc | apply pw_below_drewN | apply below_drew1) | exact HB.out))) : w.heap.size ≤ gb281)); have n3_ := n2_; clear HB; have HB := n0_; have BK281 := n1_; have GW281 := n2_; have GE281 := n3_; clear n0_ n1_ n2_ n3_; clear hb hbox hg; have hcz71_0 : w70.cell? ⟨gb281, 0, none⟩ = some (.slice A0_0 l0_0.length c0_0) := (blk_cell BK281.out 0).trans rfl; have hcz71_1 : w70.cell? ⟨gb281, 1, none⟩ = some (.int .i64 a0_1) := (blk_cell BK281.out 1).trans rfl; have hfz71_0 := blk_frozen BK281.out 0; have hfz71_1 := blk_frozen BK281.out 1) | (go_at_call 35; (with_reducible refine (skiarearef16_in.calls a0_1 0 9999 false _ A5.out).mono ?_); rintro e w' ⟨rfl, ⟨nd, rfl⟩⟩; (try first | exact ⟨rfl, _, World.drewN_drewN _ _ _⟩ | exact ⟨rfl, _, Eq.trans (World.drewN_drewN _ _ _) (congrArg (World.drewN _) (Nat.add_assoc _ _ _))⟩))))
   go_ret
   exact ⟨by first | rfl | (simp [errW_none, errW_some] <;> rfl) | (simp [*, errW_none, errW_some] <;> rfl), by repeat (first | (with_reducible first | exact HB.out | apply below_alloc | apply pw_below_drewN | apply below_drew1 | refine below_set ?_ GE281.out) | exact HB.out)⟩

end Go.Proofs.Yteepdedbldnccaa.P
