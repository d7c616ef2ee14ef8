-- Written by wip/tools/laws.py of this repo over the kit's printer, for this claim.
import Derived.Test.YteepdedbldnccaaPx0
import Derived.Test.YteepdedbldnccaaPx3
import Derived.Test.YteepdedbldnccaaPx18
import Derived.Test.YteepdedbldnccaaPx36
namespace Go.Proofs.Yteepdedbldnccaa.P
open Go.RowKit Go.Proofs.YteepdedbldnccaaW.PrintWords Go.Proofs.YteepdedbldnccaaW.PrintLast Go.Proofs.YteepdedbldnccaaW.PrintMore
attribute [local go_sem] max2_int min2_int max_two min_two max_three min_three max_four min_four   -- for this text's walks alone
set_option linter.unusedVariables false
set_option linter.unusedSimpArgs false

/-! ### skiarealaw16_ChainOne: function 9 -/
mutual
def skiarealaw16_ChainOne.j0 : Nat → List (S45) → Bool → List (S48) → Int → Option (Bool)
 | 0, _, _, _, _ => none
 | k + 1, x1, x18, x540000, x540001 => if x18 = true then (some true) else (skiarealaw16_ChainOne.l0 k x1 0 x540000 x540001)
def skiarealaw16_ChainOne.l0 : Nat → List (S45) → Int → List (S48) → Int → Option (Bool)
 | 0, _, _, _, _ => none
 | k + 1, x1, x6, x543000, x543001 => if x6 < (x1.length : Int) then (if 0 ≤ x6 then ((skiarealaw16_do.f k x543000 x543001 ((rd_T45 x1 x6).f0) ((rd_T45 x1 x6).f1) ((rd_T45 x1 x6).f2) ((rd_T45 x1 x6).f3)).bind fun bt544 => (skiarealaw16_ChainOne.l1 k x1 x6 0 0 bt544.1 bt544.2.1)) else (none)) else (some true)
def skiarealaw16_ChainOne.l1 : Nat → List (S45) → Int → Int → Int → List (S48) → Int → Option (Bool)
 | 0, _, _, _, _, _, _ => none
 | k + 1, x1, x6, x7, x8, x543000, x543001 => if x8 < (x543000.length : Int) then (if 0 ≤ x8 then (if ((rd_T48 x543000 x8).f4) = 0 then (skiarealaw16_ChainOne.l1 k x1 x6 x7 (wrap64 (x8 + 1)) x543000 x543001) else (if (rd_T48 x543000 x8).f1 = true then (none) else (skiarealaw16_ChainOne.l1 k x1 x6 (wrap64 (x7 + 1)) (wrap64 (x8 + 1)) x543000 x543001))) else (none)) else (if x7 > 1 then (none) else (if x7 > 0 then (if x543001 = 0 then (none) else (skiarealaw16_ChainOne.l0 k x1 (wrap64 (x6 + 1)) x543000 x543001)) else (skiarealaw16_ChainOne.l0 k x1 (wrap64 (x6 + 1)) x543000 x543001)))
end
def skiarealaw16_ChainOne.f (k : Nat) (l0_0 : List (S48)) (a0_1 : Int) (l1 : List (S45)) : Option (Bool) := (skiarealaw16_alive.f k).bind fun t540 => (if t540 = true then ((chain_Right.f k l0_0 a0_1).bind fun t541 => (if t541 = 0 then (skiarealaw16_ChainOne.j0 k l1 (decide ((l1.length : Int) > 30)) l0_0 a0_1) else (skiarealaw16_ChainOne.j0 k l1 true l0_0 a0_1))) else (none))
theorem skiarealaw16_ChainOne.mono_l : ∀ k, (∀ y0 y1 y2 y3, LeO (skiarealaw16_ChainOne.j0 k y0 y1 y2 y3) (skiarealaw16_ChainOne.j0 (k + 1) y0 y1 y2 y3)) ∧ (∀ y0 y1 y2 y3, LeO (skiarealaw16_ChainOne.l0 k y0 y1 y2 y3) (skiarealaw16_ChainOne.l0 (k + 1) y0 y1 y2 y3)) ∧ (∀ y0 y1 y2 y3 y4 y5, LeO (skiarealaw16_ChainOne.l1 k y0 y1 y2 y3 y4 y5) (skiarealaw16_ChainOne.l1 (k + 1) y0 y1 y2 y3 y4 y5))
 | 0 => ⟨fun _ _ _ _ r h => by simp [skiarealaw16_ChainOne.j0] at h, fun _ _ _ _ r h => by simp [skiarealaw16_ChainOne.l0] at h, fun _ _ _ _ _ _ r h => by simp [skiarealaw16_ChainOne.l1] at h⟩
 | k + 1 => by
  obtain ⟨ih0, ih1, ih2⟩ := skiarealaw16_ChainOne.mono_l k
  refine ⟨?_, ?_, ?_⟩
  ·intro y0 y1 y2 y3
   unfold skiarealaw16_ChainOne.j0
   repeat' first
   | (with_reducible exact ih0 _ _ _ _)
   | (with_reducible exact ih1 _ _ _ _)
   | (with_reducible exact ih2 _ _ _ _ _ _)
   | (with_reducible exact chain_Right.mono _ _ _)
   | (with_reducible exact skiarealaw16_alive.mono _)
   | (with_reducible exact skiarealaw16_do.mono _ _ _ _ _ _ _)
   | (with_reducible exact LeO.refl _)
   | (with_reducible exact LeO.none _)
   | (with_reducible refine LeO.ite ?_ ?_)
   | (with_reducible refine LeO.bind ?_ (fun _ => ?_))
   | exact ih0 _ _ _ _
   | exact ih1 _ _ _ _
   | exact ih2 _ _ _ _ _ _
   | exact chain_Right.mono _ _ _
   | exact skiarealaw16_alive.mono _
   | exact skiarealaw16_do.mono _ _ _ _ _ _ _
   | exact LeO.none _
   | refine LeO.ite ?_ ?_
   | refine LeO.bind ?_ (fun _ => ?_)
  ·intro y0 y1 y2 y3
   unfold skiarealaw16_ChainOne.l0
   repeat' first
   | (with_reducible exact ih0 _ _ _ _)
   | (with_reducible exact ih1 _ _ _ _)
   | (with_reducible exact ih2 _ _ _ _ _ _)
   | (with_reducible exact chain_Right.mono _ _ _)
   | (with_reducible exact skiarealaw16_alive.mono _)
   | (with_reducible exact skiarealaw16_do.mono _ _ _ _ _ _ _)
   | (with_reducible exact LeO.refl _)
   | (with_reducible exact LeO.none _)
   | (with_reducible refine LeO.ite ?_ ?_)
   | (with_reducible refine LeO.bind ?_ (fun _ => ?_))
   | exact ih0 _ _ _ _
   | exact ih1 _ _ _ _
   | exact ih2 _ _ _ _ _ _
   | exact chain_Right.mono _ _ _
   | exact skiarealaw16_alive.mono _
   | exact skiarealaw16_do.mono _ _ _ _ _ _ _
   | exact LeO.none _
   | refine LeO.ite ?_ ?_
   | refine LeO.bind ?_ (fun _ => ?_)
  ·intro y0 y1 y2 y3 y4 y5
   unfold skiarealaw16_ChainOne.l1
   repeat' first
   | (with_reducible exact ih0 _ _ _ _)
   | (with_reducible exact ih1 _ _ _ _)
   | (with_reducible exact ih2 _ _ _ _ _ _)
   | (with_reducible exact chain_Right.mono _ _ _)
   | (with_reducible exact skiarealaw16_alive.mono _)
   | (with_reducible exact skiarealaw16_do.mono _ _ _ _ _ _ _)
   | (with_reducible exact LeO.refl _)
   | (with_reducible exact LeO.none _)
   | (with_reducible refine LeO.ite ?_ ?_)
   | (with_reducible refine LeO.bind ?_ (fun _ => ?_))
   | exact ih0 _ _ _ _
   | exact ih1 _ _ _ _
   | exact ih2 _ _ _ _ _ _
   | exact chain_Right.mono _ _ _
   | exact skiarealaw16_alive.mono _
   | exact skiarealaw16_do.mono _ _ _ _ _ _ _
   | exact LeO.none _
   | refine LeO.ite ?_ ?_
   | refine LeO.bind ?_ (fun _ => ?_)
theorem skiarealaw16_ChainOne.mono : ∀ a0 a1 a2 k, LeO (skiarealaw16_ChainOne.f k a0 a1 a2) (skiarealaw16_ChainOne.f (k + 1) a0 a1 a2) := by
 intro a0 a1 a2 k
 obtain ⟨ih0, ih1, ih2⟩ := skiarealaw16_ChainOne.mono_l k
 unfold skiarealaw16_ChainOne.f
 repeat' first
   | (with_reducible exact ih0 _ _ _ _)
   | (with_reducible exact ih1 _ _ _ _)
   | (with_reducible exact ih2 _ _ _ _ _ _)
   | (with_reducible exact chain_Right.mono _ _ _)
   | (with_reducible exact skiarealaw16_alive.mono _)
   | (with_reducible exact skiarealaw16_do.mono _ _ _ _ _ _ _)
   | (with_reducible exact LeO.refl _)
   | (with_reducible exact LeO.none _)
   | (with_reducible refine LeO.ite ?_ ?_)
   | (with_reducible refine LeO.bind ?_ (fun _ => ?_))
   | exact ih0 _ _ _ _
   | exact ih1 _ _ _ _
   | exact ih2 _ _ _ _ _ _
   | exact chain_Right.mono _ _ _
   | exact skiarealaw16_alive.mono _
   | exact skiarealaw16_do.mono _ _ _ _ _ _ _
   | exact LeO.none _
   | refine LeO.ite ?_ ?_
   | refine LeO.bind ?_ (fun _ => ?_)
def skiarealaw16_ChainOne.T9 : Bool × List (List Nat × List Nat) := (true, [([], []), ([], []), ([], []), ([1, 2], [1, 2]), ([3], [3]), ([0, 4], [0, 4]), ([5], [5]), ([6], [6]), ([6], [6]), ([7, 5, 0, 1, 2, 3, 4, 5, 6, 7], [7])])
def skiarealaw16_ChainOne.B9 : List Nat := [0, 0, 0, 6, 14, 31, 63, 127, 127, 255]
theorem skiarealaw16_ChainOne.tab9 : rtab .any (opsOf Try.f9 9) = skiarealaw16_ChainOne.T9 := by kernel_rfl
theorem skiarealaw16_ChainOne.bits9 : waitsOk skiarealaw16_ChainOne.T9.2 skiarealaw16_ChainOne.B9 = true := by kernel_rfl
set_option maxHeartbeats 8000000 in
set_option maxRecDepth 100000 in
theorem skiarealaw16_ChainOne.calls (k : Nat) (P0_0_ : Nat → Prop) (A0_0 : Option Addr) (c0_0 : Nat) (l0_0 : List (S48)) (a0_1 : Int) (A1 : Option Addr) (c1 : Nat) (l1 : List (S45)) (r : Bool) (w : World) (hs0_0 : Kd.V k48 48 w w.heap.size (fun k_ => P0_0_ k_) (.slice A0_0 l0_0.length c0_0) l0_0) (hr1 : Kd.C k45 w A1 l1.length l1) (hc1 : l1.length ≤ c1) (h : skiarealaw16_ChainOne.f k l0_0 a0_1 l1 = some r) :
  Calls Try.prog 9 #[.agg #[.slice A0_0 l0_0.length c0_0, .int .i64 a0_1], .slice A1 l1.length c1] w fun e w' => e = .returned (.bool r) ∧ Below w.heap.size w w' := by
 have hu24 := Try.underlying24
 have hu45 := Try.underlying45
 have HO0_0 := Aside0.mk (show Kd.V k48 48 w w.heap.size (fun k_ => (P0_0_ k_ ∨ w.heap.size ≤ k_)) (.slice A0_0 l0_0.length c0_0) l0_0 from Kd.V_mono hs0_0 (fun k_ hk => .inl hk))
 have HR1 := Aside0.mk hr1
 have HC1 := Aside0.mk hc1
 clear hr1 hc1
 have HB := Aside0.mk (Below.refl w.heap.size w)
 have H : ((skiarealaw16_alive.f k).bind fun t540 => (if t540 = true then ((chain_Right.f k l0_0 a0_1).bind fun t541 => (if t541 = 0 then (skiarealaw16_ChainOne.j0 k l1 (decide ((l1.length : Int) > 30)) l0_0 a0_1) else (skiarealaw16_ChainOne.j0 k l1 true l0_0 a0_1))) else (none))) = some r := h
 clear h
 replace H := Option.bind_eq_some_iff.mp H
 obtain ⟨t540, A30, H⟩ := H
 replace H : (if t540 = true then ((chain_Right.f k l0_0 a0_1).bind fun t541 => (if t541 = 0 then (skiarealaw16_ChainOne.j0 k l1 (decide ((l1.length : Int) > 30)) l0_0 a0_1) else (skiarealaw16_ChainOne.j0 k l1 true l0_0 a0_1))) else (none)) = some r := H
 have A3 := Aside0.mk A30
 clear A30
 by_cases c4 : t540 = true
 ·subst c4
  have H1 : ((chain_Right.f k l0_0 a0_1).bind fun t541 => (if t541 = 0 then (skiarealaw16_ChainOne.j0 k l1 (decide ((l1.length : Int) > 30)) l0_0 a0_1) else (skiarealaw16_ChainOne.j0 k l1 true l0_0 a0_1))) = some r := by rw [if_pos rfl] at H; exact H
  clear H; have H := H1; clear H1; have HC5 := Aside0.mk H; clear H
  go_enter Try.func9, Try.ntmps9
  go_upto_region 3 with (first | ((with_reducible refine gate_dst (N := 2) rfl ?_); (try (refine gate_guard (by rfl) ?_; dsimp only)); refine box_event ?hg (N := 2) ?hd (cs := #[.slice A0_0 l0_0.length c0_0, .int .i64 a0_1]) (t := 24) ?hr ?_; (case hd => rfl); (case hg => rfl); (case hr => first | (go_simp; done) | (go_simp; rfl)); intro gb539 hg w6 hbox hb; have n0_ := Aside0.mk (Kd.V_below (Kd.V_elderB (by (with_reducible repeat (first | apply Kd.V_alloc | apply Kd.V_drewN | apply Kd.V_drew)); exact HO0_0.out) gb539 (Nat.le_of_eq hg.symm)) hb); have n1_ := Aside0.mk (below_step (by repeat (first | (with_reducible first | exact HB.out | apply below_alloc | apply pw_below_drewN | apply below_drew1) | exact HB.out)) hb); have n2_ := Aside0.mk (hbox); have n3_ := Aside0.mk ((by rw [hg]; exact (below_size (by repeat (first | (with_reducible first | exact HB.out | apply below_alloc | apply pw_below_drewN | apply below_drew1) | exact HB.out))) : w.heap.size ≤ gb539)); have n4_ := n3_; clear HO0_0; clear HB; have HO0_0 := n0_; have HB := n1_; have BK539 := n2_; have GW539 := n3_; have GE539 := n4_; clear n0_ n1_ n2_ n3_ n4_; clear hb hbox hg) | ((with_reducible refine gate_callee (f := 11) rfl ?_); refine goesL_ (some 9) rfl rfl Try.func11 (by kernel_rfl) rfl #[] rfl (by (try simp only [List.map_toArray, List.map_cons, List.map_nil]); first | done | rfl | (simp only [List.length_drop, List.length_take]; rfl)) ?_; (with_reducible refine (skiarealaw16_alive.calls k  true _ A3.out).mono ?_); rintro e w7 ⟨rfl, hb⟩; refine ⟨_, rfl, ?_⟩; have n0_ := Aside0.mk (Kd.V_below (by (with_reducible repeat (first | apply Kd.V_alloc | apply Kd.V_drewN | apply Kd.V_drew)); exact HO0_0.out) hb); have n1_ := Aside0.mk (bb_ BK539.out hb); have n2_ := Aside0.mk (below_step (by repeat (first | (with_reducible first | exact HB.out | apply below_alloc | apply pw_below_drewN | apply below_drew1 | refine below_set ?_ GE539.out) | exact HB.out)) hb); clear HO0_0; clear BK539; clear HB; have HO0_0 := n0_; have BK539 := n1_; have HB := n2_; clear n0_ n1_ n2_; (try clear hb); (try clear hb2); (try clear hk); (try clear hi)))
  (try simp only [Act.put, List.setIfInBounds_toArray, List.set_cons_zero, List.set_cons_succ])
  go_cut [18] (fun v18 wc => ∃ (kq : Nat) (x18_4 : Bool), v18 = .bool x18_4 ∧ Aside0 (skiarealaw16_ChainOne.j0 kq l1 x18_4 l0_0 a0_1 = some r) ∧ Aside0 (kq ≤ k) ∧ Aside0 (Kd.V k48 48 wc w.heap.size (fun k_ => (P0_0_ k_ ∨ w.heap.size ≤ k_) ∧ k_ ≠ gb539) (.slice A0_0 l0_0.length c0_0) l0_0) ∧ Aside0 (wc.heap[gb539]? = some (.cells #[(.slice A0_0 l0_0.length c0_0), .int .i64 a0_1] 24 (0, 0))) ∧ Aside0 (Below w.heap.size w wc))
  case first =>
   have H := HC5.out; clear HC5
   replace H := Option.bind_eq_some_iff.mp H
   obtain ⟨t541, A80, H⟩ := H
   replace H : (if t541 = 0 then (skiarealaw16_ChainOne.j0 k l1 (decide ((l1.length : Int) > 30)) l0_0 a0_1) else (skiarealaw16_ChainOne.j0 k l1 true l0_0 a0_1)) = some r := H
   have A8 := Aside0.mk A80; clear A80
   by_cases c9 : t541 = 0
   ·rw [if_pos c9] at H
    have c9b0 : (t541 == 0) = true := beq_iff_eq.mpr c9; have c9b1 : (t541 != 0) = false := bne_eq_false_iff_eq.mpr c9; clear c9
    (first | rw [c9b0] | (simp only [i64_w, i32_w]; rw [c9b0]) | skip)
    have H' := Aside0.mk H; clear H; have hcz10_0 : w7.cell? ⟨gb539, 0, none⟩ = some (.slice A0_0 l0_0.length c0_0) := (blk_cell BK539.out 0).trans rfl; have hcz10_1 : w7.cell? ⟨gb539, 1, none⟩ = some (.int .i64 a0_1) := (blk_cell BK539.out 1).trans rfl; have hfz10_0 := blk_frozen BK539.out 0; have hfz10_1 := blk_frozen BK539.out 1
    go_wp2_with (first | ((with_reducible refine gate_callee (f := 12) rfl ?_); refine goesL_ (some 12) rfl rfl Try.func12 (by kernel_rfl) rfl #[.agg #[.slice A0_0 l0_0.length c0_0, .int .i64 a0_1]] rfl (by (try simp only [List.map_toArray, List.map_cons, List.map_nil]); first | done | rfl | (simp only [List.length_drop, List.length_take]; rfl)) ?_; (with_reducible refine (chain_Right.calls k _ _ l0_0 a0_1 t541 _ ?side1 ?side2 A8.out).mono ?_); (case side1 => repeat (first | exact (Kd.V_reads' HO0_0.out).2.2 | (with_reducible refine Kd.C_alloc ?_ _) | (with_reducible refine Kd.C_drewN ?_ _) | (with_reducible refine Kd.C_drew ?_))); (case side2 => exact (Kd.V_reads' HO0_0.out).2.1); rintro e w11 ⟨rfl, hb⟩; refine ⟨_, rfl, ?_⟩; have n0_ := Aside0.mk (Kd.V_below (by (with_reducible repeat (first | apply Kd.V_alloc | apply Kd.V_drewN | apply Kd.V_drew)); exact HO0_0.out) hb); have n1_ := Aside0.mk (bb_ BK539.out hb); have n2_ := Aside0.mk (below_step (by repeat (first | (with_reducible first | exact HB.out | apply below_alloc | apply pw_below_drewN | apply below_drew1 | refine below_set ?_ GE539.out) | exact HB.out)) hb); clear HO0_0; clear BK539; clear HB; have HO0_0 := n0_; have BK539 := n1_; have HB := n2_; clear n0_ n1_ n2_; (try clear hb); (try clear hb2); (try clear hk); (try clear hi)))
    go_meet
    case rel => exact ⟨_, (decide ((l1.length : Int) > 30)), (by first | rfl | (simp; done) | (simp [*]; done)), H', ⟨by first | omega | exact Nat.le_refl _⟩, ⟨by (with_reducible repeat (first | apply Kd.V_alloc | apply Kd.V_drewN | apply Kd.V_drew)); exact HO0_0.out⟩, ⟨by (with_reducible repeat (first | refine blk_drewN ?_ _ | refine blk_drew ?_ | refine blk_alloc ?_ _)); exact BK539.out⟩, ⟨by repeat (first | (with_reducible first | exact HB.out | apply below_alloc | apply pw_below_drewN | apply below_drew1 | refine below_set ?_ GE539.out) | exact HB.out)⟩⟩
   ·rw [if_neg c9] at H
    have c9b0 : (t541 == 0) = false := beq_eq_false_iff_ne.mpr c9; have c9b1 : (t541 != 0) = true := bne_iff_ne.mpr c9
    (first | rw [c9b0] | (simp only [i64_w, i32_w]; rw [c9b0]) | skip)
    have H' := Aside0.mk H; clear H; have hcz12_0 : w7.cell? ⟨gb539, 0, none⟩ = some (.slice A0_0 l0_0.length c0_0) := (blk_cell BK539.out 0).trans rfl; have hcz12_1 : w7.cell? ⟨gb539, 1, none⟩ = some (.int .i64 a0_1) := (blk_cell BK539.out 1).trans rfl; have hfz12_0 := blk_frozen BK539.out 0; have hfz12_1 := blk_frozen BK539.out 1
    go_wp2_with (first | ((with_reducible refine gate_callee (f := 12) rfl ?_); refine goesL_ (some 12) rfl rfl Try.func12 (by kernel_rfl) rfl #[.agg #[.slice A0_0 l0_0.length c0_0, .int .i64 a0_1]] rfl (by (try simp only [List.map_toArray, List.map_cons, List.map_nil]); first | done | rfl | (simp only [List.length_drop, List.length_take]; rfl)) ?_; (with_reducible refine (chain_Right.calls k _ _ l0_0 a0_1 t541 _ ?side1 ?side2 A8.out).mono ?_); (case side1 => repeat (first | exact (Kd.V_reads' HO0_0.out).2.2 | (with_reducible refine Kd.C_alloc ?_ _) | (with_reducible refine Kd.C_drewN ?_ _) | (with_reducible refine Kd.C_drew ?_))); (case side2 => exact (Kd.V_reads' HO0_0.out).2.1); rintro e w13 ⟨rfl, hb⟩; refine ⟨_, rfl, ?_⟩; have n0_ := Aside0.mk (Kd.V_below (by (with_reducible repeat (first | apply Kd.V_alloc | apply Kd.V_drewN | apply Kd.V_drew)); exact HO0_0.out) hb); have n1_ := Aside0.mk (bb_ BK539.out hb); have n2_ := Aside0.mk (below_step (by repeat (first | (with_reducible first | exact HB.out | apply below_alloc | apply pw_below_drewN | apply below_drew1 | refine below_set ?_ GE539.out) | exact HB.out)) hb); clear HO0_0; clear BK539; clear HB; have HO0_0 := n0_; have BK539 := n1_; have HB := n2_; clear n0_ n1_ n2_; (try clear hb); (try clear hb2); (try clear hk); (try clear hi)))
    go_meet
    case rel => exact ⟨_, (true), (by first | rfl | (simp; done) | (simp [*]; done)), H', ⟨by first | omega | exact Nat.le_refl _⟩, ⟨by (with_reducible repeat (first | apply Kd.V_alloc | apply Kd.V_drewN | apply Kd.V_drew)); exact HO0_0.out⟩, ⟨by (with_reducible repeat (first | refine blk_drewN ?_ _ | refine blk_drew ?_ | refine blk_alloc ?_ _)); exact BK539.out⟩, ⟨by repeat (first | (with_reducible first | exact HB.out | apply below_alloc | apply pw_below_drewN | apply below_drew1 | refine below_set ?_ GE539.out) | exact HB.out)⟩⟩
  case rest =>
   clear HC5
   try clear c1
   try clear p2
   try clear c4
   try clear c9
   try clear c9b0
   try clear c9b1
   try clear c11
   try clear c12
   try clear hcz10_0
   try clear hcz10_1
   try clear hcz12_0
   try clear hcz12_1
   try clear hfz10_0
   try clear hfz10_1
   try clear hfz12_0
   try clear hfz12_1
   obtain ⟨kq, x18_4, rfl, HA, HJ4, HO_540000, BK539, HB⟩ := hcut
   cases kq with
   | zero => exact absurd HA.out (by simp [skiarealaw16_ChainOne.j0])
   | succ kj4 =>
    have H := HA.out; clear HA
    simp only [skiarealaw16_ChainOne.j0] at H
    by_cases c14 : x18_4 = true
    ·subst c14
     have H1 : (some true) = some r := by rw [if_pos rfl] at H; exact H
     clear H; have H := H1; clear H1
     obtain rfl := Option.some.inj H
     go_wp2
     go_ret
     exact ⟨by first | rfl | (simp [errW_none, errW_some] <;> rfl) | (simp [*, errW_none, errW_some] <;> rfl), by repeat (first | (with_reducible first | exact HB.out | apply below_alloc | apply pw_below_drewN | apply below_drew1 | refine below_set ?_ GE539.out) | exact HB.out)⟩
    ·replace c14 := Bool.eq_false_iff.mpr c14
     subst c14; have H1 : (skiarealaw16_ChainOne.l0 kj4 l1 0 l0_0 a0_1) = some r := by rw [if_neg (show ¬ (false = true) by decide)] at H; exact H
     clear H; have H := H1; clear H1; have H' := Aside0.mk H; clear H; have hcz15_0 : wc.cell? ⟨gb539, 0, none⟩ = some (.slice A0_0 l0_0.length c0_0) := (blk_cell BK539.out 0).trans rfl; have hcz15_1 : wc.cell? ⟨gb539, 1, none⟩ = some (.int .i64 a0_1) := (blk_cell BK539.out 1).trans rfl; have hfz15_0 := blk_frozen BK539.out 0; have hfz15_1 := blk_frozen BK539.out 1
     go_wp2_with (first | ((with_reducible refine gate_dst (N := 5) rfl ?_); (try (refine gate_guard (by rfl) ?_; dsimp only)); refine box_event ?hg (N := 5) ?hd (cs := #[.slice none 0 0, .int .i64 0]) (t := 24) ?hr ?_; (case hd => rfl); (case hg => rfl); (case hr => first | (go_simp; done) | (go_simp; rfl)); intro gb542 hg w16 hbox hb; have n0_ := Aside0.mk (Kd.V_below (Kd.V_elderB (by (with_reducible repeat (first | apply Kd.V_alloc | apply Kd.V_drewN | apply Kd.V_drew)); exact HO_540000.out) gb542 (Nat.le_of_eq hg.symm)) hb); have n1_ := Aside0.mk (bb_ BK539.out hb); have n2_ := Aside0.mk (below_step (by repeat (first | (with_reducible first | exact HB.out | apply below_alloc | apply pw_below_drewN | apply below_drew1 | refine below_set ?_ GE539.out) | exact HB.out)) hb); have n3_ := Aside0.mk (hbox); have n4_ := Aside0.mk ((by rw [hg]; exact (below_size (by repeat (first | (with_reducible first | exact HB.out | apply below_alloc | apply pw_below_drewN | apply below_drew1 | refine below_set ?_ GE539.out) | exact HB.out))) : w.heap.size ≤ gb542)); have n5_ := n4_; have n6_ := Aside0.mk (nl_ hg BK539.out); have n7_ := Aside0.mk (ng_ hg BK539.out); clear HO_540000; clear BK539; clear HB; have HO_540000 := n0_; have BK539 := n1_; have HB := n2_; have BK542 := n3_; have GW542 := n4_; have GE542 := n5_; have NB539_542 := n6_; have NB542_539 := n7_; clear n0_ n1_ n2_ n3_ n4_ n5_ n6_ n7_; clear hb hbox hg; have hnb17 := NB542_539.out; have hnc17 := NB539_542.out; have hcz18_0 : w16.cell? ⟨gb542, 0, none⟩ = some (.slice none 0 0) := (blk_cell BK542.out 0).trans rfl; have hcz18_1 : w16.cell? ⟨gb542, 1, none⟩ = some (.int .i64 0) := (blk_cell BK542.out 1).trans rfl; have hfz18_0 := blk_frozen BK542.out 0; have hfz18_1 := blk_frozen BK542.out 1))
     go_loopg [6] kj4 (fun kq v6 w' => ∃ (x6_2 : Int) (x543000_2 : List (S48)) (x543001_2 : Int) (u543000 : Value), v6 = .int .i64 x6_2 ∧ Aside0 (skiarealaw16_ChainOne.l0 kq l1 x6_2 x543000_2 x543001_2 = some r) ∧ Aside0 (kq ≤ kj4) ∧ Aside0 (Kd.V k48 48 w' w.heap.size (fun k_ => (P0_0_ k_ ∨ w.heap.size ≤ k_) ∧ k_ ≠ gb539 ∧ k_ ≠ gb542) (.slice A0_0 l0_0.length c0_0) l0_0) ∧ Aside0 (Kd.V k48 48 w' w.heap.size (fun k_ => (P0_0_ k_ ∨ w.heap.size ≤ k_) ∧ k_ ≠ gb539 ∧ k_ ≠ gb542) u543000 x543000_2) ∧ Aside0 (w'.heap[gb539]? = some (.cells #[(.slice A0_0 l0_0.length c0_0), .int .i64 a0_1] 24 (0, 0))) ∧ Aside0 (w'.heap[gb542]? = some (.cells #[u543000, .int .i64 x543001_2] 24 (0, 0))) ∧ Aside0 (Below w.heap.size w w'))
     case atStart => exact ⟨(0), (l0_0), (a0_1), (.slice A0_0 l0_0.length c0_0), (by first | rfl | (simp; done) | (simp [*]; done)), H', ⟨Nat.le_refl _⟩, ⟨by (with_reducible repeat (first | apply Kd.V_alloc | apply Kd.V_drewN | apply Kd.V_drew)); exact Kd.V_mono (Kd.V_far (p := ⟨gb542, 1, none⟩) (Kd.V_far (p := ⟨gb542, 0, none⟩) (Kd.V_mono HO_540000.out (fun k_ hk => (⟨hk, hk.2⟩ : _ ∧ k_ ≠ gb542))) (fun _ hk => hk.2) (.slice A0_0 l0_0.length c0_0)) (fun _ hk => hk.2) (.int .i64 a0_1)) (fun _ hk => ⟨hk.1.1.1, ⟨hk.1.1.2, hk.1.2⟩⟩)⟩, ⟨by (with_reducible repeat (first | apply Kd.V_alloc | apply Kd.V_drewN | apply Kd.V_drew)); exact Kd.V_mono (Kd.V_far (p := ⟨gb542, 1, none⟩) (Kd.V_far (p := ⟨gb542, 0, none⟩) (Kd.V_mono HO_540000.out (fun k_ hk => (⟨hk, hk.2⟩ : _ ∧ k_ ≠ gb542))) (fun _ hk => hk.2) (.slice A0_0 l0_0.length c0_0)) (fun _ hk => hk.2) (.int .i64 a0_1)) (fun _ hk => ⟨hk.1.1.1, ⟨hk.1.1.2, hk.1.2⟩⟩)⟩, ⟨by (with_reducible repeat (first | refine blk_drewN ?_ _ | refine blk_drew ?_ | refine blk_alloc ?_ _)); refine blk_far ?_ NB539_542.out _; (with_reducible repeat (first | refine blk_drewN ?_ _ | refine blk_drew ?_ | refine blk_alloc ?_ _)); refine blk_far ?_ NB539_542.out _; (with_reducible repeat (first | refine blk_drewN ?_ _ | refine blk_drew ?_ | refine blk_alloc ?_ _)); exact BK539.out⟩, ⟨by (with_reducible repeat (first | refine blk_drewN ?_ _ | refine blk_drew ?_ | refine blk_alloc ?_ _)); refine blk_put (cs := #[.slice A0_0 l0_0.length c0_0, .int .i64 0]) ?_ 1 _ rfl; (with_reducible repeat (first | refine blk_drewN ?_ _ | refine blk_drew ?_ | refine blk_alloc ?_ _)); refine blk_put (cs := #[.slice none 0 0, .int .i64 0]) ?_ 0 _ rfl; (with_reducible repeat (first | refine blk_drewN ?_ _ | refine blk_drew ?_ | refine blk_alloc ?_ _)); exact BK542.out⟩, ⟨by repeat (first | (with_reducible first | exact HB.out | apply below_alloc | apply pw_below_drewN | apply below_drew1 | refine below_set ?_ GE539.out | refine below_set ?_ GE542.out) | exact HB.out)⟩⟩
     case round =>
      clear H'
      try clear c1
      try clear p2
      try clear c4
      try clear c9
      try clear c9b0
      try clear c9b1
      try clear c11
      try clear c12
      try clear c14
      try clear c17
      try clear hcz10_0
      try clear hcz10_1
      try clear hcz12_0
      try clear hcz12_1
      try clear hcz15_0
      try clear hcz15_1
      try clear hcz18_0
      try clear hcz18_1
      try clear hfz10_0
      try clear hfz10_1
      try clear hfz12_0
      try clear hfz12_1
      try clear hfz15_0
      try clear hfz15_1
      try clear hfz18_0
      try clear hfz18_1
      try clear p2
      obtain ⟨x6_2, x543000_2, x543001_2, u543000, rfl, HA, HK2, HO_540000, HO_543000, BK539, BK542, HB⟩ := hrel
      cases gk with
      | zero => exact absurd HA.out (by simp [skiarealaw16_ChainOne.l0])
      | succ k2 =>
       have H := HA.out; clear HA
       simp only [skiarealaw16_ChainOne.l0] at H
       by_cases c19 : x6_2 < (l1.length : Int)
       ·rw [if_pos c19] at H
        have c19b0 : decide (x6_2 < (l1.length : Int)) = true := decide_eq_true c19; clear c19
        by_cases c20 : 0 ≤ x6_2
        ·rw [if_pos c20] at H
         have c20b0 : decide (0 ≤ x6_2) = true := decide_eq_true c20; clear c20
         replace H := Option.bind_eq_some_iff.mp H
         obtain ⟨⟨t544, t547, t548⟩, A210, H⟩ := H
         replace H : (skiarealaw16_ChainOne.l1 k2 l1 x6_2 0 0 t544 t547) = some r := H
         have A21 := Aside0.mk A210; clear A210; have H' := Aside0.mk H; clear H
         try go_wp2
         have n0_ := Aside0.mk (Kd.V_drew HO_540000.out); have n1_ := Aside0.mk (Kd.V_drew HO_543000.out); have n2_ := Aside0.mk (blk_drew BK539.out); have n3_ := Aside0.mk (blk_drew BK542.out); have n4_ := Aside0.mk (below_drew1 HB.out); clear HO_540000; clear HO_543000; clear BK539; clear BK542; clear HB; have HO_540000 := n0_; have HO_543000 := n1_; have BK539 := n2_; have BK542 := n3_; have HB := n4_; clear n0_ n1_ n2_ n3_ n4_; have p543 : 0 ≤ (x6_2 : Int) := of_decide_eq_true (by first | (with_reducible assumption) | assumption)
         have q543 : x6_2 < (l1.length : Int) := of_decide_eq_true (by first | (with_reducible assumption) | assumption)
         obtain ⟨ad543, e543, hx543_0, hx543_1, hx543_2, hx543_3⟩ := at_T45 HR1.out x6_2 p543 q543
         have hw543_3 := hx543_3; have hw543_2 := hx543_2; have hw543_1 := hx543_1; have hw543_0 := hx543_0
         cases e543
         replace hx543_0 := (HB.out.cell (World.block_lt_of_cell? w _ hx543_0)).trans hx543_0
         replace hx543_1 := (HB.out.cell (World.block_lt_of_cell? w _ hx543_1)).trans hx543_1
         replace hx543_2 := (HB.out.cell (World.block_lt_of_cell? w _ hx543_2)).trans hx543_2
         replace hx543_3 := (HB.out.cell (World.block_lt_of_cell? w _ hx543_3)).trans hx543_3
         replace p543 := eq_true p543
         replace q543 := eq_true q543
         obtain ⟨Ao23, co23, eo23⟩ := Kd.V_slice HO_543000.out
         (first | subst eo23 | (injection eo23 with f1_ f2_ f3_; have f4_ := f1_.symm; have f5_ := f3_.symm; clear f1_ f2_ f3_; subst f4_; subst f5_))
         refine start_ (n := 10) (S := fun w' => w'.cell? ⟨gb542, 0, none⟩ = some (.slice Ao23 x543000_2.length co23) ∧ w'.cell? ⟨gb542, 1, none⟩ = some (.int .i64 x543001_2) ∧ w'.cell? (ad543.add ((x6_2).toNat * 4)) = some (.int .i64 ((rd_T45 l1 x6_2).f0)) ∧ w'.cell? ⟨(ad543.add ((x6_2).toNat * 4)).block, (ad543.add ((x6_2).toNat * 4)).off + 1, none⟩ = some (.int .i64 ((rd_T45 l1 x6_2).f1)) ∧ w'.cell? ⟨(ad543.add ((x6_2).toNat * 4)).block, (ad543.add ((x6_2).toNat * 4)).off + 2, none⟩ = some (.int .i64 ((rd_T45 l1 x6_2).f2)) ∧ w'.cell? ⟨(ad543.add ((x6_2).toNat * 4)).block, (ad543.add ((x6_2).toNat * 4)).off + 3, none⟩ = some (.int .i64 ((rd_T45 l1 x6_2).f3))) (ds := [9]) #[false, false, false, false, false, false, false, false, false, false] (by kernel_rfl) rfl rfl ⟨(blk_cell BK542.out 0).trans rfl, (blk_cell BK542.out 1).trans rfl, ((HB.out.cell (World.block_lt_of_cell? w _ hw543_0)).trans hw543_0), ((HB.out.cell (World.block_lt_of_cell? w _ hw543_1)).trans hw543_1), ((HB.out.cell (World.block_lt_of_cell? w _ hw543_2)).trans hw543_2), ((HB.out.cell (World.block_lt_of_cell? w _ hw543_3)).trans hw543_3)⟩ (fun hHeld => ?_); refine with_tabW skiarealaw16_ChainOne.tab9 skiarealaw16_ChainOne.bits9 (fun HT_ HW_ => ?_)
         generalize wr.drew = w22 at HO_540000 HO_543000 BK539 BK542 HB hx543_0 hx543_1 hx543_2 hx543_3 hHeld ⊢
         refine pure_ (i := 1) (N := some 28) (v := ?_) (a' := ?_) #[false, true, false, false, false, false, false, false, false, false] rfl rfl (any_of HT_.out (by kernel_rfl)) (fun _ _ _ h => h) (Or.inl ⟨by rfl, ?_⟩) ?_ ?_
         rotate_left
         ·intro w'
          go_simp
          with_reducible rfl
         rotate_left
         ·simp only [Act.put, List.setIfInBounds_toArray, List.set_cons_zero, List.set_cons_succ, i64_w, i32_w]
          rfl
         refine pure_ (i := 2) (N := some 29) (v := ?_) (a' := ?_) #[false, true, true, false, false, false, false, false, false, false] rfl rfl (any_of HT_.out (by kernel_rfl)) (fun _ _ _ h => h) (Or.inl ⟨by rfl, ?_⟩) ?_ ?_
         rotate_left
         ·intro w'
          go_simp
          with_reducible rfl
         rotate_left
         ·simp only [Act.put, List.setIfInBounds_toArray, List.set_cons_zero, List.set_cons_succ, i64_w, i32_w]
          rfl
         refine pure_ (i := 3) (N := some 30) (v := ?_) (a' := ?_) #[false, true, true, true, false, false, false, false, false, false] rfl rfl (any_of HT_.out (by kernel_rfl)) (fun _ _ _ h => h) (Or.inl ⟨by rfl, ?_⟩) ?_ ?_
         rotate_left
         ·intro w'
          go_simp
          with_reducible rfl
         rotate_left
         ·simp only [Act.put, List.setIfInBounds_toArray, List.set_cons_zero, List.set_cons_succ, i64_w, i32_w]
          rfl
         refine take_ (i := 0) (N := some 27) (v := ?_) (a' := ?_) #[true, true, true, true, false, false, false, false, false, false] rfl rfl (take_ofW HT_.out HW_.out (by kernel_rfl)) (fun _ _ _ h => h) (Or.inl ⟨by rfl, ?_⟩) hHeld ?_ ?_
         rotate_left
         ·rintro w' ⟨s0, s1, s2, s3, s4, s5⟩
          go_simp
          with_reducible rfl
         rotate_left
         ·simp only [Act.put, List.setIfInBounds_toArray, List.set_cons_zero, List.set_cons_succ, i64_w, i32_w]
          rfl
         refine take_ (i := 4) (N := some 31) (v := ?_) (a' := ?_) #[true, true, true, true, true, false, false, false, false, false] rfl rfl (take_ofW HT_.out HW_.out (by kernel_rfl)) (fun _ _ _ h => h) (Or.inl ⟨by rfl, ?_⟩) hHeld ?_ ?_
         rotate_left
         ·rintro w' ⟨s0, s1, s2, s3, s4, s5⟩
          go_simp
          with_reducible rfl
         rotate_left
         ·simp only [Act.put, List.setIfInBounds_toArray, List.set_cons_zero, List.set_cons_succ, i64_w, i32_w]
          rfl
         refine one_ (i := 5) (N := some 32) #[true, true, true, true, true, true, false, false, false, false] rfl rfl (one_of HT_.out (by kernel_rfl)) (by decide) (fun K hK => ?_)
         refine goes_ Try.func30 (by kernel_rfl) rfl #[.agg #[.slice Ao23 x543000_2.length co23, .int .i64 x543001_2], .agg #[.int .i64 ((rd_T45 l1 x6_2).f0), .int .i64 ((rd_T45 l1 x6_2).f1), .int .i64 ((rd_T45 l1 x6_2).f2), .int .i64 ((rd_T45 l1 x6_2).f3)]] (by rfl) rfl rfl (by (try simp only [List.map_toArray, List.map_cons, List.map_nil]); first | done | rfl | (simp only [List.length_drop, List.length_take]; rfl)) ?_
         with_reducible refine (skiarealaw16_do.calls k2 (fun k_ => ((P0_0_ k_ ∨ w.heap.size ≤ k_) ∧ (k_ ≠ gb539 ∧ k_ ≠ gb542))) _ _ x543000_2 x543001_2 ((rd_T45 l1 x6_2).f0) ((rd_T45 l1 x6_2).f1) ((rd_T45 l1 x6_2).f2) ((rd_T45 l1 x6_2).f3) t544 t547 t548 _ ?side1 A21.out).mono ?_
         (case side1 => exact HO_543000.out)
         rintro e w24 ⟨v545, rfl, ho0, hb⟩
         refine ⟨_, rfl, ?_⟩
         have n0_ := Aside0.mk (Kd.V_below (by (with_reducible repeat (first | apply Kd.V_alloc | apply Kd.V_drewN | apply Kd.V_drew)); exact HO_540000.out) hb)
         have n1_ := Aside0.mk (Kd.V_below (by (with_reducible repeat (first | apply Kd.V_alloc | apply Kd.V_drewN | apply Kd.V_drew)); exact HO_543000.out) hb)
         have n2_ := Aside0.mk (Kd.V_lower (Kd.V_mono (ok' := fun k_ => (P0_0_ k_ ∨ w.heap.size ≤ k_) ∧ k_ ≠ gb539 ∧ k_ ≠ gb542) ho0 (fun k_ hk_ => ⟨Or.elim hk_ (fun hs_ => hs_.1) (fun hn_ => (.inr (Nat.le_trans (below_size (by repeat (first | (with_reducible first | exact HB.out | apply below_alloc | apply pw_below_drewN | apply below_drew1 | refine below_set ?_ GE539.out | refine below_set ?_ GE542.out) | exact HB.out))) hn_))), Or.elim hk_ (fun hs_ => hs_.2.1) (fun hn_ => (Kd.freshB (g := gb539) (o := .cells #[.slice A0_0 l0_0.length c0_0, .int .i64 a0_1] 24 (0, 0)) (sb_ BK539.out) k_ hn_)), Or.elim hk_ (fun hs_ => hs_.2.2) (fun hn_ => (Kd.freshB (g := gb542) (o := .cells #[.slice Ao23 x543000_2.length co23, .int .i64 x543001_2] 24 (0, 0)) (sb_ BK542.out) k_ hn_))⟩)) (below_size (by repeat (first | (with_reducible first | exact HB.out | apply below_alloc | apply pw_below_drewN | apply below_drew1 | refine below_set ?_ GE539.out | refine below_set ?_ GE542.out) | exact HB.out))))
         have n3_ := Aside0.mk (bb_ BK539.out hb); have n4_ := Aside0.mk (bb_ BK542.out hb); have n5_ := Aside0.mk (below_step (by repeat (first | (with_reducible first | exact HB.out | apply below_alloc | apply pw_below_drewN | apply below_drew1 | refine below_set ?_ GE539.out | refine below_set ?_ GE542.out) | exact HB.out)) hb)
         clear HO_540000; clear HO_543000; clear BK539; clear BK542; clear HB; have HO_540000 := n0_; have HO_543000 := n1_; have HO546 := n2_; have BK539 := n3_; have BK542 := n4_; have HB := n5_; clear n0_ n1_ n2_ n3_ n4_ n5_
         (try clear hb)
         (try clear hb2)
         (try clear hk)
         (try clear hi)
         (try clear ho0)
         obtain ⟨Ao25, co25, eo25⟩ := Kd.V_slice HO546.out
         (first | subst eo25 | (injection eo25 with f1_ f2_ f3_; have f4_ := f1_.symm; have f5_ := f3_.symm; clear f1_ f2_ f3_; subst f4_; subst f5_))
         refine hK.out _ _ ⟨(blk_cell BK542.out 0).trans rfl, (blk_cell BK542.out 1).trans rfl, ((HB.out.cell (World.block_lt_of_cell? w _ hw543_0)).trans hw543_0), ((HB.out.cell (World.block_lt_of_cell? w _ hw543_1)).trans hw543_1), ((HB.out.cell (World.block_lt_of_cell? w _ hw543_2)).trans hw543_2), ((HB.out.cell (World.block_lt_of_cell? w _ hw543_3)).trans hw543_3)⟩ (fun hHeld => ?_)
         clear hK K
         refine norm_ (a' := ?_) ?_ ?_
         rotate_left
         ·show Act.put _ (some 32) _ = _
          simp only [Act.put, List.setIfInBounds_toArray, List.set_cons_zero, List.set_cons_succ, i64_w, i32_w]
          rfl
         refine pure_ (i := 6) (N := some 26) (v := ?_) (a' := ?_) #[true, true, true, true, true, true, true, false, false, false] rfl rfl (any_of HT_.out (by kernel_rfl)) (fun _ _ _ h => h) (Or.inl ⟨by rfl, ?_⟩) ?_ ?_
         rotate_left
         ·intro w'
          go_simp
          with_reducible rfl
         rotate_left
         ·simp only [Act.put, List.setIfInBounds_toArray, List.set_cons_zero, List.set_cons_succ, i64_w, i32_w]
          rfl
         refine pure_ (i := 7) (N := some 33) (v := ?_) (a' := ?_) #[true, true, true, true, true, true, true, true, false, false] rfl rfl (any_of HT_.out (by kernel_rfl)) (fun _ _ _ h => h) (Or.inl ⟨by rfl, ?_⟩) ?_ ?_
         rotate_left
         ·intro w'
          go_simp
          with_reducible rfl
         rotate_left
         ·simp only [Act.put, List.setIfInBounds_toArray, List.set_cons_zero, List.set_cons_succ, i64_w, i32_w]
          rfl
         refine pure_ (i := 8) (N := some 34) (v := ?_) (a' := ?_) #[true, true, true, true, true, true, true, true, true, false] rfl rfl (any_of HT_.out (by kernel_rfl)) (fun _ _ _ h => h) (Or.inl ⟨by rfl, ?_⟩) ?_ ?_
         rotate_left
         ·intro w'
          go_simp
          with_reducible rfl
         rotate_left
         ·simp only [Act.put, List.setIfInBounds_toArray, List.set_cons_zero, List.set_cons_succ, i64_w, i32_w]
          rfl
         refine last_ (i := 9) (N := none) #[true, true, true, true, true, true, true, true, true, true] rfl rfl (one_of HT_.out (by kernel_rfl)) (by decide) (fun K hK => ?_)
         have hs26 : w24.cell? ⟨gb542, 0, none⟩ = some (.slice Ao23 x543000_2.length co23) := (blk_cell BK542.out 0).trans rfl; have hfs26 := blk_frozen BK542.out 0; have hns26_0 := NB539_542.out; have hms26_0 := NB542_539.out; have hs27 : w24.cell? ⟨gb542, 1, none⟩ = some (.int .i64 x543001_2) := (blk_cell BK542.out 1).trans rfl; have hfs27 := blk_frozen BK542.out 1; have hns27_0 := NB539_542.out; have hms27_0 := NB542_539.out
         refine skip_ (w1 := ?_) (by rfl) rfl ?_ ?_
         rotate_left
         ·go_simp
          rfl
         refine hK.out _ _ ?_
         clear hK K
         refine done_ (done_of HT_.out (by kernel_rfl)) ?_
         try go_wp2
         go_loopg [7, 8] k2 (fun kq v7 v8 w' => ∃ (x7_3 : Int) (x8_3 : Int), v7 = .int .i64 x7_3 ∧ v8 = .int .i64 x8_3 ∧ Aside0 (skiarealaw16_ChainOne.l1 kq l1 x6_2 x7_3 x8_3 t544 t547 = some r) ∧ Aside0 (kq ≤ k2) ∧ Aside0 (Kd.V k48 48 w' w.heap.size (fun k_ => (P0_0_ k_ ∨ w.heap.size ≤ k_) ∧ k_ ≠ gb539 ∧ k_ ≠ gb542) (.slice A0_0 l0_0.length c0_0) l0_0) ∧ Aside0 (Kd.V k48 48 w' w.heap.size (fun k_ => (P0_0_ k_ ∨ w.heap.size ≤ k_) ∧ k_ ≠ gb539 ∧ k_ ≠ gb542) (.slice Ao25 t544.length co25) t544) ∧ Aside0 (w'.heap[gb539]? = some (.cells #[(.slice A0_0 l0_0.length c0_0), .int .i64 a0_1] 24 (0, 0))) ∧ Aside0 (w'.heap[gb542]? = some (.cells #[(.slice Ao25 t544.length co25), .int .i64 t547] 24 (0, 0))) ∧ Aside0 (Below w.heap.size w w'))
         case atStart => exact ⟨(0), (0), (by first | rfl | (simp; done) | (simp [*]; done)), (by first | rfl | (simp; done) | (simp [*]; done)), H', ⟨Nat.le_refl _⟩, ⟨by (with_reducible repeat (first | apply Kd.V_alloc | apply Kd.V_drewN | apply Kd.V_drew)); exact Kd.V_mono (Kd.V_far (p := ⟨gb542, 1, none⟩) (Kd.V_far (p := ⟨gb542, 0, none⟩) (Kd.V_mono HO_540000.out (fun k_ hk => (⟨hk, hk.2.2⟩ : _ ∧ k_ ≠ gb542))) (fun _ hk => hk.2) (.slice Ao25 t544.length co25)) (fun _ hk => hk.2) (.int .i64 t547)) (fun _ hk => ⟨hk.1.1, ⟨hk.1.2.1, hk.1.2.2⟩⟩)⟩, ⟨by (with_reducible repeat (first | apply Kd.V_alloc | apply Kd.V_drewN | apply Kd.V_drew)); exact Kd.V_mono (Kd.V_far (p := ⟨gb542, 1, none⟩) (Kd.V_far (p := ⟨gb542, 0, none⟩) (Kd.V_mono HO546.out (fun k_ hk => (⟨hk, hk.2.2⟩ : _ ∧ k_ ≠ gb542))) (fun _ hk => hk.2) (.slice Ao25 t544.length co25)) (fun _ hk => hk.2) (.int .i64 t547)) (fun _ hk => ⟨hk.1.1, ⟨hk.1.2.1, hk.1.2.2⟩⟩)⟩, ⟨by (with_reducible repeat (first | refine blk_drewN ?_ _ | refine blk_drew ?_ | refine blk_alloc ?_ _)); refine blk_far ?_ NB539_542.out _; (with_reducible repeat (first | refine blk_drewN ?_ _ | refine blk_drew ?_ | refine blk_alloc ?_ _)); refine blk_far ?_ NB539_542.out _; (with_reducible repeat (first | refine blk_drewN ?_ _ | refine blk_drew ?_ | refine blk_alloc ?_ _)); exact BK539.out⟩, ⟨by (with_reducible repeat (first | refine blk_drewN ?_ _ | refine blk_drew ?_ | refine blk_alloc ?_ _)); refine blk_put (cs := #[.slice Ao25 t544.length co25, .int .i64 x543001_2]) ?_ 1 _ rfl; (with_reducible repeat (first | refine blk_drewN ?_ _ | refine blk_drew ?_ | refine blk_alloc ?_ _)); refine blk_put (cs := #[.slice Ao23 x543000_2.length co23, .int .i64 x543001_2]) ?_ 0 _ rfl; (with_reducible repeat (first | refine blk_drewN ?_ _ | refine blk_drew ?_ | refine blk_alloc ?_ _)); exact BK542.out⟩, ⟨by repeat (first | (with_reducible first | exact HB.out | apply below_alloc | apply pw_below_drewN | apply below_drew1 | refine below_set ?_ GE539.out | refine below_set ?_ GE542.out) | exact HB.out)⟩⟩
         case round =>
          clear H'
          try clear c1
          try clear c2
          try clear p2
          try clear c3
          try clear c4
          try clear p5
          try clear q5
          try clear hx5
          try clear c9
          try clear c9b0
          try clear c9b1
          try clear c11
          try clear c12
          try clear c14
          try clear c17
          try clear c19
          try clear c19b0
          try clear c20
          try clear c20b0
          try clear hcz10_0
          try clear hcz10_1
          try clear hcz12_0
          try clear hcz12_1
          try clear hcz15_0
          try clear hcz15_1
          try clear hcz18_0
          try clear hcz18_1
          try clear hfz10_0
          try clear hfz10_1
          try clear hfz12_0
          try clear hfz12_1
          try clear hfz15_0
          try clear hfz15_1
          try clear hfz18_0
          try clear hfz18_1
          try clear hx543_0
          try clear hx543_1
          try clear hx543_2
          try clear hx543_3
          try clear p2
          try clear p543
          try clear q543
          obtain ⟨x7_3, x8_3, rfl, rfl, HA, HK3, HO_540000, HO_543000, BK539, BK542, HB⟩ := hrel
          cases gk with
          | zero => exact absurd HA.out (by simp [skiarealaw16_ChainOne.l1])
          | succ k3 =>
           have H := HA.out; clear HA
           simp only [skiarealaw16_ChainOne.l1] at H
           by_cases c28 : x8_3 < (t544.length : Int)
           ·rw [if_pos c28] at H
            have c28b0 : decide (x8_3 < (t544.length : Int)) = true := decide_eq_true c28; clear c28
            by_cases c29 : 0 ≤ x8_3
            ·rw [if_pos c29] at H
             have c29b0 : decide (0 ≤ x8_3) = true := decide_eq_true c29; clear c29
             by_cases c30 : ((rd_T48 t544 x8_3).f4) = 0
             ·rw [if_pos c30] at H
              have c30b0 : (((rd_T48 t544 x8_3).f4) == 0) = true := beq_iff_eq.mpr c30; have c30b1 : (((rd_T48 t544 x8_3).f4) != 0) = false := bne_eq_false_iff_eq.mpr c30; clear c30; have H' := Aside0.mk H; clear H; have hnb31 := NB542_539.out; have hnc31 := NB539_542.out; have hcz32_0 : wr.cell? ⟨gb542, 0, none⟩ = some (.slice Ao25 t544.length co25) := (blk_cell BK542.out 0).trans rfl; have hcz32_1 : wr.cell? ⟨gb542, 1, none⟩ = some (.int .i64 t547) := (blk_cell BK542.out 1).trans rfl; have hfz32_0 := blk_frozen BK542.out 0; have hfz32_1 := blk_frozen BK542.out 1; have p549 : 0 ≤ (x8_3 : Int) := of_decide_eq_true (by first | (with_reducible assumption) | assumption)
              have q549 : x8_3 < (t544.length : Int) := of_decide_eq_true (by first | (with_reducible assumption) | assumption)
              obtain ⟨ad549, e549, hx549_0, hx549_1, hx549_2, hx549_3, hx549_4⟩ := at_T48 (Kd.V_reads' HO_543000.out).2.2 x8_3 p549 q549
              cases e549
              replace p549 := eq_true p549
              replace q549 := eq_true q549
              go_wp2
              go_roundg k3
              case measure => have := HJ4.out; have := HK2.out; have := HK3.out; omega
              case rel => exact ⟨(x7_3), (wrap64 (x8_3 + 1)), (by first | rfl | (simp; done) | (simp [*]; done)), (by first | rfl | (simp; done) | (simp [*]; done)), H', ⟨by have := HJ4.out; have := HK2.out; have := HK3.out; omega⟩, ⟨by (with_reducible repeat (first | apply Kd.V_alloc | apply Kd.V_drewN | apply Kd.V_drew)); exact HO_540000.out⟩, ⟨by (with_reducible repeat (first | apply Kd.V_alloc | apply Kd.V_drewN | apply Kd.V_drew)); exact HO_543000.out⟩, ⟨by (with_reducible repeat (first | refine blk_drewN ?_ _ | refine blk_drew ?_ | refine blk_alloc ?_ _)); exact BK539.out⟩, ⟨by (with_reducible repeat (first | refine blk_drewN ?_ _ | refine blk_drew ?_ | refine blk_alloc ?_ _)); exact BK542.out⟩, ⟨by repeat (first | (with_reducible first | exact HB.out | apply below_alloc | apply pw_below_drewN | apply below_drew1 | refine below_set ?_ GE539.out | refine below_set ?_ GE542.out) | exact HB.out)⟩⟩
             ·rw [if_neg c30] at H
              have c30b0 : (((rd_T48 t544 x8_3).f4) == 0) = false := beq_eq_false_iff_ne.mpr c30; have c30b1 : (((rd_T48 t544 x8_3).f4) != 0) = true := bne_iff_ne.mpr c30
              obtain ⟨bq33, hbq33⟩ : ∃ b_ : Bool, b_ = ((rd_T48 t544 x8_3).f1) := ⟨_, rfl⟩
              replace H : (if bq33 = true then (none) else (skiarealaw16_ChainOne.l1 k3 l1 x6_2 (wrap64 (x7_3 + 1)) (wrap64 (x8_3 + 1)) t544 t547)) = some r := by rw [← hbq33] at H; exact H
              have Nbq33 := Aside0.mk hbq33; clear hbq33
              by_cases c34 : bq33 = true
              ·subst c34
               have H1 : (none) = some r := by rw [if_pos rfl] at H; exact H
               clear H; have H := H1; clear H1
               exact absurd H (by simp)
              ·replace c34 := Bool.eq_false_iff.mpr c34
               subst c34; have H1 : (skiarealaw16_ChainOne.l1 k3 l1 x6_2 (wrap64 (x7_3 + 1)) (wrap64 (x8_3 + 1)) t544 t547) = some r := by rw [if_neg (show ¬ (false = true) by decide)] at H; exact H
               clear H; have H := H1; clear H1; have H' := Aside0.mk H; clear H; have hnb35 := NB542_539.out; have hnc35 := NB539_542.out; have hcz36_0 : wr.cell? ⟨gb542, 0, none⟩ = some (.slice Ao25 t544.length co25) := (blk_cell BK542.out 0).trans rfl; have hcz36_1 : wr.cell? ⟨gb542, 1, none⟩ = some (.int .i64 t547) := (blk_cell BK542.out 1).trans rfl; have hfz36_0 := blk_frozen BK542.out 0; have hfz36_1 := blk_frozen BK542.out 1; have p549 : 0 ≤ (x8_3 : Int) := of_decide_eq_true (by first | (with_reducible assumption) | assumption)
               have q549 : x8_3 < (t544.length : Int) := of_decide_eq_true (by first | (with_reducible assumption) | assumption)
               obtain ⟨ad549, e549, hx549_0, hx549_1, hx549_2, hx549_3, hx549_4⟩ := at_T48 (Kd.V_reads' HO_543000.out).2.2 x8_3 p549 q549
               (try rw [← Nbq33.out] at hx549_1)
               (try rw [← Nbq33.out] at hx549_2)
               (try rw [← Nbq33.out] at hx549_3)
               cases e549
               replace p549 := eq_true p549
               replace q549 := eq_true q549
               have p550 : 0 ≤ (x8_3 : Int) := of_decide_eq_true (by first | (with_reducible assumption) | assumption)
               have q550 : x8_3 < (t544.length : Int) := of_decide_eq_true (by first | (with_reducible assumption) | assumption)
               obtain ⟨ad550, e550, hx550_0, hx550_1, hx550_2, hx550_3, hx550_4⟩ := at_T48 (Kd.V_reads' HO_543000.out).2.2 x8_3 p550 q550
               (try rw [← Nbq33.out] at hx550_1)
               (try rw [← Nbq33.out] at hx550_2)
               (try rw [← Nbq33.out] at hx550_3)
               obtain rfl : ad549 = ad550 := (by injection e550)
               replace p550 := eq_true p550
               replace q550 := eq_true q550
               go_wp2
               go_roundg k3
               case measure => have := HJ4.out; have := HK2.out; have := HK3.out; omega
               case rel => exact ⟨(wrap64 (x7_3 + 1)), (wrap64 (x8_3 + 1)), (by first | rfl | (simp; done) | (simp [*]; done)), (by first | rfl | (simp; done) | (simp [*]; done)), H', ⟨by have := HJ4.out; have := HK2.out; have := HK3.out; omega⟩, ⟨by (with_reducible repeat (first | apply Kd.V_alloc | apply Kd.V_drewN | apply Kd.V_drew)); exact HO_540000.out⟩, ⟨by (with_reducible repeat (first | apply Kd.V_alloc | apply Kd.V_drewN | apply Kd.V_drew)); exact HO_543000.out⟩, ⟨by (with_reducible repeat (first | refine blk_drewN ?_ _ | refine blk_drew ?_ | refine blk_alloc ?_ _)); exact BK539.out⟩, ⟨by (with_reducible repeat (first | refine blk_drewN ?_ _ | refine blk_drew ?_ | refine blk_alloc ?_ _)); exact BK542.out⟩, ⟨by repeat (first | (with_reducible first | exact HB.out | apply below_alloc | apply pw_below_drewN | apply below_drew1 | refine below_set ?_ GE539.out | refine below_set ?_ GE542.out) | exact HB.out)⟩⟩
            ·rw [if_neg c29] at H
             exact absurd H (by simp)
           ·rw [if_neg c28] at H
            have c28b0 : decide (x8_3 < (t544.length : Int)) = false := decide_eq_false c28; clear c28
            by_cases c37 : x7_3 > 1
            ·rw [if_pos c37] at H
             exact absurd H (by simp)
            ·rw [if_neg c37] at H
             have c37b0 : decide (1 < x7_3) = false := decide_eq_false c37; clear c37
             by_cases c38 : x7_3 > 0
             ·rw [if_pos c38] at H
              have c38b0 : decide (0 < x7_3) = true := decide_eq_true c38; clear c38
              by_cases c39 : t547 = 0
              ·rw [if_pos c39] at H
               exact absurd H (by simp)
              ·rw [if_neg c39] at H
               have c39b0 : (t547 == 0) = false := beq_eq_false_iff_ne.mpr c39; have c39b1 : (t547 != 0) = true := bne_iff_ne.mpr c39; have H' := Aside0.mk H; clear H; have hnb40 := NB542_539.out; have hnc40 := NB539_542.out; have hcz41_0 : wr.cell? ⟨gb542, 0, none⟩ = some (.slice Ao25 t544.length co25) := (blk_cell BK542.out 0).trans rfl; have hcz41_1 : wr.cell? ⟨gb542, 1, none⟩ = some (.int .i64 t547) := (blk_cell BK542.out 1).trans rfl; have hfz41_0 := blk_frozen BK542.out 0; have hfz41_1 := blk_frozen BK542.out 1
               go_wp2
               go_roundg k3
               case measure => have := HJ4.out; have := HK2.out; have := HK3.out; omega
               case rel => exact ⟨(wrap64 (x6_2 + 1)), (t544), (t547), (.slice Ao25 t544.length co25), (by first | rfl | (simp; done) | (simp [*]; done)), H', ⟨by have := HJ4.out; have := HK2.out; have := HK3.out; omega⟩, ⟨by (with_reducible repeat (first | apply Kd.V_alloc | apply Kd.V_drewN | apply Kd.V_drew)); exact HO_540000.out⟩, ⟨by (with_reducible repeat (first | apply Kd.V_alloc | apply Kd.V_drewN | apply Kd.V_drew)); exact HO_543000.out⟩, ⟨by (with_reducible repeat (first | refine blk_drewN ?_ _ | refine blk_drew ?_ | refine blk_alloc ?_ _)); exact BK539.out⟩, ⟨by (with_reducible repeat (first | refine blk_drewN ?_ _ | refine blk_drew ?_ | refine blk_alloc ?_ _)); exact BK542.out⟩, ⟨by repeat (first | (with_reducible first | exact HB.out | apply below_alloc | apply pw_below_drewN | apply below_drew1 | refine below_set ?_ GE539.out | refine below_set ?_ GE542.out) | exact HB.out)⟩⟩
             ·rw [if_neg c38] at H
              have c38b0 : decide (0 < x7_3) = false := decide_eq_false c38; clear c38; have H' := Aside0.mk H; clear H; have hnb42 := NB542_539.out; have hnc42 := NB539_542.out; have hcz43_0 : wr.cell? ⟨gb542, 0, none⟩ = some (.slice Ao25 t544.length co25) := (blk_cell BK542.out 0).trans rfl; have hcz43_1 : wr.cell? ⟨gb542, 1, none⟩ = some (.int .i64 t547) := (blk_cell BK542.out 1).trans rfl; have hfz43_0 := blk_frozen BK542.out 0; have hfz43_1 := blk_frozen BK542.out 1
              go_wp2
              go_roundg k3
              case measure => have := HJ4.out; have := HK2.out; have := HK3.out; omega
              case rel => exact ⟨(wrap64 (x6_2 + 1)), (t544), (t547), (.slice Ao25 t544.length co25), (by first | rfl | (simp; done) | (simp [*]; done)), H', ⟨by have := HJ4.out; have := HK2.out; have := HK3.out; omega⟩, ⟨by (with_reducible repeat (first | apply Kd.V_alloc | apply Kd.V_drewN | apply Kd.V_drew)); exact HO_540000.out⟩, ⟨by (with_reducible repeat (first | apply Kd.V_alloc | apply Kd.V_drewN | apply Kd.V_drew)); exact HO_543000.out⟩, ⟨by (with_reducible repeat (first | refine blk_drewN ?_ _ | refine blk_drew ?_ | refine blk_alloc ?_ _)); exact BK539.out⟩, ⟨by (with_reducible repeat (first | refine blk_drewN ?_ _ | refine blk_drew ?_ | refine blk_alloc ?_ _)); exact BK542.out⟩, ⟨by repeat (first | (with_reducible first | exact HB.out | apply below_alloc | apply pw_below_drewN | apply below_drew1 | refine below_set ?_ GE539.out | refine below_set ?_ GE542.out) | exact HB.out)⟩⟩
        ·rw [if_neg c20] at H
         exact absurd H (by simp)
       ·rw [if_neg c19] at H
        have c19b0 : decide (x6_2 < (l1.length : Int)) = false := decide_eq_false c19; clear c19
        obtain rfl := Option.some.inj H
        go_wp2
        go_ret
        exact ⟨by first | rfl | (simp [errW_none, errW_some] <;> rfl) | (simp [*, errW_none, errW_some] <;> rfl), by repeat (first | (with_reducible first | exact HB.out | apply below_alloc | apply pw_below_drewN | apply below_drew1 | refine below_set ?_ GE539.out | refine below_set ?_ GE542.out) | exact HB.out)⟩
 ·replace c4 := Bool.eq_false_iff.mpr c4
  subst c4; have H1 : (none) = some r := by rw [if_neg (show ¬ (false = true) by decide)] at H; exact H
  clear H; have H := H1; clear H1
  exact absurd H (by simp)

end Go.Proofs.Yteepdedbldnccaa.P
