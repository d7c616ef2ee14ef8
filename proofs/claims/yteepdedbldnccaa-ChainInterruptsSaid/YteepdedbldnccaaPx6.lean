-- Written by wip/tools/laws.py of this repo over the kit's printer, for this claim.
import Derived.Test.YteepdedbldnccaaPx0
import Derived.Test.YteepdedbldnccaaPx4
import Derived.Shelf.Abstract
import Derived.Deep.RegionWith
namespace Go.Proofs.Yteepdedbldnccaa.P
open Go.RowKit Go.Proofs.YteepdedbldnccaaW.PrintWords Go.Proofs.YteepdedbldnccaaW.PrintLast Go.Proofs.YteepdedbldnccaaW.PrintMore
attribute [local go_sem] max2_int min2_int max_two min_two max_three min_three max_four min_four   -- for this text's walks alone
set_option linter.unusedVariables false
set_option linter.unusedSimpArgs false

/-! ### chain_own: function 38 -/
set_option maxHeartbeats 2000000 in
set_option maxRecDepth 100000 in
theorem chain_own.pred (a1 : Int) (g3 : Nat) (w : World) (h3 : w.heap[g3]? = some (.cells #[.int .i64 a1] 3 (0, 0))) (x : S48) :
    Calls Try.prog 43 #[.agg #[.int .i64 x.f0, .bool x.f1, .bool x.f2, .bool x.f3, .int .i64 x.f4], .pointer (some ⟨g3, 0, none⟩)] w fun e w' => e = .returned (.bool (x.f0 == a1)) ∧ Below w.heap.size w w' := by
  have hu48 := Try.underlying48
  have hlt : g3 < w.heap.size := blk_lt h3
  have h3c : w.cell? ⟨g3, 0, none⟩ = some (.int .i64 a1) := (blk_cell h3 0).trans rfl
  have h3f : w.frozen? ⟨g3, 0, none⟩ = false := blk_frozen h3 0
  have hne : ¬ (g3 = w.heap.size) := by omega
  go_enter Try.func43, Try.ntmps43
  go_wp2
  go_ret
  exact ⟨rfl, (Below.refl _ w).alloc (Nat.le_refl _) _⟩


def chain_own.ix : List S48 → Int → Int → Int
  | [], _, _ => -1
  | x :: l, id, i => if x.f0 = id then i else chain_own.ix l id (i + 1)
theorem chain_own.ix_miss (l : List S48) (a1 : Int) : ∀ (m : Nat) (i : Int), m ≤ l.length → (∀ j : Nat, j < m → ((rd_T48 l (j : Int)).f0 == a1) = false) → chain_own.ix l a1 i = chain_own.ix (l.drop m) a1 (i + m) := by
  intro m
  induction m with
  | zero => intro i _ _; simp
  | succ m ih =>
    intro i hm h
    rw [ih i (by omega) (fun j hj => h j (by omega))]
    have h1 := h m (by omega)
    rw [List.drop_eq_getElem_cons (show m < l.length by omega), chain_own.ix]
    have e : rd_T48 l (m : Int) = l[m] := by unfold rd_T48; rw [Int.toNat_natCast, List.getD_eq_getElem?_getD, List.getElem?_eq_getElem (by omega)]; rfl
    rw [e] at h1
    rw [if_neg (by simpa using h1)]
    congr 1
    omega
theorem chain_own.ix_hit (l : List S48) (a1 : Int) (m : Nat) (hm : m < l.length) (h : ∀ j : Nat, j < m → ((rd_T48 l (j : Int)).f0 == a1) = false) (h1 : ((rd_T48 l (m : Int)).f0 == a1) = true) : chain_own.ix l a1 0 = m := by
  rw [chain_own.ix_miss l a1 m 0 (by omega) h, List.drop_eq_getElem_cons hm, chain_own.ix]
  have e : rd_T48 l (m : Int) = l[m] := by unfold rd_T48; rw [Int.toNat_natCast, List.getD_eq_getElem?_getD, List.getElem?_eq_getElem (by omega)]; rfl
  rw [e] at h1
  rw [if_pos (by simpa using h1)]
  omega
theorem chain_own.ix_none (l : List S48) (a1 : Int) (h : ∀ j : Nat, j < l.length → ((rd_T48 l (j : Int)).f0 == a1) = false) : chain_own.ix l a1 0 = -1 := by
  rw [chain_own.ix_miss l a1 l.length 0 (Nat.le_refl _) h, List.drop_length]
  rfl
set_option maxHeartbeats 2000000 in
set_option maxRecDepth 100000 in
theorem chain_own.idx (a1 : Int) (g3 : Nat) (w : World) (h3 : w.heap[g3]? = some (.cells #[.int .i64 a1] 3 (0, 0))) (A0 : Option Addr) (c0 : Nat) (l : List S48) (hr : Kd.C k48 w A0 l.length l) :
    Calls Try.prog 42 #[.slice A0 l.length c0, .func (.func 43) #[] #[.pointer (some ⟨g3, 0, none⟩)]] w fun e w' => e = .returned (.int .i64 (chain_own.ix l a1 0)) ∧ Below w.heap.size w w' := by
  have hu48 := Try.underlying48
  have hbig : l.length ≤ 9223372036854775807 := hr.2.1
  have HR := Aside0.mk hr
  have H3 := Aside0.mk h3
  clear hr h3
  generalize hN : l.length = N at hbig ⊢
  have HN := Aside0.mk hN
  clear hN
  go_enter Try.func42, Try.ntmps42
  go_wp2
  go_loopg [5, 8] N (fun gg _ s8 wr => ∃ kk : Nat, kk ≤ N ∧ N - kk ≤ gg ∧ s8 = .int .i64 kk ∧ Aside0 (Below w.heap.size w wr) ∧ Aside0 (∀ j : Nat, j < kk → ((rd_T48 l (j : Int)).f0 == a1) = false))
  case atStart => exact ⟨0, Nat.zero_le _, by omega, rfl, ⟨Below.refl _ w⟩, ⟨fun j hj => absurd hj (Nat.not_lt_zero _)⟩⟩
  case round =>
    obtain ⟨kk, hkk, hg, rfl, BW, AF⟩ := hrel
    by_cases hlt : kk < N
    · have hltz : (kk : Int) < (N : Int) := by omega
      obtain ⟨ad, eA, q0, q1, q2, q3, q4⟩ := at_T48 (Kd.C_below HR.out BW.out) (kk : Int) (by omega) (by rw [HN.out]; exact hltz)
      subst eA
      have hcall := chain_own.pred a1 g3 wr ((BW.out.block g3 (blk_lt H3.out)).trans H3.out) (rd_T48 l (kk : Int))
      rw [Int.toNat_natCast] at q0 q1 q2 q3 q4
      generalize hy : rd_T48 l (kk : Int) = y at q0 q1 q2 q3 q4 hcall
      have HY := Aside0.mk hy
      clear hy
      have eg : ∀ args w, (callFunc 43 args).run Try.prog w = .ok (.enter 43 args) w := enters_of Try.func43 (by kernel_rfl) rfl
      cases hq : (y.f0 == a1) with
      | true =>
        rw [hq] at hcall
        go_wp2_with (go_at_fn 43; refine hcall.mono ?_; rintro e w' ⟨rfl, hb'⟩)
        go_ret
        refine ⟨?_, below_step BW.out hb'⟩
        rw [chain_own.ix_hit l a1 kk (by rw [HN.out]; exact hlt) AF.out (by rw [HY.out]; exact hq)]; rfl
      | false =>
        rw [hq] at hcall
        go_wp2_with (go_at_fn 43; refine hcall.mono ?_; rintro e w' ⟨rfl, hb'⟩)
        go_roundg (N - (kk + 1))
        case measure => omega
        case rel =>
          refine ⟨kk + 1, by omega, by omega, ?_, ⟨below_step BW.out hb'⟩, ⟨fun j hj => ?_⟩⟩
          · simp
          · rcases Nat.lt_or_ge j kk with h | h
            · exact AF.out j h
            · obtain rfl : j = kk := by omega
              rw [HY.out]; exact hq
    · have hge : ¬ ((kk : Int) < (N : Int)) := by omega
      obtain rfl : kk = N := by omega
      go_wp2
      go_ret
      refine ⟨?_, BW.out⟩
      rw [chain_own.ix_none l a1 (fun j hj => AF.out j (by rw [← HN.out]; exact hj))]; rfl

def chain_own.f (l0_0 : List (S48)) (a0_1 : Int) (a1 : Int) : Option (List (S48) × Int × Int) := if l0_0.length < 5864062014805 then some (l0_0, a0_1, chain_own.ix l0_0 a1 0) else none
set_option maxHeartbeats 2000000 in
set_option maxRecDepth 100000 in
theorem chain_own.calls (A0_0 : Option Addr) (c0_0 : Nat) (l0_0 : List (S48)) (a0_1 : Int) (a1 : Int) (r1 : List (S48)) (r2 : Int) (r3 : Int) (w : World) (hr0_0 : Kd.C k48 w A0_0 l0_0.length l0_0) (hc0_0 : l0_0.length ≤ c0_0) (h : chain_own.f l0_0 a0_1 a1 = some (r1, r2, r3)) :
    Calls Try.prog 38 #[.agg #[.slice A0_0 l0_0.length c0_0, .int .i64 a0_1], .int .i64 a1] w fun e w' => ∃ v0_ : Value, e = .returned (.tuple #[.agg #[v0_, .int .i64 r2], .int .i64 r3]) ∧ Kd.R k48 48 w' w.heap.size (fun _ => True) v0_ r1 ∧ Below w.heap.size w w' := by
  unfold chain_own.f at h
  by_cases hl : l0_0.length < 5864062014805
  case neg => rw [if_neg hl] at h; exact absurd h (by simp)
  have HCL : Aside0 (api_Contact_41.f l0_0 = some l0_0) := ⟨by unfold api_Contact_41.f; rw [if_pos hl]⟩
  rw [if_pos hl] at h
  simp only [Option.some.injEq, Prod.mk.injEq] at h
  obtain ⟨rfl, rfl, rfl⟩ := h
  clear hl
  have hu24 := Try.underlying24
  have HR0_0 := Aside0.mk hr0_0
  have HC0_0 := Aside0.mk hc0_0
  clear hr0_0 hc0_0
  have HB := Aside0.mk (Below.refl w.heap.size w)
  go_enter Try.func38, Try.ntmps38
  go_wp2_with (first | ((with_reducible refine gate_dst (N := 2) rfl ?_); refine box_event ?hg (N := 2) ?hd (cs := #[.slice A0_0 l0_0.length c0_0, .int .i64 a0_1]) (t := 24) ?hr ?_; (case hd => rfl); (case hg => rfl); (case hr => first | (go_simp; done) | (go_simp; rfl)); intro gb2 hg wx2 hbox hb; have G_ := Aside0.mk ((by rw [hg]; exact below_size HB.out) : w.heap.size ≤ gb2); have h_ := Aside0.mk (below_step HB.out hb); clear HB; have HB := h_; clear h_; have GE2 := G_; clear G_; have BK2 := Aside0.mk hbox; clear hb hbox hg) | ((with_reducible refine gate_dst (N := 3) rfl ?_); refine box_event ?hg (N := 3) ?hd (cs := #[.int .i64 a1]) (t := 3) ?hr ?_; (case hd => rfl); (case hg => rfl); (case hr => first | (go_simp; done) | (go_simp; rfl)); intro gb3 hg wx3 hbox hb; have G_ := Aside0.mk ((by rw [hg]; exact below_size HB.out) : w.heap.size ≤ gb3); have NB2_3 := Aside0.mk ((by rw [hg]; exact Nat.ne_of_lt (blk_lt BK2.out)) : gb2 ≠ gb3); have NB3_2 := Aside0.mk (NB2_3.out.symm); have n_ := Aside0.mk (bb_ BK2.out hb); clear BK2; have BK2 := n_; clear n_; have h_ := Aside0.mk (below_step HB.out hb); clear HB; have HB := h_; clear h_; have GE3 := G_; clear G_; have BK3 := Aside0.mk hbox; clear hb hbox hg) | ((with_reducible refine gate_dst (N := 4) rfl ?_); refine box_event ?hg (N := 4) ?hd (cs := #[.slice none 0 0, .int .i64 0]) (t := 24) ?hr ?_; (case hd => rfl); (case hg => rfl); (case hr => first | (go_simp; done) | (go_simp; rfl)); intro gb4 hg wx4 hbox hb; have G_ := Aside0.mk ((by rw [hg]; exact below_size HB.out) : w.heap.size ≤ gb4); have NB2_4 := Aside0.mk ((by rw [hg]; exact Nat.ne_of_lt (blk_lt BK2.out)) : gb2 ≠ gb4); have NB4_2 := Aside0.mk (NB2_4.out.symm); have n_ := Aside0.mk (bb_ BK2.out hb); clear BK2; have BK2 := n_; clear n_; have NB3_4 := Aside0.mk ((by rw [hg]; exact Nat.ne_of_lt (blk_lt BK3.out)) : gb3 ≠ gb4); have NB4_3 := Aside0.mk (NB3_4.out.symm); have n_ := Aside0.mk (bb_ BK3.out hb); clear BK3; have BK3 := n_; clear n_; have h_ := Aside0.mk (below_step HB.out hb); clear HB; have HB := h_; clear h_; have GE4 := G_; clear G_; have BK4 := Aside0.mk hbox; clear hb hbox hg; have hnb2_3 := NB2_3.out; have hnb2_4 := NB2_4.out; have hnb3_2 := NB3_2.out; have hnb3_4 := NB3_4.out; have hnb4_2 := NB4_2.out; have hnb4_3 := NB4_3.out; have hz2_0 : wx4.cell? ⟨gb2, 0, none⟩ = some (.slice A0_0 l0_0.length c0_0) := (blk_cell BK2.out 0).trans rfl; have hz2_1 : wx4.cell? ⟨gb2, 1, none⟩ = some (.int .i64 a0_1) := (blk_cell BK2.out 1).trans rfl; have hf2_0 := blk_frozen BK2.out 0; have hf2_1 := blk_frozen BK2.out 1) | ((with_reducible refine gate_callee (f := 41) rfl ?_); refine goesL_ (some 8) rfl rfl Try.func41 (by kernel_rfl) rfl #[.slice A0_0 l0_0.length c0_0] rfl (by (try simp only [List.map_toArray, List.map_cons, List.map_nil]); first | done | rfl) ?_; (with_reducible refine (api_Contact_41.calls _ _ l0_0 l0_0 _ ?side1 ?side2 HCL.out).mono ?_); (case side1 => exact Kd.C_below HR0_0.out HB.out); (case side2 => exact HC0_0.out); rintro e wx8 ⟨v8, rfl, ho0, hb⟩; refine ⟨_, rfl, ?_⟩; have HO := Aside0.mk (Kd.R_lower ho0 (below_size HB.out)); have n_ := Aside0.mk (bb_ BK2.out hb); clear BK2; have BK2 := n_; clear n_; have n_ := Aside0.mk (bb_ BK3.out hb); clear BK3; have BK3 := n_; clear n_; have n_ := Aside0.mk (bb_ BK4.out hb); clear BK4; have BK4 := n_; clear n_; have h_ := Aside0.mk (below_step HB.out hb); clear HB; have HB := h_; clear h_; clear ho0 hb; obtain ⟨Ao, co, eo⟩ := Kd.R_slice HO.out; subst eo; have hw2_0 : wx8.cell? ⟨gb2, 0, none⟩ = some (.slice A0_0 l0_0.length c0_0) := (blk_cell BK2.out 0).trans rfl; have hwf2_0 := blk_frozen BK2.out 0))
  have n2_ : Aside0 ((wx8.setCell ⟨gb2, 0, none⟩ (.slice Ao l0_0.length co)).heap[gb2]? = some (.cells #[.slice Ao l0_0.length co, .int .i64 a0_1] 24 (0, 0))) := ⟨by refine blk_put (cs := #[.slice A0_0 l0_0.length c0_0, .int .i64 a0_1]) ?_ 0 _ rfl; exact BK2.out⟩
  have n3_ : Aside0 ((wx8.setCell ⟨gb2, 0, none⟩ (.slice Ao l0_0.length co)).heap[gb3]? = some (.cells #[.int .i64 a1] 3 (0, 0))) := ⟨by refine blk_far ?_ NB3_2.out _; exact BK3.out⟩
  have n4_ : Aside0 ((wx8.setCell ⟨gb2, 0, none⟩ (.slice Ao l0_0.length co)).heap[gb4]? = some (.cells #[.slice none 0 0, .int .i64 0] 24 (0, 0))) := ⟨by refine blk_far ?_ NB4_2.out _; exact BK4.out⟩
  have n5_ : Aside0 (Kd.R k48 48 (wx8.setCell ⟨gb2, 0, none⟩ (.slice Ao l0_0.length co)) w.heap.size (fun _ => True) (.slice Ao l0_0.length co) l0_0) := ⟨Kd.R_mono (Kd.R_far (p := ⟨gb2, 0, none⟩) (Kd.R_types HO.out BK2.out (by decide)) (fun _ hk => hk.2) (.slice Ao l0_0.length co)) (fun _ _ => trivial)⟩
  have n6_ : Aside0 (Below w.heap.size w (wx8.setCell ⟨gb2, 0, none⟩ (.slice Ao l0_0.length co))) := ⟨by refine below_set ?_ GE2.out; exact HB.out⟩
  generalize (wx8.setCell ⟨gb2, 0, none⟩ (.slice Ao l0_0.length co)) = wz at n2_ n3_ n4_ n5_ n6_ ⊢
  have hz2_0 : wz.cell? ⟨gb2, 0, none⟩ = some (.slice Ao l0_0.length co) := (blk_cell n2_.out 0).trans rfl
  have hz2_1 : wz.cell? ⟨gb2, 1, none⟩ = some (.int .i64 a0_1) := (blk_cell n2_.out 1).trans rfl
  have hf2_0 := blk_frozen n2_.out 0
  have hf2_1 := blk_frozen n2_.out 1
  clear HO BK2 BK3 BK4 HB
  go_region_with (go_at_call 42; refine (chain_own.idx a1 gb3 _ ?h3 Ao co l0_0 ?hC).mono ?_; (case h3 => (with_reducible repeat (first | refine blk_drewN ?_ _ | refine blk_drew ?_ | refine blk_alloc ?_ _)); exact n3_.out); (case hC => exact (Kd.R_reads' (by (with_reducible repeat (first | apply Kd.R_alloc | apply Kd.R_drewN | apply Kd.R_drew)); exact n5_.out)).2.2); rintro e wy ⟨rfl, hb⟩; have m2_ := Aside0.mk (bb_ n2_.out hb); have m4_ := Aside0.mk (bb_ n4_.out hb); have m5_ := Aside0.mk (Kd.R_below (d := k48) (e := 48) (base := w.heap.size) (ok := fun _ => True) (v := .slice Ao l0_0.length co) (xs := l0_0) (by (with_reducible repeat (first | apply Kd.R_alloc | apply Kd.R_drewN | apply Kd.R_drew)); exact n5_.out) hb); have m6_ := Aside0.mk (below_step (w := w) (by (with_reducible repeat (first | apply below_alloc | apply pw_below_drewN | apply below_drew1)); exact n6_.out) hb); clear hb; have hy2_0 : wy.cell? ⟨gb2, 0, none⟩ = some (.slice Ao l0_0.length co) := (blk_cell m2_.out 0).trans rfl; have hy2_1 : wy.cell? ⟨gb2, 1, none⟩ = some (.int .i64 a0_1) := (blk_cell m2_.out 1).trans rfl; have hyf2_0 := blk_frozen m2_.out 0; have hyf2_1 := blk_frozen m2_.out 1; have hy4_0 : wy.cell? ⟨gb4, 0, none⟩ = some (.slice none 0 0) := (blk_cell m4_.out 0).trans rfl; have hy4_1 : wy.cell? ⟨gb4, 1, none⟩ = some (.int .i64 0) := (blk_cell m4_.out 1).trans rfl; have hyf4_0 := blk_frozen m4_.out 0; have hyf4_1 := blk_frozen m4_.out 1)
  all_goals
    go_wp2
    refine bodyPost_ret (results_ct rfl _ _ gb4 24 #[.slice Ao l0_0.length co, .int .i64 a0_1] (0, 0) _ rfl (by (with_reducible repeat (first | refine blk_drewN ?_ _ | refine blk_drew ?_ | refine blk_alloc ?_ _)); refine blk_put (cs := #[.slice Ao l0_0.length co, .int .i64 0]) ?_ 1 _ rfl; (with_reducible repeat (first | refine blk_drewN ?_ _ | refine blk_drew ?_ | refine blk_alloc ?_ _)); refine blk_put (cs := #[.slice none 0 0, .int .i64 0]) ?_ 0 _ rfl; (with_reducible repeat (first | refine blk_drewN ?_ _ | refine blk_drew ?_ | refine blk_alloc ?_ _)); exact m4_.out) Try.underlying24 rfl (by kernel_rfl)) rfl ?_
    refine ⟨_, rfl, ?_, ?_⟩
    · exact Kd.R_mono (Kd.R_far (p := ⟨gb4, 1, none⟩) (Kd.R_far (p := ⟨gb4, 0, none⟩) (Kd.R_types m5_.out m4_.out (by decide)) (fun _ hk => hk.2) (.slice Ao l0_0.length co)) (fun _ hk => hk.2) (.int .i64 a0_1)) (fun _ hk => trivial)
    · repeat (first | (with_reducible first | exact m6_.out | apply below_alloc | apply pw_below_drewN | apply below_drew1 | refine below_set ?_ GE4.out) | exact m6_.out)

end Go.Proofs.Yteepdedbldnccaa.P
