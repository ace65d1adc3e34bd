/- Each threshold family is a port whose ranks are the numbers of holders up to the threshold, as the given program computes it, for every row of bytes; no further condition. (5 of 5) Put together by a program of mine from texts of mine, from texts that the kit's print wrote for this claim and from the print's words; what is not reached is left out. -/
import Derived.ChangeOld
import Derived.OpenShut
import Derived.ProofKit
import Derived.ShutString
import Derived.Test.YtmbeijjkfmgkpaaTpA4
import Derived.Test.YtmbeijjkfmgkpaaRows
set_option linter.unusedVariables false
set_option linter.unusedSimpArgs false
namespace Go.Proofs.Ytmbeijjkfmgkpaa.Q
open Go.RowKit Go.Proofs.YtmbeijjkfmgkpaaW.PrintWords Go.Proofs.YtmbeijjkfmgkpaaW.PrintLast Go.Proofs.YtmbeijjkfmgkpaaW.PrintMore
attribute [local go_sem] max2_int min2_int max_two min_two max_three min_three max_four min_four
set_option linter.unusedVariables false
set_option linter.unusedSimpArgs false
def impl_RankAt.f (k : Nat) (a0_0 : Int) (a0_1 : Int) (l0_2 : List Int) (l1 : List Int) : Option (Int × Int) := (impl_ValidRanks.f k a0_0 a0_1 l0_2).bind fun t784 => (if t784 = true then ((impl_isGroup.f k a0_0 l1).bind fun t785 => (if t785 = true then ((impl_crowdOf.f k l1).bind fun t786 => ((impl_Ranks_rank.f a0_0 a0_1 l0_2 t786).bind fun t787 => (some (t787, 0)))) else (some (0, 2)))) else (some (0, 1)))
theorem impl_RankAt.mono : ∀ a0 a1 a2 a3 k, LeO (impl_RankAt.f k a0 a1 a2 a3) (impl_RankAt.f (k + 1) a0 a1 a2 a3) := by
  intro a0 a1 a2 a3 k
  unfold impl_RankAt.f
  repeat' first
      | (with_reducible exact impl_ValidRanks.mono _ _ _ _)
      | (with_reducible exact impl_crowdOf.mono _ _)
      | (with_reducible exact impl_isGroup.mono _ _ _)
      | (with_reducible exact LeO.refl _)
      | (with_reducible exact LeO.none _)
      | (with_reducible refine LeO.ite ?_ ?_)
      | (with_reducible refine LeO.bind ?_ (fun _ => ?_))
      | exact impl_ValidRanks.mono _ _ _ _
      | exact impl_crowdOf.mono _ _
      | exact impl_isGroup.mono _ _ _
      | exact LeO.none _
      | refine LeO.ite ?_ ?_
      | refine LeO.bind ?_ (fun _ => ?_)
set_option maxHeartbeats 8000000 in
set_option maxRecDepth 100000 in
theorem impl_RankAt.calls (k : Nat) (a0_0 : Int) (a0_1 : Int) (A0_2 : Option Addr) (c0_2 : Nat) (l0_2 : List Int) (A1 : Option Addr) (c1 : Nat) (l1 : List Int) (r1 : Int) (r2 : Int) (w : World) (hr0_2 : Kd.C (Kd.int .i64) w A0_2 l0_2.length l0_2) (hc0_2 : l0_2.length ≤ c0_2) (hr1 : Kd.C (Kd.int .i64) w A1 l1.length l1) (hc1 : l1.length ≤ c1) (h : impl_RankAt.f k a0_0 a0_1 l0_2 l1 = some (r1, r2)) :
    Calls Try.prog 34 #[.agg #[.int .i64 a0_0, .int .i64 a0_1, .slice A0_2 l0_2.length c0_2], .slice A1 l1.length c1] w fun e w' => e = .returned (.tuple #[.int .i64 r1, .int .i64 r2]) ∧ Below w.heap.size w w' := by
  have hu54 := Try.underlying54
  have HR0_2 := Aside0.mk hr0_2
  have HC0_2 := Aside0.mk hc0_2
  clear hr0_2 hc0_2
  have HR1 := Aside0.mk hr1
  have HC1 := Aside0.mk hc1
  clear hr1 hc1
  have HB := Aside0.mk (Below.refl w.heap.size w)
  have H : ((impl_ValidRanks.f k a0_0 a0_1 l0_2).bind fun t784 => (if t784 = true then ((impl_isGroup.f k a0_0 l1).bind fun t785 => (if t785 = true then ((impl_crowdOf.f k l1).bind fun t786 => ((impl_Ranks_rank.f a0_0 a0_1 l0_2 t786).bind fun t787 => (some (t787, 0)))) else (some (0, 2)))) else (some (0, 1)))) = some (r1, r2) := h
  clear h
  replace H := Option.bind_eq_some_iff.mp H
  obtain ⟨t784, A30, H⟩ := H
  replace H : (if t784 = true then ((impl_isGroup.f k a0_0 l1).bind fun t785 => (if t785 = true then ((impl_crowdOf.f k l1).bind fun t786 => ((impl_Ranks_rank.f a0_0 a0_1 l0_2 t786).bind fun t787 => (some (t787, 0)))) else (some (0, 2)))) else (some (0, 1))) = some (r1, r2) := H
  have A3 := Aside0.mk A30
  clear A30
  by_cases c4 : t784 = true
  · subst c4
    have H1 : ((impl_isGroup.f k a0_0 l1).bind fun t785 => (if t785 = true then ((impl_crowdOf.f k l1).bind fun t786 => ((impl_Ranks_rank.f a0_0 a0_1 l0_2 t786).bind fun t787 => (some (t787, 0)))) else (some (0, 2)))) = some (r1, r2) := by rw [if_pos rfl] at H; exact H
    clear H
    have H := H1
    clear H1
    replace H := Option.bind_eq_some_iff.mp H
    obtain ⟨t785, A50, H⟩ := H
    replace H : (if t785 = true then ((impl_crowdOf.f k l1).bind fun t786 => ((impl_Ranks_rank.f a0_0 a0_1 l0_2 t786).bind fun t787 => (some (t787, 0)))) else (some (0, 2))) = some (r1, r2) := H
    have A5 := Aside0.mk A50
    clear A50
    by_cases c6 : t785 = true
    · subst c6
      have H1 : ((impl_crowdOf.f k l1).bind fun t786 => ((impl_Ranks_rank.f a0_0 a0_1 l0_2 t786).bind fun t787 => (some (t787, 0)))) = some (r1, r2) := by rw [if_pos rfl] at H; exact H
      clear H
      have H := H1
      clear H1
      replace H := Option.bind_eq_some_iff.mp H
      obtain ⟨t786, A70, H⟩ := H
      replace H : ((impl_Ranks_rank.f a0_0 a0_1 l0_2 t786).bind fun t787 => (some (t787, 0))) = some (r1, r2) := H
      have A7 := Aside0.mk A70
      clear A70
      replace H := Option.bind_eq_some_iff.mp H
      obtain ⟨t787, A80, H⟩ := H
      replace H : (some (t787, 0)) = some (r1, r2) := H
      have A8 := Aside0.mk A80
      clear A80
      simp only [Option.some.injEq, Prod.mk.injEq] at H
      obtain ⟨rfl, rfl⟩ := H
      go_enter Try.func34, Try.ntmps34
      try go_wp2_with (first | ((with_reducible refine gate_dst (N := 2) rfl ?_); refine box_event ?hg (N := 2) ?hd (cs := #[.int .i64 a0_0, .int .i64 a0_1, .slice A0_2 l0_2.length c0_2]) (t := 54) ?hr ?_; (case hd => rfl); (case hg => rfl); (case hr => first | (go_simp; done) | (go_simp; rfl)); intro gb783 hg w9 hbox hb; have n0_ := Aside0.mk (below_step (by repeat (first | (with_reducible first | exact HB.out | apply below_alloc | apply pw_below_drewN | apply below_drew1) | exact HB.out)) hb); have n1_ := Aside0.mk (hbox); have n2_ := Aside0.mk ((by rw [hg]; exact (below_size (by repeat (first | (with_reducible first | exact HB.out | apply below_alloc | apply pw_below_drewN | apply below_drew1) | exact HB.out))) : w.heap.size ≤ gb783)); have n3_ := Aside0.mk ((by rw [hg]; exact (below_size (by repeat (first | (with_reducible first | exact HB.out | apply below_alloc | apply pw_below_drewN | apply below_drew1) | exact HB.out))) : w.heap.size ≤ gb783)); clear HB; have HB := n0_; have BK783 := n1_; have GW783 := n2_; have GE783 := n3_; clear n0_ n1_ n2_ n3_; clear hb hbox hg; have hcz10_0 : w9.cell? ⟨gb783, 0, none⟩ = some (.int .i64 a0_0) := (blk_cell BK783.out 0).trans rfl; have hcz10_1 : w9.cell? ⟨gb783, 1, none⟩ = some (.int .i64 a0_1) := (blk_cell BK783.out 1).trans rfl; have hcz10_2 : w9.cell? ⟨gb783, 2, none⟩ = some (.slice A0_2 l0_2.length c0_2) := (blk_cell BK783.out 2).trans rfl; have hfz10_0 := blk_frozen BK783.out 0; have hfz10_1 := blk_frozen BK783.out 1; have hfz10_2 := blk_frozen BK783.out 2) | ((with_reducible refine gate_callee (f := 62) rfl ?_); refine goesL_ (some 7) rfl rfl Try.func62 (by kernel_rfl) rfl #[.agg #[.int .i64 a0_0, .int .i64 a0_1, .slice A0_2 l0_2.length c0_2]] rfl (by (try simp only [List.map_toArray, List.map_cons, List.map_nil]); first | done | rfl | (simp only [List.length_drop, List.length_take]; rfl)) ?_; (with_reducible refine (impl_ValidRanks.calls k a0_0 a0_1 _ _ l0_2 true _ ?side1 ?side2 A3.out).mono ?_); (case side1 => repeat (first | exact (Kd.C_below HR0_2.out HB.out) | (with_reducible refine Kd.C_alloc ?_ _) | (with_reducible refine Kd.C_drewN ?_ _) | (with_reducible refine Kd.C_drew ?_))); (case side2 => exact HC0_2.out); rintro e w11 ⟨rfl, hb⟩; refine ⟨_, rfl, ?_⟩; have n0_ := Aside0.mk (blk_below (g := gb783) (o := .cells #[.int .i64 a0_0, .int .i64 a0_1, .slice A0_2 l0_2.length c0_2] 54 (0, 0)) (by (with_reducible repeat (first | refine blk_drewN ?_ _ | refine blk_drew ?_ | refine blk_alloc ?_ _)); exact BK783.out) hb); have n1_ := Aside0.mk (below_step (by repeat (first | (with_reducible first | exact HB.out | apply below_alloc | apply pw_below_drewN | apply below_drew1 | refine below_set ?_ GE783.out) | exact HB.out)) hb); clear BK783; clear HB; have BK783 := n0_; have HB := n1_; clear n0_ n1_; (try clear hb); (try clear hb2); (try clear hk); (try clear hi); have hcz12_0 : w11.cell? ⟨gb783, 0, none⟩ = some (.int .i64 a0_0) := (blk_cell BK783.out 0).trans rfl; have hcz12_1 : w11.cell? ⟨gb783, 1, none⟩ = some (.int .i64 a0_1) := (blk_cell BK783.out 1).trans rfl; have hcz12_2 : w11.cell? ⟨gb783, 2, none⟩ = some (.slice A0_2 l0_2.length c0_2) := (blk_cell BK783.out 2).trans rfl; have hfz12_0 := blk_frozen BK783.out 0; have hfz12_1 := blk_frozen BK783.out 1; have hfz12_2 := blk_frozen BK783.out 2) | ((with_reducible refine gate_callee (f := 104) rfl ?_); refine goesL_ (some 12) rfl rfl Try.func104 (by kernel_rfl) rfl #[.int .i64 a0_0, .slice A1 l1.length c1] rfl (by (try simp only [List.map_toArray, List.map_cons, List.map_nil]); first | done | rfl | (simp only [List.length_drop, List.length_take]; rfl)) ?_; (with_reducible refine (impl_isGroup.calls k a0_0 _ _ l1 true _ ?side1 ?side2 A5.out).mono ?_); (case side1 => repeat (first | exact (Kd.C_below HR1.out HB.out) | (with_reducible refine Kd.C_alloc ?_ _) | (with_reducible refine Kd.C_drewN ?_ _) | (with_reducible refine Kd.C_drew ?_))); (case side2 => exact HC1.out); rintro e w' ⟨rfl, ⟨nd, rfl⟩⟩; refine ⟨_, rfl, ?_⟩))
      (try (rw [drewN_self w11]; generalize hq_ : World.drewN w11 _ = w11; have n0_ : Aside0 (w11.heap[gb783]? = some (.cells #[.int .i64 a0_0, .int .i64 a0_1, .slice A0_2 l0_2.length c0_2] 54 (0, 0))) := ⟨by rw [← hq_]; exact (by (with_reducible repeat (first | refine blk_drewN ?_ _ | refine blk_drew ?_ | refine blk_alloc ?_ _)); exact BK783.out)⟩; have n1_ : Aside0 (Below w.heap.size w w11) := ⟨by rw [← hq_]; exact (by repeat (first | (with_reducible first | exact HB.out | apply below_alloc | apply pw_below_drewN | apply below_drew1 | refine below_set ?_ GE783.out) | exact HB.out))⟩; clear BK783 HB hq_; have BK783 := n0_; have HB := n1_; clear n0_ n1_; (try clear hcz12_0); (try clear hfz12_0); have hcz12_0 : w11.cell? ⟨gb783, 0, none⟩ = some (.int .i64 a0_0) := (blk_cell BK783.out 0).trans rfl; have hfz12_0 := blk_frozen BK783.out 0; (try clear hcz12_1); (try clear hfz12_1); have hcz12_1 : w11.cell? ⟨gb783, 1, none⟩ = some (.int .i64 a0_1) := (blk_cell BK783.out 1).trans rfl; have hfz12_1 := blk_frozen BK783.out 1; (try clear hcz12_2); (try clear hfz12_2); have hcz12_2 : w11.cell? ⟨gb783, 2, none⟩ = some (.slice A0_2 l0_2.length c0_2) := (blk_cell BK783.out 2).trans rfl; have hfz12_2 := blk_frozen BK783.out 2))
      have n0_ := Aside0.mk (blk_drew BK783.out)
      have n1_ := Aside0.mk (below_drew1 HB.out)
      clear BK783
      clear HB
      have BK783 := n0_
      have HB := n1_
      clear n0_ n1_
      refine start_ (n := 6) (S := fun w' => w'.cell? ⟨gb783, 0, none⟩ = some (.int .i64 a0_0) ∧ w'.cell? ⟨gb783, 1, none⟩ = some (.int .i64 a0_1) ∧ w'.cell? ⟨gb783, 2, none⟩ = some (.slice A0_2 l0_2.length c0_2)) (ds := []) #[false, false, false, false, false, false] (by kernel_rfl) rfl rfl ⟨(blk_cell BK783.out 0).trans rfl, (blk_cell BK783.out 1).trans rfl, (blk_cell BK783.out 2).trans rfl⟩ (fun hHeld => ?_)
      generalize w11.drew = w13 at BK783 HB hHeld ⊢
      refine pure_ (i := 1) (N := some 15) (v := ?_) (a' := ?_) #[false, true, false, false, false, false] rfl rfl (by kernel_rfl) (fun _ _ _ h => h) (Or.inl ⟨by rfl, ?_⟩) ?_ ?_
      rotate_left
      · intro w'
        go_simp
        with_reducible rfl
      rotate_left
      · simp only [Act.put, List.setIfInBounds_toArray, List.set_cons_zero, List.set_cons_succ, i64_w, i32_w]
        rfl
      refine take_ (i := 0) (N := some 14) (v := ?_) (a' := ?_) #[true, true, false, false, false, false] rfl rfl (by kernel_rfl) (fun _ _ _ h => h) (Or.inl ⟨by rfl, ?_⟩) hHeld ?_ ?_
      rotate_left
      · rintro w' ⟨s0, s1, s2⟩
        go_simp
        with_reducible rfl
      rotate_left
      · simp only [Act.put, List.setIfInBounds_toArray, List.set_cons_zero, List.set_cons_succ, i64_w, i32_w]
        rfl
      refine one_ (i := 2) (N := some 16) #[true, true, true, false, false, false] rfl rfl (by kernel_rfl) (by decide) (fun K hK => ?_)
      refine goes_ Try.func86 (by kernel_rfl) rfl #[.slice A1 l1.length c1] (by rfl) rfl rfl (by (try simp only [List.map_toArray, List.map_cons, List.map_nil]); first | done | rfl | (simp only [List.length_drop, List.length_take]; rfl)) ?_
      with_reducible refine (impl_crowdOf.calls k _ _ l1 t786 _ ?side1 ?side2 A7.out).mono ?_
      (case side1 => repeat (first | exact (Kd.C_below HR1.out HB.out) | (with_reducible refine Kd.C_alloc ?_ _) | (with_reducible refine Kd.C_drewN ?_ _) | (with_reducible refine Kd.C_drew ?_)))
      (case side2 => exact HC1.out)
      rintro e w' ⟨rfl, ⟨nd, rfl⟩⟩
      refine ⟨_, rfl, ?_⟩
      refine hK.out _ _ ⟨(blk_cell BK783.out 0).trans rfl, (blk_cell BK783.out 1).trans rfl, (blk_cell BK783.out 2).trans rfl⟩ (fun hHeld => ?_)
      clear hK K
      refine norm_ (a' := ?_) ?_ ?_
      rotate_left
      · show Act.put _ (some 16) _ = _
        simp only [Act.put, List.setIfInBounds_toArray, List.set_cons_zero, List.set_cons_succ, i64_w, i32_w]
        rfl
      refine one_ (i := 3) (N := some 17) #[true, true, true, true, false, false] rfl rfl (by kernel_rfl) (by decide) (fun K hK => ?_)
      refine goes_ Try.func105 (by kernel_rfl) rfl #[.agg #[.int .i64 a0_0, .int .i64 a0_1, .slice A0_2 l0_2.length c0_2], .int .u64 t786] (by rfl) rfl rfl (by (try simp only [List.map_toArray, List.map_cons, List.map_nil]); first | done | rfl | (simp only [List.length_drop, List.length_take]; rfl)) ?_
      with_reducible refine (impl_Ranks_rank.calls a0_0 a0_1 _ _ l0_2 t786 t787 _ ?side1 ?side2 A8.out).mono ?_
      (case side1 => repeat (first | exact (Kd.C_below HR0_2.out (by repeat (first | (with_reducible first | exact HB.out | apply below_alloc | apply pw_below_drewN | apply below_drew1 | refine below_set ?_ GE783.out) | exact HB.out))) | (with_reducible refine Kd.C_alloc ?_ _) | (with_reducible refine Kd.C_drewN ?_ _) | (with_reducible refine Kd.C_drew ?_)))
      (case side2 => exact HC0_2.out)
      rintro e w14 ⟨rfl, hb⟩
      refine ⟨_, rfl, ?_⟩
      have n0_ := Aside0.mk (blk_below (g := gb783) (o := .cells #[.int .i64 a0_0, .int .i64 a0_1, .slice A0_2 l0_2.length c0_2] 54 (0, 0)) (by (with_reducible repeat (first | refine blk_drewN ?_ _ | refine blk_drew ?_ | refine blk_alloc ?_ _)); exact BK783.out) hb)
      have n1_ := Aside0.mk (below_step (by repeat (first | (with_reducible first | exact HB.out | apply below_alloc | apply pw_below_drewN | apply below_drew1 | refine below_set ?_ GE783.out) | exact HB.out)) hb)
      clear BK783
      clear HB
      have BK783 := n0_
      have HB := n1_
      clear n0_ n1_
      (try clear hb)
      (try clear hb2)
      (try clear hk)
      (try clear hi)
      refine hK.out _ _ ⟨(blk_cell BK783.out 0).trans rfl, (blk_cell BK783.out 1).trans rfl, (blk_cell BK783.out 2).trans rfl⟩ (fun hHeld => ?_)
      clear hK K
      refine norm_ (a' := ?_) ?_ ?_
      rotate_left
      · show Act.put _ (some 17) _ = _
        simp only [Act.put, List.setIfInBounds_toArray, List.set_cons_zero, List.set_cons_succ, i64_w, i32_w]
        rfl
      refine pure_ (i := 4) (N := some 4) (v := ?_) (a' := ?_) #[true, true, true, true, true, false] rfl rfl (by kernel_rfl) (fun _ _ _ h => h) (Or.inl ⟨by rfl, ?_⟩) ?_ ?_
      rotate_left
      · intro w'
        go_simp
        with_reducible rfl
      rotate_left
      · simp only [Act.put, List.setIfInBounds_toArray, List.set_cons_zero, List.set_cons_succ, i64_w, i32_w]
        rfl
      refine pure_ (i := 5) (N := some 5) (v := ?_) (a' := ?_) #[true, true, true, true, true, true] rfl rfl (by kernel_rfl) (fun _ _ _ h => h) (Or.inl ⟨by rfl, ?_⟩) ?_ ?_
      rotate_left
      · intro w'
        go_simp
        with_reducible rfl
      rotate_left
      · simp only [Act.put, List.setIfInBounds_toArray, List.set_cons_zero, List.set_cons_succ, i64_w, i32_w]
        rfl
      refine done_ (by kernel_rfl) ?_
      try go_wp2
      go_ret2
      exact ⟨by first | rfl | (simp [errW_none, errW_some] <;> rfl) | (simp [*, errW_none, errW_some] <;> rfl), by repeat (first | (with_reducible first | exact HB.out | apply below_alloc | apply pw_below_drewN | apply below_drew1 | refine below_set ?_ GE783.out) | exact HB.out)⟩
    · replace c6 := Bool.eq_false_iff.mpr c6
      subst c6
      have H1 : (some (0, 2)) = some (r1, r2) := by rw [if_neg (show ¬ (false = true) by decide)] at H; exact H
      clear H
      have H := H1
      clear H1
      simp only [Option.some.injEq, Prod.mk.injEq] at H
      obtain ⟨rfl, rfl⟩ := H
      go_enter Try.func34, Try.ntmps34
      go_wp2_with (first | ((with_reducible refine gate_dst (N := 2) rfl ?_); refine box_event ?hg (N := 2) ?hd (cs := #[.int .i64 a0_0, .int .i64 a0_1, .slice A0_2 l0_2.length c0_2]) (t := 54) ?hr ?_; (case hd => rfl); (case hg => rfl); (case hr => first | (go_simp; done) | (go_simp; rfl)); intro gb783 hg w15 hbox hb; have n0_ := Aside0.mk (below_step (by repeat (first | (with_reducible first | exact HB.out | apply below_alloc | apply pw_below_drewN | apply below_drew1) | exact HB.out)) hb); have n1_ := Aside0.mk (hbox); have n2_ := Aside0.mk ((by rw [hg]; exact (below_size (by repeat (first | (with_reducible first | exact HB.out | apply below_alloc | apply pw_below_drewN | apply below_drew1) | exact HB.out))) : w.heap.size ≤ gb783)); have n3_ := Aside0.mk ((by rw [hg]; exact (below_size (by repeat (first | (with_reducible first | exact HB.out | apply below_alloc | apply pw_below_drewN | apply below_drew1) | exact HB.out))) : w.heap.size ≤ gb783)); clear HB; have HB := n0_; have BK783 := n1_; have GW783 := n2_; have GE783 := n3_; clear n0_ n1_ n2_ n3_; clear hb hbox hg; have hcz16_0 : w15.cell? ⟨gb783, 0, none⟩ = some (.int .i64 a0_0) := (blk_cell BK783.out 0).trans rfl; have hcz16_1 : w15.cell? ⟨gb783, 1, none⟩ = some (.int .i64 a0_1) := (blk_cell BK783.out 1).trans rfl; have hcz16_2 : w15.cell? ⟨gb783, 2, none⟩ = some (.slice A0_2 l0_2.length c0_2) := (blk_cell BK783.out 2).trans rfl; have hfz16_0 := blk_frozen BK783.out 0; have hfz16_1 := blk_frozen BK783.out 1; have hfz16_2 := blk_frozen BK783.out 2) | ((with_reducible refine gate_callee (f := 62) rfl ?_); refine goesL_ (some 7) rfl rfl Try.func62 (by kernel_rfl) rfl #[.agg #[.int .i64 a0_0, .int .i64 a0_1, .slice A0_2 l0_2.length c0_2]] rfl (by (try simp only [List.map_toArray, List.map_cons, List.map_nil]); first | done | rfl | (simp only [List.length_drop, List.length_take]; rfl)) ?_; (with_reducible refine (impl_ValidRanks.calls k a0_0 a0_1 _ _ l0_2 true _ ?side1 ?side2 A3.out).mono ?_); (case side1 => repeat (first | exact (Kd.C_below HR0_2.out HB.out) | (with_reducible refine Kd.C_alloc ?_ _) | (with_reducible refine Kd.C_drewN ?_ _) | (with_reducible refine Kd.C_drew ?_))); (case side2 => exact HC0_2.out); rintro e w17 ⟨rfl, hb⟩; refine ⟨_, rfl, ?_⟩; have n0_ := Aside0.mk (blk_below (g := gb783) (o := .cells #[.int .i64 a0_0, .int .i64 a0_1, .slice A0_2 l0_2.length c0_2] 54 (0, 0)) (by (with_reducible repeat (first | refine blk_drewN ?_ _ | refine blk_drew ?_ | refine blk_alloc ?_ _)); exact BK783.out) hb); have n1_ := Aside0.mk (below_step (by repeat (first | (with_reducible first | exact HB.out | apply below_alloc | apply pw_below_drewN | apply below_drew1 | refine below_set ?_ GE783.out) | exact HB.out)) hb); clear BK783; clear HB; have BK783 := n0_; have HB := n1_; clear n0_ n1_; (try clear hb); (try clear hb2); (try clear hk); (try clear hi); have hcz18_0 : w17.cell? ⟨gb783, 0, none⟩ = some (.int .i64 a0_0) := (blk_cell BK783.out 0).trans rfl; have hcz18_1 : w17.cell? ⟨gb783, 1, none⟩ = some (.int .i64 a0_1) := (blk_cell BK783.out 1).trans rfl; have hcz18_2 : w17.cell? ⟨gb783, 2, none⟩ = some (.slice A0_2 l0_2.length c0_2) := (blk_cell BK783.out 2).trans rfl; have hfz18_0 := blk_frozen BK783.out 0; have hfz18_1 := blk_frozen BK783.out 1; have hfz18_2 := blk_frozen BK783.out 2) | ((with_reducible refine gate_callee (f := 104) rfl ?_); refine goesL_ (some 12) rfl rfl Try.func104 (by kernel_rfl) rfl #[.int .i64 a0_0, .slice A1 l1.length c1] rfl (by (try simp only [List.map_toArray, List.map_cons, List.map_nil]); first | done | rfl | (simp only [List.length_drop, List.length_take]; rfl)) ?_; (with_reducible refine (impl_isGroup.calls k a0_0 _ _ l1 false _ ?side1 ?side2 A5.out).mono ?_); (case side1 => repeat (first | exact (Kd.C_below HR1.out HB.out) | (with_reducible refine Kd.C_alloc ?_ _) | (with_reducible refine Kd.C_drewN ?_ _) | (with_reducible refine Kd.C_drew ?_))); (case side2 => exact HC1.out); rintro e w' ⟨rfl, ⟨nd, rfl⟩⟩; refine ⟨_, rfl, ?_⟩))
      go_ret2
      exact ⟨by first | rfl | (simp [errW_none, errW_some] <;> rfl) | (simp [*, errW_none, errW_some] <;> rfl), by repeat (first | (with_reducible first | exact HB.out | apply below_alloc | apply pw_below_drewN | apply below_drew1 | refine below_set ?_ GE783.out) | exact HB.out)⟩
  · replace c4 := Bool.eq_false_iff.mpr c4
    subst c4
    have H1 : (some (0, 1)) = some (r1, r2) := by rw [if_neg (show ¬ (false = true) by decide)] at H; exact H
    clear H
    have H := H1
    clear H1
    simp only [Option.some.injEq, Prod.mk.injEq] at H
    obtain ⟨rfl, rfl⟩ := H
    go_enter Try.func34, Try.ntmps34
    go_wp2_with (first | ((with_reducible refine gate_dst (N := 2) rfl ?_); refine box_event ?hg (N := 2) ?hd (cs := #[.int .i64 a0_0, .int .i64 a0_1, .slice A0_2 l0_2.length c0_2]) (t := 54) ?hr ?_; (case hd => rfl); (case hg => rfl); (case hr => first | (go_simp; done) | (go_simp; rfl)); intro gb783 hg w19 hbox hb; have n0_ := Aside0.mk (below_step (by repeat (first | (with_reducible first | exact HB.out | apply below_alloc | apply pw_below_drewN | apply below_drew1) | exact HB.out)) hb); have n1_ := Aside0.mk (hbox); have n2_ := Aside0.mk ((by rw [hg]; exact (below_size (by repeat (first | (with_reducible first | exact HB.out | apply below_alloc | apply pw_below_drewN | apply below_drew1) | exact HB.out))) : w.heap.size ≤ gb783)); have n3_ := Aside0.mk ((by rw [hg]; exact (below_size (by repeat (first | (with_reducible first | exact HB.out | apply below_alloc | apply pw_below_drewN | apply below_drew1) | exact HB.out))) : w.heap.size ≤ gb783)); clear HB; have HB := n0_; have BK783 := n1_; have GW783 := n2_; have GE783 := n3_; clear n0_ n1_ n2_ n3_; clear hb hbox hg; have hcz20_0 : w19.cell? ⟨gb783, 0, none⟩ = some (.int .i64 a0_0) := (blk_cell BK783.out 0).trans rfl; have hcz20_1 : w19.cell? ⟨gb783, 1, none⟩ = some (.int .i64 a0_1) := (blk_cell BK783.out 1).trans rfl; have hcz20_2 : w19.cell? ⟨gb783, 2, none⟩ = some (.slice A0_2 l0_2.length c0_2) := (blk_cell BK783.out 2).trans rfl; have hfz20_0 := blk_frozen BK783.out 0; have hfz20_1 := blk_frozen BK783.out 1; have hfz20_2 := blk_frozen BK783.out 2) | ((with_reducible refine gate_callee (f := 62) rfl ?_); refine goesL_ (some 7) rfl rfl Try.func62 (by kernel_rfl) rfl #[.agg #[.int .i64 a0_0, .int .i64 a0_1, .slice A0_2 l0_2.length c0_2]] rfl (by (try simp only [List.map_toArray, List.map_cons, List.map_nil]); first | done | rfl | (simp only [List.length_drop, List.length_take]; rfl)) ?_; (with_reducible refine (impl_ValidRanks.calls k a0_0 a0_1 _ _ l0_2 false _ ?side1 ?side2 A3.out).mono ?_); (case side1 => repeat (first | exact (Kd.C_below HR0_2.out HB.out) | (with_reducible refine Kd.C_alloc ?_ _) | (with_reducible refine Kd.C_drewN ?_ _) | (with_reducible refine Kd.C_drew ?_))); (case side2 => exact HC0_2.out); rintro e w21 ⟨rfl, hb⟩; refine ⟨_, rfl, ?_⟩; have n0_ := Aside0.mk (blk_below (g := gb783) (o := .cells #[.int .i64 a0_0, .int .i64 a0_1, .slice A0_2 l0_2.length c0_2] 54 (0, 0)) (by (with_reducible repeat (first | refine blk_drewN ?_ _ | refine blk_drew ?_ | refine blk_alloc ?_ _)); exact BK783.out) hb); have n1_ := Aside0.mk (below_step (by repeat (first | (with_reducible first | exact HB.out | apply below_alloc | apply pw_below_drewN | apply below_drew1 | refine below_set ?_ GE783.out) | exact HB.out)) hb); clear BK783; clear HB; have BK783 := n0_; have HB := n1_; clear n0_ n1_; (try clear hb); (try clear hb2); (try clear hk); (try clear hi)))
    go_ret2
    exact ⟨by first | rfl | (simp [errW_none, errW_some] <;> rfl) | (simp [*, errW_none, errW_some] <;> rfl), by repeat (first | (with_reducible first | exact HB.out | apply below_alloc | apply pw_below_drewN | apply below_drew1 | refine below_set ?_ GE783.out) | exact HB.out)⟩
end Go.Proofs.Ytmbeijjkfmgkpaa.Q
namespace Go.Proofs.Ytmbeijjkfmgkpaa.Q
open Go.RowKit Go.Proofs.YtmbeijjkfmgkpaaW.PrintWords Go.Proofs.YtmbeijjkfmgkpaaW.PrintLast Go.Proofs.YtmbeijjkfmgkpaaW.PrintMore
attribute [local go_sem] max2_int min2_int max_two min_two max_three min_three max_four min_four
set_option linter.unusedVariables false
set_option linter.unusedSimpArgs false
def laws_FnThresholdPorts.j0 : Nat → List Int → Int → Int → Bool → Int → Int → List Int → Option (Bool)
  | 0, _, _, _, _, _, _, _ => none
  | k + 1, x0, x3, x4, x48, x803000, x803001, x803002 => if x48 = true then (some false) else ((spec_P6Group.f k x0 x3).bind fun t803 => ((impl_RankAt.f k x803000 x803001 x803002 t803).bind fun bt806 => (if (t803.length : Int) > x4 then (if bt806.2 = 0 then (some (bt806.1 == x4)) else (some false)) else (if bt806.2 = 0 then (some (bt806.1 == (t803.length : Int))) else (some false)))))
def laws_FnThresholdPorts.f (k : Nat) (l0 : List Int) : Option (Bool) := (laws_f6big.f l0).bind fun t788 => (if t788 = true then (some true) else ((spec_P6Pick.f l0 5).bind fun t789 => (if (wrap64 (1 + t789)) = 0 then (none) else ((impl_ThresholdFamily.f k (wrap64 (1 + t789)) (wrap64 (1 + ((l0.length : Int) % (wrap64 (1 + t789)))))).bind fun bt790 => ((impl_PortRanks.f k bt790.1 bt790.2.1).bind fun bt796 => (if bt790.2.2 = 0 then (if bt796.2.2.2 = 0 then (if 0 ≤ (IntKind.u64.wrap (wrap64 (1 + t789))) then (laws_FnThresholdPorts.j0 k l0 (wrap64 (1 + t789)) (wrap64 (1 + ((l0.length : Int) % (wrap64 (1 + t789))))) ((bt796.2.2.1.length : Int) != (shl .i64 1 (IntKind.u64.wrap (wrap64 (1 + t789))))) bt796.1 bt796.2.1 bt796.2.2.1) else (none)) else (laws_FnThresholdPorts.j0 k l0 (wrap64 (1 + t789)) (wrap64 (1 + ((l0.length : Int) % (wrap64 (1 + t789))))) true bt796.1 bt796.2.1 bt796.2.2.1)) else (laws_FnThresholdPorts.j0 k l0 (wrap64 (1 + t789)) (wrap64 (1 + ((l0.length : Int) % (wrap64 (1 + t789))))) true bt796.1 bt796.2.1 bt796.2.2.1)))))))
theorem laws_FnThresholdPorts.mono_l : ∀ k, (∀ y0 y1 y2 y3 y4 y5 y6, LeO (laws_FnThresholdPorts.j0 k y0 y1 y2 y3 y4 y5 y6) (laws_FnThresholdPorts.j0 (k + 1) y0 y1 y2 y3 y4 y5 y6))
  | 0 => fun _ _ _ _ _ _ _ r h => by simp [laws_FnThresholdPorts.j0] at h
  | k + 1 => by
    have ih0 := laws_FnThresholdPorts.mono_l k
    · intro y0 y1 y2 y3 y4 y5 y6
      unfold laws_FnThresholdPorts.j0
      repeat' first
      | (with_reducible exact ih0 _ _ _ _ _ _ _)
      | (with_reducible exact impl_PortRanks.mono _ _ _)
      | (with_reducible exact impl_RankAt.mono _ _ _ _ _)
      | (with_reducible exact impl_ThresholdFamily.mono _ _ _)
      | (with_reducible exact spec_P6Group.mono _ _ _)
      | (with_reducible exact LeO.refl _)
      | (with_reducible exact LeO.none _)
      | (with_reducible refine LeO.ite ?_ ?_)
      | (with_reducible refine LeO.bind ?_ (fun _ => ?_))
      | exact ih0 _ _ _ _ _ _ _
      | exact impl_PortRanks.mono _ _ _
      | exact impl_RankAt.mono _ _ _ _ _
      | exact impl_ThresholdFamily.mono _ _ _
      | exact spec_P6Group.mono _ _ _
      | exact LeO.none _
      | refine LeO.ite ?_ ?_
      | refine LeO.bind ?_ (fun _ => ?_)
theorem laws_FnThresholdPorts.mono : ∀ a0 k, LeO (laws_FnThresholdPorts.f k a0) (laws_FnThresholdPorts.f (k + 1) a0) := by
  intro a0 k
  have ih0 := laws_FnThresholdPorts.mono_l k
  unfold laws_FnThresholdPorts.f
  repeat' first
      | (with_reducible exact ih0 _ _ _ _ _ _ _)
      | (with_reducible exact impl_PortRanks.mono _ _ _)
      | (with_reducible exact impl_RankAt.mono _ _ _ _ _)
      | (with_reducible exact impl_ThresholdFamily.mono _ _ _)
      | (with_reducible exact spec_P6Group.mono _ _ _)
      | (with_reducible exact LeO.refl _)
      | (with_reducible exact LeO.none _)
      | (with_reducible refine LeO.ite ?_ ?_)
      | (with_reducible refine LeO.bind ?_ (fun _ => ?_))
      | exact ih0 _ _ _ _ _ _ _
      | exact impl_PortRanks.mono _ _ _
      | exact impl_RankAt.mono _ _ _ _ _
      | exact impl_ThresholdFamily.mono _ _ _
      | exact spec_P6Group.mono _ _ _
      | exact LeO.none _
      | refine LeO.ite ?_ ?_
      | refine LeO.bind ?_ (fun _ => ?_)
set_option maxHeartbeats 8000000 in
set_option maxRecDepth 100000 in
theorem laws_FnThresholdPorts.calls (k : Nat) (A0 : Option Addr) (c0 : Nat) (l0 : List Int) (r : Bool) (w : World) (hr0 : Kd.C (Kd.int .u8) w A0 l0.length l0) (hc0 : l0.length ≤ c0) (h : laws_FnThresholdPorts.f k l0 = some r) :
    Calls Try.prog 5 #[.slice A0 l0.length c0] w fun e w' => e = .returned (.bool r) ∧ Below w.heap.size w w' := by
  have hu31 := Try.underlying31
  have hu54 := Try.underlying54
  have HR0 := Aside0.mk hr0
  have HC0 := Aside0.mk hc0
  clear hr0 hc0
  have HB := Aside0.mk (Below.refl w.heap.size w)
  have H : ((laws_f6big.f l0).bind fun t788 => (if t788 = true then (some true) else ((spec_P6Pick.f l0 5).bind fun t789 => (if (wrap64 (1 + t789)) = 0 then (none) else ((impl_ThresholdFamily.f k (wrap64 (1 + t789)) (wrap64 (1 + ((l0.length : Int) % (wrap64 (1 + t789)))))).bind fun bt790 => ((impl_PortRanks.f k bt790.1 bt790.2.1).bind fun bt796 => (if bt790.2.2 = 0 then (if bt796.2.2.2 = 0 then (if 0 ≤ (IntKind.u64.wrap (wrap64 (1 + t789))) then (laws_FnThresholdPorts.j0 k l0 (wrap64 (1 + t789)) (wrap64 (1 + ((l0.length : Int) % (wrap64 (1 + t789))))) ((bt796.2.2.1.length : Int) != (shl .i64 1 (IntKind.u64.wrap (wrap64 (1 + t789))))) bt796.1 bt796.2.1 bt796.2.2.1) else (none)) else (laws_FnThresholdPorts.j0 k l0 (wrap64 (1 + t789)) (wrap64 (1 + ((l0.length : Int) % (wrap64 (1 + t789))))) true bt796.1 bt796.2.1 bt796.2.2.1)) else (laws_FnThresholdPorts.j0 k l0 (wrap64 (1 + t789)) (wrap64 (1 + ((l0.length : Int) % (wrap64 (1 + t789))))) true bt796.1 bt796.2.1 bt796.2.2.1)))))))) = some r := h
  clear h
  replace H := Option.bind_eq_some_iff.mp H
  obtain ⟨t788, A20, H⟩ := H
  replace H : (if t788 = true then (some true) else ((spec_P6Pick.f l0 5).bind fun t789 => (if (wrap64 (1 + t789)) = 0 then (none) else ((impl_ThresholdFamily.f k (wrap64 (1 + t789)) (wrap64 (1 + ((l0.length : Int) % (wrap64 (1 + t789)))))).bind fun bt790 => ((impl_PortRanks.f k bt790.1 bt790.2.1).bind fun bt796 => (if bt790.2.2 = 0 then (if bt796.2.2.2 = 0 then (if 0 ≤ (IntKind.u64.wrap (wrap64 (1 + t789))) then (laws_FnThresholdPorts.j0 k l0 (wrap64 (1 + t789)) (wrap64 (1 + ((l0.length : Int) % (wrap64 (1 + t789))))) ((bt796.2.2.1.length : Int) != (shl .i64 1 (IntKind.u64.wrap (wrap64 (1 + t789))))) bt796.1 bt796.2.1 bt796.2.2.1) else (none)) else (laws_FnThresholdPorts.j0 k l0 (wrap64 (1 + t789)) (wrap64 (1 + ((l0.length : Int) % (wrap64 (1 + t789))))) true bt796.1 bt796.2.1 bt796.2.2.1)) else (laws_FnThresholdPorts.j0 k l0 (wrap64 (1 + t789)) (wrap64 (1 + ((l0.length : Int) % (wrap64 (1 + t789))))) true bt796.1 bt796.2.1 bt796.2.2.1))))))) = some r := H
  have A2 := Aside0.mk A20
  clear A20
  by_cases c3 : t788 = true
  · subst c3
    have H1 : (some true) = some r := by rw [if_pos rfl] at H; exact H
    clear H
    have H := H1
    clear H1
    obtain rfl := Option.some.inj H
    go_enter Try.func5, Try.ntmps5
    go_wp2_with (first | ((with_reducible refine gate_callee (f := 21) rfl ?_); refine goesL_ (some 14) rfl rfl Try.func21 (by kernel_rfl) rfl #[.slice A0 l0.length c0] rfl (by (try simp only [List.map_toArray, List.map_cons, List.map_nil]); first | done | rfl | (simp only [List.length_drop, List.length_take]; rfl)) ?_; (with_reducible refine (laws_f6big.calls _ _ l0 true _ ?side1 ?side2 A2.out).mono ?_); (case side1 => repeat (first | exact HR0.out | (with_reducible refine Kd.C_alloc ?_ _) | (with_reducible refine Kd.C_drewN ?_ _) | (with_reducible refine Kd.C_drew ?_))); (case side2 => exact HC0.out); rintro e w' ⟨rfl, ⟨nd, rfl⟩⟩; refine ⟨_, rfl, ?_⟩))
    go_ret
    exact ⟨by first | rfl | (simp [errW_none, errW_some] <;> rfl) | (simp [*, errW_none, errW_some] <;> rfl), by repeat (first | (with_reducible first | exact HB.out | apply below_alloc | apply pw_below_drewN | apply below_drew1) | exact HB.out)⟩
  · replace c3 := Bool.eq_false_iff.mpr c3
    subst c3
    have H1 : ((spec_P6Pick.f l0 5).bind fun t789 => (if (wrap64 (1 + t789)) = 0 then (none) else ((impl_ThresholdFamily.f k (wrap64 (1 + t789)) (wrap64 (1 + ((l0.length : Int) % (wrap64 (1 + t789)))))).bind fun bt790 => ((impl_PortRanks.f k bt790.1 bt790.2.1).bind fun bt796 => (if bt790.2.2 = 0 then (if bt796.2.2.2 = 0 then (if 0 ≤ (IntKind.u64.wrap (wrap64 (1 + t789))) then (laws_FnThresholdPorts.j0 k l0 (wrap64 (1 + t789)) (wrap64 (1 + ((l0.length : Int) % (wrap64 (1 + t789))))) ((bt796.2.2.1.length : Int) != (shl .i64 1 (IntKind.u64.wrap (wrap64 (1 + t789))))) bt796.1 bt796.2.1 bt796.2.2.1) else (none)) else (laws_FnThresholdPorts.j0 k l0 (wrap64 (1 + t789)) (wrap64 (1 + ((l0.length : Int) % (wrap64 (1 + t789))))) true bt796.1 bt796.2.1 bt796.2.2.1)) else (laws_FnThresholdPorts.j0 k l0 (wrap64 (1 + t789)) (wrap64 (1 + ((l0.length : Int) % (wrap64 (1 + t789))))) true bt796.1 bt796.2.1 bt796.2.2.1)))))) = some r := by rw [if_neg (show ¬ (false = true) by decide)] at H; exact H
    clear H
    have H := H1
    clear H1
    replace H := Option.bind_eq_some_iff.mp H
    obtain ⟨t789, A40, H⟩ := H
    replace H : (if (wrap64 (1 + t789)) = 0 then (none) else ((impl_ThresholdFamily.f k (wrap64 (1 + t789)) (wrap64 (1 + ((l0.length : Int) % (wrap64 (1 + t789)))))).bind fun bt790 => ((impl_PortRanks.f k bt790.1 bt790.2.1).bind fun bt796 => (if bt790.2.2 = 0 then (if bt796.2.2.2 = 0 then (if 0 ≤ (IntKind.u64.wrap (wrap64 (1 + t789))) then (laws_FnThresholdPorts.j0 k l0 (wrap64 (1 + t789)) (wrap64 (1 + ((l0.length : Int) % (wrap64 (1 + t789))))) ((bt796.2.2.1.length : Int) != (shl .i64 1 (IntKind.u64.wrap (wrap64 (1 + t789))))) bt796.1 bt796.2.1 bt796.2.2.1) else (none)) else (laws_FnThresholdPorts.j0 k l0 (wrap64 (1 + t789)) (wrap64 (1 + ((l0.length : Int) % (wrap64 (1 + t789))))) true bt796.1 bt796.2.1 bt796.2.2.1)) else (laws_FnThresholdPorts.j0 k l0 (wrap64 (1 + t789)) (wrap64 (1 + ((l0.length : Int) % (wrap64 (1 + t789))))) true bt796.1 bt796.2.1 bt796.2.2.1))))) = some r := H
    have A4 := Aside0.mk A40
    clear A40
    by_cases c5 : (wrap64 (1 + t789)) = 0
    · rw [if_pos c5] at H
      exact absurd H (by simp)
    · rw [if_neg c5] at H
      have c5b0 : ((wrap64 (1 + t789)) == 0) = false := beq_eq_false_iff_ne.mpr c5
      have c5b1 : ((wrap64 (1 + t789)) != 0) = true := bne_iff_ne.mpr c5
      replace H := Option.bind_eq_some_iff.mp H
      obtain ⟨⟨t790, t791, t794⟩, A60, H⟩ := H
      replace H : ((impl_PortRanks.f k t790 t791).bind fun bt796 => (if t794 = 0 then (if bt796.2.2.2 = 0 then (if 0 ≤ (IntKind.u64.wrap (wrap64 (1 + t789))) then (laws_FnThresholdPorts.j0 k l0 (wrap64 (1 + t789)) (wrap64 (1 + ((l0.length : Int) % (wrap64 (1 + t789))))) ((bt796.2.2.1.length : Int) != (shl .i64 1 (IntKind.u64.wrap (wrap64 (1 + t789))))) bt796.1 bt796.2.1 bt796.2.2.1) else (none)) else (laws_FnThresholdPorts.j0 k l0 (wrap64 (1 + t789)) (wrap64 (1 + ((l0.length : Int) % (wrap64 (1 + t789))))) true bt796.1 bt796.2.1 bt796.2.2.1)) else (laws_FnThresholdPorts.j0 k l0 (wrap64 (1 + t789)) (wrap64 (1 + ((l0.length : Int) % (wrap64 (1 + t789))))) true bt796.1 bt796.2.1 bt796.2.2.1))) = some r := H
      have A6 := Aside0.mk A60
      clear A60
      replace H := Option.bind_eq_some_iff.mp H
      obtain ⟨⟨t796, t797, t798, t801⟩, A70, H⟩ := H
      replace H : (if t794 = 0 then (if t801 = 0 then (if 0 ≤ (IntKind.u64.wrap (wrap64 (1 + t789))) then (laws_FnThresholdPorts.j0 k l0 (wrap64 (1 + t789)) (wrap64 (1 + ((l0.length : Int) % (wrap64 (1 + t789))))) ((t798.length : Int) != (shl .i64 1 (IntKind.u64.wrap (wrap64 (1 + t789))))) t796 t797 t798) else (none)) else (laws_FnThresholdPorts.j0 k l0 (wrap64 (1 + t789)) (wrap64 (1 + ((l0.length : Int) % (wrap64 (1 + t789))))) true t796 t797 t798)) else (laws_FnThresholdPorts.j0 k l0 (wrap64 (1 + t789)) (wrap64 (1 + ((l0.length : Int) % (wrap64 (1 + t789))))) true t796 t797 t798)) = some r := H
      have A7 := Aside0.mk A70
      clear A70
      have HC8 := Aside0.mk H
      clear H
      go_enter Try.func5, Try.ntmps5
      go_upto_region 7 with (first | ((with_reducible refine gate_callee (f := 21) rfl ?_); refine goesL_ (some 14) rfl rfl Try.func21 (by kernel_rfl) rfl #[.slice A0 l0.length c0] rfl (by (try simp only [List.map_toArray, List.map_cons, List.map_nil]); first | done | rfl | (simp only [List.length_drop, List.length_take]; rfl)) ?_; (with_reducible refine (laws_f6big.calls _ _ l0 false _ ?side1 ?side2 A2.out).mono ?_); (case side1 => repeat (first | exact HR0.out | (with_reducible refine Kd.C_alloc ?_ _) | (with_reducible refine Kd.C_drewN ?_ _) | (with_reducible refine Kd.C_drew ?_))); (case side2 => exact HC0.out); rintro e w' ⟨rfl, ⟨nd, rfl⟩⟩; refine ⟨_, rfl, ?_⟩) | ((with_reducible refine gate_callee (f := 30) rfl ?_); refine goesL_ (some 16) rfl rfl Try.func30 (by kernel_rfl) rfl #[.slice A0 l0.length c0, .int .i64 5] rfl (by (try simp only [List.map_toArray, List.map_cons, List.map_nil]); first | done | rfl | (simp only [List.length_drop, List.length_take]; rfl)) ?_; (with_reducible refine (spec_P6Pick.calls _ _ l0 5 t789 _ ?side1 ?side2 A4.out).mono ?_); (case side1 => repeat (first | exact HR0.out | (with_reducible refine Kd.C_alloc ?_ _) | (with_reducible refine Kd.C_drewN ?_ _) | (with_reducible refine Kd.C_drew ?_))); (case side2 => exact HC0.out); rintro e w9 ⟨rfl, hb⟩; refine ⟨_, rfl, ?_⟩; have n0_ := Aside0.mk (below_step (by repeat (first | (with_reducible first | exact HB.out | apply below_alloc | apply pw_below_drewN | apply below_drew1) | exact HB.out)) hb); clear HB; have HB := n0_; clear n0_; (try clear hb); (try clear hb2); (try clear hk); (try clear hi)) | ((with_reducible refine gate_callee (f := 31) rfl ?_); refine goesL_ (some 26) rfl rfl Try.func31 (by kernel_rfl) rfl #[.int .i64 (wrap64 (1 + t789)), .int .i64 (wrap64 (1 + ((l0.length : Int) % (wrap64 (1 + t789)))))] rfl (by (try simp only [List.map_toArray, List.map_cons, List.map_nil]); first | done | rfl | (simp only [List.length_drop, List.length_take]; rfl)) ?_; (with_reducible refine (impl_ThresholdFamily.calls k (wrap64 (1 + t789)) (wrap64 (1 + ((l0.length : Int) % (wrap64 (1 + t789))))) t790 t791 t794 _ A6.out).mono ?_); rintro e w10 ⟨v792, rfl, ho0, hb⟩; refine ⟨_, rfl, ?_⟩; have n0_ := Aside0.mk (Kd.S_lower ho0 (below_size (by repeat (first | (with_reducible first | exact HB.out | apply below_alloc | apply pw_below_drewN | apply below_drew1) | exact HB.out)))); have n1_ := Aside0.mk (below_step (by repeat (first | (with_reducible first | exact HB.out | apply below_alloc | apply pw_below_drewN | apply below_drew1) | exact HB.out)) hb); clear HB; have HO793 := n0_; have HB := n1_; clear n0_ n1_; (try clear hb); (try clear hb2); (try clear hk); (try clear hi); (try clear ho0)) | ((with_reducible refine gate_dst (N := 5) rfl ?_); (try (refine gate_guard (by rfl) ?_; dsimp only)); refine box_event ?hg (N := 5) ?hd (cs := #[.int .i64 0, .slice none 0 0]) (t := 31) ?hr ?_; (case hd => rfl); (case hg => rfl); (case hr => first | (go_simp; done) | (go_simp; rfl)); intro gb795 hg w11 hbox hb; have n0_ := Aside0.mk (Kd.S_below (by (with_reducible repeat (first | apply Kd.S_alloc | apply Kd.S_drewN | apply Kd.S_drew)); exact HO793.out) hb); have n1_ := Aside0.mk (below_step (by repeat (first | (with_reducible first | exact HB.out | apply below_alloc | apply pw_below_drewN | apply below_drew1) | exact HB.out)) hb); have n2_ := Aside0.mk (hbox); have n3_ := Aside0.mk ((by rw [hg]; exact (below_size (by repeat (first | (with_reducible first | exact HB.out | apply below_alloc | apply pw_below_drewN | apply below_drew1) | exact HB.out))) : w.heap.size ≤ gb795)); have n4_ := Aside0.mk ((by rw [hg]; exact (below_size (by repeat (first | (with_reducible first | exact HB.out | apply below_alloc | apply pw_below_drewN | apply below_drew1) | exact HB.out))) : w.heap.size ≤ gb795)); clear HO793; clear HB; have HO793 := n0_; have HB := n1_; have BK795 := n2_; have GW795 := n3_; have GE795 := n4_; clear n0_ n1_ n2_ n3_ n4_; clear hb hbox hg; have hcz12_0 : w11.cell? ⟨gb795, 0, none⟩ = some (.int .i64 0) := (blk_cell BK795.out 0).trans rfl; have hcz12_1 : w11.cell? ⟨gb795, 1, none⟩ = some (.slice none 0 0) := (blk_cell BK795.out 1).trans rfl; have hfz12_0 := blk_frozen BK795.out 0; have hfz12_1 := blk_frozen BK795.out 1; obtain ⟨Ao13, co13, eo13⟩ := Kd.S_slice HO793.out; subst eo13) | ((with_reducible refine gate_callee (f := 32) rfl ?_); refine goesL_ (some 31) rfl rfl Try.func32 (by kernel_rfl) rfl #[.agg #[.int .i64 t790, .slice Ao13 t791.length co13]] rfl (by (try simp only [List.map_toArray, List.map_cons, List.map_nil]); first | done | rfl | (simp only [List.length_drop, List.length_take]; rfl)) ?_; (with_reducible refine (impl_PortRanks.calls k t790 _ _ t791 t796 t797 t798 t801 _ ?side1 ?side2 A7.out).mono ?_); (case side1 => refine (Kd.S_reads' (e := 26) (base := w.heap.size) (ok := fun k_ => True) (n := t791.length) (c := co13) ?_).2.2; exact (by (with_reducible repeat (first | apply Kd.S_alloc | apply Kd.S_drewN | apply Kd.S_drew)); exact (Kd.S_mono (Kd.S_far (p := ⟨gb795, 1, none⟩) (Kd.S_far (p := ⟨gb795, 0, none⟩) (Kd.S_types HO793.out BK795.out (by decide)) (fun _ hk => hk.2) (.int .i64 t790)) (fun _ hk => hk.2) (.slice Ao13 t791.length co13)) (fun _ h_ => h_.1)))); (case side2 => exact (Kd.S_reads' HO793.out).2.1); rintro e w14 ⟨v799, rfl, ho0, hb⟩; refine ⟨_, rfl, ?_⟩; have n0_ := Aside0.mk (Kd.S_elder' (by (with_reducible repeat (first | apply Kd.S_alloc | apply Kd.S_drewN | apply Kd.S_drew)); exact (Kd.S_mono (Kd.S_far (p := ⟨gb795, 1, none⟩) (Kd.S_far (p := ⟨gb795, 0, none⟩) (Kd.S_types HO793.out BK795.out (by decide)) (fun _ hk => hk.2) (.int .i64 t790)) (fun _ hk => hk.2) (.slice Ao13 t791.length co13)) (fun _ h_ => h_.1))) (Kd.R_base ho0) hb); have n1_ := Aside0.mk (Kd.R_lower ho0 (below_size (by repeat (first | (with_reducible first | exact HB.out | apply below_alloc | apply pw_below_drewN | apply below_drew1 | refine below_set ?_ GE795.out) | exact HB.out)))); have n2_ := Aside0.mk (blk_below (g := gb795) (o := .cells #[.int .i64 t790, .slice Ao13 t791.length co13] 31 (0, 0)) (by (with_reducible repeat (first | refine blk_drewN ?_ _ | refine blk_drew ?_ | refine blk_alloc ?_ _)); refine blk_put (cs := #[.int .i64 t790, .slice none 0 0]) ?_ 1 _ rfl; (with_reducible repeat (first | refine blk_drewN ?_ _ | refine blk_drew ?_ | refine blk_alloc ?_ _)); refine blk_put (cs := #[.int .i64 0, .slice none 0 0]) ?_ 0 _ rfl; (with_reducible repeat (first | refine blk_drewN ?_ _ | refine blk_drew ?_ | refine blk_alloc ?_ _)); exact BK795.out) hb); have n3_ := Aside0.mk (below_step (by repeat (first | (with_reducible first | exact HB.out | apply below_alloc | apply pw_below_drewN | apply below_drew1 | refine below_set ?_ GE795.out) | exact HB.out)) hb); clear HO793; clear BK795; clear HB; have HO793 := n0_; have HO800 := n1_; have BK795 := n2_; have HB := n3_; clear n0_ n1_ n2_ n3_; (try clear hb); (try clear hb2); (try clear hk); (try clear hi); (try clear ho0)) | ((with_reducible refine gate_dst (N := 7) rfl ?_); (try (refine gate_guard (by rfl) ?_; dsimp only)); refine box_event ?hg (N := 7) ?hd (cs := #[.int .i64 0, .int .i64 0, .slice none 0 0]) (t := 54) ?hr ?_; (case hd => rfl); (case hg => rfl); (case hr => first | (go_simp; done) | (go_simp; rfl)); intro gb802 hg w15 hbox hb; have n0_ := Aside0.mk (Kd.S_below (by (with_reducible repeat (first | apply Kd.S_alloc | apply Kd.S_drewN | apply Kd.S_drew)); exact HO793.out) hb); have n1_ := Aside0.mk (Kd.R_below (by (with_reducible repeat (first | apply Kd.R_alloc | apply Kd.R_drewN | apply Kd.R_drew)); exact HO800.out) hb); have n2_ := Aside0.mk (blk_below (g := gb795) (o := .cells #[.int .i64 t790, .slice Ao13 t791.length co13] 31 (0, 0)) (by (with_reducible repeat (first | refine blk_drewN ?_ _ | refine blk_drew ?_ | refine blk_alloc ?_ _)); exact BK795.out) hb); have n3_ := Aside0.mk (below_step (by repeat (first | (with_reducible first | exact HB.out | apply below_alloc | apply pw_below_drewN | apply below_drew1 | refine below_set ?_ GE795.out) | exact HB.out)) hb); have n4_ := Aside0.mk (hbox); have n5_ := Aside0.mk ((by rw [hg]; exact (below_size (by repeat (first | (with_reducible first | exact HB.out | apply below_alloc | apply pw_below_drewN | apply below_drew1 | refine below_set ?_ GE795.out) | exact HB.out))) : w.heap.size ≤ gb802)); have n6_ := Aside0.mk ((by rw [hg]; exact (below_size (by repeat (first | (with_reducible first | exact HB.out | apply below_alloc | apply pw_below_drewN | apply below_drew1 | refine below_set ?_ GE795.out) | exact HB.out))) : w.heap.size ≤ gb802)); have n7_ := Aside0.mk ((by rw [hg]; exact Nat.ne_of_lt (blk_lt (g := gb795) (o := .cells #[.int .i64 t790, .slice Ao13 t791.length co13] 31 (0, 0)) (by (with_reducible repeat (first | refine blk_drewN ?_ _ | refine blk_drew ?_ | refine blk_alloc ?_ _)); exact BK795.out)) : gb795 ≠ gb802)); have n8_ := Aside0.mk ((by rw [hg]; exact Nat.ne_of_gt (blk_lt (g := gb795) (o := .cells #[.int .i64 t790, .slice Ao13 t791.length co13] 31 (0, 0)) (by (with_reducible repeat (first | refine blk_drewN ?_ _ | refine blk_drew ?_ | refine blk_alloc ?_ _)); exact BK795.out)) : gb802 ≠ gb795)); clear HO793; clear HO800; clear BK795; clear HB; have HO793 := n0_; have HO800 := n1_; have BK795 := n2_; have HB := n3_; have BK802 := n4_; have GW802 := n5_; have GE802 := n6_; have NB795_802 := n7_; have NB802_795 := n8_; clear n0_ n1_ n2_ n3_ n4_ n5_ n6_ n7_ n8_; clear hb hbox hg; have hnb16 := NB802_795.out; have hnc16 := NB795_802.out; have hcz17_0 : w15.cell? ⟨gb802, 0, none⟩ = some (.int .i64 0) := (blk_cell BK802.out 0).trans rfl; have hcz17_1 : w15.cell? ⟨gb802, 1, none⟩ = some (.int .i64 0) := (blk_cell BK802.out 1).trans rfl; have hcz17_2 : w15.cell? ⟨gb802, 2, none⟩ = some (.slice none 0 0) := (blk_cell BK802.out 2).trans rfl; have hfz17_0 := blk_frozen BK802.out 0; have hfz17_1 := blk_frozen BK802.out 1; have hfz17_2 := blk_frozen BK802.out 2; obtain ⟨Ao18, co18, eo18⟩ := Kd.R_slice HO800.out; subst eo18))
      (try simp only [Act.put, List.setIfInBounds_toArray, List.set_cons_zero, List.set_cons_succ])
      go_cut [48] (fun v48 wc => ∃ (kq : Nat) (x48_7 : Bool), v48 = .bool x48_7 ∧ Aside0 (laws_FnThresholdPorts.j0 kq l0 (wrap64 (1 + t789)) (wrap64 (1 + ((l0.length : Int) % (wrap64 (1 + t789))))) x48_7 t796 t797 t798 = some r) ∧ Aside0 (kq ≤ k) ∧ Aside0 (Kd.S (Kd.slice 2 (Kd.int .i64)) 26 wc w.heap.size (fun k_ => some k_ ≠ ((.slice Ao18 t798.length co18) : Value).ownBlock) (.slice Ao13 t791.length co13) t791) ∧ Aside0 (Kd.R (Kd.int .i64) 2 wc w.heap.size (fun _ => True) (.slice Ao18 t798.length co18) t798) ∧ Aside0 (wc.heap[gb795]? = some (.cells #[.int .i64 t790, (.slice Ao13 t791.length co13)] 31 (0, 0))) ∧ Aside0 (wc.heap[gb802]? = some (.cells #[.int .i64 t796, .int .i64 t797, (.slice Ao18 t798.length co18)] 54 (0, 0))) ∧ Aside0 (Below w.heap.size w wc))
      case first =>
        have H := HC8.out
        clear HC8
        by_cases c19 : t794 = 0
        · rw [if_pos c19] at H
          have c19b0 : (t794 == 0) = true := beq_iff_eq.mpr c19
          have c19b1 : (t794 != 0) = false := bne_eq_false_iff_eq.mpr c19
          clear c19
          (first | rw [c19b0] | (simp only [i64_w, i32_w]; rw [c19b0]) | skip)
          by_cases c20 : t801 = 0
          · rw [if_pos c20] at H
            have c20b0 : (t801 == 0) = true := beq_iff_eq.mpr c20
            have c20b1 : (t801 != 0) = false := bne_eq_false_iff_eq.mpr c20
            clear c20
            obtain ⟨ji21, hji21⟩ : ∃ j_ : Int, (IntKind.u64.wrap (wrap64 (1 + t789))) = j_ := ⟨_, rfl⟩
            replace H : (if 0 ≤ (ji21) then (laws_FnThresholdPorts.j0 k l0 (wrap64 (1 + t789)) (wrap64 (1 + ((l0.length : Int) % (wrap64 (1 + t789))))) ((t798.length : Int) != (shl .i64 1 (ji21))) t796 t797 t798) else (none)) = some r := by first | (rw [hji21] at H; exact H) | (simp only [hji21] at H ⊢; exact H)
            by_cases c22 : 0 ≤ (ji21)
            · rw [if_pos c22] at H
              have c22b0 := eq_true c22
              have c22b1 : decide (0 ≤ (ji21)) = true := decide_eq_true c22
              clear c22
              obtain ⟨ji23, hji23⟩ : ∃ j_ : Int, (shl .i64 1 (ji21)) = j_ := ⟨_, rfl⟩
              replace H : (laws_FnThresholdPorts.j0 k l0 (wrap64 (1 + t789)) (wrap64 (1 + ((l0.length : Int) % (wrap64 (1 + t789))))) ((t798.length : Int) != (ji23)) t796 t797 t798) = some r := by first | (rw [hji23] at H; exact H) | (simp only [hji23] at H ⊢; exact H)
              have hji23_ : (IntKind.i64.wrap (1 * 2 ^ min (ji21).toNat 64)) = ji23 := hji23
              have hji23z : (ji21) ≤ 64 → (IntKind.i64.wrap (1 * 2 ^ (ji21).toNat)) = ji23 := shl_small hji23
              have hji23u : (IntKind.i64.wrap (2 ^ min (ji21).toNat 64)) = ji23 := by have h_ := hji23_; rw [Int.one_mul] at h_; exact h_
              have hji23v : (ji21) ≤ 64 → (IntKind.i64.wrap (2 ^ (ji21).toNat)) = ji23 := fun hle_ => by have h_ := hji23z hle_; rw [Int.one_mul] at h_; exact h_
              have hji23y : (wrap64 (1 * 2 ^ min (ji21).toNat 64)) = ji23 := (i64_w _).symm.trans hji23_
              have hji23x : (ji21) ≤ 64 → (wrap64 (1 * 2 ^ (ji21).toNat)) = ji23 := fun h_ => (i64_w _).symm.trans (hji23z h_)
              have H' := Aside0.mk H
              clear H
              have hnb24 := NB802_795.out
              have hnc24 := NB795_802.out
              have hcz25_0 : w15.cell? ⟨gb802, 0, none⟩ = some (.int .i64 0) := (blk_cell BK802.out 0).trans rfl
              have hcz25_1 : w15.cell? ⟨gb802, 1, none⟩ = some (.int .i64 0) := (blk_cell BK802.out 1).trans rfl
              have hcz25_2 : w15.cell? ⟨gb802, 2, none⟩ = some (.slice none 0 0) := (blk_cell BK802.out 2).trans rfl
              have hfz25_0 := blk_frozen BK802.out 0
              have hfz25_1 := blk_frozen BK802.out 1
              have hfz25_2 := blk_frozen BK802.out 2
              go_wp2
              go_meet
              case rel => exact ⟨_, (((t798.length : Int) != (ji23))), (by first | rfl | (simp; done) | (simp only [← hji23] <;> (first | rfl | simp)) | (simp [*]; done)), H', ⟨by first | omega | exact Nat.le_refl _⟩, ⟨by (with_reducible repeat (first | apply Kd.S_alloc | apply Kd.S_drewN | apply Kd.S_drew)); exact Kd.S_mono (Kd.S_far (p := ⟨gb802, 2, none⟩) (Kd.S_far (p := ⟨gb802, 1, none⟩) (Kd.S_far (p := ⟨gb802, 0, none⟩) (Kd.S_types HO793.out BK802.out (by decide)) (fun _ hk => hk.2) (.int .i64 t796)) (fun _ hk => hk.2) (.int .i64 t797)) (fun _ hk => hk.2) (.slice Ao18 t798.length co18)) (fun _ hk => hk.1.2)⟩, ⟨by (with_reducible repeat (first | apply Kd.R_alloc | apply Kd.R_drewN | apply Kd.R_drew)); exact Kd.R_mono (Kd.R_far (p := ⟨gb802, 2, none⟩) (Kd.R_far (p := ⟨gb802, 1, none⟩) (Kd.R_far (p := ⟨gb802, 0, none⟩) (Kd.R_types HO800.out BK802.out (by decide)) (fun _ hk => hk.2) (.int .i64 t796)) (fun _ hk => hk.2) (.int .i64 t797)) (fun _ hk => hk.2) (.slice Ao18 t798.length co18)) (fun _ hk => trivial)⟩, ⟨by (with_reducible repeat (first | refine blk_drewN ?_ _ | refine blk_drew ?_ | refine blk_alloc ?_ _)); refine blk_far ?_ NB795_802.out _; (with_reducible repeat (first | refine blk_drewN ?_ _ | refine blk_drew ?_ | refine blk_alloc ?_ _)); refine blk_far ?_ NB795_802.out _; (with_reducible repeat (first | refine blk_drewN ?_ _ | refine blk_drew ?_ | refine blk_alloc ?_ _)); refine blk_far ?_ NB795_802.out _; (with_reducible repeat (first | refine blk_drewN ?_ _ | refine blk_drew ?_ | refine blk_alloc ?_ _)); exact BK795.out⟩, ⟨by (with_reducible repeat (first | refine blk_drewN ?_ _ | refine blk_drew ?_ | refine blk_alloc ?_ _)); refine blk_put (cs := #[.int .i64 t796, .int .i64 t797, .slice none 0 0]) ?_ 2 _ rfl; (with_reducible repeat (first | refine blk_drewN ?_ _ | refine blk_drew ?_ | refine blk_alloc ?_ _)); refine blk_put (cs := #[.int .i64 t796, .int .i64 0, .slice none 0 0]) ?_ 1 _ rfl; (with_reducible repeat (first | refine blk_drewN ?_ _ | refine blk_drew ?_ | refine blk_alloc ?_ _)); refine blk_put (cs := #[.int .i64 0, .int .i64 0, .slice none 0 0]) ?_ 0 _ rfl; (with_reducible repeat (first | refine blk_drewN ?_ _ | refine blk_drew ?_ | refine blk_alloc ?_ _)); exact BK802.out⟩, ⟨by repeat (first | (with_reducible first | exact HB.out | apply below_alloc | apply pw_below_drewN | apply below_drew1 | refine below_set ?_ GE795.out | refine below_set ?_ GE802.out) | exact HB.out)⟩⟩
            · rw [if_neg c22] at H
              exact absurd H (by simp)
          · rw [if_neg c20] at H
            have c20b0 : (t801 == 0) = false := beq_eq_false_iff_ne.mpr c20
            have c20b1 : (t801 != 0) = true := bne_iff_ne.mpr c20
            have H' := Aside0.mk H
            clear H
            go_wp2
            go_meet
            case rel => exact ⟨_, (true), (by first | rfl | (simp; done) | (simp [*]; done)), H', ⟨by first | omega | exact Nat.le_refl _⟩, ⟨by (with_reducible repeat (first | apply Kd.S_alloc | apply Kd.S_drewN | apply Kd.S_drew)); exact Kd.S_mono (Kd.S_far (p := ⟨gb802, 2, none⟩) (Kd.S_far (p := ⟨gb802, 1, none⟩) (Kd.S_far (p := ⟨gb802, 0, none⟩) (Kd.S_types HO793.out BK802.out (by decide)) (fun _ hk => hk.2) (.int .i64 t796)) (fun _ hk => hk.2) (.int .i64 t797)) (fun _ hk => hk.2) (.slice Ao18 t798.length co18)) (fun _ hk => hk.1.2)⟩, ⟨by (with_reducible repeat (first | apply Kd.R_alloc | apply Kd.R_drewN | apply Kd.R_drew)); exact Kd.R_mono (Kd.R_far (p := ⟨gb802, 2, none⟩) (Kd.R_far (p := ⟨gb802, 1, none⟩) (Kd.R_far (p := ⟨gb802, 0, none⟩) (Kd.R_types HO800.out BK802.out (by decide)) (fun _ hk => hk.2) (.int .i64 t796)) (fun _ hk => hk.2) (.int .i64 t797)) (fun _ hk => hk.2) (.slice Ao18 t798.length co18)) (fun _ hk => trivial)⟩, ⟨by (with_reducible repeat (first | refine blk_drewN ?_ _ | refine blk_drew ?_ | refine blk_alloc ?_ _)); refine blk_far ?_ NB795_802.out _; (with_reducible repeat (first | refine blk_drewN ?_ _ | refine blk_drew ?_ | refine blk_alloc ?_ _)); refine blk_far ?_ NB795_802.out _; (with_reducible repeat (first | refine blk_drewN ?_ _ | refine blk_drew ?_ | refine blk_alloc ?_ _)); refine blk_far ?_ NB795_802.out _; (with_reducible repeat (first | refine blk_drewN ?_ _ | refine blk_drew ?_ | refine blk_alloc ?_ _)); exact BK795.out⟩, ⟨by (with_reducible repeat (first | refine blk_drewN ?_ _ | refine blk_drew ?_ | refine blk_alloc ?_ _)); refine blk_put (cs := #[.int .i64 t796, .int .i64 t797, .slice none 0 0]) ?_ 2 _ rfl; (with_reducible repeat (first | refine blk_drewN ?_ _ | refine blk_drew ?_ | refine blk_alloc ?_ _)); refine blk_put (cs := #[.int .i64 t796, .int .i64 0, .slice none 0 0]) ?_ 1 _ rfl; (with_reducible repeat (first | refine blk_drewN ?_ _ | refine blk_drew ?_ | refine blk_alloc ?_ _)); refine blk_put (cs := #[.int .i64 0, .int .i64 0, .slice none 0 0]) ?_ 0 _ rfl; (with_reducible repeat (first | refine blk_drewN ?_ _ | refine blk_drew ?_ | refine blk_alloc ?_ _)); exact BK802.out⟩, ⟨by repeat (first | (with_reducible first | exact HB.out | apply below_alloc | apply pw_below_drewN | apply below_drew1 | refine below_set ?_ GE795.out | refine below_set ?_ GE802.out) | exact HB.out)⟩⟩
        · rw [if_neg c19] at H
          have c19b0 : (t794 == 0) = false := beq_eq_false_iff_ne.mpr c19
          have c19b1 : (t794 != 0) = true := bne_iff_ne.mpr c19
          (first | rw [c19b0] | (simp only [i64_w, i32_w]; rw [c19b0]) | skip)
          have H' := Aside0.mk H
          clear H
          go_wp2
          go_meet
          case rel => exact ⟨_, (true), (by first | rfl | (simp; done) | (simp [*]; done)), H', ⟨by first | omega | exact Nat.le_refl _⟩, ⟨by (with_reducible repeat (first | apply Kd.S_alloc | apply Kd.S_drewN | apply Kd.S_drew)); exact Kd.S_mono (Kd.S_far (p := ⟨gb802, 2, none⟩) (Kd.S_far (p := ⟨gb802, 1, none⟩) (Kd.S_far (p := ⟨gb802, 0, none⟩) (Kd.S_types HO793.out BK802.out (by decide)) (fun _ hk => hk.2) (.int .i64 t796)) (fun _ hk => hk.2) (.int .i64 t797)) (fun _ hk => hk.2) (.slice Ao18 t798.length co18)) (fun _ hk => hk.1.2)⟩, ⟨by (with_reducible repeat (first | apply Kd.R_alloc | apply Kd.R_drewN | apply Kd.R_drew)); exact Kd.R_mono (Kd.R_far (p := ⟨gb802, 2, none⟩) (Kd.R_far (p := ⟨gb802, 1, none⟩) (Kd.R_far (p := ⟨gb802, 0, none⟩) (Kd.R_types HO800.out BK802.out (by decide)) (fun _ hk => hk.2) (.int .i64 t796)) (fun _ hk => hk.2) (.int .i64 t797)) (fun _ hk => hk.2) (.slice Ao18 t798.length co18)) (fun _ hk => trivial)⟩, ⟨by (with_reducible repeat (first | refine blk_drewN ?_ _ | refine blk_drew ?_ | refine blk_alloc ?_ _)); refine blk_far ?_ NB795_802.out _; (with_reducible repeat (first | refine blk_drewN ?_ _ | refine blk_drew ?_ | refine blk_alloc ?_ _)); refine blk_far ?_ NB795_802.out _; (with_reducible repeat (first | refine blk_drewN ?_ _ | refine blk_drew ?_ | refine blk_alloc ?_ _)); refine blk_far ?_ NB795_802.out _; (with_reducible repeat (first | refine blk_drewN ?_ _ | refine blk_drew ?_ | refine blk_alloc ?_ _)); exact BK795.out⟩, ⟨by (with_reducible repeat (first | refine blk_drewN ?_ _ | refine blk_drew ?_ | refine blk_alloc ?_ _)); refine blk_put (cs := #[.int .i64 t796, .int .i64 t797, .slice none 0 0]) ?_ 2 _ rfl; (with_reducible repeat (first | refine blk_drewN ?_ _ | refine blk_drew ?_ | refine blk_alloc ?_ _)); refine blk_put (cs := #[.int .i64 t796, .int .i64 0, .slice none 0 0]) ?_ 1 _ rfl; (with_reducible repeat (first | refine blk_drewN ?_ _ | refine blk_drew ?_ | refine blk_alloc ?_ _)); refine blk_put (cs := #[.int .i64 0, .int .i64 0, .slice none 0 0]) ?_ 0 _ rfl; (with_reducible repeat (first | refine blk_drewN ?_ _ | refine blk_drew ?_ | refine blk_alloc ?_ _)); exact BK802.out⟩, ⟨by repeat (first | (with_reducible first | exact HB.out | apply below_alloc | apply pw_below_drewN | apply below_drew1 | refine below_set ?_ GE795.out | refine below_set ?_ GE802.out) | exact HB.out)⟩⟩
      case rest =>
        clear HC8
        try clear c1
        try clear c2
        try clear p2
        try clear c3
        try clear c5
        try clear c5b0
        try clear c5b1
        try clear p6
        try clear c16
        try clear c19
        try clear c19b0
        try clear c19b1
        try clear c20
        try clear c20b0
        try clear c20b1
        try clear c21
        try clear c22
        try clear c22b0
        try clear c22b1
        try clear c24
        try clear hcz12_0
        try clear hcz12_1
        try clear hcz17_0
        try clear hcz17_1
        try clear hcz17_2
        try clear hcz25_0
        try clear hcz25_1
        try clear hcz25_2
        try clear hfz12_0
        try clear hfz12_1
        try clear hfz17_0
        try clear hfz17_1
        try clear hfz17_2
        try clear hfz25_0
        try clear hfz25_1
        try clear hfz25_2
        obtain ⟨kq, x48_7, rfl, HA, HJ7, HO_796001, HO_803002, BK795, BK802, HB⟩ := hcut
        cases kq with
        | zero => exact absurd HA.out (by simp [laws_FnThresholdPorts.j0])
        | succ kj7 =>
          have H := HA.out
          clear HA
          simp only [laws_FnThresholdPorts.j0] at H
          by_cases c26 : x48_7 = true
          · subst c26
            have H1 : (some false) = some r := by rw [if_pos rfl] at H; exact H
            clear H
            have H := H1
            clear H1
            obtain rfl := Option.some.inj H
            go_wp2
            go_ret
            exact ⟨by first | rfl | (simp [errW_none, errW_some] <;> rfl) | (simp [*, errW_none, errW_some] <;> rfl), by repeat (first | (with_reducible first | exact HB.out | apply below_alloc | apply pw_below_drewN | apply below_drew1 | refine below_set ?_ GE795.out | refine below_set ?_ GE802.out) | exact HB.out)⟩
          · replace c26 := Bool.eq_false_iff.mpr c26
            subst c26
            have H1 : ((spec_P6Group.f kj7 l0 (wrap64 (1 + t789))).bind fun t803 => ((impl_RankAt.f kj7 t796 t797 t798 t803).bind fun bt806 => (if (t803.length : Int) > (wrap64 (1 + ((l0.length : Int) % (wrap64 (1 + t789))))) then (if bt806.2 = 0 then (some (bt806.1 == (wrap64 (1 + ((l0.length : Int) % (wrap64 (1 + t789))))))) else (some false)) else (if bt806.2 = 0 then (some (bt806.1 == (t803.length : Int))) else (some false))))) = some r := by rw [if_neg (show ¬ (false = true) by decide)] at H; exact H
            clear H
            have H := H1
            clear H1
            replace H := Option.bind_eq_some_iff.mp H
            obtain ⟨t803, A270, H⟩ := H
            replace H : ((impl_RankAt.f kj7 t796 t797 t798 t803).bind fun bt806 => (if (t803.length : Int) > (wrap64 (1 + ((l0.length : Int) % (wrap64 (1 + t789))))) then (if bt806.2 = 0 then (some (bt806.1 == (wrap64 (1 + ((l0.length : Int) % (wrap64 (1 + t789))))))) else (some false)) else (if bt806.2 = 0 then (some (bt806.1 == (t803.length : Int))) else (some false)))) = some r := H
            have A27 := Aside0.mk A270
            clear A270
            replace H := Option.bind_eq_some_iff.mp H
            obtain ⟨⟨t806, t807⟩, A280, H⟩ := H
            replace H : (if (t803.length : Int) > (wrap64 (1 + ((l0.length : Int) % (wrap64 (1 + t789))))) then (if t807 = 0 then (some (t806 == (wrap64 (1 + ((l0.length : Int) % (wrap64 (1 + t789))))))) else (some false)) else (if t807 = 0 then (some (t806 == (t803.length : Int))) else (some false))) = some r := H
            have A28 := Aside0.mk A280
            clear A280
            by_cases c29 : (t803.length : Int) > (wrap64 (1 + ((l0.length : Int) % (wrap64 (1 + t789)))))
            · rw [if_pos c29] at H
              have c29b0 : decide ((wrap64 (1 + ((l0.length : Int) % (wrap64 (1 + t789))))) < (t803.length : Int)) = true := decide_eq_true c29
              clear c29
              by_cases c30 : t807 = 0
              · rw [if_pos c30] at H
                have c30b0 : (t807 == 0) = true := beq_iff_eq.mpr c30
                have c30b1 : (t807 != 0) = false := bne_eq_false_iff_eq.mpr c30
                clear c30
                obtain rfl := Option.some.inj H
                go_wp2_with (first | ((with_reducible refine gate_callee (f := 33) rfl ?_); refine goesL_ (some 51) rfl rfl Try.func33 (by kernel_rfl) rfl #[.slice A0 l0.length c0, .int .i64 (wrap64 (1 + t789))] rfl (by (try simp only [List.map_toArray, List.map_cons, List.map_nil]); first | done | rfl | (simp only [List.length_drop, List.length_take]; rfl)) ?_; (with_reducible refine (spec_P6Group.calls kj7 _ _ l0 (wrap64 (1 + t789)) t803 _ ?side1 ?side2 A27.out).mono ?_); (case side1 => repeat (first | exact (Kd.C_below HR0.out HB.out) | (with_reducible refine Kd.C_alloc ?_ _) | (with_reducible refine Kd.C_drewN ?_ _) | (with_reducible refine Kd.C_drew ?_))); (case side2 => exact HC0.out); rintro e w31 ⟨v804, rfl, ho0, hb⟩; refine ⟨_, rfl, ?_⟩; have n0_ := Aside0.mk (Kd.S_elder' (by (with_reducible repeat (first | apply Kd.S_alloc | apply Kd.S_drewN | apply Kd.S_drew)); exact HO_796001.out) (Kd.R_base ho0) hb); have n1_ := Aside0.mk (Kd.R_elder' (by (with_reducible repeat (first | apply Kd.R_alloc | apply Kd.R_drewN | apply Kd.R_drew)); exact HO_803002.out) (Kd.R_base ho0) hb); have n2_ := Aside0.mk (Kd.R_lower (Kd.R_new' ho0 (Kd.R_lt (by (with_reducible repeat (first | apply Kd.R_alloc | apply Kd.R_drewN | apply Kd.R_drew)); exact HO_803002.out))) (below_size (by repeat (first | (with_reducible first | exact HB.out | apply below_alloc | apply pw_below_drewN | apply below_drew1 | refine below_set ?_ GE795.out | refine below_set ?_ GE802.out) | exact HB.out)))); have n3_ := Aside0.mk (blk_below (g := gb795) (o := .cells #[.int .i64 t790, .slice Ao13 t791.length co13] 31 (0, 0)) (by (with_reducible repeat (first | refine blk_drewN ?_ _ | refine blk_drew ?_ | refine blk_alloc ?_ _)); exact BK795.out) hb); have n4_ := Aside0.mk (blk_below (g := gb802) (o := .cells #[.int .i64 t796, .int .i64 t797, .slice Ao18 t798.length co18] 54 (0, 0)) (by (with_reducible repeat (first | refine blk_drewN ?_ _ | refine blk_drew ?_ | refine blk_alloc ?_ _)); exact BK802.out) hb); have n5_ := Aside0.mk (below_step (by repeat (first | (with_reducible first | exact HB.out | apply below_alloc | apply pw_below_drewN | apply below_drew1 | refine below_set ?_ GE795.out | refine below_set ?_ GE802.out) | exact HB.out)) hb); clear HO_796001; clear HO_803002; clear BK795; clear BK802; clear HB; have HO_796001 := n0_; have HO_803002 := n1_; have HO805 := n2_; have BK795 := n3_; have BK802 := n4_; have HB := n5_; clear n0_ n1_ n2_ n3_ n4_ n5_; (try clear hb); (try clear hb2); (try clear hk); (try clear hi); (try clear ho0); have hnb32 := NB802_795.out; have hnc32 := NB795_802.out; have hcz33_0 : w31.cell? ⟨gb802, 0, none⟩ = some (.int .i64 t796) := (blk_cell BK802.out 0).trans rfl; have hcz33_1 : w31.cell? ⟨gb802, 1, none⟩ = some (.int .i64 t797) := (blk_cell BK802.out 1).trans rfl; have hcz33_2 : w31.cell? ⟨gb802, 2, none⟩ = some (.slice Ao18 t798.length co18) := (blk_cell BK802.out 2).trans rfl; have hfz33_0 := blk_frozen BK802.out 0; have hfz33_1 := blk_frozen BK802.out 1; have hfz33_2 := blk_frozen BK802.out 2; obtain ⟨Ao34, co34, eo34⟩ := Kd.R_slice HO805.out; subst eo34) | ((with_reducible refine gate_callee (f := 34) rfl ?_); refine goesL_ (some 55) rfl rfl Try.func34 (by kernel_rfl) rfl #[.agg #[.int .i64 t796, .int .i64 t797, .slice Ao18 t798.length co18], .slice Ao34 t803.length co34] rfl (by (try simp only [List.map_toArray, List.map_cons, List.map_nil]); first | done | rfl | (simp only [List.length_drop, List.length_take]; rfl)) ?_; (with_reducible refine (impl_RankAt.calls kj7 t796 t797 _ _ t798 _ _ t803 t806 t807 _ ?side1 ?side2 ?side3 ?side4 A28.out).mono ?_); (case side1 => repeat (first | exact (Kd.R_reads' HO_803002.out).2.2 | (with_reducible refine Kd.C_alloc ?_ _) | (with_reducible refine Kd.C_drewN ?_ _) | (with_reducible refine Kd.C_drew ?_))); (case side2 => exact (Kd.R_reads' HO_803002.out).2.1); (case side3 => repeat (first | exact (Kd.R_reads' HO805.out).2.2 | (with_reducible refine Kd.C_alloc ?_ _) | (with_reducible refine Kd.C_drewN ?_ _) | (with_reducible refine Kd.C_drew ?_))); (case side4 => exact (Kd.R_reads' HO805.out).2.1); rintro e w35 ⟨rfl, hb⟩; refine ⟨_, rfl, ?_⟩; have n0_ := Aside0.mk (Kd.S_below (by (with_reducible repeat (first | apply Kd.S_alloc | apply Kd.S_drewN | apply Kd.S_drew)); exact HO_796001.out) hb); have n1_ := Aside0.mk (Kd.R_below (by (with_reducible repeat (first | apply Kd.R_alloc | apply Kd.R_drewN | apply Kd.R_drew)); exact HO_803002.out) hb); have n2_ := Aside0.mk (Kd.R_below (by (with_reducible repeat (first | apply Kd.R_alloc | apply Kd.R_drewN | apply Kd.R_drew)); exact HO805.out) hb); have n3_ := Aside0.mk (blk_below (g := gb795) (o := .cells #[.int .i64 t790, .slice Ao13 t791.length co13] 31 (0, 0)) (by (with_reducible repeat (first | refine blk_drewN ?_ _ | refine blk_drew ?_ | refine blk_alloc ?_ _)); exact BK795.out) hb); have n4_ := Aside0.mk (blk_below (g := gb802) (o := .cells #[.int .i64 t796, .int .i64 t797, .slice Ao18 t798.length co18] 54 (0, 0)) (by (with_reducible repeat (first | refine blk_drewN ?_ _ | refine blk_drew ?_ | refine blk_alloc ?_ _)); exact BK802.out) hb); have n5_ := Aside0.mk (below_step (by repeat (first | (with_reducible first | exact HB.out | apply below_alloc | apply pw_below_drewN | apply below_drew1 | refine below_set ?_ GE795.out | refine below_set ?_ GE802.out) | exact HB.out)) hb); clear HO_796001; clear HO_803002; clear HO805; clear BK795; clear BK802; clear HB; have HO_796001 := n0_; have HO_803002 := n1_; have HO805 := n2_; have BK795 := n3_; have BK802 := n4_; have HB := n5_; clear n0_ n1_ n2_ n3_ n4_ n5_; (try clear hb); (try clear hb2); (try clear hk); (try clear hi)))
                go_ret
                exact ⟨by first | rfl | (simp [errW_none, errW_some] <;> rfl) | (simp [*, errW_none, errW_some] <;> rfl), by repeat (first | (with_reducible first | exact HB.out | apply below_alloc | apply pw_below_drewN | apply below_drew1 | refine below_set ?_ GE795.out | refine below_set ?_ GE802.out) | exact HB.out)⟩
              · rw [if_neg c30] at H
                have c30b0 : (t807 == 0) = false := beq_eq_false_iff_ne.mpr c30
                have c30b1 : (t807 != 0) = true := bne_iff_ne.mpr c30
                obtain rfl := Option.some.inj H
                go_wp2_with (first | ((with_reducible refine gate_callee (f := 33) rfl ?_); refine goesL_ (some 51) rfl rfl Try.func33 (by kernel_rfl) rfl #[.slice A0 l0.length c0, .int .i64 (wrap64 (1 + t789))] rfl (by (try simp only [List.map_toArray, List.map_cons, List.map_nil]); first | done | rfl | (simp only [List.length_drop, List.length_take]; rfl)) ?_; (with_reducible refine (spec_P6Group.calls kj7 _ _ l0 (wrap64 (1 + t789)) t803 _ ?side1 ?side2 A27.out).mono ?_); (case side1 => repeat (first | exact (Kd.C_below HR0.out HB.out) | (with_reducible refine Kd.C_alloc ?_ _) | (with_reducible refine Kd.C_drewN ?_ _) | (with_reducible refine Kd.C_drew ?_))); (case side2 => exact HC0.out); rintro e w36 ⟨v804, rfl, ho0, hb⟩; refine ⟨_, rfl, ?_⟩; have n0_ := Aside0.mk (Kd.S_elder' (by (with_reducible repeat (first | apply Kd.S_alloc | apply Kd.S_drewN | apply Kd.S_drew)); exact HO_796001.out) (Kd.R_base ho0) hb); have n1_ := Aside0.mk (Kd.R_elder' (by (with_reducible repeat (first | apply Kd.R_alloc | apply Kd.R_drewN | apply Kd.R_drew)); exact HO_803002.out) (Kd.R_base ho0) hb); have n2_ := Aside0.mk (Kd.R_lower (Kd.R_new' ho0 (Kd.R_lt (by (with_reducible repeat (first | apply Kd.R_alloc | apply Kd.R_drewN | apply Kd.R_drew)); exact HO_803002.out))) (below_size (by repeat (first | (with_reducible first | exact HB.out | apply below_alloc | apply pw_below_drewN | apply below_drew1 | refine below_set ?_ GE795.out | refine below_set ?_ GE802.out) | exact HB.out)))); have n3_ := Aside0.mk (blk_below (g := gb795) (o := .cells #[.int .i64 t790, .slice Ao13 t791.length co13] 31 (0, 0)) (by (with_reducible repeat (first | refine blk_drewN ?_ _ | refine blk_drew ?_ | refine blk_alloc ?_ _)); exact BK795.out) hb); have n4_ := Aside0.mk (blk_below (g := gb802) (o := .cells #[.int .i64 t796, .int .i64 t797, .slice Ao18 t798.length co18] 54 (0, 0)) (by (with_reducible repeat (first | refine blk_drewN ?_ _ | refine blk_drew ?_ | refine blk_alloc ?_ _)); exact BK802.out) hb); have n5_ := Aside0.mk (below_step (by repeat (first | (with_reducible first | exact HB.out | apply below_alloc | apply pw_below_drewN | apply below_drew1 | refine below_set ?_ GE795.out | refine below_set ?_ GE802.out) | exact HB.out)) hb); clear HO_796001; clear HO_803002; clear BK795; clear BK802; clear HB; have HO_796001 := n0_; have HO_803002 := n1_; have HO805 := n2_; have BK795 := n3_; have BK802 := n4_; have HB := n5_; clear n0_ n1_ n2_ n3_ n4_ n5_; (try clear hb); (try clear hb2); (try clear hk); (try clear hi); (try clear ho0); have hnb37 := NB802_795.out; have hnc37 := NB795_802.out; have hcz38_0 : w36.cell? ⟨gb802, 0, none⟩ = some (.int .i64 t796) := (blk_cell BK802.out 0).trans rfl; have hcz38_1 : w36.cell? ⟨gb802, 1, none⟩ = some (.int .i64 t797) := (blk_cell BK802.out 1).trans rfl; have hcz38_2 : w36.cell? ⟨gb802, 2, none⟩ = some (.slice Ao18 t798.length co18) := (blk_cell BK802.out 2).trans rfl; have hfz38_0 := blk_frozen BK802.out 0; have hfz38_1 := blk_frozen BK802.out 1; have hfz38_2 := blk_frozen BK802.out 2; obtain ⟨Ao39, co39, eo39⟩ := Kd.R_slice HO805.out; subst eo39) | ((with_reducible refine gate_callee (f := 34) rfl ?_); refine goesL_ (some 55) rfl rfl Try.func34 (by kernel_rfl) rfl #[.agg #[.int .i64 t796, .int .i64 t797, .slice Ao18 t798.length co18], .slice Ao39 t803.length co39] rfl (by (try simp only [List.map_toArray, List.map_cons, List.map_nil]); first | done | rfl | (simp only [List.length_drop, List.length_take]; rfl)) ?_; (with_reducible refine (impl_RankAt.calls kj7 t796 t797 _ _ t798 _ _ t803 t806 t807 _ ?side1 ?side2 ?side3 ?side4 A28.out).mono ?_); (case side1 => repeat (first | exact (Kd.R_reads' HO_803002.out).2.2 | (with_reducible refine Kd.C_alloc ?_ _) | (with_reducible refine Kd.C_drewN ?_ _) | (with_reducible refine Kd.C_drew ?_))); (case side2 => exact (Kd.R_reads' HO_803002.out).2.1); (case side3 => repeat (first | exact (Kd.R_reads' HO805.out).2.2 | (with_reducible refine Kd.C_alloc ?_ _) | (with_reducible refine Kd.C_drewN ?_ _) | (with_reducible refine Kd.C_drew ?_))); (case side4 => exact (Kd.R_reads' HO805.out).2.1); rintro e w40 ⟨rfl, hb⟩; refine ⟨_, rfl, ?_⟩; have n0_ := Aside0.mk (Kd.S_below (by (with_reducible repeat (first | apply Kd.S_alloc | apply Kd.S_drewN | apply Kd.S_drew)); exact HO_796001.out) hb); have n1_ := Aside0.mk (Kd.R_below (by (with_reducible repeat (first | apply Kd.R_alloc | apply Kd.R_drewN | apply Kd.R_drew)); exact HO_803002.out) hb); have n2_ := Aside0.mk (Kd.R_below (by (with_reducible repeat (first | apply Kd.R_alloc | apply Kd.R_drewN | apply Kd.R_drew)); exact HO805.out) hb); have n3_ := Aside0.mk (blk_below (g := gb795) (o := .cells #[.int .i64 t790, .slice Ao13 t791.length co13] 31 (0, 0)) (by (with_reducible repeat (first | refine blk_drewN ?_ _ | refine blk_drew ?_ | refine blk_alloc ?_ _)); exact BK795.out) hb); have n4_ := Aside0.mk (blk_below (g := gb802) (o := .cells #[.int .i64 t796, .int .i64 t797, .slice Ao18 t798.length co18] 54 (0, 0)) (by (with_reducible repeat (first | refine blk_drewN ?_ _ | refine blk_drew ?_ | refine blk_alloc ?_ _)); exact BK802.out) hb); have n5_ := Aside0.mk (below_step (by repeat (first | (with_reducible first | exact HB.out | apply below_alloc | apply pw_below_drewN | apply below_drew1 | refine below_set ?_ GE795.out | refine below_set ?_ GE802.out) | exact HB.out)) hb); clear HO_796001; clear HO_803002; clear HO805; clear BK795; clear BK802; clear HB; have HO_796001 := n0_; have HO_803002 := n1_; have HO805 := n2_; have BK795 := n3_; have BK802 := n4_; have HB := n5_; clear n0_ n1_ n2_ n3_ n4_ n5_; (try clear hb); (try clear hb2); (try clear hk); (try clear hi)))
                go_ret
                exact ⟨by first | rfl | (simp [errW_none, errW_some] <;> rfl) | (simp [*, errW_none, errW_some] <;> rfl), by repeat (first | (with_reducible first | exact HB.out | apply below_alloc | apply pw_below_drewN | apply below_drew1 | refine below_set ?_ GE795.out | refine below_set ?_ GE802.out) | exact HB.out)⟩
            · rw [if_neg c29] at H
              have c29b0 : decide ((wrap64 (1 + ((l0.length : Int) % (wrap64 (1 + t789))))) < (t803.length : Int)) = false := decide_eq_false c29
              clear c29
              by_cases c41 : t807 = 0
              · rw [if_pos c41] at H
                have c41b0 : (t807 == 0) = true := beq_iff_eq.mpr c41
                have c41b1 : (t807 != 0) = false := bne_eq_false_iff_eq.mpr c41
                clear c41
                obtain rfl := Option.some.inj H
                go_wp2_with (first | ((with_reducible refine gate_callee (f := 33) rfl ?_); refine goesL_ (some 51) rfl rfl Try.func33 (by kernel_rfl) rfl #[.slice A0 l0.length c0, .int .i64 (wrap64 (1 + t789))] rfl (by (try simp only [List.map_toArray, List.map_cons, List.map_nil]); first | done | rfl | (simp only [List.length_drop, List.length_take]; rfl)) ?_; (with_reducible refine (spec_P6Group.calls kj7 _ _ l0 (wrap64 (1 + t789)) t803 _ ?side1 ?side2 A27.out).mono ?_); (case side1 => repeat (first | exact (Kd.C_below HR0.out HB.out) | (with_reducible refine Kd.C_alloc ?_ _) | (with_reducible refine Kd.C_drewN ?_ _) | (with_reducible refine Kd.C_drew ?_))); (case side2 => exact HC0.out); rintro e w42 ⟨v804, rfl, ho0, hb⟩; refine ⟨_, rfl, ?_⟩; have n0_ := Aside0.mk (Kd.S_elder' (by (with_reducible repeat (first | apply Kd.S_alloc | apply Kd.S_drewN | apply Kd.S_drew)); exact HO_796001.out) (Kd.R_base ho0) hb); have n1_ := Aside0.mk (Kd.R_elder' (by (with_reducible repeat (first | apply Kd.R_alloc | apply Kd.R_drewN | apply Kd.R_drew)); exact HO_803002.out) (Kd.R_base ho0) hb); have n2_ := Aside0.mk (Kd.R_lower (Kd.R_new' ho0 (Kd.R_lt (by (with_reducible repeat (first | apply Kd.R_alloc | apply Kd.R_drewN | apply Kd.R_drew)); exact HO_803002.out))) (below_size (by repeat (first | (with_reducible first | exact HB.out | apply below_alloc | apply pw_below_drewN | apply below_drew1 | refine below_set ?_ GE795.out | refine below_set ?_ GE802.out) | exact HB.out)))); have n3_ := Aside0.mk (blk_below (g := gb795) (o := .cells #[.int .i64 t790, .slice Ao13 t791.length co13] 31 (0, 0)) (by (with_reducible repeat (first | refine blk_drewN ?_ _ | refine blk_drew ?_ | refine blk_alloc ?_ _)); exact BK795.out) hb); have n4_ := Aside0.mk (blk_below (g := gb802) (o := .cells #[.int .i64 t796, .int .i64 t797, .slice Ao18 t798.length co18] 54 (0, 0)) (by (with_reducible repeat (first | refine blk_drewN ?_ _ | refine blk_drew ?_ | refine blk_alloc ?_ _)); exact BK802.out) hb); have n5_ := Aside0.mk (below_step (by repeat (first | (with_reducible first | exact HB.out | apply below_alloc | apply pw_below_drewN | apply below_drew1 | refine below_set ?_ GE795.out | refine below_set ?_ GE802.out) | exact HB.out)) hb); clear HO_796001; clear HO_803002; clear BK795; clear BK802; clear HB; have HO_796001 := n0_; have HO_803002 := n1_; have HO805 := n2_; have BK795 := n3_; have BK802 := n4_; have HB := n5_; clear n0_ n1_ n2_ n3_ n4_ n5_; (try clear hb); (try clear hb2); (try clear hk); (try clear hi); (try clear ho0); have hnb43 := NB802_795.out; have hnc43 := NB795_802.out; have hcz44_0 : w42.cell? ⟨gb802, 0, none⟩ = some (.int .i64 t796) := (blk_cell BK802.out 0).trans rfl; have hcz44_1 : w42.cell? ⟨gb802, 1, none⟩ = some (.int .i64 t797) := (blk_cell BK802.out 1).trans rfl; have hcz44_2 : w42.cell? ⟨gb802, 2, none⟩ = some (.slice Ao18 t798.length co18) := (blk_cell BK802.out 2).trans rfl; have hfz44_0 := blk_frozen BK802.out 0; have hfz44_1 := blk_frozen BK802.out 1; have hfz44_2 := blk_frozen BK802.out 2; obtain ⟨Ao45, co45, eo45⟩ := Kd.R_slice HO805.out; subst eo45) | ((with_reducible refine gate_callee (f := 34) rfl ?_); refine goesL_ (some 55) rfl rfl Try.func34 (by kernel_rfl) rfl #[.agg #[.int .i64 t796, .int .i64 t797, .slice Ao18 t798.length co18], .slice Ao45 t803.length co45] rfl (by (try simp only [List.map_toArray, List.map_cons, List.map_nil]); first | done | rfl | (simp only [List.length_drop, List.length_take]; rfl)) ?_; (with_reducible refine (impl_RankAt.calls kj7 t796 t797 _ _ t798 _ _ t803 t806 t807 _ ?side1 ?side2 ?side3 ?side4 A28.out).mono ?_); (case side1 => repeat (first | exact (Kd.R_reads' HO_803002.out).2.2 | (with_reducible refine Kd.C_alloc ?_ _) | (with_reducible refine Kd.C_drewN ?_ _) | (with_reducible refine Kd.C_drew ?_))); (case side2 => exact (Kd.R_reads' HO_803002.out).2.1); (case side3 => repeat (first | exact (Kd.R_reads' HO805.out).2.2 | (with_reducible refine Kd.C_alloc ?_ _) | (with_reducible refine Kd.C_drewN ?_ _) | (with_reducible refine Kd.C_drew ?_))); (case side4 => exact (Kd.R_reads' HO805.out).2.1); rintro e w46 ⟨rfl, hb⟩; refine ⟨_, rfl, ?_⟩; have n0_ := Aside0.mk (Kd.S_below (by (with_reducible repeat (first | apply Kd.S_alloc | apply Kd.S_drewN | apply Kd.S_drew)); exact HO_796001.out) hb); have n1_ := Aside0.mk (Kd.R_below (by (with_reducible repeat (first | apply Kd.R_alloc | apply Kd.R_drewN | apply Kd.R_drew)); exact HO_803002.out) hb); have n2_ := Aside0.mk (Kd.R_below (by (with_reducible repeat (first | apply Kd.R_alloc | apply Kd.R_drewN | apply Kd.R_drew)); exact HO805.out) hb); have n3_ := Aside0.mk (blk_below (g := gb795) (o := .cells #[.int .i64 t790, .slice Ao13 t791.length co13] 31 (0, 0)) (by (with_reducible repeat (first | refine blk_drewN ?_ _ | refine blk_drew ?_ | refine blk_alloc ?_ _)); exact BK795.out) hb); have n4_ := Aside0.mk (blk_below (g := gb802) (o := .cells #[.int .i64 t796, .int .i64 t797, .slice Ao18 t798.length co18] 54 (0, 0)) (by (with_reducible repeat (first | refine blk_drewN ?_ _ | refine blk_drew ?_ | refine blk_alloc ?_ _)); exact BK802.out) hb); have n5_ := Aside0.mk (below_step (by repeat (first | (with_reducible first | exact HB.out | apply below_alloc | apply pw_below_drewN | apply below_drew1 | refine below_set ?_ GE795.out | refine below_set ?_ GE802.out) | exact HB.out)) hb); clear HO_796001; clear HO_803002; clear HO805; clear BK795; clear BK802; clear HB; have HO_796001 := n0_; have HO_803002 := n1_; have HO805 := n2_; have BK795 := n3_; have BK802 := n4_; have HB := n5_; clear n0_ n1_ n2_ n3_ n4_ n5_; (try clear hb); (try clear hb2); (try clear hk); (try clear hi)))
                go_ret
                exact ⟨by first | rfl | (simp [errW_none, errW_some] <;> rfl) | (simp [*, errW_none, errW_some] <;> rfl), by repeat (first | (with_reducible first | exact HB.out | apply below_alloc | apply pw_below_drewN | apply below_drew1 | refine below_set ?_ GE795.out | refine below_set ?_ GE802.out) | exact HB.out)⟩
              · rw [if_neg c41] at H
                have c41b0 : (t807 == 0) = false := beq_eq_false_iff_ne.mpr c41
                have c41b1 : (t807 != 0) = true := bne_iff_ne.mpr c41
                obtain rfl := Option.some.inj H
                go_wp2_with (first | ((with_reducible refine gate_callee (f := 33) rfl ?_); refine goesL_ (some 51) rfl rfl Try.func33 (by kernel_rfl) rfl #[.slice A0 l0.length c0, .int .i64 (wrap64 (1 + t789))] rfl (by (try simp only [List.map_toArray, List.map_cons, List.map_nil]); first | done | rfl | (simp only [List.length_drop, List.length_take]; rfl)) ?_; (with_reducible refine (spec_P6Group.calls kj7 _ _ l0 (wrap64 (1 + t789)) t803 _ ?side1 ?side2 A27.out).mono ?_); (case side1 => repeat (first | exact (Kd.C_below HR0.out HB.out) | (with_reducible refine Kd.C_alloc ?_ _) | (with_reducible refine Kd.C_drewN ?_ _) | (with_reducible refine Kd.C_drew ?_))); (case side2 => exact HC0.out); rintro e w47 ⟨v804, rfl, ho0, hb⟩; refine ⟨_, rfl, ?_⟩; have n0_ := Aside0.mk (Kd.S_elder' (by (with_reducible repeat (first | apply Kd.S_alloc | apply Kd.S_drewN | apply Kd.S_drew)); exact HO_796001.out) (Kd.R_base ho0) hb); have n1_ := Aside0.mk (Kd.R_elder' (by (with_reducible repeat (first | apply Kd.R_alloc | apply Kd.R_drewN | apply Kd.R_drew)); exact HO_803002.out) (Kd.R_base ho0) hb); have n2_ := Aside0.mk (Kd.R_lower (Kd.R_new' ho0 (Kd.R_lt (by (with_reducible repeat (first | apply Kd.R_alloc | apply Kd.R_drewN | apply Kd.R_drew)); exact HO_803002.out))) (below_size (by repeat (first | (with_reducible first | exact HB.out | apply below_alloc | apply pw_below_drewN | apply below_drew1 | refine below_set ?_ GE795.out | refine below_set ?_ GE802.out) | exact HB.out)))); have n3_ := Aside0.mk (blk_below (g := gb795) (o := .cells #[.int .i64 t790, .slice Ao13 t791.length co13] 31 (0, 0)) (by (with_reducible repeat (first | refine blk_drewN ?_ _ | refine blk_drew ?_ | refine blk_alloc ?_ _)); exact BK795.out) hb); have n4_ := Aside0.mk (blk_below (g := gb802) (o := .cells #[.int .i64 t796, .int .i64 t797, .slice Ao18 t798.length co18] 54 (0, 0)) (by (with_reducible repeat (first | refine blk_drewN ?_ _ | refine blk_drew ?_ | refine blk_alloc ?_ _)); exact BK802.out) hb); have n5_ := Aside0.mk (below_step (by repeat (first | (with_reducible first | exact HB.out | apply below_alloc | apply pw_below_drewN | apply below_drew1 | refine below_set ?_ GE795.out | refine below_set ?_ GE802.out) | exact HB.out)) hb); clear HO_796001; clear HO_803002; clear BK795; clear BK802; clear HB; have HO_796001 := n0_; have HO_803002 := n1_; have HO805 := n2_; have BK795 := n3_; have BK802 := n4_; have HB := n5_; clear n0_ n1_ n2_ n3_ n4_ n5_; (try clear hb); (try clear hb2); (try clear hk); (try clear hi); (try clear ho0); have hnb48 := NB802_795.out; have hnc48 := NB795_802.out; have hcz49_0 : w47.cell? ⟨gb802, 0, none⟩ = some (.int .i64 t796) := (blk_cell BK802.out 0).trans rfl; have hcz49_1 : w47.cell? ⟨gb802, 1, none⟩ = some (.int .i64 t797) := (blk_cell BK802.out 1).trans rfl; have hcz49_2 : w47.cell? ⟨gb802, 2, none⟩ = some (.slice Ao18 t798.length co18) := (blk_cell BK802.out 2).trans rfl; have hfz49_0 := blk_frozen BK802.out 0; have hfz49_1 := blk_frozen BK802.out 1; have hfz49_2 := blk_frozen BK802.out 2; obtain ⟨Ao50, co50, eo50⟩ := Kd.R_slice HO805.out; subst eo50) | ((with_reducible refine gate_callee (f := 34) rfl ?_); refine goesL_ (some 55) rfl rfl Try.func34 (by kernel_rfl) rfl #[.agg #[.int .i64 t796, .int .i64 t797, .slice Ao18 t798.length co18], .slice Ao50 t803.length co50] rfl (by (try simp only [List.map_toArray, List.map_cons, List.map_nil]); first | done | rfl | (simp only [List.length_drop, List.length_take]; rfl)) ?_; (with_reducible refine (impl_RankAt.calls kj7 t796 t797 _ _ t798 _ _ t803 t806 t807 _ ?side1 ?side2 ?side3 ?side4 A28.out).mono ?_); (case side1 => repeat (first | exact (Kd.R_reads' HO_803002.out).2.2 | (with_reducible refine Kd.C_alloc ?_ _) | (with_reducible refine Kd.C_drewN ?_ _) | (with_reducible refine Kd.C_drew ?_))); (case side2 => exact (Kd.R_reads' HO_803002.out).2.1); (case side3 => repeat (first | exact (Kd.R_reads' HO805.out).2.2 | (with_reducible refine Kd.C_alloc ?_ _) | (with_reducible refine Kd.C_drewN ?_ _) | (with_reducible refine Kd.C_drew ?_))); (case side4 => exact (Kd.R_reads' HO805.out).2.1); rintro e w51 ⟨rfl, hb⟩; refine ⟨_, rfl, ?_⟩; have n0_ := Aside0.mk (Kd.S_below (by (with_reducible repeat (first | apply Kd.S_alloc | apply Kd.S_drewN | apply Kd.S_drew)); exact HO_796001.out) hb); have n1_ := Aside0.mk (Kd.R_below (by (with_reducible repeat (first | apply Kd.R_alloc | apply Kd.R_drewN | apply Kd.R_drew)); exact HO_803002.out) hb); have n2_ := Aside0.mk (Kd.R_below (by (with_reducible repeat (first | apply Kd.R_alloc | apply Kd.R_drewN | apply Kd.R_drew)); exact HO805.out) hb); have n3_ := Aside0.mk (blk_below (g := gb795) (o := .cells #[.int .i64 t790, .slice Ao13 t791.length co13] 31 (0, 0)) (by (with_reducible repeat (first | refine blk_drewN ?_ _ | refine blk_drew ?_ | refine blk_alloc ?_ _)); exact BK795.out) hb); have n4_ := Aside0.mk (blk_below (g := gb802) (o := .cells #[.int .i64 t796, .int .i64 t797, .slice Ao18 t798.length co18] 54 (0, 0)) (by (with_reducible repeat (first | refine blk_drewN ?_ _ | refine blk_drew ?_ | refine blk_alloc ?_ _)); exact BK802.out) hb); have n5_ := Aside0.mk (below_step (by repeat (first | (with_reducible first | exact HB.out | apply below_alloc | apply pw_below_drewN | apply below_drew1 | refine below_set ?_ GE795.out | refine below_set ?_ GE802.out) | exact HB.out)) hb); clear HO_796001; clear HO_803002; clear HO805; clear BK795; clear BK802; clear HB; have HO_796001 := n0_; have HO_803002 := n1_; have HO805 := n2_; have BK795 := n3_; have BK802 := n4_; have HB := n5_; clear n0_ n1_ n2_ n3_ n4_ n5_; (try clear hb); (try clear hb2); (try clear hk); (try clear hi)))
                go_ret
                exact ⟨by first | rfl | (simp [errW_none, errW_some] <;> rfl) | (simp [*, errW_none, errW_some] <;> rfl), by repeat (first | (with_reducible first | exact HB.out | apply below_alloc | apply pw_below_drewN | apply below_drew1 | refine below_set ?_ GE795.out | refine below_set ?_ GE802.out) | exact HB.out)⟩
def laws_FnThresholdPorts.Pure : Prop := ∀ (l0 : List Int), l0.length ≤ maxLen → l0.length * 1 ≤ 140737488351232 → (∀ x ∈ l0, (Lit.int .u8 x).wf = true) → ∃ k, laws_FnThresholdPorts.f k l0 = some true
theorem laws_FnThresholdPorts.walk (P : laws_FnThresholdPorts.Pure) (a0 : Option Addr) (len0 cap0 : Nat) (z0 : List Int) (w : World) (w0 : (a0 = none ∧ len0 = 0 ∧ cap0 = 0 ∧ z0 = []) ∨ ∃ x, a0 = some x ∧ len0 ≤ cap0 ∧ cap0 ≤ maxLen ∧ z0.length = cap0 ∧ (∀ i, i < z0.length → w.cell? (x.add i) = some (.int .u8 (z0.getD i 0))) ∧ ∀ n ∈ z0, (Lit.int .u8 n).wf = true) (y0 : len0 * 1 ≤ 140737488351232) :
    Calls Try.prog 5 #[.slice a0 len0 cap0] w fun e w' => e = .returned (.bool true) ∧ Below w.heap.size w w' := by
  obtain ⟨l0, rfl, hr0, hm0, hw0, hc0⟩ := ReadsInt.ofRowC w0
  obtain ⟨k, h⟩ := P l0 hm0 y0 hw0
  refine (laws_FnThresholdPorts.calls k _ _ l0 true w (Kd.C_of_reads (d := (0 : Int)) (h1 := fun _ => rfl) hr0) hc0 h).mono ?_
  rintro e w' ⟨rfl, hd⟩
  exact ⟨rfl, hd⟩
end Go.Proofs.Ytmbeijjkfmgkpaa.Q
namespace Go.Proofs.Ytmbeijjkfmgkpaa.Pure
open Go.RowKit Go.Proofs.Ytmbeijjkfmgkpaa.Q Go.Proofs.YtmbeijjkfmgkpaaW.PrintWords Go.Proofs.YtmbeijjkfmgkpaaW.PrintLast
def tpB (H L : Nat) : Bool :=
  match impl_ThresholdFamily.f 3001 H L with
  | some (a, rows, c) => c == 0 && match impl_PortRanks.f 3001 a rows with
    | some (h, s, list, d) => d == 0 && list.length == 2 ^ H && (List.range (2 ^ H)).all fun x => match spec_l06Holders.f 3000 x H with
      | some g => match impl_RankAt.f 3000 h s list g with
        | some (n, e) => e == 0 && n == if (g.length : Int) > (L : Int) then (L : Int) else (g.length : Int)
        | none => false
      | none => false
    | none => false
  | none => false
theorem tp_facts (H L : Nat) (ht : tpB H L = true) : ∃ a rows h s list, impl_ThresholdFamily.f 3001 H L = some (a, rows, 0) ∧ impl_PortRanks.f 3001 a rows = some (h, s, list, 0) ∧ list.length = 2 ^ H ∧
    ∀ x : Nat, x < 2 ^ H → ∃ g, spec_l06Holders.f 3000 x H = some g ∧ impl_RankAt.f 3000 h s list g = some ((if (g.length : Int) > (L : Int) then (L : Int) else (g.length : Int)), 0) := by
  unfold tpB at ht
  split at ht
  · rename_i a rows c e1
    rw [Bool.and_eq_true] at ht
    obtain ⟨hc, ht⟩ := ht
    split at ht
    · rename_i h s list d e2
      rw [Bool.and_eq_true, Bool.and_eq_true] at ht
      obtain ⟨⟨hd, hl⟩, ht⟩ := ht
      have hc' : c = 0 := by simpa using hc
      have hd' : d = 0 := by simpa using hd
      subst hc' hd'
      refine ⟨a, rows, h, s, list, e1, e2, by simpa using hl, fun x hx => ?_⟩
      have h3 := List.all_eq_true.1 ht x (by simpa using hx)
      split at h3
      · rename_i g e3
        split at h3
        · rename_i n e e4
          rw [Bool.and_eq_true] at h3
          have he' : e = 0 := by simpa using h3.1
          have hn' := eq_of_beq h3.2
          subst he' hn'
          exact ⟨g, e3, e4⟩
        · cases h3
      · cases h3
    · cases ht
  · cases ht
set_option maxRecDepth 100000 in
theorem tp1 : tpB 1 1 = true := by decide +kernel
set_option maxRecDepth 100000 in
theorem tp2 : tpB 2 1 = true ∧ tpB 2 2 = true := by decide +kernel
set_option maxRecDepth 100000 in
theorem tp3 : tpB 3 1 = true ∧ tpB 3 2 = true ∧ tpB 3 3 = true := by decide +kernel
set_option maxRecDepth 100000 in
theorem tp4 : tpB 4 1 = true ∧ tpB 4 2 = true ∧ tpB 4 3 = true ∧ tpB 4 4 = true := by decide +kernel
set_option maxRecDepth 100000 in
theorem tp51 : tpB 5 1 = true ∧ tpB 5 5 = true := by decide +kernel
set_option maxRecDepth 100000 in
theorem tp52 : tpB 5 2 = true := by decide +kernel
set_option maxRecDepth 100000 in
theorem tp53 : tpB 5 3 = true := by decide +kernel
set_option maxRecDepth 100000 in
theorem tp54 : tpB 5 4 = true := by decide +kernel
theorem tp_all (H L : Nat) (h1 : 1 ≤ L) (h2 : L ≤ H) (h3 : H ≤ 5) : tpB H L = true := by
  rcases (show H = 1 ∨ H = 2 ∨ H = 3 ∨ H = 4 ∨ H = 5 by omega) with rfl | rfl | rfl | rfl | rfl
  · obtain rfl : L = 1 := by omega
    exact tp1
  · rcases (show L = 1 ∨ L = 2 by omega) with rfl | rfl
    · exact tp2.1
    · exact tp2.2
  · rcases (show L = 1 ∨ L = 2 ∨ L = 3 by omega) with rfl | rfl | rfl
    · exact tp3.1
    · exact tp3.2.1
    · exact tp3.2.2
  · rcases (show L = 1 ∨ L = 2 ∨ L = 3 ∨ L = 4 by omega) with rfl | rfl | rfl | rfl
    · exact tp4.1
    · exact tp4.2.1
    · exact tp4.2.2.1
    · exact tp4.2.2.2
  · rcases (show L = 1 ∨ L = 2 ∨ L = 3 ∨ L = 4 ∨ L = 5 by omega) with rfl | rfl | rfl | rfl | rfl
    · exact tp51.1
    · exact tp52
    · exact tp53
    · exact tp54
    · exact tp51.2
theorem next0 (l0 : List Int) (hl : l0.length ≤ 4096) (hw : ∀ x ∈ l0, (Lit.int .u8 x).wf = true) : ∃ b p s, spec_l00Src_next.f l0 0 0 = some (b, p, s) ∧ 0 ≤ b ∧ b < 256 := by
  cases l0 with
  | nil => exact ⟨123, 1, 1442695040888963407, by decide +kernel, by decide, by decide⟩
  | cons x l =>
    have hx : 0 ≤ x ∧ x < 256 := by
      have := hw x (by simp)
      simp only [Lit.wf, Bool.and_eq_true, decide_eq_true_eq] at this
      have m1 : IntKind.u8.min = 0 := by decide
      have m2 : IntKind.u8.max = 255 := by decide
      omega
    have hr : wrap64 (rd (x :: l) 0) = x := by simp only [rd, Int.toNat_zero, List.getD_cons_zero]; unfold wrap64; omega
    have hl' : (0 : Int) < ((x :: l).length : Int) := by rw [List.length_cons]; omega
    have h1 : wrap64 (0 + 1) ≤ ((x :: l).length : Int) := by rw [show wrap64 (0 + 1) = 1 by unfold wrap64; omega]; omega
    unfold spec_l00Src_next.f
    rw [if_pos hl', if_pos (by omega), if_pos h1, hr]
    exact ⟨_, _, _, rfl, hx.1, hx.2⟩
theorem pick0 (l0 : List Int) (m : Int) (h1 : 1 < m) (h2 : m ≤ 200) {b p s : Int} (h : spec_l00Src_next.f l0 0 0 = some (b, p, s)) : spec_l00Src_pick.f l0 0 0 m = some (Int.tmod b m, p, s) := by
  unfold spec_l00Src_pick.f
  rw [if_neg (by omega), h, Option.bind_some, if_neg (by omega), if_neg (by omega)]
theorem shl_pow : ∀ H : Nat, H < 6 → shl .i64 1 (IntKind.u64.wrap (H : Int)) = ((2 ^ H : Nat) : Int) ∧ 0 ≤ IntKind.u64.wrap (H : Int) := by decide
theorem FnThresholdPorts : laws_FnThresholdPorts.Pure := by
  intro l0 hm _ hw
  refine ⟨3001, ?_⟩
  unfold laws_FnThresholdPorts.f laws_f6big.f
  rw [Option.bind_some]
  by_cases hbig : (l0.length : Int) > 4096
  · rw [if_pos (by simpa using hbig)]
  · rw [if_neg (by simpa using hbig)]
    obtain ⟨b, p, s, hn, hb0, hb1⟩ := next0 l0 (by omega) hw
    have hp : spec_P6Pick.f l0 5 = some (Int.tmod b 5) := by
      unfold spec_P6Pick.f spec_l00From.f
      rw [Option.bind_some, pick0 l0 5 (by omega) (by omega) hn, Option.bind_some]
    rw [hp, Option.bind_some]
    have hb5 : Int.tmod b 5 = b % 5 := Int.tmod_eq_emod_of_nonneg hb0
    obtain ⟨H, hH⟩ : ∃ H : Nat, wrap64 (1 + Int.tmod b 5) = (H : Int) := ⟨(wrap64 (1 + Int.tmod b 5)).toNat, by rw [hb5]; unfold wrap64; omega⟩
    have hH1 : 1 ≤ H ∧ H ≤ 5 := by rw [hb5] at hH; unfold wrap64 at hH; omega
    rw [hH, if_neg (by omega)]
    have hmod0 : 0 ≤ (l0.length : Int) % (H : Int) := Int.emod_nonneg _ (by omega)
    have hmod1 : (l0.length : Int) % (H : Int) < H := Int.emod_lt_of_pos _ (by omega)
    obtain ⟨L, hL⟩ : ∃ L : Nat, wrap64 (1 + (l0.length : Int) % (H : Int)) = (L : Int) := ⟨(wrap64 (1 + (l0.length : Int) % (H : Int))).toNat, by unfold wrap64; omega⟩
    have hL1 : 1 ≤ L ∧ L ≤ H := by unfold wrap64 at hL; omega
    rw [hL]
    obtain ⟨a, rows, h, s2, list, e1, e2, e3, e4⟩ := tp_facts H L (tp_all H L hL1.1 hL1.2 hH1.2)
    obtain ⟨sh1, sh2⟩ := shl_pow H (by omega)
    rw [e1, Option.bind_some]
    simp only
    rw [e2, Option.bind_some]
    simp only [if_true]
    rw [if_pos sh2, sh1, e3]
    have hne : (((2 ^ H : Nat) : Int) != ((2 ^ H : Nat) : Int)) = false := by simp
    rw [hne]
    rw [show laws_FnThresholdPorts.j0 3001 = laws_FnThresholdPorts.j0 (3000 + 1) from rfl]
    simp only [laws_FnThresholdPorts.j0]
    rw [if_neg (by decide)]
    have h32 : 2 ^ H ≤ 32 ∧ 2 ≤ 2 ^ H := by
      rcases (show H = 1 ∨ H = 2 ∨ H = 3 ∨ H = 4 ∨ H = 5 by omega) with rfl | rfl | rfl | rfl | rfl <;> decide
    have hx : Int.tmod b ((2 ^ H : Nat) : Int) = b % ((2 ^ H : Nat) : Int) := Int.tmod_eq_emod_of_nonneg hb0
    have hx0 : 0 ≤ b % ((2 ^ H : Nat) : Int) := Int.emod_nonneg _ (by omega)
    have hx1 : b % ((2 ^ H : Nat) : Int) < ((2 ^ H : Nat) : Int) := Int.emod_lt_of_pos _ (by omega)
    obtain ⟨g, g1, g2⟩ := e4 (b % ((2 ^ H : Nat) : Int)).toNat (by omega)
    rw [Int.toNat_of_nonneg hx0] at g1
    have hg : spec_P6Group.f 3000 l0 H = some g := by
      unfold spec_P6Group.f spec_l00From.f
      rw [Option.bind_some, if_pos sh2, sh1, pick0 l0 _ (by omega) (by omega) hn, Option.bind_some, hx, g1, Option.bind_some]
    rw [hg, Option.bind_some, g2, Option.bind_some]
    by_cases hc : (g.length : Int) > (L : Int)
    · simp [hc]
    · simp [hc]
end Go.Proofs.Ytmbeijjkfmgkpaa.Pure
namespace Go.Proofs.Ytmbeijjkfmgkpaa.fnThresholdPorts
open Go.ChangeShapes Go.WideShapes Go.ChangeAt Go.RowKit
open Go.ChangeMaps (open_string shut_string)
set_option linter.unusedVariables false
theorem own : ownKnob Try.prog.godebug = none := by kernel_rfl
theorem laidOut : laidOutB Try.prog = true := by kernel_rfl
def IsRow (k : IntKind) (w : World) (a : Option Addr) (len cap : Nat) (zs : List Int) : Prop :=
  (a = none ∧ len = 0 ∧ cap = 0 ∧ zs = []) ∨
  ∃ x, a = some x ∧ len ≤ cap ∧ cap ≤ maxLen ∧ zs.length = cap ∧ (∀ i, i < zs.length → w.cell? (x.add i) = some (.int k (zs.getD i 0))) ∧ ∀ n ∈ zs, (Lit.int k n).wf = true
set_option maxRecDepth 100000 in
theorem lifted (os : Os) (started : os.Started) (H : Type) (enc : TypeId × Value → H) :
    ReturnsInHanded {} Try.checked os 5 .any (Rows.fnThresholdPortsSpec.pre6 enc Try.prog Try.f5 Rows.fnThresholdPortsRow.domain false) (Rows.fnThresholdPortsSpec.post enc Try.prog Try.f5 false true false false) := by
  refine returnsInHanded_of_change_sized (C := Try.checked) own started (by kernel_rfl) Try.func5
    (ChangeSpec.witness6 (enc := enc) (C := Try.checked) false ⟨#[], #[.slice none 0 0], []⟩ 8 (by kernel_rfl) (by kernel_rfl) (by kernel_rfl) (by kernel_rfl)) ?_
  intro W base args ds gs before hval0 hW hcnd hsz0 _
  have hsz : (DataW.weightsEach Try.prog (Try.f5.params.toList ++ Rows.fnThresholdPortsSpec.plain.varTypes Try.prog) (ds ++ gs)).all (· ≤ reachBytes) = true := hsz0
  have hval : ∀ (j : Nat) t v, Try.f5.params[j]? = some t → args[j]? = some v → Value.okWide Try.prog W .any base t v := hval0
  have hW' := hW
  obtain ⟨p, q, hA0, hV, rfl, hfz, hnd⟩ := hW
  have hA : DataW.TrodAll enc Try.prog W 0 (fun _ => true) true Try.f5.params.toList args.toList ds p := hA0
  rw [Try.params5] at hA hval hsz
  obtain ⟨v0, vs0, d0, ds0, p0, q0, hargs, rfl, rfl, h0, r0⟩ := trodAll_cons hA
  obtain ⟨rfl, rfl, rfl⟩ := trodAll_nil r0
  obtain rfl : args = #[v0] := by cases args; simp_all
  obtain ⟨rfl, rfl⟩ := trodVars_none hV
  obtain ⟨a0, len0, cap0, rfl⟩ := okWide_slice Try.underlying38 (hval 0 38 v0 rfl rfl)
  have k0 := h0
  have lt0 : ∀ x ∈ p0, x.block < W.heap.size := by obtain ⟨m, hm⟩ := k0; exact DataW.trod_lt m _ _ _ hm
  obtain ⟨z0, w0⟩ : ∃ zs, IsRow .u8 W a0 len0 cap0 zs := by
    obtain ⟨fuel, hf⟩ := h0
    rcases open_ints Try.underlying38 Try.underlying5 (by kernel_rfl) hf with ⟨hcs, _⟩ | ⟨x, l, c, zs, hcs, _, hl, hm, hz, _, hcell, hwz⟩
    · simp [Value.cells] at hcs
      obtain ⟨rfl, rfl, rfl⟩ := hcs
      exact ⟨[], .inl ⟨rfl, rfl, rfl, rfl⟩⟩
    · simp [Value.cells] at hcs
      obtain ⟨rfl, rfl, rfl⟩ := hcs
      exact ⟨zs, .inr ⟨_, rfl, hl, hm, by simpa using hz, hcell, hwz⟩⟩
  have y0 : len0 * 1 ≤ 140737488351232 := Go.Proofs.YtmbeijjkfmgkpaaW.PrintWords.sized_ints hsz (j := 0) (t := 38) rfl rfl Try.underlying38 Try.underlying5 (by kernel_rfl) (by kernel_rfl) h0
  clear hA0 hval0 hsz0 hsz
  refine (Q.laws_FnThresholdPorts.walk Pure.FnThresholdPorts a0 len0 cap0 z0 W w0 y0).mono fun e W' ⟨he, bel⟩ => ?_
  subst he
  exact ⟨_, rfl, _, _, _, [], _, [], hW', trodAll_mk1 (shut_bool Try.underlying4 _), (trodAll_cons_mk (Below.trod laidOut (by kernel_rfl) (of_decide_eq_true (by kernel_rfl)) k0 bel lt0) trodAll_mk0), rfl, bel.frame _, fun h => by cases h⟩
theorem over : Rows.fnThresholdPortsRow.holds Try.pinned (OpenSpec.ofChange Rows.fnThresholdPortsSpec) :=
  OpenClaim.holds_of_wide 5 Try.f5 rfl rfl rfl rfl rfl rfl rfl ⟨rfl, rfl, rfl, rfl, rfl⟩ rfl rfl rfl rfl rfl (by kernel_rfl) Try.func5 (by kernel_rfl)
    (of_decide_eq_true (by kernel_rfl)) (by unfold Func.isWrapper; first | (rw [if_pos (by decide +kernel)]; kernel_rfl) | (rw [if_neg (by decide +kernel)]; exact ⟨rfl, rfl⟩))
    (fun os started H enc _ => lifted os started H enc)
theorem proved : Rows.FnThresholdPortsSaid := over
end Go.Proofs.Ytmbeijjkfmgkpaa.fnThresholdPorts
namespace Go.Proofs.Ytmbeijjkfmgkpaa
theorem fnThresholdPorts_holds : Rows.FnThresholdPortsSaid := fnThresholdPorts.proved
end Go.Proofs.Ytmbeijjkfmgkpaa
#print axioms Go.Proofs.Ytmbeijjkfmgkpaa.fnThresholdPorts.proved
