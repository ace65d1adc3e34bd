/- For all bytes, the law FnSequences returns true: a sequence that is made for a chain is accepted and is not better than the best one; no condition. (6 of 7) Put together by a program of mine from texts of mine, from texts that the kit's print wrote for this claim and from the print's words; what is not reached is left out. -/
import Derived.Test.YtmbeijjkfmgkpaaSq5
set_option linter.unusedVariables false
set_option linter.unusedSimpArgs false
namespace Go.Proofs.Ytmbeijjkfmgkpaa.Q
open Go.RowKit Go.Proofs.YtmbeijjkfmgkpaaW.PrintWords Go.Proofs.YtmbeijjkfmgkpaaW.PrintLast Go.Proofs.YtmbeijjkfmgkpaaW.PrintMore
attribute [local go_sem] max2_int min2_int max_two min_two max_three min_three max_four min_four
set_option linter.unusedVariables false
set_option linter.unusedSimpArgs false
def spec_SequenceFor.j0 : Nat → List Int → List (List Int) → Bool → Int → List (List Int) → Option (List Int × (List (List Int)) × (List (List Int)) × Int)
  | 0, _, _, _, _, _ => none
  | k + 1, x1, x2, x26, x548000, x548001 => if x26 = true then (some (([] : List Int), ([] : List (List Int)), ([] : List (List Int)), 2)) else ((spec_l07Open.f k x548000 x548001).bind fun t552 => ((spec_l07Bits.f k x1).bind fun t555 => ((spec_l07Numbers.f k x2).bind fun t556 => ((spec_l07Chain.f k t552 t555 t556).bind fun t559 => (if t559 = true then ((spec_l07Withs.f k t552 t555 t556).bind fun bt560 => (if bt560.2 = true then ((spec_l06Holders.f k t555 x548000).bind fun t564 => ((spec_l07Lists.f k t556 x548000).bind fun t567 => ((spec_l07Lists.f k bt560.1 x548000).bind fun t570 => (some (t564, t567, t570, 0))))) else (some (([] : List Int), ([] : List (List Int)), ([] : List (List Int)), 8)))) else (some (([] : List Int), ([] : List (List Int)), ([] : List (List Int)), 8)))))))
def spec_SequenceFor.f (k : Nat) (a0_0 : Int) (l0_1 : List (List Int)) (l1 : List Int) (l2 : List (List Int)) : Option (List Int × (List (List Int)) × (List (List Int)) × Int) := (spec_l07Family.f k a0_0 l0_1).bind fun t549 => (if t549 = 0 then ((spec_l07Group.f k a0_0 l0_1 l1).bind fun t550 => (if t550 = true then ((spec_l07Groups.f k a0_0 l0_1 l2).bind fun t551 => (spec_SequenceFor.j0 k l1 l2 (!t551) a0_0 l0_1)) else (spec_SequenceFor.j0 k l1 l2 true a0_0 l0_1))) else (some (([] : List Int), ([] : List (List Int)), ([] : List (List Int)), t549)))
def spec_SequenceFor.T14 : Bool × List (List Nat × List Nat) := (true, [([], []), ([], []), ([1], [1]), ([0, 2], [0, 2]), ([], []), ([], []), ([5], [5]), ([4, 6, 3], [4, 6]), ([], []), ([], []), ([9], [9]), ([8, 10, 7], [8, 10]), ([3, 7, 11], [3, 7, 11]), ([12, 11, 0, 1, 2, 3, 4, 5, 6, 7, 8, 9, 10, 11, 12], [12]), ([13, 0, 1, 2, 3, 4, 5, 6, 7, 8, 9, 10, 11, 12, 13], [])])
def spec_SequenceFor.B14 : List Nat := [0, 0, 2, 7, 0, 0, 32, 127, 0, 0, 512, 2047, 4095, 8191, 16383]
theorem spec_SequenceFor.tab14 : rtab .any (opsOf Try.f25 14) = spec_SequenceFor.T14 := by kernel_rfl
theorem spec_SequenceFor.bits14 : waitsOk spec_SequenceFor.T14.2 spec_SequenceFor.B14 = true := by kernel_rfl
set_option maxHeartbeats 8000000 in
set_option maxRecDepth 100000 in
theorem spec_SequenceFor.calls (k : Nat) (a0_0 : Int) (A0_1 : Option Addr) (c0_1 : Nat) (l0_1 : List (List Int)) (A1 : Option Addr) (c1 : Nat) (l1 : List Int) (A2 : Option Addr) (c2 : Nat) (l2 : List (List Int)) (r1 : List Int) (r2 : List (List Int)) (r3 : List (List Int)) (r4 : Int) (w : World) (hr0_1 : Kd.C (Kd.slice 2 (Kd.int .i64)) w A0_1 l0_1.length l0_1) (hc0_1 : l0_1.length ≤ c0_1) (hr1 : Kd.C (Kd.int .i64) w A1 l1.length l1) (hc1 : l1.length ≤ c1) (hr2 : Kd.C (Kd.slice 2 (Kd.int .i64)) w A2 l2.length l2) (hc2 : l2.length ≤ c2) (h : spec_SequenceFor.f k a0_0 l0_1 l1 l2 = some (r1, r2, r3, r4)) :
  Calls Try.prog 25 #[.agg #[.int .i64 a0_0, .slice A0_1 l0_1.length c0_1], .slice A1 l1.length c1, .slice A2 l2.length c2] w fun e w' => ∃ v0_ v1_ v2_ : Value, e = .returned (.tuple #[.agg #[v0_, v1_, v2_], .int .i64 r4]) ∧ Kd.R (Kd.int .i64) 2 w' w.heap.size (fun _ => True) v0_ r1 ∧ Kd.S (Kd.slice 2 (Kd.int .i64)) 26 w' w.heap.size (fun k_ => some k_ ≠ (v0_ : Value).ownBlock ∧ some k_ ≠ (v2_ : Value).ownBlock) v1_ r2 ∧ Kd.S (Kd.slice 2 (Kd.int .i64)) 26 w' w.heap.size (fun k_ => some k_ ≠ (v0_ : Value).ownBlock ∧ some k_ ≠ (v1_ : Value).ownBlock) v2_ r3 ∧ Below w.heap.size w w' := by
 have hu31 := Try.underlying31
 have hu28 := Try.underlying28
 have HR0_1 := Aside0.mk hr0_1
 have HC0_1 := Aside0.mk hc0_1
 clear hr0_1 hc0_1
 have HR1 := Aside0.mk hr1
 have HC1 := Aside0.mk hc1
 clear hr1 hc1
 have HR2 := Aside0.mk hr2
 have HC2 := Aside0.mk hc2
 clear hr2 hc2
 have HB := Aside0.mk (Below.refl w.heap.size w)
 have H : ((spec_l07Family.f k a0_0 l0_1).bind fun t549 => (if t549 = 0 then ((spec_l07Group.f k a0_0 l0_1 l1).bind fun t550 => (if t550 = true then ((spec_l07Groups.f k a0_0 l0_1 l2).bind fun t551 => (spec_SequenceFor.j0 k l1 l2 (!t551) a0_0 l0_1)) else (spec_SequenceFor.j0 k l1 l2 true a0_0 l0_1))) else (some (([] : List Int), ([] : List (List Int)), ([] : List (List Int)), t549)))) = some (r1, r2, r3, r4) := h
 clear h
 replace H := Option.bind_eq_some_iff.mp H
 obtain ⟨t549, A40, H⟩ := H
 replace H : (if t549 = 0 then ((spec_l07Group.f k a0_0 l0_1 l1).bind fun t550 => (if t550 = true then ((spec_l07Groups.f k a0_0 l0_1 l2).bind fun t551 => (spec_SequenceFor.j0 k l1 l2 (!t551) a0_0 l0_1)) else (spec_SequenceFor.j0 k l1 l2 true a0_0 l0_1))) else (some (([] : List Int), ([] : List (List Int)), ([] : List (List Int)), t549))) = some (r1, r2, r3, r4) := H
 have A4 := Aside0.mk A40
 clear A40
 by_cases c5 : t549 = 0
 ·rw [if_pos c5] at H
  have c5b0 : (t549 == 0) = true := beq_iff_eq.mpr c5
  have c5b1 : (t549 != 0) = false := bne_eq_false_iff_eq.mpr c5
  clear c5
  have HC6 := Aside0.mk H
  clear H
  go_enter Try.func25, Try.ntmps25
  go_upto_region 4 with (first | ((with_reducible refine gate_dst (N := 3) rfl ?_); refine box_event ?hg (N := 3) ?hd (cs := #[.int .i64 a0_0, .slice A0_1 l0_1.length c0_1]) (t := 31) ?hr ?_; (case hd => rfl); (case hg => rfl); (case hr => first | (go_simp; done) | (go_simp; rfl)); intro gb547 hg w7 hbox hb; have n0_ := Aside0.mk (below_step (zb0 HB.out) hb); have n1_ := Aside0.mk (hbox); have n2_ := Aside0.mk ((by rw [hg]; exact (below_size (zb0 HB.out)) : w.heap.size ≤ gb547)); have n3_ := Aside0.mk ((by rw [hg]; exact (below_size (zb0 HB.out)) : w.heap.size ≤ gb547)); clear HB; have HB := n0_; have BK547 := n1_; have GW547 := n2_; have GE547 := n3_; clear n0_ n1_ n2_ n3_; clear hb hbox hg) | ((with_reducible refine gate_dst (N := 6) rfl ?_); refine box_event ?hg (N := 6) ?hd (cs := #[.slice none 0 0, .slice none 0 0, .slice none 0 0]) (t := 28) ?hr ?_; (case hd => rfl); (case hg => rfl); (case hr => first | (go_simp; done) | (go_simp; rfl)); intro gb548 hg w8 hbox hb; have n0_ := Aside0.mk (blk_below (g := gb547) (o := .cells #[.int .i64 a0_0, .slice A0_1 l0_1.length c0_1] 31 (0, 0)) (zk BK547.out) hb); have n1_ := Aside0.mk (below_step (zb1 HB.out GE547.out) hb); have n2_ := Aside0.mk (hbox); have n3_ := Aside0.mk ((by rw [hg]; exact (below_size (zb1 HB.out GE547.out)) : w.heap.size ≤ gb548)); have n4_ := Aside0.mk ((by rw [hg]; exact (below_size (zb1 HB.out GE547.out)) : w.heap.size ≤ gb548)); have n5_ := Aside0.mk ((by rw [hg]; exact Nat.ne_of_lt (blk_lt (g := gb547) (o := .cells #[.int .i64 a0_0, .slice A0_1 l0_1.length c0_1] 31 (0, 0)) (zk BK547.out)) : gb547 ≠ gb548)); have n6_ := Aside0.mk ((by rw [hg]; exact Nat.ne_of_gt (blk_lt (g := gb547) (o := .cells #[.int .i64 a0_0, .slice A0_1 l0_1.length c0_1] 31 (0, 0)) (zk BK547.out)) : gb548 ≠ gb547)); clear BK547; clear HB; have BK547 := n0_; have HB := n1_; have BK548 := n2_; have GW548 := n3_; have GE548 := n4_; have NB547_548 := n5_; have NB548_547 := n6_; clear n0_ n1_ n2_ n3_ n4_ n5_ n6_; clear hb hbox hg) | ((with_reducible refine gate_callee (f := 66) rfl ?_); refine goesL_ (some 14) rfl rfl Try.func66 (by kernel_rfl) rfl #[.pointer (some ⟨gb547, 0, none⟩)] rfl zl ?_; (with_reducible refine (spec_l07Family.calls k gb547 a0_0 A0_1 c0_1 l0_1 t549 _ ?side1 ?side2 ?side3 A4.out).mono ?_); (case side1 => (with_reducible repeat (first | refine blk_drewN ?_ _ | refine blk_drew ?_ | refine blk_alloc ?_ _)); exact BK547.out); (case side2 => exact zc (Kd.C_below HR0_1.out HB.out)); (case side3 => exact HC0_1.out); rintro e w9 ⟨rfl, hb⟩; refine ⟨_, rfl, ?_⟩; have n0_ := Aside0.mk (blk_below (g := gb547) (o := .cells #[.int .i64 a0_0, .slice A0_1 l0_1.length c0_1] 31 (0, 0)) (zk BK547.out) hb); have n1_ := Aside0.mk (blk_below (g := gb548) (o := .cells #[.slice none 0 0, .slice none 0 0, .slice none 0 0] 28 (0, 0)) (zk BK548.out) hb); have n2_ := Aside0.mk (below_step (zb2 HB.out GE547.out GE548.out) hb); clear BK547; clear BK548; clear HB; have BK547 := n0_; have BK548 := n1_; have HB := n2_; clear n0_ n1_ n2_; (try clear hb); (try clear hb2); (try clear hk); (try clear hi)))
  (try simp only [Act.put, List.setIfInBounds_toArray, List.set_cons_zero, List.set_cons_succ])
  go_cut [26] (fun v26 wc => ∃ (kq : Nat) (x26_5 : Bool), v26 = .bool x26_5 ∧ Aside0 (spec_SequenceFor.j0 kq l1 l2 x26_5 a0_0 l0_1 = some (r1, r2, r3, r4)) ∧ Aside0 (kq ≤ k) ∧ Aside0 (wc.heap[gb547]? = some (.cells #[.int .i64 a0_0, (.slice A0_1 l0_1.length c0_1)] 31 (0, 0))) ∧ Aside0 (wc.heap[gb548]? = some (.cells #[(.slice none 0 0), (.slice none 0 0), (.slice none 0 0)] 28 (0, 0))) ∧ Aside0 (Below w.heap.size w wc))
  case first =>
   have H := HC6.out
   clear HC6
   replace H := Option.bind_eq_some_iff.mp H
   obtain ⟨t550, A100, H⟩ := H
   replace H : (if t550 = true then ((spec_l07Groups.f k a0_0 l0_1 l2).bind fun t551 => (spec_SequenceFor.j0 k l1 l2 (!t551) a0_0 l0_1)) else (spec_SequenceFor.j0 k l1 l2 true a0_0 l0_1)) = some (r1, r2, r3, r4) := H
   have A10 := Aside0.mk A100
   clear A100
   by_cases c11 : t550 = true
   ·subst c11
    rw [if_pos rfl] at H
    replace H := Option.bind_eq_some_iff.mp H
    obtain ⟨t551, A120, H⟩ := H
    replace H : (spec_SequenceFor.j0 k l1 l2 (!t551) a0_0 l0_1) = some (r1, r2, r3, r4) := H
    have A12 := Aside0.mk A120
    clear A120
    have H' := Aside0.mk H
    clear H
    go_wp2_with (first | ((with_reducible refine gate_callee (f := 90) rfl ?_); refine goesL_ (some 20) rfl rfl Try.func90 (by kernel_rfl) rfl #[.pointer (some ⟨gb547, 0, none⟩), .slice A1 l1.length c1] rfl zl ?_; (with_reducible refine (spec_l07Group.calls k gb547 a0_0 A0_1 c0_1 l0_1 _ _ l1 true _ ?side1 ?side2 ?side3 ?side4 ?side5 A10.out).mono ?_); (case side1 => (with_reducible repeat (first | refine blk_drewN ?_ _ | refine blk_drew ?_ | refine blk_alloc ?_ _)); exact BK547.out); (case side2 => exact zc (Kd.C_below HR0_1.out HB.out)); (case side3 => exact HC0_1.out); (case side4 => exact zc (Kd.C_below HR1.out HB.out)); (case side5 => exact HC1.out); rintro e w13 ⟨rfl, hb⟩; refine ⟨_, rfl, ?_⟩; have n0_ := Aside0.mk (blk_below (g := gb547) (o := .cells #[.int .i64 a0_0, .slice A0_1 l0_1.length c0_1] 31 (0, 0)) (zk BK547.out) hb); have n1_ := Aside0.mk (blk_below (g := gb548) (o := .cells #[.slice none 0 0, .slice none 0 0, .slice none 0 0] 28 (0, 0)) (zk BK548.out) hb); have n2_ := Aside0.mk (below_step (zb2 HB.out GE547.out GE548.out) hb); clear BK547; clear BK548; clear HB; have BK547 := n0_; have BK548 := n1_; have HB := n2_; clear n0_ n1_ n2_; (try clear hb); (try clear hb2); (try clear hk); (try clear hi)) | (go_at_call 91; (with_reducible refine (spec_l07Groups.calls k gb547 a0_0 A0_1 c0_1 l0_1 _ _ l2 t551 _ ?side1 ?side2 ?side3 ?side4 ?side5 A12.out).mono ?_); (case side1 => (with_reducible repeat (first | refine blk_drewN ?_ _ | refine blk_drew ?_ | refine blk_alloc ?_ _)); exact BK547.out); (case side2 => exact zc (Kd.C_below HR0_1.out HB.out)); (case side3 => exact HC0_1.out); (case side4 => exact zc (Kd.C_below HR2.out HB.out)); (case side5 => exact HC2.out); rintro e w14 ⟨rfl, hb⟩; have n0_ := Aside0.mk (blk_below (g := gb547) (o := .cells #[.int .i64 a0_0, .slice A0_1 l0_1.length c0_1] 31 (0, 0)) (zk BK547.out) hb); have n1_ := Aside0.mk (blk_below (g := gb548) (o := .cells #[.slice none 0 0, .slice none 0 0, .slice none 0 0] 28 (0, 0)) (zk BK548.out) hb); have n2_ := Aside0.mk (below_step (zb2 HB.out GE547.out GE548.out) hb); clear BK547; clear BK548; clear HB; have BK547 := n0_; have BK548 := n1_; have HB := n2_; clear n0_ n1_ n2_; (try clear hb); (try clear hb2); (try clear hk); (try clear hi)))
    go_meet
    case rel => exact ⟨_, (!t551), zt, H', ⟨by first | omega | exact Nat.le_refl _⟩, ⟨zk BK547.out⟩, ⟨zk BK548.out⟩, ⟨zb2 HB.out GE547.out GE548.out⟩⟩
   ·replace c11 := Bool.eq_false_iff.mpr c11
    subst c11
    rw [if_neg (show ¬ (false = true) by decide)] at H
    have H' := Aside0.mk H
    clear H
    go_wp2_with (first | ((with_reducible refine gate_callee (f := 90) rfl ?_); refine goesL_ (some 20) rfl rfl Try.func90 (by kernel_rfl) rfl #[.pointer (some ⟨gb547, 0, none⟩), .slice A1 l1.length c1] rfl zl ?_; (with_reducible refine (spec_l07Group.calls k gb547 a0_0 A0_1 c0_1 l0_1 _ _ l1 false _ ?side1 ?side2 ?side3 ?side4 ?side5 A10.out).mono ?_); (case side1 => (with_reducible repeat (first | refine blk_drewN ?_ _ | refine blk_drew ?_ | refine blk_alloc ?_ _)); exact BK547.out); (case side2 => exact zc (Kd.C_below HR0_1.out HB.out)); (case side3 => exact HC0_1.out); (case side4 => exact zc (Kd.C_below HR1.out HB.out)); (case side5 => exact HC1.out); rintro e w15 ⟨rfl, hb⟩; refine ⟨_, rfl, ?_⟩; have n0_ := Aside0.mk (blk_below (g := gb547) (o := .cells #[.int .i64 a0_0, .slice A0_1 l0_1.length c0_1] 31 (0, 0)) (zk BK547.out) hb); have n1_ := Aside0.mk (blk_below (g := gb548) (o := .cells #[.slice none 0 0, .slice none 0 0, .slice none 0 0] 28 (0, 0)) (zk BK548.out) hb); have n2_ := Aside0.mk (below_step (zb2 HB.out GE547.out GE548.out) hb); clear BK547; clear BK548; clear HB; have BK547 := n0_; have BK548 := n1_; have HB := n2_; clear n0_ n1_ n2_; (try clear hb); (try clear hb2); (try clear hk); (try clear hi)))
    go_meet
    case rel => exact ⟨_, (true), zt, H', ⟨by first | omega | exact Nat.le_refl _⟩, ⟨zk BK547.out⟩, ⟨zk BK548.out⟩, ⟨zb2 HB.out GE547.out GE548.out⟩⟩
  case rest =>
   clear HC6
   obtain ⟨kq, x26_5, rfl, HA, HJ5, BK547, BK548, HB⟩ := hcut
   cases kq with
   | zero => exact absurd HA.out (by simp [spec_SequenceFor.j0])
   | succ kj5 =>
    have H := HA.out
    clear HA
    simp only [spec_SequenceFor.j0] at H
    by_cases c16 : x26_5 = true
    ·subst c16
     rw [if_pos rfl] at H
     simp only [Option.some.injEq, Prod.mk.injEq] at H
     obtain ⟨rfl, rfl, rfl, rfl⟩ := H
     have hnb17 := NB548_547.out
     have hnc17 := NB547_548.out
     have hcz18_0 : wc.cell? ⟨gb548, 0, none⟩ = some (.slice none 0 0) := (blk_cell BK548.out 0).trans rfl
     have hcz18_1 : wc.cell? ⟨gb548, 1, none⟩ = some (.slice none 0 0) := (blk_cell BK548.out 1).trans rfl
     have hcz18_2 : wc.cell? ⟨gb548, 2, none⟩ = some (.slice none 0 0) := (blk_cell BK548.out 2).trans rfl
     have hfz18_0 := blk_frozen BK548.out 0
     have hfz18_1 := blk_frozen BK548.out 1
     have hfz18_2 := blk_frozen BK548.out 2
     go_wp2
     refine bodyPost_ret (results_ct rfl _ _ gb548 28 #[.slice none 0 0, .slice none 0 0, .slice none 0 0] (0, 0) _ rfl (by (with_reducible repeat (first | refine blk_drewN ?_ _ | refine blk_drew ?_ | refine blk_alloc ?_ _)); refine blk_put (cs := #[.slice none 0 0, .slice none 0 0, .slice none 0 0]) ?_ 2 _ rfl; (with_reducible repeat (first | refine blk_drewN ?_ _ | refine blk_drew ?_ | refine blk_alloc ?_ _)); refine blk_put (cs := #[.slice none 0 0, .slice none 0 0, .slice none 0 0]) ?_ 1 _ rfl; (with_reducible repeat (first | refine blk_drewN ?_ _ | refine blk_drew ?_ | refine blk_alloc ?_ _)); refine blk_put (cs := #[.slice none 0 0, .slice none 0 0, .slice none 0 0]) ?_ 0 _ rfl; (with_reducible repeat (first | refine blk_drewN ?_ _ | refine blk_drew ?_ | refine blk_alloc ?_ _)); exact BK548.out) Try.underlying28 rfl (by kernel_rfl)) rfl ?_
     exact ⟨_, _, _, ze, by first | exact Kd.R_nil _ _ _ _ _ | exact Kd.N_nil _ _ _ _ _ | exact Kd.V_nil _ _ _ _ _ | exact Kd.Q_nil _ _ _ _ _ | exact Kd.S_nil _ _ _ _ _, by first | exact Kd.S_nil _ _ _ _ _ | exact Kd.N_nil _ _ _ _ _ | exact Kd.V_nil _ _ _ _ _ | exact Kd.Q_nil _ _ _ _ _ | exact Kd.R_nil _ _ _ _ _, by first | exact Kd.S_nil _ _ _ _ _ | exact Kd.N_nil _ _ _ _ _ | exact Kd.V_nil _ _ _ _ _ | exact Kd.Q_nil _ _ _ _ _ | exact Kd.R_nil _ _ _ _ _, zb2 HB.out GE547.out GE548.out⟩
    ·replace c16 := Bool.eq_false_iff.mpr c16
     subst c16
     rw [if_neg (show ¬ (false = true) by decide)] at H
     replace H := Option.bind_eq_some_iff.mp H
     obtain ⟨t552, A190, H⟩ := H
     replace H : ((spec_l07Bits.f kj5 l1).bind fun t555 => ((spec_l07Numbers.f kj5 l2).bind fun t556 => ((spec_l07Chain.f kj5 t552 t555 t556).bind fun t559 => (if t559 = true then ((spec_l07Withs.f kj5 t552 t555 t556).bind fun bt560 => (if bt560.2 = true then ((spec_l06Holders.f kj5 t555 a0_0).bind fun t564 => ((spec_l07Lists.f kj5 t556 a0_0).bind fun t567 => ((spec_l07Lists.f kj5 bt560.1 a0_0).bind fun t570 => (some (t564, t567, t570, 0))))) else (some (([] : List Int), ([] : List (List Int)), ([] : List (List Int)), 8)))) else (some (([] : List Int), ([] : List (List Int)), ([] : List (List Int)), 8)))))) = some (r1, r2, r3, r4) := H
     have A19 := Aside0.mk A190
     clear A190
     replace H := Option.bind_eq_some_iff.mp H
     obtain ⟨t555, A200, H⟩ := H
     replace H : ((spec_l07Numbers.f kj5 l2).bind fun t556 => ((spec_l07Chain.f kj5 t552 t555 t556).bind fun t559 => (if t559 = true then ((spec_l07Withs.f kj5 t552 t555 t556).bind fun bt560 => (if bt560.2 = true then ((spec_l06Holders.f kj5 t555 a0_0).bind fun t564 => ((spec_l07Lists.f kj5 t556 a0_0).bind fun t567 => ((spec_l07Lists.f kj5 bt560.1 a0_0).bind fun t570 => (some (t564, t567, t570, 0))))) else (some (([] : List Int), ([] : List (List Int)), ([] : List (List Int)), 8)))) else (some (([] : List Int), ([] : List (List Int)), ([] : List (List Int)), 8))))) = some (r1, r2, r3, r4) := H
     have A20 := Aside0.mk A200
     clear A200
     replace H := Option.bind_eq_some_iff.mp H
     obtain ⟨t556, A210, H⟩ := H
     replace H : ((spec_l07Chain.f kj5 t552 t555 t556).bind fun t559 => (if t559 = true then ((spec_l07Withs.f kj5 t552 t555 t556).bind fun bt560 => (if bt560.2 = true then ((spec_l06Holders.f kj5 t555 a0_0).bind fun t564 => ((spec_l07Lists.f kj5 t556 a0_0).bind fun t567 => ((spec_l07Lists.f kj5 bt560.1 a0_0).bind fun t570 => (some (t564, t567, t570, 0))))) else (some (([] : List Int), ([] : List (List Int)), ([] : List (List Int)), 8)))) else (some (([] : List Int), ([] : List (List Int)), ([] : List (List Int)), 8)))) = some (r1, r2, r3, r4) := H
     have A21 := Aside0.mk A210
     clear A210
     replace H := Option.bind_eq_some_iff.mp H
     obtain ⟨t559, A220, H⟩ := H
     replace H : (if t559 = true then ((spec_l07Withs.f kj5 t552 t555 t556).bind fun bt560 => (if bt560.2 = true then ((spec_l06Holders.f kj5 t555 a0_0).bind fun t564 => ((spec_l07Lists.f kj5 t556 a0_0).bind fun t567 => ((spec_l07Lists.f kj5 bt560.1 a0_0).bind fun t570 => (some (t564, t567, t570, 0))))) else (some (([] : List Int), ([] : List (List Int)), ([] : List (List Int)), 8)))) else (some (([] : List Int), ([] : List (List Int)), ([] : List (List Int)), 8))) = some (r1, r2, r3, r4) := H
     have A22 := Aside0.mk A220
     clear A220
     by_cases c23 : t559 = true
     ·subst c23
      rw [if_pos rfl] at H
      replace H := Option.bind_eq_some_iff.mp H
      obtain ⟨⟨t560, t561⟩, A240, H⟩ := H
      replace H : (if t561 = true then ((spec_l06Holders.f kj5 t555 a0_0).bind fun t564 => ((spec_l07Lists.f kj5 t556 a0_0).bind fun t567 => ((spec_l07Lists.f kj5 t560 a0_0).bind fun t570 => (some (t564, t567, t570, 0))))) else (some (([] : List Int), ([] : List (List Int)), ([] : List (List Int)), 8))) = some (r1, r2, r3, r4) := H
      have A24 := Aside0.mk A240
      clear A240
      by_cases c25 : t561 = true
      ·subst c25
       rw [if_pos rfl] at H
       replace H := Option.bind_eq_some_iff.mp H
       obtain ⟨t564, A260, H⟩ := H
       replace H : ((spec_l07Lists.f kj5 t556 a0_0).bind fun t567 => ((spec_l07Lists.f kj5 t560 a0_0).bind fun t570 => (some (t564, t567, t570, 0)))) = some (r1, r2, r3, r4) := H
       have A26 := Aside0.mk A260
       clear A260
       replace H := Option.bind_eq_some_iff.mp H
       obtain ⟨t567, A270, H⟩ := H
       replace H : ((spec_l07Lists.f kj5 t560 a0_0).bind fun t570 => (some (t564, t567, t570, 0))) = some (r1, r2, r3, r4) := H
       have A27 := Aside0.mk A270
       clear A270
       replace H := Option.bind_eq_some_iff.mp H
       obtain ⟨t570, A280, H⟩ := H
       replace H : (some (t564, t567, t570, 0)) = some (r1, r2, r3, r4) := H
       have A28 := Aside0.mk A280
       clear A280
       simp only [Option.some.injEq, Prod.mk.injEq] at H
       obtain ⟨rfl, rfl, rfl, rfl⟩ := H
       try go_wp2_with (first | ((with_reducible refine gate_callee (f := 67) rfl ?_); refine goesL_ (some 28) rfl rfl Try.func67 (by kernel_rfl) rfl #[.pointer (some ⟨gb547, 0, none⟩)] rfl zl ?_; (with_reducible refine (spec_l07Open.calls kj5 gb547 a0_0 A0_1 c0_1 l0_1 t552 _ ?side1 ?side2 ?side3 A19.out).mono ?_); (case side1 => (with_reducible repeat (first | refine blk_drewN ?_ _ | refine blk_drew ?_ | refine blk_alloc ?_ _)); exact BK547.out); (case side2 => exact zc (Kd.C_below HR0_1.out HB.out)); (case side3 => exact HC0_1.out); rintro e w29 ⟨v553, rfl, ho0, hb⟩; refine ⟨_, rfl, ?_⟩; have n0_ := Aside0.mk (Kd.R_lower ho0 (below_size (zb2 HB.out GE547.out GE548.out))); have n1_ := Aside0.mk (blk_below (g := gb547) (o := .cells #[.int .i64 a0_0, .slice A0_1 l0_1.length c0_1] 31 (0, 0)) (zk BK547.out) hb); have n2_ := Aside0.mk (blk_below (g := gb548) (o := .cells #[.slice none 0 0, .slice none 0 0, .slice none 0 0] 28 (0, 0)) (zk BK548.out) hb); have n3_ := Aside0.mk (below_step (zb2 HB.out GE547.out GE548.out) hb); clear BK547; clear BK548; clear HB; have HO554 := n0_; have BK547 := n1_; have BK548 := n2_; have HB := n3_; clear n0_ n1_ n2_ n3_; (try clear hb); (try clear hb2); (try clear hk); (try clear hi); (try clear ho0)) | ((with_reducible refine gate_callee (f := 83) rfl ?_); refine goesL_ (some 30) rfl rfl Try.func83 (by kernel_rfl) rfl #[.slice A1 l1.length c1] rfl zl ?_; (with_reducible refine (spec_l07Bits.calls kj5 _ _ l1 t555 _ ?side1 ?side2 A20.out).mono ?_); (case side1 => exact zc (Kd.C_below HR1.out HB.out)); (case side2 => exact HC1.out); rintro e w' ⟨rfl, ⟨nd, rfl⟩⟩; refine ⟨_, rfl, ?_⟩; (try (rw [drewN_self w29]; generalize hq_ : World.drewN w29 _ = w29; have n0_ : Aside0 (Kd.R Kd.bool 4 w29 w.heap.size (fun _ => True) v553 t552) := ⟨by rw [← hq_]; exact (zr HO554.out)⟩; have n1_ : Aside0 (w29.heap[gb547]? = some (.cells #[.int .i64 a0_0, .slice A0_1 l0_1.length c0_1] 31 (0, 0))) := ⟨by rw [← hq_]; exact (zk BK547.out)⟩; have n2_ : Aside0 (w29.heap[gb548]? = some (.cells #[.slice none 0 0, .slice none 0 0, .slice none 0 0] 28 (0, 0))) := ⟨by rw [← hq_]; exact (zk BK548.out)⟩; have n3_ : Aside0 (Below w.heap.size w w29) := ⟨by rw [← hq_]; exact (zb2 HB.out GE547.out GE548.out)⟩; clear HO554 BK547 BK548 HB hq_; have HO554 := n0_; have BK547 := n1_; have BK548 := n2_; have HB := n3_; clear n0_ n1_ n2_ n3_))) | ((with_reducible refine gate_callee (f := 92) rfl ?_); refine goesL_ (some 32) rfl rfl Try.func92 (by kernel_rfl) rfl #[.slice A2 l2.length c2] rfl zl ?_; (with_reducible refine (spec_l07Numbers.calls kj5 _ _ l2 t556 _ ?side1 ?side2 A21.out).mono ?_); (case side1 => exact zc (Kd.C_below HR2.out HB.out)); (case side2 => exact HC2.out); rintro e w30 ⟨v557, rfl, ho0, hb⟩; refine ⟨_, rfl, ?_⟩; have n0_ := Aside0.mk (Kd.R_below (zr HO554.out) hb); have n1_ := Aside0.mk (Kd.R_lower ho0 (below_size (zb2 HB.out GE547.out GE548.out))); have n2_ := Aside0.mk (blk_below (g := gb547) (o := .cells #[.int .i64 a0_0, .slice A0_1 l0_1.length c0_1] 31 (0, 0)) (zk BK547.out) hb); have n3_ := Aside0.mk (blk_below (g := gb548) (o := .cells #[.slice none 0 0, .slice none 0 0, .slice none 0 0] 28 (0, 0)) (zk BK548.out) hb); have n4_ := Aside0.mk (below_step (zb2 HB.out GE547.out GE548.out) hb); clear HO554; clear BK547; clear BK548; clear HB; have HO554 := n0_; have HO558 := n1_; have BK547 := n2_; have BK548 := n3_; have HB := n4_; clear n0_ n1_ n2_ n3_ n4_; (try clear hb); (try clear hb2); (try clear hk); (try clear hi); (try clear ho0); obtain ⟨Ao31, co31, eo31⟩ := Kd.R_slice HO554.out; subst eo31; obtain ⟨Ao32, co32, eo32⟩ := Kd.R_slice HO558.out; subst eo32) | ((with_reducible refine gate_callee (f := 93) rfl ?_); refine goesL_ (some 36) rfl rfl Try.func93 (by kernel_rfl) rfl #[.slice Ao31 t552.length co31, .int .i64 t555, .slice Ao32 t556.length co32] rfl zl ?_; (with_reducible refine (spec_l07Chain.calls kj5 _ _ t552 t555 _ _ t556 true _ ?side1 ?side2 ?side3 ?side4 A22.out).mono ?_); (case side1 => repeat (first | exact (Kd.R_reads' HO554.out).2.2 | (with_reducible refine Kd.C_alloc ?_ _) | (with_reducible refine Kd.C_drewN ?_ _) | (with_reducible refine Kd.C_drew ?_))); (case side2 => exact (Kd.R_reads' HO554.out).2.1); (case side3 => repeat (first | exact (Kd.R_reads' HO558.out).2.2 | (with_reducible refine Kd.C_alloc ?_ _) | (with_reducible refine Kd.C_drewN ?_ _) | (with_reducible refine Kd.C_drew ?_))); (case side4 => exact (Kd.R_reads' HO558.out).2.1); rintro e w' ⟨rfl, ⟨nd, rfl⟩⟩; refine ⟨_, rfl, ?_⟩; (try (rw [drewN_self w30]; generalize hq_ : World.drewN w30 _ = w30; have n0_ : Aside0 (Kd.R Kd.bool 4 w30 w.heap.size (fun _ => True) (.slice Ao31 t552.length co31) t552) := ⟨by rw [← hq_]; exact (zr HO554.out)⟩; have n1_ : Aside0 (Kd.R (Kd.int .i64) 2 w30 w.heap.size (fun _ => True) (.slice Ao32 t556.length co32) t556) := ⟨by rw [← hq_]; exact (zr HO558.out)⟩; have n2_ : Aside0 (w30.heap[gb547]? = some (.cells #[.int .i64 a0_0, .slice A0_1 l0_1.length c0_1] 31 (0, 0))) := ⟨by rw [← hq_]; exact (zk BK547.out)⟩; have n3_ : Aside0 (w30.heap[gb548]? = some (.cells #[.slice none 0 0, .slice none 0 0, .slice none 0 0] 28 (0, 0))) := ⟨by rw [← hq_]; exact (zk BK548.out)⟩; have n4_ : Aside0 (Below w.heap.size w w30) := ⟨by rw [← hq_]; exact (zb2 HB.out GE547.out GE548.out)⟩; clear HO554 HO558 BK547 BK548 HB hq_; have HO554 := n0_; have HO558 := n1_; have BK547 := n2_; have BK548 := n3_; have HB := n4_; clear n0_ n1_ n2_ n3_ n4_))) | ((with_reducible refine gate_callee (f := 69) rfl ?_); refine goesL_ (some 43) rfl rfl Try.func69 (by kernel_rfl) rfl #[.slice Ao31 t552.length co31, .int .i64 t555, .slice Ao32 t556.length co32] rfl zl ?_; (with_reducible refine (spec_l07Withs.calls kj5 _ _ t552 t555 _ _ t556 t560 true _ ?side1 ?side2 ?side3 ?side4 A24.out).mono ?_); (case side1 => repeat (first | exact (Kd.R_reads' HO554.out).2.2 | (with_reducible refine Kd.C_alloc ?_ _) | (with_reducible refine Kd.C_drewN ?_ _) | (with_reducible refine Kd.C_drew ?_))); (case side2 => exact (Kd.R_reads' HO554.out).2.1); (case side3 => repeat (first | exact (Kd.R_reads' HO558.out).2.2 | (with_reducible refine Kd.C_alloc ?_ _) | (with_reducible refine Kd.C_drewN ?_ _) | (with_reducible refine Kd.C_drew ?_))); (case side4 => exact (Kd.R_reads' HO558.out).2.1); rintro e w33 ⟨v562, rfl, ho0, hb⟩; refine ⟨_, rfl, ?_⟩; have n0_ := Aside0.mk (Kd.R_below (zr HO554.out) hb); have n1_ := Aside0.mk (Kd.R_elder' (zr HO558.out) (Kd.R_base ho0) hb); have n2_ := Aside0.mk (Kd.R_lower (Kd.R_new' ho0 (Kd.R_lt (zr HO558.out))) (below_size (zb2 HB.out GE547.out GE548.out))); have n3_ := Aside0.mk (blk_below (g := gb547) (o := .cells #[.int .i64 a0_0, .slice A0_1 l0_1.length c0_1] 31 (0, 0)) (zk BK547.out) hb); have n4_ := Aside0.mk (blk_below (g := gb548) (o := .cells #[.slice none 0 0, .slice none 0 0, .slice none 0 0] 28 (0, 0)) (zk BK548.out) hb); have n5_ := Aside0.mk (below_step (zb2 HB.out GE547.out GE548.out) hb); clear HO554; clear HO558; clear BK547; clear BK548; clear HB; have HO554 := n0_; have HO558 := n1_; have HO563 := n2_; have BK547 := n3_; have BK548 := n4_; have HB := n5_; clear n0_ n1_ n2_ n3_ n4_ n5_; (try clear hb); (try clear hb2); (try clear hk); (try clear hi); (try clear ho0)))
       have n0_ := Aside0.mk (Kd.R_drew HO554.out)
       have n1_ := Aside0.mk (Kd.R_drew HO558.out)
       have n2_ := Aside0.mk (Kd.R_drew HO563.out)
       have n3_ := Aside0.mk (blk_drew BK547.out)
       have n4_ := Aside0.mk (blk_drew BK548.out)
       have n5_ := Aside0.mk (below_drew1 HB.out)
       clear HO554
       clear HO558
       clear HO563
       clear BK547
       clear BK548
       clear HB
       have HO554 := n0_
       have HO558 := n1_
       have HO563 := n2_
       have BK547 := n3_
       have BK548 := n4_
       have HB := n5_
       clear n0_ n1_ n2_ n3_ n4_ n5_
       refine start_ (n := 15) (S := fun w' => w'.cell? ⟨gb547, 0, none⟩ = some (.int .i64 a0_0) ∧ w'.cell? ⟨gb547, 1, none⟩ = some (.slice A0_1 l0_1.length c0_1)) (ds := []) #[false,false,false,false,false,false,false,false,false,false,false,false,false,false,false] (by kernel_rfl) rfl rfl ⟨(blk_cell BK547.out 0).trans rfl, (blk_cell BK547.out 1).trans rfl⟩ (fun hHeld => ?_); refine with_tabW spec_SequenceFor.tab14 spec_SequenceFor.bits14 (fun HT_ HW_ => ?_)
       generalize w33.drew = w34 at HO554 HO558 HO563 BK547 BK548 HB hHeld ⊢
       refine pure_ (i := 0) (N := some 49) (v := ?_) (a' := ?_) #[true,false,false,false,false,false,false,false,false,false,false,false,false,false,false] rfl rfl (any_of HT_.out (by kernel_rfl)) (fun _ _ _ h => h) (Or.inl ⟨by rfl, ?_⟩) ?_ ?_
       rotate_left
       ·exact zw
       rotate_left
       ·exact zp
       refine pure_ (i := 1) (N := some 50) (v := ?_) (a' := ?_) #[true,true,false,false,false,false,false,false,false,false,false,false,false,false,false] rfl rfl (any_of HT_.out (by kernel_rfl)) (fun _ _ _ h => h) (Or.inl ⟨by rfl, ?_⟩) ?_ ?_
       rotate_left
       ·exact zw
       rotate_left
       ·exact zp
       refine pure_ (i := 4) (N := some 53) (v := ?_) (a' := ?_) #[true,true,false,false,true,false,false,false,false,false,false,false,false,false,false] rfl rfl (any_of HT_.out (by kernel_rfl)) (fun _ _ _ h => h) (Or.inl ⟨by rfl, ?_⟩) ?_ ?_
       rotate_left
       ·exact zw
       rotate_left
       ·exact zp
       refine pure_ (i := 5) (N := some 54) (v := ?_) (a' := ?_) #[true,true,false,false,true,true,false,false,false,false,false,false,false,false,false] rfl rfl (any_of HT_.out (by kernel_rfl)) (fun _ _ _ h => h) (Or.inl ⟨by rfl, ?_⟩) ?_ ?_
       rotate_left
       ·exact zw
       rotate_left
       ·exact zp
       refine pure_ (i := 8) (N := some 57) (v := ?_) (a' := ?_) #[true,true,false,false,true,true,false,false,true,false,false,false,false,false,false] rfl rfl (any_of HT_.out (by kernel_rfl)) (fun _ _ _ h => h) (Or.inl ⟨by rfl, ?_⟩) ?_ ?_
       rotate_left
       ·exact zw
       rotate_left
       ·exact zp
       refine pure_ (i := 9) (N := some 58) (v := ?_) (a' := ?_) #[true,true,false,false,true,true,false,false,true,true,false,false,false,false,false] rfl rfl (any_of HT_.out (by kernel_rfl)) (fun _ _ _ h => h) (Or.inl ⟨by rfl, ?_⟩) ?_ ?_
       rotate_left
       ·exact zw
       rotate_left
       ·exact zp
       refine take_ (i := 2) (N := some 51) (v := ?_) (a' := ?_) #[true,true,true,false,true,true,false,false,true,true,false,false,false,false,false] rfl rfl (take_ofW HT_.out HW_.out (by kernel_rfl)) (fun _ _ _ h => h) (Or.inl ⟨by rfl, ?_⟩) hHeld ?_ ?_
       rotate_left
       ·rintro w' ⟨s0, s1⟩
        go_simp
        with_reducible rfl
       rotate_left
       ·exact zp
       refine take_ (i := 6) (N := some 55) (v := ?_) (a' := ?_) #[true,true,true,false,true,true,true,false,true,true,false,false,false,false,false] rfl rfl (take_ofW HT_.out HW_.out (by kernel_rfl)) (fun _ _ _ h => h) (Or.inl ⟨by rfl, ?_⟩) hHeld ?_ ?_
       rotate_left
       ·rintro w' ⟨s0, s1⟩
        go_simp
        with_reducible rfl
       rotate_left
       ·exact zp
       refine take_ (i := 10) (N := some 59) (v := ?_) (a' := ?_) #[true,true,true,false,true,true,true,false,true,true,true,false,false,false,false] rfl rfl (take_ofW HT_.out HW_.out (by kernel_rfl)) (fun _ _ _ h => h) (Or.inl ⟨by rfl, ?_⟩) hHeld ?_ ?_
       rotate_left
       ·rintro w' ⟨s0, s1⟩
        go_simp
        with_reducible rfl
       rotate_left
       ·exact zp
       refine one_ (i := 3) (N := some 52) #[true,true,true,true,true,true,true,false,true,true,true,false,false,false,false] rfl rfl (one_of HT_.out (by kernel_rfl)) (by decide) (fun K hK => ?_)
       refine goes_ Try.func70 (by kernel_rfl) rfl #[.int .i64 t555, .int .i64 a0_0] (by rfl) rfl rfl zl ?_
       with_reducible refine (spec_l06Holders.calls kj5 t555 a0_0 t564 _ A26.out).mono ?_
       rintro e w35 ⟨v565, rfl, ho0, hb⟩
       refine ⟨_, rfl, ?_⟩
       have n0_ := Aside0.mk (Kd.R_below (zr HO554.out) hb)
       have n1_ := Aside0.mk (Kd.R_elder' (zr HO558.out) (Kd.R_base ho0) hb)
       have n2_ := Aside0.mk (Kd.R_elder' (zr HO563.out) (Kd.R_base ho0) hb)
       have n3_ := Aside0.mk (Kd.R_lower (Kd.R_new' (Kd.R_new' ho0 (Kd.R_lt (zr HO558.out))) (Kd.R_lt (zr HO563.out))) (below_size (zb2 HB.out GE547.out GE548.out)))
       have n4_ := Aside0.mk (blk_below (g := gb547) (o := .cells #[.int .i64 a0_0, .slice A0_1 l0_1.length c0_1] 31 (0, 0)) (zk BK547.out) hb)
       have n5_ := Aside0.mk (blk_below (g := gb548) (o := .cells #[.slice none 0 0, .slice none 0 0, .slice none 0 0] 28 (0, 0)) (zk BK548.out) hb)
       have n6_ := Aside0.mk (below_step (zb2 HB.out GE547.out GE548.out) hb)
       clear HO554
       clear HO558
       clear HO563
       clear BK547
       clear BK548
       clear HB
       have HO554 := n0_
       have HO558 := n1_
       have HO563 := n2_
       have HO566 := n3_
       have BK547 := n4_
       have BK548 := n5_
       have HB := n6_
       clear n0_ n1_ n2_ n3_ n4_ n5_ n6_
       (try clear hb)
       (try clear hb2)
       (try clear hk)
       (try clear hi)
       (try clear ho0)
       refine hK.out _ _ ⟨(blk_cell BK547.out 0).trans rfl, (blk_cell BK547.out 1).trans rfl⟩ (fun hHeld => ?_)
       clear hK K
       refine norm_ (a' := ?_) ?_ ?_
       rotate_left
       ·show Act.put _ (some 52) _ = _
        simp only [Act.put, List.setIfInBounds_toArray, List.set_cons_zero, List.set_cons_succ, i64_w, i32_w]
        rfl
       refine one_ (i := 7) (N := some 56) #[true,true,true,true,true,true,true,true,true,true,true,false,false,false,false] rfl rfl (one_of HT_.out (by kernel_rfl)) (by decide) (fun K hK => ?_)
       refine goes_ Try.func71 (by kernel_rfl) rfl #[.slice Ao32 t556.length co32, .int .i64 a0_0] (by rfl) rfl rfl zl ?_
       with_reducible refine (spec_l07Lists.calls kj5 _ _ t556 a0_0 t567 _ ?side1 ?side2 A27.out).mono ?_
       (case side1 => repeat (first | exact (Kd.R_reads' HO558.out).2.2 | (with_reducible refine Kd.C_alloc ?_ _) | (with_reducible refine Kd.C_drewN ?_ _) | (with_reducible refine Kd.C_drew ?_)))
       (case side2 => exact (Kd.R_reads' HO558.out).2.1)
       rintro e w36 ⟨v568, rfl, ho0, hb⟩
       refine ⟨_, rfl, ?_⟩
       have n0_ := Aside0.mk (Kd.R_below (zr HO554.out) hb)
       have n1_ := Aside0.mk (Kd.R_below (zr HO558.out) hb)
       have n2_ := Aside0.mk (Kd.R_below (zr HO563.out) hb)
       have n3_ := Aside0.mk (Kd.R_below (zr HO566.out) hb)
       have n4_ := Aside0.mk (Kd.S_lower (Kd.S_new' (Kd.S_new' (Kd.S_new' ho0 (Kd.R_lt (zr HO558.out))) (Kd.R_lt (zr HO563.out))) (Kd.R_lt (zr HO566.out))) (below_size (zb2 HB.out GE547.out GE548.out)))
       have n5_ := Aside0.mk (blk_below (g := gb547) (o := .cells #[.int .i64 a0_0, .slice A0_1 l0_1.length c0_1] 31 (0, 0)) (zk BK547.out) hb)
       have n6_ := Aside0.mk (blk_below (g := gb548) (o := .cells #[.slice none 0 0, .slice none 0 0, .slice none 0 0] 28 (0, 0)) (zk BK548.out) hb)
       have n7_ := Aside0.mk (below_step (zb2 HB.out GE547.out GE548.out) hb)
       clear HO554
       clear HO558
       clear HO563
       clear HO566
       clear BK547
       clear BK548
       clear HB
       have HO554 := n0_
       have HO558 := n1_
       have HO563 := n2_
       have HO566 := n3_
       have HO569 := n4_
       have BK547 := n5_
       have BK548 := n6_
       have HB := n7_
       clear n0_ n1_ n2_ n3_ n4_ n5_ n6_ n7_
       (try clear hb)
       (try clear hb2)
       (try clear hk)
       (try clear hi)
       (try clear ho0)
       obtain ⟨Ao37, co37, eo37⟩ := Kd.R_slice HO563.out
       (first | subst eo37 | (injection eo37 with f1_ f2_ f3_; have f4_ := f1_.symm; have f5_ := f3_.symm; clear f1_ f2_ f3_; subst f4_; subst f5_))
       refine hK.out _ _ ⟨(blk_cell BK547.out 0).trans rfl, (blk_cell BK547.out 1).trans rfl⟩ (fun hHeld => ?_)
       clear hK K
       refine norm_ (a' := ?_) ?_ ?_
       rotate_left
       ·show Act.put _ (some 56) _ = _
        simp only [Act.put, List.setIfInBounds_toArray, List.set_cons_zero, List.set_cons_succ, i64_w, i32_w]
        rfl
       refine one_ (i := 11) (N := some 60) #[true,true,true,true,true,true,true,true,true,true,true,true,false,false,false] rfl rfl (one_of HT_.out (by kernel_rfl)) (by decide) (fun K hK => ?_)
       refine goes_ Try.func71 (by kernel_rfl) rfl #[.slice Ao37 t560.length co37, .int .i64 a0_0] (by rfl) rfl rfl zl ?_
       with_reducible refine (spec_l07Lists.calls kj5 _ _ t560 a0_0 t570 _ ?side1 ?side2 A28.out).mono ?_
       (case side1 => repeat (first | exact (Kd.R_reads' HO563.out).2.2 | (with_reducible refine Kd.C_alloc ?_ _) | (with_reducible refine Kd.C_drewN ?_ _) | (with_reducible refine Kd.C_drew ?_)))
       (case side2 => exact (Kd.R_reads' HO563.out).2.1)
       rintro e w38 ⟨v571, rfl, ho0, hb⟩
       refine ⟨_, rfl, ?_⟩
       have n0_ := Aside0.mk (Kd.R_below (zr HO554.out) hb)
       have n1_ := Aside0.mk (Kd.R_below (zr HO558.out) hb)
       have n2_ := Aside0.mk (Kd.R_below (zr HO563.out) hb)
       have n3_ := Aside0.mk (Kd.R_below (zr HO566.out) hb)
       have n4_ := Aside0.mk (Kd.S_elder' (zs HO569.out) (Kd.S_base ho0) hb)
       have n5_ := Aside0.mk (Kd.S_lower (Kd.S_new' (Kd.S_new' (Kd.S_new' (Kd.S_new' ho0 (Kd.R_lt (zr HO558.out))) (Kd.R_lt (zr HO563.out))) (Kd.R_lt (zr HO566.out))) (Kd.S_lt (zs HO569.out))) (below_size (zb2 HB.out GE547.out GE548.out)))
       have n6_ := Aside0.mk (blk_below (g := gb547) (o := .cells #[.int .i64 a0_0, .slice A0_1 l0_1.length c0_1] 31 (0, 0)) (zk BK547.out) hb)
       have n7_ := Aside0.mk (blk_below (g := gb548) (o := .cells #[.slice none 0 0, .slice none 0 0, .slice none 0 0] 28 (0, 0)) (zk BK548.out) hb)
       have n8_ := Aside0.mk (below_step (zb2 HB.out GE547.out GE548.out) hb)
       clear HO554
       clear HO558
       clear HO563
       clear HO566
       clear HO569
       clear BK547
       clear BK548
       clear HB
       have HO554 := n0_
       have HO558 := n1_
       have HO563 := n2_
       have HO566 := n3_
       have HO569 := n4_
       have HO572 := n5_
       have BK547 := n6_
       have BK548 := n7_
       have HB := n8_
       clear n0_ n1_ n2_ n3_ n4_ n5_ n6_ n7_ n8_
       (try clear hb)
       (try clear hb2)
       (try clear hk)
       (try clear hi)
       (try clear ho0)
       obtain ⟨Ao39, co39, eo39⟩ := Kd.S_slice HO572.out
       (first | subst eo39 | (injection eo39 with f1_ f2_ f3_; have f4_ := f1_.symm; have f5_ := f3_.symm; clear f1_ f2_ f3_; subst f4_; subst f5_))
       obtain ⟨Ao40, co40, eo40⟩ := Kd.S_slice HO569.out
       (first | subst eo40 | (injection eo40 with f1_ f2_ f3_; have f4_ := f1_.symm; have f5_ := f3_.symm; clear f1_ f2_ f3_; subst f4_; subst f5_))
       obtain ⟨Ao41, co41, eo41⟩ := Kd.R_slice HO566.out
       (first | subst eo41 | (injection eo41 with f1_ f2_ f3_; have f4_ := f1_.symm; have f5_ := f3_.symm; clear f1_ f2_ f3_; subst f4_; subst f5_))
       refine hK.out _ _ ⟨(blk_cell BK547.out 0).trans rfl, (blk_cell BK547.out 1).trans rfl⟩ (fun hHeld => ?_)
       clear hK K
       refine norm_ (a' := ?_) ?_ ?_
       rotate_left
       ·show Act.put _ (some 60) _ = _
        simp only [Act.put, List.setIfInBounds_toArray, List.set_cons_zero, List.set_cons_succ, i64_w, i32_w]
        rfl
       refine pure_ (i := 12) (N := some 61) (v := ?_) (a' := ?_) #[true,true,true,true,true,true,true,true,true,true,true,true,true,false,false] rfl rfl (any_of HT_.out (by kernel_rfl)) (fun _ _ _ h => h) (Or.inl ⟨by rfl, ?_⟩) ?_ ?_
       rotate_left
       ·exact zw
       rotate_left
       ·exact zp
       refine one_ (i := 13) (N := none) #[true,true,true,true,true,true,true,true,true,true,true,true,true,true,false] rfl rfl (one_of HT_.out (by kernel_rfl)) (by decide) (fun K hK => ?_)
       have hs42 : w38.cell? ⟨gb548, 0, none⟩ = some (.slice none 0 0) := (blk_cell BK548.out 0).trans rfl
       have hfs42 := blk_frozen BK548.out 0
       have hns42_0 := NB547_548.out
       have hms42_0 := NB548_547.out
       have hs43 : w38.cell? ⟨gb548, 1, none⟩ = some (.slice none 0 0) := (blk_cell BK548.out 1).trans rfl
       have hfs43 := blk_frozen BK548.out 1
       have hns43_0 := NB547_548.out
       have hms43_0 := NB548_547.out
       have hs44 : w38.cell? ⟨gb548, 2, none⟩ = some (.slice none 0 0) := (blk_cell BK548.out 2).trans rfl
       have hfs44 := blk_frozen BK548.out 2
       have hns44_0 := NB547_548.out
       have hms44_0 := NB548_547.out
       refine skip_ (w1 := ?_) (by rfl) rfl ?_ ?_
       rotate_left
       ·go_simp
        rfl
       refine hK.out _ _ ⟨((cell_far (p := ⟨gb548, _, none⟩) NB547_548.out _).trans (((cell_far (p := ⟨gb548, _, none⟩) NB547_548.out _).trans (((cell_far (p := ⟨gb548, _, none⟩) NB547_548.out _).trans (hHeld.1)))))), ((cell_far (p := ⟨gb548, _, none⟩) NB547_548.out _).trans (((cell_far (p := ⟨gb548, _, none⟩) NB547_548.out _).trans (((cell_far (p := ⟨gb548, _, none⟩) NB547_548.out _).trans (hHeld.2))))))⟩ (fun hHeld => ?_)
       clear hK K
       refine pure_ (i := 14) (N := some 7) (v := ?_) (a' := ?_) #[true,true,true,true,true,true,true,true,true,true,true,true,true,true,true] rfl rfl (any_of HT_.out (by kernel_rfl)) (fun _ _ _ h => h) (Or.inl ⟨by rfl, ?_⟩) ?_ ?_
       rotate_left
       ·exact zw
       rotate_left
       ·exact zp
       refine done_ (done_of HT_.out (by kernel_rfl)) ?_
       try go_wp2
       refine bodyPost_ret (results_ct rfl _ _ gb548 28 #[.slice Ao41 t564.length co41, .slice Ao40 t567.length co40, .slice Ao39 t570.length co39] (0, 0) _ rfl (by (with_reducible repeat (first | refine blk_drewN ?_ _ | refine blk_drew ?_ | refine blk_alloc ?_ _)); refine blk_put (cs := #[.slice Ao41 t564.length co41, .slice Ao40 t567.length co40, .slice none 0 0]) ?_ 2 _ rfl; (with_reducible repeat (first | refine blk_drewN ?_ _ | refine blk_drew ?_ | refine blk_alloc ?_ _)); refine blk_put (cs := #[.slice Ao41 t564.length co41, .slice none 0 0, .slice none 0 0]) ?_ 1 _ rfl; (with_reducible repeat (first | refine blk_drewN ?_ _ | refine blk_drew ?_ | refine blk_alloc ?_ _)); refine blk_put (cs := #[.slice none 0 0, .slice none 0 0, .slice none 0 0]) ?_ 0 _ rfl; (with_reducible repeat (first | refine blk_drewN ?_ _ | refine blk_drew ?_ | refine blk_alloc ?_ _)); exact BK548.out) Try.underlying28 rfl (by kernel_rfl)) rfl ?_
       exact ⟨_, _, _, ze, by (with_reducible repeat (first | apply Kd.R_alloc | apply Kd.R_drewN | apply Kd.R_drew)); exact Kd.R_mono (Kd.R_far (p := ⟨gb548, 2, none⟩) (Kd.R_far (p := ⟨gb548, 1, none⟩) (Kd.R_far (p := ⟨gb548, 0, none⟩) (Kd.R_types HO566.out BK548.out (by decide)) (fun _ hk => hk.2) (.slice Ao41 t564.length co41)) (fun _ hk => hk.2) (.slice Ao40 t567.length co40)) (fun _ hk => hk.2) (.slice Ao39 t570.length co39)) (fun _ hk => trivial), by (with_reducible repeat (first | apply Kd.S_alloc | apply Kd.S_drewN | apply Kd.S_drew)); exact Kd.S_mono (Kd.S_far (p := ⟨gb548, 2, none⟩) (Kd.S_far (p := ⟨gb548, 1, none⟩) (Kd.S_far (p := ⟨gb548, 0, none⟩) (Kd.S_types HO569.out BK548.out (by decide)) (fun _ hk => hk.2) (.slice Ao41 t564.length co41)) (fun _ hk => hk.2) (.slice Ao40 t567.length co40)) (fun _ hk => hk.2) (.slice Ao39 t570.length co39)) (fun _ hk => ⟨hk.1.1.2, hk.1.2⟩), by (with_reducible repeat (first | apply Kd.S_alloc | apply Kd.S_drewN | apply Kd.S_drew)); exact Kd.S_mono (Kd.S_far (p := ⟨gb548, 2, none⟩) (Kd.S_far (p := ⟨gb548, 1, none⟩) (Kd.S_far (p := ⟨gb548, 0, none⟩) (Kd.S_types HO572.out BK548.out (by decide)) (fun _ hk => hk.2) (.slice Ao41 t564.length co41)) (fun _ hk => hk.2) (.slice Ao40 t567.length co40)) (fun _ hk => hk.2) (.slice Ao39 t570.length co39)) (fun _ hk => ⟨hk.1.1.2, hk.1.2⟩), zb2 HB.out GE547.out GE548.out⟩
      ·replace c25 := Bool.eq_false_iff.mpr c25
       subst c25
       rw [if_neg (show ¬ (false = true) by decide)] at H
       simp only [Option.some.injEq, Prod.mk.injEq] at H
       obtain ⟨rfl, rfl, rfl, rfl⟩ := H
       go_wp2_with (first | ((with_reducible refine gate_callee (f := 67) rfl ?_); refine goesL_ (some 28) rfl rfl Try.func67 (by kernel_rfl) rfl #[.pointer (some ⟨gb547, 0, none⟩)] rfl zl ?_; (with_reducible refine (spec_l07Open.calls kj5 gb547 a0_0 A0_1 c0_1 l0_1 t552 _ ?side1 ?side2 ?side3 A19.out).mono ?_); (case side1 => (with_reducible repeat (first | refine blk_drewN ?_ _ | refine blk_drew ?_ | refine blk_alloc ?_ _)); exact BK547.out); (case side2 => exact zc (Kd.C_below HR0_1.out HB.out)); (case side3 => exact HC0_1.out); rintro e w45 ⟨v553, rfl, ho0, hb⟩; refine ⟨_, rfl, ?_⟩; have n0_ := Aside0.mk (Kd.R_lower ho0 (below_size (zb2 HB.out GE547.out GE548.out))); have n1_ := Aside0.mk (blk_below (g := gb547) (o := .cells #[.int .i64 a0_0, .slice A0_1 l0_1.length c0_1] 31 (0, 0)) (zk BK547.out) hb); have n2_ := Aside0.mk (blk_below (g := gb548) (o := .cells #[.slice none 0 0, .slice none 0 0, .slice none 0 0] 28 (0, 0)) (zk BK548.out) hb); have n3_ := Aside0.mk (below_step (zb2 HB.out GE547.out GE548.out) hb); clear BK547; clear BK548; clear HB; have HO554 := n0_; have BK547 := n1_; have BK548 := n2_; have HB := n3_; clear n0_ n1_ n2_ n3_; (try clear hb); (try clear hb2); (try clear hk); (try clear hi); (try clear ho0)) | ((with_reducible refine gate_callee (f := 83) rfl ?_); refine goesL_ (some 30) rfl rfl Try.func83 (by kernel_rfl) rfl #[.slice A1 l1.length c1] rfl zl ?_; (with_reducible refine (spec_l07Bits.calls kj5 _ _ l1 t555 _ ?side1 ?side2 A20.out).mono ?_); (case side1 => exact zc (Kd.C_below HR1.out HB.out)); (case side2 => exact HC1.out); rintro e w' ⟨rfl, ⟨nd, rfl⟩⟩; refine ⟨_, rfl, ?_⟩; (try (rw [drewN_self w45]; generalize hq_ : World.drewN w45 _ = w45; have n0_ : Aside0 (Kd.R Kd.bool 4 w45 w.heap.size (fun _ => True) v553 t552) := ⟨by rw [← hq_]; exact (zr HO554.out)⟩; have n1_ : Aside0 (w45.heap[gb547]? = some (.cells #[.int .i64 a0_0, .slice A0_1 l0_1.length c0_1] 31 (0, 0))) := ⟨by rw [← hq_]; exact (zk BK547.out)⟩; have n2_ : Aside0 (w45.heap[gb548]? = some (.cells #[.slice none 0 0, .slice none 0 0, .slice none 0 0] 28 (0, 0))) := ⟨by rw [← hq_]; exact (zk BK548.out)⟩; have n3_ : Aside0 (Below w.heap.size w w45) := ⟨by rw [← hq_]; exact (zb2 HB.out GE547.out GE548.out)⟩; clear HO554 BK547 BK548 HB hq_; have HO554 := n0_; have BK547 := n1_; have BK548 := n2_; have HB := n3_; clear n0_ n1_ n2_ n3_))) | ((with_reducible refine gate_callee (f := 92) rfl ?_); refine goesL_ (some 32) rfl rfl Try.func92 (by kernel_rfl) rfl #[.slice A2 l2.length c2] rfl zl ?_; (with_reducible refine (spec_l07Numbers.calls kj5 _ _ l2 t556 _ ?side1 ?side2 A21.out).mono ?_); (case side1 => exact zc (Kd.C_below HR2.out HB.out)); (case side2 => exact HC2.out); rintro e w46 ⟨v557, rfl, ho0, hb⟩; refine ⟨_, rfl, ?_⟩; have n0_ := Aside0.mk (Kd.R_below (zr HO554.out) hb); have n1_ := Aside0.mk (Kd.R_lower ho0 (below_size (zb2 HB.out GE547.out GE548.out))); have n2_ := Aside0.mk (blk_below (g := gb547) (o := .cells #[.int .i64 a0_0, .slice A0_1 l0_1.length c0_1] 31 (0, 0)) (zk BK547.out) hb); have n3_ := Aside0.mk (blk_below (g := gb548) (o := .cells #[.slice none 0 0, .slice none 0 0, .slice none 0 0] 28 (0, 0)) (zk BK548.out) hb); have n4_ := Aside0.mk (below_step (zb2 HB.out GE547.out GE548.out) hb); clear HO554; clear BK547; clear BK548; clear HB; have HO554 := n0_; have HO558 := n1_; have BK547 := n2_; have BK548 := n3_; have HB := n4_; clear n0_ n1_ n2_ n3_ n4_; (try clear hb); (try clear hb2); (try clear hk); (try clear hi); (try clear ho0); obtain ⟨Ao47, co47, eo47⟩ := Kd.R_slice HO554.out; subst eo47; obtain ⟨Ao48, co48, eo48⟩ := Kd.R_slice HO558.out; subst eo48) | ((with_reducible refine gate_callee (f := 93) rfl ?_); refine goesL_ (some 36) rfl rfl Try.func93 (by kernel_rfl) rfl #[.slice Ao47 t552.length co47, .int .i64 t555, .slice Ao48 t556.length co48] rfl zl ?_; (with_reducible refine (spec_l07Chain.calls kj5 _ _ t552 t555 _ _ t556 true _ ?side1 ?side2 ?side3 ?side4 A22.out).mono ?_); (case side1 => repeat (first | exact (Kd.R_reads' HO554.out).2.2 | (with_reducible refine Kd.C_alloc ?_ _) | (with_reducible refine Kd.C_drewN ?_ _) | (with_reducible refine Kd.C_drew ?_))); (case side2 => exact (Kd.R_reads' HO554.out).2.1); (case side3 => repeat (first | exact (Kd.R_reads' HO558.out).2.2 | (with_reducible refine Kd.C_alloc ?_ _) | (with_reducible refine Kd.C_drewN ?_ _) | (with_reducible refine Kd.C_drew ?_))); (case side4 => exact (Kd.R_reads' HO558.out).2.1); rintro e w' ⟨rfl, ⟨nd, rfl⟩⟩; refine ⟨_, rfl, ?_⟩; (try (rw [drewN_self w46]; generalize hq_ : World.drewN w46 _ = w46; have n0_ : Aside0 (Kd.R Kd.bool 4 w46 w.heap.size (fun _ => True) (.slice Ao47 t552.length co47) t552) := ⟨by rw [← hq_]; exact (zr HO554.out)⟩; have n1_ : Aside0 (Kd.R (Kd.int .i64) 2 w46 w.heap.size (fun _ => True) (.slice Ao48 t556.length co48) t556) := ⟨by rw [← hq_]; exact (zr HO558.out)⟩; have n2_ : Aside0 (w46.heap[gb547]? = some (.cells #[.int .i64 a0_0, .slice A0_1 l0_1.length c0_1] 31 (0, 0))) := ⟨by rw [← hq_]; exact (zk BK547.out)⟩; have n3_ : Aside0 (w46.heap[gb548]? = some (.cells #[.slice none 0 0, .slice none 0 0, .slice none 0 0] 28 (0, 0))) := ⟨by rw [← hq_]; exact (zk BK548.out)⟩; have n4_ : Aside0 (Below w.heap.size w w46) := ⟨by rw [← hq_]; exact (zb2 HB.out GE547.out GE548.out)⟩; clear HO554 HO558 BK547 BK548 HB hq_; have HO554 := n0_; have HO558 := n1_; have BK547 := n2_; have BK548 := n3_; have HB := n4_; clear n0_ n1_ n2_ n3_ n4_))) | ((with_reducible refine gate_callee (f := 69) rfl ?_); refine goesL_ (some 43) rfl rfl Try.func69 (by kernel_rfl) rfl #[.slice Ao47 t552.length co47, .int .i64 t555, .slice Ao48 t556.length co48] rfl zl ?_; (with_reducible refine (spec_l07Withs.calls kj5 _ _ t552 t555 _ _ t556 t560 false _ ?side1 ?side2 ?side3 ?side4 A24.out).mono ?_); (case side1 => repeat (first | exact (Kd.R_reads' HO554.out).2.2 | (with_reducible refine Kd.C_alloc ?_ _) | (with_reducible refine Kd.C_drewN ?_ _) | (with_reducible refine Kd.C_drew ?_))); (case side2 => exact (Kd.R_reads' HO554.out).2.1); (case side3 => repeat (first | exact (Kd.R_reads' HO558.out).2.2 | (with_reducible refine Kd.C_alloc ?_ _) | (with_reducible refine Kd.C_drewN ?_ _) | (with_reducible refine Kd.C_drew ?_))); (case side4 => exact (Kd.R_reads' HO558.out).2.1); rintro e w49 ⟨v562, rfl, ho0, hb⟩; refine ⟨_, rfl, ?_⟩; have n0_ := Aside0.mk (Kd.R_below (zr HO554.out) hb); have n1_ := Aside0.mk (Kd.R_elder' (zr HO558.out) (Kd.R_base ho0) hb); have n2_ := Aside0.mk (Kd.R_lower (Kd.R_new' ho0 (Kd.R_lt (zr HO558.out))) (below_size (zb2 HB.out GE547.out GE548.out))); have n3_ := Aside0.mk (blk_below (g := gb547) (o := .cells #[.int .i64 a0_0, .slice A0_1 l0_1.length c0_1] 31 (0, 0)) (zk BK547.out) hb); have n4_ := Aside0.mk (blk_below (g := gb548) (o := .cells #[.slice none 0 0, .slice none 0 0, .slice none 0 0] 28 (0, 0)) (zk BK548.out) hb); have n5_ := Aside0.mk (below_step (zb2 HB.out GE547.out GE548.out) hb); clear HO554; clear HO558; clear BK547; clear BK548; clear HB; have HO554 := n0_; have HO558 := n1_; have HO563 := n2_; have BK547 := n3_; have BK548 := n4_; have HB := n5_; clear n0_ n1_ n2_ n3_ n4_ n5_; (try clear hb); (try clear hb2); (try clear hk); (try clear hi); (try clear ho0); have hnb50 := NB548_547.out; have hnc50 := NB547_548.out; have hcz51_0 : w49.cell? ⟨gb548, 0, none⟩ = some (.slice none 0 0) := (blk_cell BK548.out 0).trans rfl; have hcz51_1 : w49.cell? ⟨gb548, 1, none⟩ = some (.slice none 0 0) := (blk_cell BK548.out 1).trans rfl; have hcz51_2 : w49.cell? ⟨gb548, 2, none⟩ = some (.slice none 0 0) := (blk_cell BK548.out 2).trans rfl; have hfz51_0 := blk_frozen BK548.out 0; have hfz51_1 := blk_frozen BK548.out 1; have hfz51_2 := blk_frozen BK548.out 2))
       refine bodyPost_ret (results_ct rfl _ _ gb548 28 #[.slice none 0 0, .slice none 0 0, .slice none 0 0] (0, 0) _ rfl (by (with_reducible repeat (first | refine blk_drewN ?_ _ | refine blk_drew ?_ | refine blk_alloc ?_ _)); refine blk_put (cs := #[.slice none 0 0, .slice none 0 0, .slice none 0 0]) ?_ 2 _ rfl; (with_reducible repeat (first | refine blk_drewN ?_ _ | refine blk_drew ?_ | refine blk_alloc ?_ _)); refine blk_put (cs := #[.slice none 0 0, .slice none 0 0, .slice none 0 0]) ?_ 1 _ rfl; (with_reducible repeat (first | refine blk_drewN ?_ _ | refine blk_drew ?_ | refine blk_alloc ?_ _)); refine blk_put (cs := #[.slice none 0 0, .slice none 0 0, .slice none 0 0]) ?_ 0 _ rfl; (with_reducible repeat (first | refine blk_drewN ?_ _ | refine blk_drew ?_ | refine blk_alloc ?_ _)); exact BK548.out) Try.underlying28 rfl (by kernel_rfl)) rfl ?_
       exact ⟨_, _, _, ze, by first | exact Kd.R_nil _ _ _ _ _ | exact Kd.N_nil _ _ _ _ _ | exact Kd.V_nil _ _ _ _ _ | exact Kd.Q_nil _ _ _ _ _ | exact Kd.S_nil _ _ _ _ _, by first | exact Kd.S_nil _ _ _ _ _ | exact Kd.N_nil _ _ _ _ _ | exact Kd.V_nil _ _ _ _ _ | exact Kd.Q_nil _ _ _ _ _ | exact Kd.R_nil _ _ _ _ _, by first | exact Kd.S_nil _ _ _ _ _ | exact Kd.N_nil _ _ _ _ _ | exact Kd.V_nil _ _ _ _ _ | exact Kd.Q_nil _ _ _ _ _ | exact Kd.R_nil _ _ _ _ _, zb2 HB.out GE547.out GE548.out⟩
     ·replace c23 := Bool.eq_false_iff.mpr c23
      subst c23
      rw [if_neg (show ¬ (false = true) by decide)] at H
      simp only [Option.some.injEq, Prod.mk.injEq] at H
      obtain ⟨rfl, rfl, rfl, rfl⟩ := H
      go_wp2_with (first | ((with_reducible refine gate_callee (f := 67) rfl ?_); refine goesL_ (some 28) rfl rfl Try.func67 (by kernel_rfl) rfl #[.pointer (some ⟨gb547, 0, none⟩)] rfl zl ?_; (with_reducible refine (spec_l07Open.calls kj5 gb547 a0_0 A0_1 c0_1 l0_1 t552 _ ?side1 ?side2 ?side3 A19.out).mono ?_); (case side1 => (with_reducible repeat (first | refine blk_drewN ?_ _ | refine blk_drew ?_ | refine blk_alloc ?_ _)); exact BK547.out); (case side2 => exact zc (Kd.C_below HR0_1.out HB.out)); (case side3 => exact HC0_1.out); rintro e w52 ⟨v553, rfl, ho0, hb⟩; refine ⟨_, rfl, ?_⟩; have n0_ := Aside0.mk (Kd.R_lower ho0 (below_size (zb2 HB.out GE547.out GE548.out))); have n1_ := Aside0.mk (blk_below (g := gb547) (o := .cells #[.int .i64 a0_0, .slice A0_1 l0_1.length c0_1] 31 (0, 0)) (zk BK547.out) hb); have n2_ := Aside0.mk (blk_below (g := gb548) (o := .cells #[.slice none 0 0, .slice none 0 0, .slice none 0 0] 28 (0, 0)) (zk BK548.out) hb); have n3_ := Aside0.mk (below_step (zb2 HB.out GE547.out GE548.out) hb); clear BK547; clear BK548; clear HB; have HO554 := n0_; have BK547 := n1_; have BK548 := n2_; have HB := n3_; clear n0_ n1_ n2_ n3_; (try clear hb); (try clear hb2); (try clear hk); (try clear hi); (try clear ho0)) | ((with_reducible refine gate_callee (f := 83) rfl ?_); refine goesL_ (some 30) rfl rfl Try.func83 (by kernel_rfl) rfl #[.slice A1 l1.length c1] rfl zl ?_; (with_reducible refine (spec_l07Bits.calls kj5 _ _ l1 t555 _ ?side1 ?side2 A20.out).mono ?_); (case side1 => exact zc (Kd.C_below HR1.out HB.out)); (case side2 => exact HC1.out); rintro e w' ⟨rfl, ⟨nd, rfl⟩⟩; refine ⟨_, rfl, ?_⟩; (try (rw [drewN_self w52]; generalize hq_ : World.drewN w52 _ = w52; have n0_ : Aside0 (Kd.R Kd.bool 4 w52 w.heap.size (fun _ => True) v553 t552) := ⟨by rw [← hq_]; exact (zr HO554.out)⟩; have n1_ : Aside0 (w52.heap[gb547]? = some (.cells #[.int .i64 a0_0, .slice A0_1 l0_1.length c0_1] 31 (0, 0))) := ⟨by rw [← hq_]; exact (zk BK547.out)⟩; have n2_ : Aside0 (w52.heap[gb548]? = some (.cells #[.slice none 0 0, .slice none 0 0, .slice none 0 0] 28 (0, 0))) := ⟨by rw [← hq_]; exact (zk BK548.out)⟩; have n3_ : Aside0 (Below w.heap.size w w52) := ⟨by rw [← hq_]; exact (zb2 HB.out GE547.out GE548.out)⟩; clear HO554 BK547 BK548 HB hq_; have HO554 := n0_; have BK547 := n1_; have BK548 := n2_; have HB := n3_; clear n0_ n1_ n2_ n3_))) | ((with_reducible refine gate_callee (f := 92) rfl ?_); refine goesL_ (some 32) rfl rfl Try.func92 (by kernel_rfl) rfl #[.slice A2 l2.length c2] rfl zl ?_; (with_reducible refine (spec_l07Numbers.calls kj5 _ _ l2 t556 _ ?side1 ?side2 A21.out).mono ?_); (case side1 => exact zc (Kd.C_below HR2.out HB.out)); (case side2 => exact HC2.out); rintro e w53 ⟨v557, rfl, ho0, hb⟩; refine ⟨_, rfl, ?_⟩; have n0_ := Aside0.mk (Kd.R_below (zr HO554.out) hb); have n1_ := Aside0.mk (Kd.R_lower ho0 (below_size (zb2 HB.out GE547.out GE548.out))); have n2_ := Aside0.mk (blk_below (g := gb547) (o := .cells #[.int .i64 a0_0, .slice A0_1 l0_1.length c0_1] 31 (0, 0)) (zk BK547.out) hb); have n3_ := Aside0.mk (blk_below (g := gb548) (o := .cells #[.slice none 0 0, .slice none 0 0, .slice none 0 0] 28 (0, 0)) (zk BK548.out) hb); have n4_ := Aside0.mk (below_step (zb2 HB.out GE547.out GE548.out) hb); clear HO554; clear BK547; clear BK548; clear HB; have HO554 := n0_; have HO558 := n1_; have BK547 := n2_; have BK548 := n3_; have HB := n4_; clear n0_ n1_ n2_ n3_ n4_; (try clear hb); (try clear hb2); (try clear hk); (try clear hi); (try clear ho0); obtain ⟨Ao54, co54, eo54⟩ := Kd.R_slice HO554.out; subst eo54; obtain ⟨Ao55, co55, eo55⟩ := Kd.R_slice HO558.out; subst eo55) | ((with_reducible refine gate_callee (f := 93) rfl ?_); refine goesL_ (some 36) rfl rfl Try.func93 (by kernel_rfl) rfl #[.slice Ao54 t552.length co54, .int .i64 t555, .slice Ao55 t556.length co55] rfl zl ?_; (with_reducible refine (spec_l07Chain.calls kj5 _ _ t552 t555 _ _ t556 false _ ?side1 ?side2 ?side3 ?side4 A22.out).mono ?_); (case side1 => repeat (first | exact (Kd.R_reads' HO554.out).2.2 | (with_reducible refine Kd.C_alloc ?_ _) | (with_reducible refine Kd.C_drewN ?_ _) | (with_reducible refine Kd.C_drew ?_))); (case side2 => exact (Kd.R_reads' HO554.out).2.1); (case side3 => repeat (first | exact (Kd.R_reads' HO558.out).2.2 | (with_reducible refine Kd.C_alloc ?_ _) | (with_reducible refine Kd.C_drewN ?_ _) | (with_reducible refine Kd.C_drew ?_))); (case side4 => exact (Kd.R_reads' HO558.out).2.1); rintro e w' ⟨rfl, ⟨nd, rfl⟩⟩; refine ⟨_, rfl, ?_⟩; (try (rw [drewN_self w53]; generalize hq_ : World.drewN w53 _ = w53; have n0_ : Aside0 (Kd.R Kd.bool 4 w53 w.heap.size (fun _ => True) (.slice Ao54 t552.length co54) t552) := ⟨by rw [← hq_]; exact (zr HO554.out)⟩; have n1_ : Aside0 (Kd.R (Kd.int .i64) 2 w53 w.heap.size (fun _ => True) (.slice Ao55 t556.length co55) t556) := ⟨by rw [← hq_]; exact (zr HO558.out)⟩; have n2_ : Aside0 (w53.heap[gb547]? = some (.cells #[.int .i64 a0_0, .slice A0_1 l0_1.length c0_1] 31 (0, 0))) := ⟨by rw [← hq_]; exact (zk BK547.out)⟩; have n3_ : Aside0 (w53.heap[gb548]? = some (.cells #[.slice none 0 0, .slice none 0 0, .slice none 0 0] 28 (0, 0))) := ⟨by rw [← hq_]; exact (zk BK548.out)⟩; have n4_ : Aside0 (Below w.heap.size w w53) := ⟨by rw [← hq_]; exact (zb2 HB.out GE547.out GE548.out)⟩; clear HO554 HO558 BK547 BK548 HB hq_; have HO554 := n0_; have HO558 := n1_; have BK547 := n2_; have BK548 := n3_; have HB := n4_; clear n0_ n1_ n2_ n3_ n4_)); have hnb56 := NB548_547.out; have hnc56 := NB547_548.out; have hcz57_0 : w53.cell? ⟨gb548, 0, none⟩ = some (.slice none 0 0) := (blk_cell BK548.out 0).trans rfl; have hcz57_1 : w53.cell? ⟨gb548, 1, none⟩ = some (.slice none 0 0) := (blk_cell BK548.out 1).trans rfl; have hcz57_2 : w53.cell? ⟨gb548, 2, none⟩ = some (.slice none 0 0) := (blk_cell BK548.out 2).trans rfl; have hfz57_0 := blk_frozen BK548.out 0; have hfz57_1 := blk_frozen BK548.out 1; have hfz57_2 := blk_frozen BK548.out 2))
      refine bodyPost_ret (results_ct rfl _ _ gb548 28 #[.slice none 0 0, .slice none 0 0, .slice none 0 0] (0, 0) _ rfl (by (with_reducible repeat (first | refine blk_drewN ?_ _ | refine blk_drew ?_ | refine blk_alloc ?_ _)); refine blk_put (cs := #[.slice none 0 0, .slice none 0 0, .slice none 0 0]) ?_ 2 _ rfl; (with_reducible repeat (first | refine blk_drewN ?_ _ | refine blk_drew ?_ | refine blk_alloc ?_ _)); refine blk_put (cs := #[.slice none 0 0, .slice none 0 0, .slice none 0 0]) ?_ 1 _ rfl; (with_reducible repeat (first | refine blk_drewN ?_ _ | refine blk_drew ?_ | refine blk_alloc ?_ _)); refine blk_put (cs := #[.slice none 0 0, .slice none 0 0, .slice none 0 0]) ?_ 0 _ rfl; (with_reducible repeat (first | refine blk_drewN ?_ _ | refine blk_drew ?_ | refine blk_alloc ?_ _)); exact BK548.out) Try.underlying28 rfl (by kernel_rfl)) rfl ?_
      exact ⟨_, _, _, ze, by first | exact Kd.R_nil _ _ _ _ _ | exact Kd.N_nil _ _ _ _ _ | exact Kd.V_nil _ _ _ _ _ | exact Kd.Q_nil _ _ _ _ _ | exact Kd.S_nil _ _ _ _ _, by first | exact Kd.S_nil _ _ _ _ _ | exact Kd.N_nil _ _ _ _ _ | exact Kd.V_nil _ _ _ _ _ | exact Kd.Q_nil _ _ _ _ _ | exact Kd.R_nil _ _ _ _ _, by first | exact Kd.S_nil _ _ _ _ _ | exact Kd.N_nil _ _ _ _ _ | exact Kd.V_nil _ _ _ _ _ | exact Kd.Q_nil _ _ _ _ _ | exact Kd.R_nil _ _ _ _ _, zb2 HB.out GE547.out GE548.out⟩
 ·rw [if_neg c5] at H
  have c5b0 : (t549 == 0) = false := beq_eq_false_iff_ne.mpr c5
  have c5b1 : (t549 != 0) = true := bne_iff_ne.mpr c5
  simp only [Option.some.injEq, Prod.mk.injEq] at H
  obtain ⟨rfl, rfl, rfl, rfl⟩ := H
  go_enter Try.func25, Try.ntmps25
  go_wp2_with (first | ((with_reducible refine gate_dst (N := 3) rfl ?_); refine box_event ?hg (N := 3) ?hd (cs := #[.int .i64 a0_0, .slice A0_1 l0_1.length c0_1]) (t := 31) ?hr ?_; (case hd => rfl); (case hg => rfl); (case hr => first | (go_simp; done) | (go_simp; rfl)); intro gb547 hg w58 hbox hb; have n0_ := Aside0.mk (below_step (zb0 HB.out) hb); have n1_ := Aside0.mk (hbox); have n2_ := Aside0.mk ((by rw [hg]; exact (below_size (zb0 HB.out)) : w.heap.size ≤ gb547)); have n3_ := Aside0.mk ((by rw [hg]; exact (below_size (zb0 HB.out)) : w.heap.size ≤ gb547)); clear HB; have HB := n0_; have BK547 := n1_; have GW547 := n2_; have GE547 := n3_; clear n0_ n1_ n2_ n3_; clear hb hbox hg) | ((with_reducible refine gate_dst (N := 6) rfl ?_); refine box_event ?hg (N := 6) ?hd (cs := #[.slice none 0 0, .slice none 0 0, .slice none 0 0]) (t := 28) ?hr ?_; (case hd => rfl); (case hg => rfl); (case hr => first | (go_simp; done) | (go_simp; rfl)); intro gb548 hg w59 hbox hb; have n0_ := Aside0.mk (blk_below (g := gb547) (o := .cells #[.int .i64 a0_0, .slice A0_1 l0_1.length c0_1] 31 (0, 0)) (zk BK547.out) hb); have n1_ := Aside0.mk (below_step (zb1 HB.out GE547.out) hb); have n2_ := Aside0.mk (hbox); have n3_ := Aside0.mk ((by rw [hg]; exact (below_size (zb1 HB.out GE547.out)) : w.heap.size ≤ gb548)); have n4_ := Aside0.mk ((by rw [hg]; exact (below_size (zb1 HB.out GE547.out)) : w.heap.size ≤ gb548)); have n5_ := Aside0.mk ((by rw [hg]; exact Nat.ne_of_lt (blk_lt (g := gb547) (o := .cells #[.int .i64 a0_0, .slice A0_1 l0_1.length c0_1] 31 (0, 0)) (zk BK547.out)) : gb547 ≠ gb548)); have n6_ := Aside0.mk ((by rw [hg]; exact Nat.ne_of_gt (blk_lt (g := gb547) (o := .cells #[.int .i64 a0_0, .slice A0_1 l0_1.length c0_1] 31 (0, 0)) (zk BK547.out)) : gb548 ≠ gb547)); clear BK547; clear HB; have BK547 := n0_; have HB := n1_; have BK548 := n2_; have GW548 := n3_; have GE548 := n4_; have NB547_548 := n5_; have NB548_547 := n6_; clear n0_ n1_ n2_ n3_ n4_ n5_ n6_; clear hb hbox hg) | ((with_reducible refine gate_callee (f := 66) rfl ?_); refine goesL_ (some 14) rfl rfl Try.func66 (by kernel_rfl) rfl #[.pointer (some ⟨gb547, 0, none⟩)] rfl zl ?_; (with_reducible refine (spec_l07Family.calls k gb547 a0_0 A0_1 c0_1 l0_1 t549 _ ?side1 ?side2 ?side3 A4.out).mono ?_); (case side1 => (with_reducible repeat (first | refine blk_drewN ?_ _ | refine blk_drew ?_ | refine blk_alloc ?_ _)); exact BK547.out); (case side2 => exact zc (Kd.C_below HR0_1.out HB.out)); (case side3 => exact HC0_1.out); rintro e w60 ⟨rfl, hb⟩; refine ⟨_, rfl, ?_⟩; have n0_ := Aside0.mk (blk_below (g := gb547) (o := .cells #[.int .i64 a0_0, .slice A0_1 l0_1.length c0_1] 31 (0, 0)) (zk BK547.out) hb); have n1_ := Aside0.mk (blk_below (g := gb548) (o := .cells #[.slice none 0 0, .slice none 0 0, .slice none 0 0] 28 (0, 0)) (zk BK548.out) hb); have n2_ := Aside0.mk (below_step (zb2 HB.out GE547.out GE548.out) hb); clear BK547; clear BK548; clear HB; have BK547 := n0_; have BK548 := n1_; have HB := n2_; clear n0_ n1_ n2_; (try clear hb); (try clear hb2); (try clear hk); (try clear hi); have hnb61 := NB548_547.out; have hnc61 := NB547_548.out; have hcz62_0 : w60.cell? ⟨gb548, 0, none⟩ = some (.slice none 0 0) := (blk_cell BK548.out 0).trans rfl; have hcz62_1 : w60.cell? ⟨gb548, 1, none⟩ = some (.slice none 0 0) := (blk_cell BK548.out 1).trans rfl; have hcz62_2 : w60.cell? ⟨gb548, 2, none⟩ = some (.slice none 0 0) := (blk_cell BK548.out 2).trans rfl; have hfz62_0 := blk_frozen BK548.out 0; have hfz62_1 := blk_frozen BK548.out 1; have hfz62_2 := blk_frozen BK548.out 2))
  refine bodyPost_ret (results_ct rfl _ _ gb548 28 #[.slice none 0 0, .slice none 0 0, .slice none 0 0] (0, 0) _ rfl (by (with_reducible repeat (first | refine blk_drewN ?_ _ | refine blk_drew ?_ | refine blk_alloc ?_ _)); refine blk_put (cs := #[.slice none 0 0, .slice none 0 0, .slice none 0 0]) ?_ 2 _ rfl; (with_reducible repeat (first | refine blk_drewN ?_ _ | refine blk_drew ?_ | refine blk_alloc ?_ _)); refine blk_put (cs := #[.slice none 0 0, .slice none 0 0, .slice none 0 0]) ?_ 1 _ rfl; (with_reducible repeat (first | refine blk_drewN ?_ _ | refine blk_drew ?_ | refine blk_alloc ?_ _)); refine blk_put (cs := #[.slice none 0 0, .slice none 0 0, .slice none 0 0]) ?_ 0 _ rfl; (with_reducible repeat (first | refine blk_drewN ?_ _ | refine blk_drew ?_ | refine blk_alloc ?_ _)); exact BK548.out) Try.underlying28 rfl (by kernel_rfl)) rfl ?_
  exact ⟨_, _, _, ze, by first | exact Kd.R_nil _ _ _ _ _ | exact Kd.N_nil _ _ _ _ _ | exact Kd.V_nil _ _ _ _ _ | exact Kd.Q_nil _ _ _ _ _ | exact Kd.S_nil _ _ _ _ _, by first | exact Kd.S_nil _ _ _ _ _ | exact Kd.N_nil _ _ _ _ _ | exact Kd.V_nil _ _ _ _ _ | exact Kd.Q_nil _ _ _ _ _ | exact Kd.R_nil _ _ _ _ _, by first | exact Kd.S_nil _ _ _ _ _ | exact Kd.N_nil _ _ _ _ _ | exact Kd.V_nil _ _ _ _ _ | exact Kd.Q_nil _ _ _ _ _ | exact Kd.R_nil _ _ _ _ _, zb2 HB.out GE547.out GE548.out⟩
def laws_f6ints.l0 : Nat → List Int → List Int → Int → Option (Bool)
  | 0, _, _, _ => none
  | k + 1, x0, x1, x5 => if x5 < (x0.length : Int) then (if 0 ≤ x5 then (if x5 < (x1.length : Int) then (if (rd x0 x5) = (rd x1 x5) then (laws_f6ints.l0 k x0 x1 (wrap64 (x5 + 1))) else (some false)) else (none)) else (none)) else (some true)
def laws_f6ints.f (k : Nat) (l0 : List Int) (l1 : List Int) : Option (Bool) := if (l0.length : Int) = (l1.length : Int) then (laws_f6ints.l0 k l0 l1 0) else (some false)
set_option maxHeartbeats 8000000 in
set_option maxRecDepth 100000 in
theorem laws_f6ints.calls (k : Nat) (A0 : Option Addr) (c0 : Nat) (l0 : List Int) (A1 : Option Addr) (c1 : Nat) (l1 : List Int) (r : Bool) (w : World) (hr0 : Kd.C (Kd.int .i64) w A0 l0.length l0) (hc0 : l0.length ≤ c0) (hr1 : Kd.C (Kd.int .i64) w A1 l1.length l1) (hc1 : l1.length ≤ c1) (h : laws_f6ints.f k l0 l1 = some r) :
  Calls Try.prog 26 #[.slice A0 l0.length c0, .slice A1 l1.length c1] w fun e w' => e = .returned (.bool r) ∧ Drawn0 w w' := by
 have HR0 := Aside0.mk hr0
 have HC0 := Aside0.mk hc0
 clear hr0 hc0
 have HR1 := Aside0.mk hr1
 have HC1 := Aside0.mk hc1
 clear hr1 hc1
 have H : (if (l0.length : Int) = (l1.length : Int) then (laws_f6ints.l0 k l0 l1 0) else (some false)) = some r := h
 clear h
 by_cases c3 : (l0.length : Int) = (l1.length : Int)
 ·rw [if_pos c3] at H
  have c3b0 : ((l0.length : Int) == (l1.length : Int)) = true := beq_iff_eq.mpr c3
  have c3b1 : ((l0.length : Int) != (l1.length : Int)) = false := bne_eq_false_iff_eq.mpr c3
  have c3b2 : (l0.length == l1.length) = true := by first | simpa using c3 | (simp at c3 ⊢; omega)
  clear c3
  have H' := Aside0.mk H
  clear H
  go_enter Try.func26, Try.ntmps26
  go_wp2
  repeat (go_quiet (fail); try go_wp2)
  go_loopg [5] k (fun kq v5 w' => ∃ (x5_1 : Int), v5 = .int .i64 x5_1 ∧ Aside0 (laws_f6ints.l0 kq l0 l1 x5_1 = some r) ∧ Aside0 (kq ≤ k) ∧ Drawn0 w w')
  case atStart => exact ⟨(0), zt, H', ⟨Nat.le_refl _⟩, by repeat (first | exact Drawn0.refl _ | apply Drawn0.step)⟩
  case round =>
   clear H'
   obtain ⟨x5_1, rfl, HA, HK1, ⟨m1, rfl⟩⟩ := hrel
   cases gk with
   | zero => exact absurd HA.out (by simp [laws_f6ints.l0])
   | succ k1 =>
    have H := HA.out
    clear HA
    simp only [laws_f6ints.l0] at H
    by_cases c4 : x5_1 < (l0.length : Int)
    ·rw [if_pos c4] at H
     have c4b0 : decide (x5_1 < (l0.length : Int)) = true := decide_eq_true c4
     clear c4
     by_cases c5 : 0 ≤ x5_1
     ·rw [if_pos c5] at H
      have c5b0 : decide (0 ≤ x5_1) = true := decide_eq_true c5
      clear c5
      by_cases c6 : x5_1 < (l1.length : Int)
      ·rw [if_pos c6] at H
       have c6b0 : decide (x5_1 < (l1.length : Int)) = true := decide_eq_true c6
       clear c6
       by_cases c7 : (rd l0 x5_1) = (rd l1 x5_1)
       ·rw [if_pos c7] at H
        have c7b0 : ((rd l0 x5_1) == (rd l1 x5_1)) = true := beq_iff_eq.mpr c7
        have c7b1 : ((rd l0 x5_1) != (rd l1 x5_1)) = false := bne_eq_false_iff_eq.mpr c7
        clear c7
        have H' := Aside0.mk H
        clear H
        have p573 : 0 ≤ (x5_1 : Int) := of_decide_eq_true zq
        have q573 : x5_1 < (l0.length : Int) := of_decide_eq_true zq
        obtain ⟨ad573, e573, hx573_0⟩ := Kd.at_int HR0.out x5_1 p573 q573
        cases e573
        replace p573 := eq_true p573
        replace q573 := eq_true q573
        have p574 : 0 ≤ (x5_1 : Int) := of_decide_eq_true zq
        have q574 : x5_1 < (l1.length : Int) := of_decide_eq_true zq
        obtain ⟨ad574, e574, hx574_0⟩ := Kd.at_int HR1.out x5_1 p574 q574
        cases e574
        replace p574 := eq_true p574
        replace q574 := eq_true q574
        go_wp2
        repeat (go_quiet (fail); try go_wp2)
        go_roundg k1
        case measure => have := HK1.out; omega
        case rel => exact ⟨(wrap64 (x5_1 + 1)), zt, H', ⟨by have := HK1.out; omega⟩, by repeat (first | exact Drawn0.refl _ | apply Drawn0.step)⟩
       ·rw [if_neg c7] at H
        have c7b0 : ((rd l0 x5_1) == (rd l1 x5_1)) = false := beq_eq_false_iff_ne.mpr c7
        have c7b1 : ((rd l0 x5_1) != (rd l1 x5_1)) = true := bne_iff_ne.mpr c7
        obtain rfl := Option.some.inj H
        have p573 : 0 ≤ (x5_1 : Int) := of_decide_eq_true zq
        have q573 : x5_1 < (l0.length : Int) := of_decide_eq_true zq
        obtain ⟨ad573, e573, hx573_0⟩ := Kd.at_int HR0.out x5_1 p573 q573
        cases e573
        replace p573 := eq_true p573
        replace q573 := eq_true q573
        have p574 : 0 ≤ (x5_1 : Int) := of_decide_eq_true zq
        have q574 : x5_1 < (l1.length : Int) := of_decide_eq_true zq
        obtain ⟨ad574, e574, hx574_0⟩ := Kd.at_int HR1.out x5_1 p574 q574
        cases e574
        replace p574 := eq_true p574
        replace q574 := eq_true q574
        go_wp2
        repeat (go_quiet (fail); try go_wp2)
        go_ret
        exact ⟨by first | rfl | (simp; done) | (simp [*]; done), by repeat (first | exact Drawn0.refl _ | apply Drawn0.step)⟩
      ·rw [if_neg c6] at H
       exact absurd H (by simp)
     ·rw [if_neg c5] at H
      exact absurd H (by simp)
    ·rw [if_neg c4] at H
     have c4b0 : decide (x5_1 < (l0.length : Int)) = false := decide_eq_false c4
     clear c4
     obtain rfl := Option.some.inj H
     go_wp2
     repeat (go_quiet (fail); try go_wp2)
     go_ret
     exact ⟨by first | rfl | (simp; done) | (simp [*]; done), by repeat (first | exact Drawn0.refl _ | apply Drawn0.step)⟩
 ·rw [if_neg c3] at H
  have c3b0 : ((l0.length : Int) == (l1.length : Int)) = false := beq_eq_false_iff_ne.mpr c3
  have c3b1 : ((l0.length : Int) != (l1.length : Int)) = true := bne_iff_ne.mpr c3
  have c3b2 : (l0.length == l1.length) = false := by first | simpa using c3 | (simp at c3 ⊢; omega)
  obtain rfl := Option.some.inj H
  go_enter Try.func26, Try.ntmps26
  go_wp2
  repeat (go_quiet (fail); try go_wp2)
  go_ret
  exact ⟨by first | rfl | (simp; done) | (simp [*]; done), by repeat (first | exact Drawn0.refl _ | apply Drawn0.step)⟩
def laws_f6rows.l0 : Nat → List (List Int) → List (List Int) → Int → Option (Bool)
  | 0, _, _, _ => none
  | k + 1, x0, x1, x5 => if x5 < (x0.length : Int) then (if 0 ≤ x5 then (if x5 < (x1.length : Int) then ((laws_f6ints.f k (rd_L1 x0 x5) (rd_L1 x1 x5)).bind fun t577 => (if t577 = true then (laws_f6rows.l0 k x0 x1 (wrap64 (x5 + 1))) else (some false))) else (none)) else (none)) else (some true)
def laws_f6rows.f (k : Nat) (l0 : List (List Int)) (l1 : List (List Int)) : Option (Bool) := if (l0.length : Int) = (l1.length : Int) then (laws_f6rows.l0 k l0 l1 0) else (some false)
set_option maxHeartbeats 8000000 in
set_option maxRecDepth 100000 in
theorem laws_f6rows.calls (k : Nat) (A0 : Option Addr) (c0 : Nat) (l0 : List (List Int)) (A1 : Option Addr) (c1 : Nat) (l1 : List (List Int)) (r : Bool) (w : World) (hr0 : Kd.C (Kd.slice 2 (Kd.int .i64)) w A0 l0.length l0) (hc0 : l0.length ≤ c0) (hr1 : Kd.C (Kd.slice 2 (Kd.int .i64)) w A1 l1.length l1) (hc1 : l1.length ≤ c1) (h : laws_f6rows.f k l0 l1 = some r) :
  Calls Try.prog 27 #[.slice A0 l0.length c0, .slice A1 l1.length c1] w fun e w' => e = .returned (.bool r) ∧ Drawn0 w w' := by
 have HR0 := Aside0.mk hr0
 have HC0 := Aside0.mk hc0
 clear hr0 hc0
 have HR1 := Aside0.mk hr1
 have HC1 := Aside0.mk hc1
 clear hr1 hc1
 have H : (if (l0.length : Int) = (l1.length : Int) then (laws_f6rows.l0 k l0 l1 0) else (some false)) = some r := h
 clear h
 by_cases c3 : (l0.length : Int) = (l1.length : Int)
 ·rw [if_pos c3] at H
  have c3b0 : ((l0.length : Int) == (l1.length : Int)) = true := beq_iff_eq.mpr c3
  have c3b1 : ((l0.length : Int) != (l1.length : Int)) = false := bne_eq_false_iff_eq.mpr c3
  have c3b2 : (l0.length == l1.length) = true := by first | simpa using c3 | (simp at c3 ⊢; omega)
  clear c3
  have H' := Aside0.mk H
  clear H
  go_enter Try.func27, Try.ntmps27
  go_wp2
  repeat (go_quiet (fail); try go_wp2)
  go_loopg [5] k (fun kq v5 w' => ∃ (x5_1 : Int), v5 = .int .i64 x5_1 ∧ Aside0 (laws_f6rows.l0 kq l0 l1 x5_1 = some r) ∧ Aside0 (kq ≤ k) ∧ Drawn0 w w')
  case atStart => exact ⟨(0), zt, H', ⟨Nat.le_refl _⟩, by repeat (first | exact Drawn0.refl _ | apply Drawn0.step)⟩
  case round =>
   clear H'
   obtain ⟨x5_1, rfl, HA, HK1, ⟨m1, rfl⟩⟩ := hrel
   cases gk with
   | zero => exact absurd HA.out (by simp [laws_f6rows.l0])
   | succ k1 =>
    have H := HA.out
    clear HA
    simp only [laws_f6rows.l0] at H
    by_cases c4 : x5_1 < (l0.length : Int)
    ·rw [if_pos c4] at H
     have c4b0 : decide (x5_1 < (l0.length : Int)) = true := decide_eq_true c4
     clear c4
     by_cases c5 : 0 ≤ x5_1
     ·rw [if_pos c5] at H
      have c5b0 : decide (0 ≤ x5_1) = true := decide_eq_true c5
      clear c5
      by_cases c6 : x5_1 < (l1.length : Int)
      ·rw [if_pos c6] at H
       have c6b0 : decide (x5_1 < (l1.length : Int)) = true := decide_eq_true c6
       clear c6
       replace H := Option.bind_eq_some_iff.mp H
       obtain ⟨t577, A70, H⟩ := H
       replace H : (if t577 = true then (laws_f6rows.l0 k1 l0 l1 (wrap64 (x5_1 + 1))) else (some false)) = some r := H
       have A7 := Aside0.mk A70
       clear A70
       by_cases c8 : t577 = true
       ·subst c8
        rw [if_pos rfl] at H
        have H' := Aside0.mk H
        clear H
        have p575 : 0 ≤ (x5_1 : Int) := of_decide_eq_true zq
        have q575 : x5_1 < (l0.length : Int) := of_decide_eq_true zq
        obtain ⟨ad575, A575_0, c575_0, e575, hx575_0, hl575_0, hi575_0⟩ := at_L1 HR0.out x5_1 p575 q575
        cases e575
        have HR575_0 := Aside0.mk hi575_0
        have HC575_0 := Aside0.mk hl575_0
        clear hi575_0 hl575_0
        replace p575 := eq_true p575
        replace q575 := eq_true q575
        have p576 : 0 ≤ (x5_1 : Int) := of_decide_eq_true zq
        have q576 : x5_1 < (l1.length : Int) := of_decide_eq_true zq
        obtain ⟨ad576, A576_0, c576_0, e576, hx576_0, hl576_0, hi576_0⟩ := at_L1 HR1.out x5_1 p576 q576
        cases e576
        have HR576_0 := Aside0.mk hi576_0
        have HC576_0 := Aside0.mk hl576_0
        clear hi576_0 hl576_0
        replace p576 := eq_true p576
        replace q576 := eq_true q576
        go_wp2_with (first | (go_at_call 26; (with_reducible refine (laws_f6ints.calls k1 _ _ (rd_L1 l0 x5_1) _ _ (rd_L1 l1 x5_1) true _ ?side1 ?side2 ?side3 ?side4 A7.out).mono ?_); (case side1 => exact zc HR575_0.out); (case side2 => exact HC575_0.out); (case side3 => exact zc HR576_0.out); (case side4 => exact HC576_0.out); rintro e w' ⟨rfl, ⟨nd, rfl⟩⟩; (try exact zd)))
        repeat (go_quiet (first | (go_at_call 26; (with_reducible refine (laws_f6ints.calls k1 _ _ (rd_L1 l0 x5_1) _ _ (rd_L1 l1 x5_1) true _ ?side1 ?side2 ?side3 ?side4 A7.out).mono ?_); (case side1 => exact zc HR575_0.out); (case side2 => exact HC575_0.out); (case side3 => exact zc HR576_0.out); (case side4 => exact HC576_0.out); rintro e w' ⟨rfl, ⟨nd, rfl⟩⟩; (try exact zd))); try go_wp2_with (first | (go_at_call 26; (with_reducible refine (laws_f6ints.calls k1 _ _ (rd_L1 l0 x5_1) _ _ (rd_L1 l1 x5_1) true _ ?side1 ?side2 ?side3 ?side4 A7.out).mono ?_); (case side1 => exact zc HR575_0.out); (case side2 => exact HC575_0.out); (case side3 => exact zc HR576_0.out); (case side4 => exact HC576_0.out); rintro e w' ⟨rfl, ⟨nd, rfl⟩⟩; (try exact zd))))
        go_roundg k1
        case measure => have := HK1.out; omega
        case rel => exact ⟨(wrap64 (x5_1 + 1)), zt, H', ⟨by have := HK1.out; omega⟩, by repeat (first | exact Drawn0.refl _ | apply Drawn0.step)⟩
       ·replace c8 := Bool.eq_false_iff.mpr c8
        subst c8
        rw [if_neg (show ¬ (false = true) by decide)] at H
        obtain rfl := Option.some.inj H
        have p575 : 0 ≤ (x5_1 : Int) := of_decide_eq_true zq
        have q575 : x5_1 < (l0.length : Int) := of_decide_eq_true zq
        obtain ⟨ad575, A575_0, c575_0, e575, hx575_0, hl575_0, hi575_0⟩ := at_L1 HR0.out x5_1 p575 q575
        cases e575
        have HR575_0 := Aside0.mk hi575_0
        have HC575_0 := Aside0.mk hl575_0
        clear hi575_0 hl575_0
        replace p575 := eq_true p575
        replace q575 := eq_true q575
        have p576 : 0 ≤ (x5_1 : Int) := of_decide_eq_true zq
        have q576 : x5_1 < (l1.length : Int) := of_decide_eq_true zq
        obtain ⟨ad576, A576_0, c576_0, e576, hx576_0, hl576_0, hi576_0⟩ := at_L1 HR1.out x5_1 p576 q576
        cases e576
        have HR576_0 := Aside0.mk hi576_0
        have HC576_0 := Aside0.mk hl576_0
        clear hi576_0 hl576_0
        replace p576 := eq_true p576
        replace q576 := eq_true q576
        go_wp2_with (first | (go_at_call 26; (with_reducible refine (laws_f6ints.calls k1 _ _ (rd_L1 l0 x5_1) _ _ (rd_L1 l1 x5_1) false _ ?side1 ?side2 ?side3 ?side4 A7.out).mono ?_); (case side1 => exact zc HR575_0.out); (case side2 => exact HC575_0.out); (case side3 => exact zc HR576_0.out); (case side4 => exact HC576_0.out); rintro e w' ⟨rfl, ⟨nd, rfl⟩⟩; (try exact zd)))
        repeat (go_quiet (first | (go_at_call 26; (with_reducible refine (laws_f6ints.calls k1 _ _ (rd_L1 l0 x5_1) _ _ (rd_L1 l1 x5_1) false _ ?side1 ?side2 ?side3 ?side4 A7.out).mono ?_); (case side1 => exact zc HR575_0.out); (case side2 => exact HC575_0.out); (case side3 => exact zc HR576_0.out); (case side4 => exact HC576_0.out); rintro e w' ⟨rfl, ⟨nd, rfl⟩⟩; (try exact zd))); try go_wp2_with (first | (go_at_call 26; (with_reducible refine (laws_f6ints.calls k1 _ _ (rd_L1 l0 x5_1) _ _ (rd_L1 l1 x5_1) false _ ?side1 ?side2 ?side3 ?side4 A7.out).mono ?_); (case side1 => exact zc HR575_0.out); (case side2 => exact HC575_0.out); (case side3 => exact zc HR576_0.out); (case side4 => exact HC576_0.out); rintro e w' ⟨rfl, ⟨nd, rfl⟩⟩; (try exact zd))))
        go_ret
        exact ⟨by first | rfl | (simp; done) | (simp [*]; done), by repeat (first | exact Drawn0.refl _ | apply Drawn0.step)⟩
      ·rw [if_neg c6] at H
       exact absurd H (by simp)
     ·rw [if_neg c5] at H
      exact absurd H (by simp)
    ·rw [if_neg c4] at H
     have c4b0 : decide (x5_1 < (l0.length : Int)) = false := decide_eq_false c4
     clear c4
     obtain rfl := Option.some.inj H
     go_wp2
     repeat (go_quiet (fail); try go_wp2)
     go_ret
     exact ⟨by first | rfl | (simp; done) | (simp [*]; done), by repeat (first | exact Drawn0.refl _ | apply Drawn0.step)⟩
 ·rw [if_neg c3] at H
  have c3b0 : ((l0.length : Int) == (l1.length : Int)) = false := beq_eq_false_iff_ne.mpr c3
  have c3b1 : ((l0.length : Int) != (l1.length : Int)) = true := bne_iff_ne.mpr c3
  have c3b2 : (l0.length == l1.length) = false := by first | simpa using c3 | (simp at c3 ⊢; omega)
  obtain rfl := Option.some.inj H
  go_enter Try.func27, Try.ntmps27
  go_wp2
  repeat (go_quiet (fail); try go_wp2)
  go_ret
  exact ⟨by first | rfl | (simp; done) | (simp [*]; done), by repeat (first | exact Drawn0.refl _ | apply Drawn0.step)⟩
mutual
def impl_CheckSequence.j0 : Nat → Int → Bool → Int → List (List Int) → List Int → List (List Int) → List (List Int) → Option (Int × Int)
  | 0, _, _, _, _, _, _, _ => none
  | k + 1, x6, x50, x579000, x579001, x580000, x580001, x580002 => if x50 = true then (impl_CheckSequence.j1 k 2 x579000 x579001 x580000 x580001 x580002) else (impl_CheckSequence.j1 k x6 x579000 x579001 x580000 x580001 x580002)
def impl_CheckSequence.j1 : Nat → Int → Int → List (List Int) → List Int → List (List Int) → List (List Int) → Option (Int × Int)
  | 0, _, _, _, _, _, _ => none
  | k + 1, x6, x579000, x579001, x580000, x580001, x580002 => if x6 = 0 then ((impl_crowdOf.f k x580000).bind fun t587 => (impl_CheckSequence.l0 k t587 0 x580001 (x580001.length : Int) 0 x579000 x579001 x580000 x580001 x580002)) else (some (0, x6))
def impl_CheckSequence.l0 : Nat → Int → Int → List (List Int) → Int → Int → Int → List (List Int) → List Int → List (List Int) → List (List Int) → Option (Int × Int)
  | 0, _, _, _, _, _, _, _, _, _, _ => none
  | k + 1, x7, x8, x58, x59, x60, x579000, x579001, x580000, x580001, x580002 => if x60 < x59 then (if 0 ≤ x60 then (if x60 < (x58.length : Int) then ((impl_crowdOf.f k (rd_L1 x58 x60)).bind fun t590 => (if x60 < (x580002.length : Int) then ((impl_crowdOf.f k (rd_L1 x580002 x60)).bind fun t592 => ((impl_Family_chained.f k x579000 x579001 x7 x8 t590).bind fun t593 => (if t593 = true then ((impl_crowd_contains.f x7 t592).bind fun t594 => (if t594 = true then ((impl_Family_steps.f k x579000 x579001 x8 t590 t592).bind fun t595 => (if t595 = true then (impl_CheckSequence.l0 k x7 t590 x58 x59 (wrap64 (x60 + 1)) x579000 x579001 x580000 x580001 x580002) else (some (0, 8)))) else (some (0, 8)))) else (some (0, 8))))) else (none))) else (none)) else (none)) else ((impl_Family_number.f k x579000 x579001 x7 (x580001.length : Int)).bind fun t588 => (some (t588, 0)))
end
def impl_CheckSequence.f (k : Nat) (a0_0 : Int) (l0_1 : List (List Int)) (l1_0 : List Int) (l1_1 : List (List Int)) (l1_2 : List (List Int)) : Option (Int × Int) := (impl_rankedCode.f k a0_0 l0_1).bind fun t580 => (if t580 = 0 then ((impl_areGroups.f k a0_0 (([l1_0] : List (List Int)))).bind fun t584 => (if t584 = true then ((impl_areGroups.f k a0_0 l1_1).bind fun t585 => (if t585 = true then ((impl_areGroups.f k a0_0 l1_2).bind fun t586 => (if t586 = true then (impl_CheckSequence.j0 k t580 ((l1_1.length : Int) != (l1_2.length : Int)) a0_0 l0_1 l1_0 l1_1 l1_2) else (impl_CheckSequence.j0 k t580 true a0_0 l0_1 l1_0 l1_1 l1_2))) else (impl_CheckSequence.j0 k t580 true a0_0 l0_1 l1_0 l1_1 l1_2))) else (impl_CheckSequence.j0 k t580 true a0_0 l0_1 l1_0 l1_1 l1_2))) else (impl_CheckSequence.j0 k t580 false a0_0 l0_1 l1_0 l1_1 l1_2))
set_option maxHeartbeats 8000000 in
set_option maxRecDepth 100000 in
theorem impl_CheckSequence.calls (k : Nat) (a0_0 : Int) (A0_1 : Option Addr) (c0_1 : Nat) (l0_1 : List (List Int)) (P1_0_ : Nat → Prop) (A1_0 : Option Addr) (c1_0 : Nat) (l1_0 : List Int) (A1_1 : Option Addr) (c1_1 : Nat) (l1_1 : List (List Int)) (A1_2 : Option Addr) (c1_2 : Nat) (l1_2 : List (List Int)) (r1 : Int) (r2 : Int) (w : World) (hr0_1 : Kd.C (Kd.slice 2 (Kd.int .i64)) w A0_1 l0_1.length l0_1) (hc0_1 : l0_1.length ≤ c0_1) (hs1_0 : Kd.V (Kd.int .i64) 2 w w.heap.size (fun k_ => P1_0_ k_) (.slice A1_0 l1_0.length c1_0) l1_0) (hr1_1 : Kd.C (Kd.slice 2 (Kd.int .i64)) w A1_1 l1_1.length l1_1) (hc1_1 : l1_1.length ≤ c1_1) (hr1_2 : Kd.C (Kd.slice 2 (Kd.int .i64)) w A1_2 l1_2.length l1_2) (hc1_2 : l1_2.length ≤ c1_2) (h : impl_CheckSequence.f k a0_0 l0_1 l1_0 l1_1 l1_2 = some (r1, r2)) :
  Calls Try.prog 28 #[.agg #[.int .i64 a0_0, .slice A0_1 l0_1.length c0_1], .agg #[.slice A1_0 l1_0.length c1_0, .slice A1_1 l1_1.length c1_1, .slice A1_2 l1_2.length c1_2]] w fun e w' => e = .returned (.tuple #[.int .i64 r1, .int .i64 r2]) ∧ Below w.heap.size w w' := by
 have hu31 := Try.underlying31
 have hu28 := Try.underlying28
 have HR0_1 := Aside0.mk hr0_1
 have HC0_1 := Aside0.mk hc0_1
 clear hr0_1 hc0_1
 have HO1_0 := Aside0.mk (show Kd.V (Kd.int .i64) 2 w w.heap.size (fun k_ => (P1_0_ k_ ∨ w.heap.size ≤ k_)) (.slice A1_0 l1_0.length c1_0) l1_0 from Kd.V_mono hs1_0 (fun k_ hk => .inl hk))
 have HR1_1 := Aside0.mk hr1_1
 have HC1_1 := Aside0.mk hc1_1
 clear hr1_1 hc1_1
 have HR1_2 := Aside0.mk hr1_2
 have HC1_2 := Aside0.mk hc1_2
 clear hr1_2 hc1_2
 have HB := Aside0.mk (Below.refl w.heap.size w)
 have H : ((impl_rankedCode.f k a0_0 l0_1).bind fun t580 => (if t580 = 0 then ((impl_areGroups.f k a0_0 (([l1_0] : List (List Int)))).bind fun t584 => (if t584 = true then ((impl_areGroups.f k a0_0 l1_1).bind fun t585 => (if t585 = true then ((impl_areGroups.f k a0_0 l1_2).bind fun t586 => (if t586 = true then (impl_CheckSequence.j0 k t580 ((l1_1.length : Int) != (l1_2.length : Int)) a0_0 l0_1 l1_0 l1_1 l1_2) else (impl_CheckSequence.j0 k t580 true a0_0 l0_1 l1_0 l1_1 l1_2))) else (impl_CheckSequence.j0 k t580 true a0_0 l0_1 l1_0 l1_1 l1_2))) else (impl_CheckSequence.j0 k t580 true a0_0 l0_1 l1_0 l1_1 l1_2))) else (impl_CheckSequence.j0 k t580 false a0_0 l0_1 l1_0 l1_1 l1_2))) = some (r1, r2) := h
 clear h
 replace H := Option.bind_eq_some_iff.mp H
 obtain ⟨t580, A30, H⟩ := H
 replace H : (if t580 = 0 then ((impl_areGroups.f k a0_0 (([l1_0] : List (List Int)))).bind fun t584 => (if t584 = true then ((impl_areGroups.f k a0_0 l1_1).bind fun t585 => (if t585 = true then ((impl_areGroups.f k a0_0 l1_2).bind fun t586 => (if t586 = true then (impl_CheckSequence.j0 k t580 ((l1_1.length : Int) != (l1_2.length : Int)) a0_0 l0_1 l1_0 l1_1 l1_2) else (impl_CheckSequence.j0 k t580 true a0_0 l0_1 l1_0 l1_1 l1_2))) else (impl_CheckSequence.j0 k t580 true a0_0 l0_1 l1_0 l1_1 l1_2))) else (impl_CheckSequence.j0 k t580 true a0_0 l0_1 l1_0 l1_1 l1_2))) else (impl_CheckSequence.j0 k t580 false a0_0 l0_1 l1_0 l1_1 l1_2)) = some (r1, r2) := H
 have A3 := Aside0.mk A30
 clear A30
 have HC4 := Aside0.mk H
 clear H
 go_enter Try.func28, Try.ntmps28
 go_upto_region 2 with (first | ((with_reducible refine gate_dst (N := 2) rfl ?_); (try (refine gate_guard (by rfl) ?_; dsimp only)); refine box_event ?hg (N := 2) ?hd (cs := #[.int .i64 a0_0, .slice A0_1 l0_1.length c0_1]) (t := 31) ?hr ?_; (case hd => rfl); (case hg => rfl); (case hr => first | (go_simp; done) | (go_simp; rfl)); intro gb578 hg w5 hbox hb; have n0_ := Aside0.mk (Kd.V_below (Kd.V_elderB (zv HO1_0.out) gb578 (Nat.le_of_eq hg.symm)) hb); have n1_ := Aside0.mk (below_step (zb0 HB.out) hb); have n2_ := Aside0.mk (hbox); have n3_ := Aside0.mk ((by rw [hg]; exact (below_size (zb0 HB.out)) : w.heap.size ≤ gb578)); have n4_ := Aside0.mk ((by rw [hg]; exact (below_size (zb0 HB.out)) : w.heap.size ≤ gb578)); clear HO1_0; clear HB; have HO1_0 := n0_; have HB := n1_; have BK578 := n2_; have GW578 := n3_; have GE578 := n4_; clear n0_ n1_ n2_ n3_ n4_; clear hb hbox hg) | ((with_reducible refine gate_dst (N := 3) rfl ?_); (try (refine gate_guard (by rfl) ?_; dsimp only)); refine box_event ?hg (N := 3) ?hd (cs := #[.slice A1_0 l1_0.length c1_0, .slice A1_1 l1_1.length c1_1, .slice A1_2 l1_2.length c1_2]) (t := 28) ?hr ?_; (case hd => rfl); (case hg => rfl); (case hr => first | (go_simp; done) | (go_simp; rfl)); intro gb579 hg w6 hbox hb; have n0_ := Aside0.mk (Kd.V_below (Kd.V_elderB (zv HO1_0.out) gb579 (Nat.le_of_eq hg.symm)) hb); have n1_ := Aside0.mk (blk_below (g := gb578) (o := .cells #[.int .i64 a0_0, .slice A0_1 l0_1.length c0_1] 31 (0, 0)) (zk BK578.out) hb); have n2_ := Aside0.mk (below_step (zb1 HB.out GE578.out) hb); have n3_ := Aside0.mk (hbox); have n4_ := Aside0.mk ((by rw [hg]; exact (below_size (zb1 HB.out GE578.out)) : w.heap.size ≤ gb579)); have n5_ := Aside0.mk ((by rw [hg]; exact (below_size (zb1 HB.out GE578.out)) : w.heap.size ≤ gb579)); have n6_ := Aside0.mk ((by rw [hg]; exact Nat.ne_of_lt (blk_lt (g := gb578) (o := .cells #[.int .i64 a0_0, .slice A0_1 l0_1.length c0_1] 31 (0, 0)) (zk BK578.out)) : gb578 ≠ gb579)); have n7_ := Aside0.mk ((by rw [hg]; exact Nat.ne_of_gt (blk_lt (g := gb578) (o := .cells #[.int .i64 a0_0, .slice A0_1 l0_1.length c0_1] 31 (0, 0)) (zk BK578.out)) : gb579 ≠ gb578)); clear HO1_0; clear BK578; clear HB; have HO1_0 := n0_; have BK578 := n1_; have HB := n2_; have BK579 := n3_; have GW579 := n4_; have GE579 := n5_; have NB578_579 := n6_; have NB579_578 := n7_; clear n0_ n1_ n2_ n3_ n4_ n5_ n6_ n7_; clear hb hbox hg; have hnb7 := NB578_579.out; have hnc7 := NB579_578.out; have hcz8_0 : w6.cell? ⟨gb578, 0, none⟩ = some (.int .i64 a0_0) := (blk_cell BK578.out 0).trans rfl; have hcz8_1 : w6.cell? ⟨gb578, 1, none⟩ = some (.slice A0_1 l0_1.length c0_1) := (blk_cell BK578.out 1).trans rfl; have hfz8_0 := blk_frozen BK578.out 0; have hfz8_1 := blk_frozen BK578.out 1) | (go_at_call 73; (with_reducible refine (impl_rankedCode.calls k a0_0 _ _ l0_1 t580 _ ?side1 ?side2 A3.out).mono ?_); (case side1 => exact zc (Kd.C_below HR0_1.out HB.out)); (case side2 => exact HC0_1.out); rintro e w9 ⟨rfl, hb⟩; have n0_ := Aside0.mk (Kd.V_below (zv HO1_0.out) hb); have n1_ := Aside0.mk (blk_below (g := gb578) (o := .cells #[.int .i64 a0_0, .slice A0_1 l0_1.length c0_1] 31 (0, 0)) (zk BK578.out) hb); have n2_ := Aside0.mk (blk_below (g := gb579) (o := .cells #[.slice A1_0 l1_0.length c1_0, .slice A1_1 l1_1.length c1_1, .slice A1_2 l1_2.length c1_2] 28 (0, 0)) (zk BK579.out) hb); have n3_ := Aside0.mk (below_step (zb2 HB.out GE578.out GE579.out) hb); clear HO1_0; clear BK578; clear BK579; clear HB; have HO1_0 := n0_; have BK578 := n1_; have BK579 := n2_; have HB := n3_; clear n0_ n1_ n2_ n3_; (try clear hb); (try clear hb2); (try clear hk); (try clear hi)))
 (try simp only [Act.put, List.setIfInBounds_toArray, List.set_cons_zero, List.set_cons_succ])
 go_cut [50] (fun v50 wc => ∃ (kq : Nat) (x50_3 : Bool), v50 = .bool x50_3 ∧ Aside0 (impl_CheckSequence.j0 kq t580 x50_3 a0_0 l0_1 l1_0 l1_1 l1_2 = some (r1, r2)) ∧ Aside0 (kq ≤ k) ∧ Aside0 (Kd.V (Kd.int .i64) 2 wc w.heap.size (fun k_ => (P1_0_ k_ ∨ w.heap.size ≤ k_) ∧ k_ ≠ gb578 ∧ k_ ≠ gb579) (.slice A1_0 l1_0.length c1_0) l1_0) ∧ Aside0 (wc.heap[gb578]? = some (.cells #[.int .i64 a0_0, (.slice A0_1 l0_1.length c0_1)] 31 (0, 0))) ∧ Aside0 (wc.heap[gb579]? = some (.cells #[(.slice A1_0 l1_0.length c1_0), (.slice A1_1 l1_1.length c1_1), (.slice A1_2 l1_2.length c1_2)] 28 (0, 0))) ∧ Aside0 (Below w.heap.size w wc))
 case first =>
  have H := HC4.out
  clear HC4
  by_cases c10 : t580 = 0
  ·rw [if_pos c10] at H
   have c10b0 : (t580 == 0) = true := beq_iff_eq.mpr c10
   have c10b1 : (t580 != 0) = false := bne_eq_false_iff_eq.mpr c10
   clear c10
   (first | rw [c10b0] | (simp only [i64_w, i32_w]; rw [c10b0]) | skip)
   obtain ⟨y581, hy581⟩ : ∃ y_ : List (List Int), y_ = (([l1_0] : List (List Int))) := ⟨_, rfl⟩
   replace H : ((impl_areGroups.f k a0_0 y581).bind fun t584 => (if t584 = true then ((impl_areGroups.f k a0_0 l1_1).bind fun t585 => (if t585 = true then ((impl_areGroups.f k a0_0 l1_2).bind fun t586 => (if t586 = true then (impl_CheckSequence.j0 k t580 ((l1_1.length : Int) != (l1_2.length : Int)) a0_0 l0_1 l1_0 l1_1 l1_2) else (impl_CheckSequence.j0 k t580 true a0_0 l0_1 l1_0 l1_1 l1_2))) else (impl_CheckSequence.j0 k t580 true a0_0 l0_1 l1_0 l1_1 l1_2))) else (impl_CheckSequence.j0 k t580 true a0_0 l0_1 l1_0 l1_1 l1_2))) = some (r1, r2) := by first | (rw [hy581]; with_reducible exact H) | (have H2_ := (Option.bind_some _ _).symm.trans H; rw [hy581]; with_reducible exact H2_) | (have H2_ := (Option.bind_some _ _).symm.trans H; with_reducible exact H2_) | with_reducible exact H | (rw [hy581]; exact H) | exact H
   have Ny581 := Aside0.mk hy581
   clear hy581
   replace H := Option.bind_eq_some_iff.mp H
   obtain ⟨t584, A110, H⟩ := H
   replace H : (if t584 = true then ((impl_areGroups.f k a0_0 l1_1).bind fun t585 => (if t585 = true then ((impl_areGroups.f k a0_0 l1_2).bind fun t586 => (if t586 = true then (impl_CheckSequence.j0 k t580 ((l1_1.length : Int) != (l1_2.length : Int)) a0_0 l0_1 l1_0 l1_1 l1_2) else (impl_CheckSequence.j0 k t580 true a0_0 l0_1 l1_0 l1_1 l1_2))) else (impl_CheckSequence.j0 k t580 true a0_0 l0_1 l1_0 l1_1 l1_2))) else (impl_CheckSequence.j0 k t580 true a0_0 l0_1 l1_0 l1_1 l1_2)) = some (r1, r2) := H
   have A11 := Aside0.mk A110
   clear A110
   by_cases c12 : t584 = true
   ·subst c12
    rw [if_pos rfl] at H
    replace H := Option.bind_eq_some_iff.mp H
    obtain ⟨t585, A130, H⟩ := H
    replace H : (if t585 = true then ((impl_areGroups.f k a0_0 l1_2).bind fun t586 => (if t586 = true then (impl_CheckSequence.j0 k t580 ((l1_1.length : Int) != (l1_2.length : Int)) a0_0 l0_1 l1_0 l1_1 l1_2) else (impl_CheckSequence.j0 k t580 true a0_0 l0_1 l1_0 l1_1 l1_2))) else (impl_CheckSequence.j0 k t580 true a0_0 l0_1 l1_0 l1_1 l1_2)) = some (r1, r2) := H
    have A13 := Aside0.mk A130
    clear A130
    by_cases c14 : t585 = true
    ·subst c14
     rw [if_pos rfl] at H
     replace H := Option.bind_eq_some_iff.mp H
     obtain ⟨t586, A150, H⟩ := H
     replace H : (if t586 = true then (impl_CheckSequence.j0 k t580 ((l1_1.length : Int) != (l1_2.length : Int)) a0_0 l0_1 l1_0 l1_1 l1_2) else (impl_CheckSequence.j0 k t580 true a0_0 l0_1 l1_0 l1_1 l1_2)) = some (r1, r2) := H
     have A15 := Aside0.mk A150
     clear A150
     by_cases c16 : t586 = true
     ·subst c16
      rw [if_pos rfl] at H
      have H' := Aside0.mk H
      clear H
      have hnb17 := NB578_579.out
      have hnc17 := NB579_578.out
      have hcz18_0 : w9.cell? ⟨gb578, 0, none⟩ = some (.int .i64 a0_0) := (blk_cell BK578.out 0).trans rfl
      have hcz18_1 : w9.cell? ⟨gb578, 1, none⟩ = some (.slice A0_1 l0_1.length c0_1) := (blk_cell BK578.out 1).trans rfl
      have hfz18_0 := blk_frozen BK578.out 0
      have hfz18_1 := blk_frozen BK578.out 1
      have hcz19_0 : w9.cell? ⟨gb579, 0, none⟩ = some (.slice A1_0 l1_0.length c1_0) := (blk_cell BK579.out 0).trans rfl
      have hcz19_1 : w9.cell? ⟨gb579, 1, none⟩ = some (.slice A1_1 l1_1.length c1_1) := (blk_cell BK579.out 1).trans rfl
      have hcz19_2 : w9.cell? ⟨gb579, 2, none⟩ = some (.slice A1_2 l1_2.length c1_2) := (blk_cell BK579.out 2).trans rfl
      have hfz19_0 := blk_frozen BK579.out 0
      have hfz19_1 := blk_frozen BK579.out 1
      have hfz19_2 := blk_frozen BK579.out 2
      go_wp2_with (first | ((with_reducible refine gate_dst (N := 22) rfl ?_); (try (refine gate_guard (by rfl) ?_; dsimp only)); refine Kd.N_lit (Kd.slice 2 (Kd.int .i64)) _ 26 ?hg (N' := 22) ?hd (xs := ([l1_0] : List (List Int))) (inner := [.slice A1_0 l1_0.length c1_0]) (ok := (fun k_ => (P1_0_ k_ ∨ w.heap.size ≤ k_) ∧ k_ ≠ gb578 ∧ k_ ≠ gb579)) (okp := (fun k_ => (P1_0_ k_ ∨ w.heap.size ≤ k_) ∧ k_ ≠ gb578 ∧ k_ ≠ gb579)) ?hr ?hp (fun _ hk => hk) ((show ∀ k_, w9.heap.size ≤ k_ → (fun k_ => (P1_0_ k_ ∨ w.heap.size ≤ k_) ∧ k_ ≠ gb578 ∧ k_ ≠ gb579) k_ from fun k_ hk => ⟨(.inr (Nat.le_trans (below_size (zb2 HB.out GE578.out GE579.out)) hk)), Kd.freshB (g := gb578) (o := .cells #[.int .i64 a0_0, .slice A0_1 l0_1.length c0_1] 31 (0, 0)) (zk BK578.out) k_ hk, Kd.freshB (g := gb579) (o := .cells #[.slice A1_0 l1_0.length c1_0, .slice A1_1 l1_1.length c1_1, .slice A1_2 l1_2.length c1_2] 28 (0, 0)) (zk BK579.out) k_ hk⟩) _ (Nat.le_refl _)) (Below.refl _ _) (Nat.le_refl _) (by simp) ?_; (case hd => rfl); (case hg => rfl); (case hr => first | (go_simp; done) | (go_simp; rfl)); (case hp => exact (Reps.one (show Kd.FK (Kd.slice 2 (Kd.int .i64)) _ _ l1_0 [.slice A1_0 l1_0.length c1_0] from (Kd.FK_slice_mk (Kd.V_reads' (Kd.V_mono (ok' := (fun k_ => (P1_0_ k_ ∨ w.heap.size ≤ k_) ∧ k_ ≠ gb578 ∧ k_ ≠ gb579)) (HO1_0.out) (fun k_ hk => ⟨hk.1.1, ⟨hk.1.2, hk.2⟩⟩))).2.1 (Kd.V_F (Kd.V_mono (ok' := (fun k_ => (P1_0_ k_ ∨ w.heap.size ≤ k_) ∧ k_ ≠ gb578 ∧ k_ ≠ gb579)) (HO1_0.out) (fun k_ hk => ⟨hk.1.1, ⟨hk.1.2, hk.2⟩⟩))))) (Reps.none _ _))); intro v582 w20 ho21 hb hg_ hnew_; clear hg_ hnew_; (first | rw [← Ny581.out] at ho21 | (simp only [Int.reduceToNat] at ho21; rw [← Ny581.out] at ho21)); have n0_ := Aside0.mk (Kd.V_elder' (zv HO1_0.out) (by first | exact Kd.N_base ho21 | exact Kd.S_base ho21) hb); have n1_ := Aside0.mk (Kd.N_lower ho21 (below_size (zb2 HB.out GE578.out GE579.out))); have n2_ := Aside0.mk (blk_below (g := gb578) (o := .cells #[.int .i64 a0_0, .slice A0_1 l0_1.length c0_1] 31 (0, 0)) (zk BK578.out) hb); have n3_ := Aside0.mk (blk_below (g := gb579) (o := .cells #[.slice A1_0 l1_0.length c1_0, .slice A1_1 l1_1.length c1_1, .slice A1_2 l1_2.length c1_2] 28 (0, 0)) (zk BK579.out) hb); have n4_ := Aside0.mk (below_step (zb2 HB.out GE578.out GE579.out) hb); clear HO1_0; clear BK578; clear BK579; clear HB; have HO1_0 := n0_; have HO583 := n1_; have BK578 := n2_; have BK579 := n3_; have HB := n4_; clear n0_ n1_ n2_ n3_ n4_; clear hb ho21; obtain ⟨Ao22, co22, eo22⟩ := Kd.N_slice HO583.out; subst eo22) | (go_at_call 85; (with_reducible refine (impl_areGroups.calls k a0_0 _ _ y581 true _ ?side1 ?side2 A11.out).mono ?_); (case side1 => repeat (first | exact (Kd.N_reads' HO583.out).2.2 | (with_reducible refine Kd.C_alloc ?_ _) | (with_reducible refine Kd.C_drewN ?_ _) | (with_reducible refine Kd.C_drew ?_))); (case side2 => exact (Kd.N_reads' HO583.out).2.1); rintro e w23 ⟨rfl, hb⟩; have n0_ := Aside0.mk (Kd.V_below (zv HO1_0.out) hb); have n1_ := Aside0.mk (Kd.N_below (zn HO583.out) hb); have n2_ := Aside0.mk (blk_below (g := gb578) (o := .cells #[.int .i64 a0_0, .slice A0_1 l0_1.length c0_1] 31 (0, 0)) (zk BK578.out) hb); have n3_ := Aside0.mk (blk_below (g := gb579) (o := .cells #[.slice A1_0 l1_0.length c1_0, .slice A1_1 l1_1.length c1_1, .slice A1_2 l1_2.length c1_2] 28 (0, 0)) (zk BK579.out) hb); have n4_ := Aside0.mk (below_step (zb2 HB.out GE578.out GE579.out) hb); clear HO1_0; clear HO583; clear BK578; clear BK579; clear HB; have HO1_0 := n0_; have HO583 := n1_; have BK578 := n2_; have BK579 := n3_; have HB := n4_; clear n0_ n1_ n2_ n3_ n4_; (try clear hb); (try clear hb2); (try clear hk); (try clear hi); have hcz24_0 : w23.cell? ⟨gb578, 0, none⟩ = some (.int .i64 a0_0) := (blk_cell BK578.out 0).trans rfl; have hcz24_1 : w23.cell? ⟨gb578, 1, none⟩ = some (.slice A0_1 l0_1.length c0_1) := (blk_cell BK578.out 1).trans rfl; have hfz24_0 := blk_frozen BK578.out 0; have hfz24_1 := blk_frozen BK578.out 1; have hcz25_0 : w23.cell? ⟨gb579, 0, none⟩ = some (.slice A1_0 l1_0.length c1_0) := (blk_cell BK579.out 0).trans rfl; have hcz25_1 : w23.cell? ⟨gb579, 1, none⟩ = some (.slice A1_1 l1_1.length c1_1) := (blk_cell BK579.out 1).trans rfl; have hcz25_2 : w23.cell? ⟨gb579, 2, none⟩ = some (.slice A1_2 l1_2.length c1_2) := (blk_cell BK579.out 2).trans rfl; have hfz25_0 := blk_frozen BK579.out 0; have hfz25_1 := blk_frozen BK579.out 1; have hfz25_2 := blk_frozen BK579.out 2) | (go_at_call 85; (with_reducible refine (impl_areGroups.calls k a0_0 _ _ l1_1 true _ ?side1 ?side2 A13.out).mono ?_); (case side1 => exact zc (Kd.C_below HR1_1.out HB.out)); (case side2 => exact HC1_1.out); rintro e w26 ⟨rfl, hb⟩; have n0_ := Aside0.mk (Kd.V_below (zv HO1_0.out) hb); have n1_ := Aside0.mk (Kd.N_below (zn HO583.out) hb); have n2_ := Aside0.mk (blk_below (g := gb578) (o := .cells #[.int .i64 a0_0, .slice A0_1 l0_1.length c0_1] 31 (0, 0)) (zk BK578.out) hb); have n3_ := Aside0.mk (blk_below (g := gb579) (o := .cells #[.slice A1_0 l1_0.length c1_0, .slice A1_1 l1_1.length c1_1, .slice A1_2 l1_2.length c1_2] 28 (0, 0)) (zk BK579.out) hb); have n4_ := Aside0.mk (below_step (zb2 HB.out GE578.out GE579.out) hb); clear HO1_0; clear HO583; clear BK578; clear BK579; clear HB; have HO1_0 := n0_; have HO583 := n1_; have BK578 := n2_; have BK579 := n3_; have HB := n4_; clear n0_ n1_ n2_ n3_ n4_; (try clear hb); (try clear hb2); (try clear hk); (try clear hi); have hcz27_0 : w26.cell? ⟨gb578, 0, none⟩ = some (.int .i64 a0_0) := (blk_cell BK578.out 0).trans rfl; have hcz27_1 : w26.cell? ⟨gb578, 1, none⟩ = some (.slice A0_1 l0_1.length c0_1) := (blk_cell BK578.out 1).trans rfl; have hfz27_0 := blk_frozen BK578.out 0; have hfz27_1 := blk_frozen BK578.out 1; have hcz28_0 : w26.cell? ⟨gb579, 0, none⟩ = some (.slice A1_0 l1_0.length c1_0) := (blk_cell BK579.out 0).trans rfl; have hcz28_1 : w26.cell? ⟨gb579, 1, none⟩ = some (.slice A1_1 l1_1.length c1_1) := (blk_cell BK579.out 1).trans rfl; have hcz28_2 : w26.cell? ⟨gb579, 2, none⟩ = some (.slice A1_2 l1_2.length c1_2) := (blk_cell BK579.out 2).trans rfl; have hfz28_0 := blk_frozen BK579.out 0; have hfz28_1 := blk_frozen BK579.out 1; have hfz28_2 := blk_frozen BK579.out 2) | (go_at_call 85; (with_reducible refine (impl_areGroups.calls k a0_0 _ _ l1_2 true _ ?side1 ?side2 A15.out).mono ?_); (case side1 => exact zc (Kd.C_below HR1_2.out HB.out)); (case side2 => exact HC1_2.out); rintro e w29 ⟨rfl, hb⟩; have n0_ := Aside0.mk (Kd.V_below (zv HO1_0.out) hb); have n1_ := Aside0.mk (Kd.N_below (zn HO583.out) hb); have n2_ := Aside0.mk (blk_below (g := gb578) (o := .cells #[.int .i64 a0_0, .slice A0_1 l0_1.length c0_1] 31 (0, 0)) (zk BK578.out) hb); have n3_ := Aside0.mk (blk_below (g := gb579) (o := .cells #[.slice A1_0 l1_0.length c1_0, .slice A1_1 l1_1.length c1_1, .slice A1_2 l1_2.length c1_2] 28 (0, 0)) (zk BK579.out) hb); have n4_ := Aside0.mk (below_step (zb2 HB.out GE578.out GE579.out) hb); clear HO1_0; clear HO583; clear BK578; clear BK579; clear HB; have HO1_0 := n0_; have HO583 := n1_; have BK578 := n2_; have BK579 := n3_; have HB := n4_; clear n0_ n1_ n2_ n3_ n4_; (try clear hb); (try clear hb2); (try clear hk); (try clear hi); have hcz30_0 : w29.cell? ⟨gb579, 0, none⟩ = some (.slice A1_0 l1_0.length c1_0) := (blk_cell BK579.out 0).trans rfl; have hcz30_1 : w29.cell? ⟨gb579, 1, none⟩ = some (.slice A1_1 l1_1.length c1_1) := (blk_cell BK579.out 1).trans rfl; have hcz30_2 : w29.cell? ⟨gb579, 2, none⟩ = some (.slice A1_2 l1_2.length c1_2) := (blk_cell BK579.out 2).trans rfl; have hfz30_0 := blk_frozen BK579.out 0; have hfz30_1 := blk_frozen BK579.out 1; have hfz30_2 := blk_frozen BK579.out 2))
      go_meet
      case rel => exact ⟨_, (((l1_1.length : Int) != (l1_2.length : Int))), zt, H', ⟨by first | omega | exact Nat.le_refl _⟩, ⟨by (with_reducible repeat (first | apply Kd.V_alloc | apply Kd.V_drewN | apply Kd.V_drew)); exact Kd.V_mono HO1_0.out (fun _ hk => ⟨hk.1.1.1, ⟨hk.1.1.2, hk.1.2⟩⟩)⟩, ⟨zk BK578.out⟩, ⟨zk BK579.out⟩, ⟨zb2 HB.out GE578.out GE579.out⟩⟩
     ·replace c16 := Bool.eq_false_iff.mpr c16
      subst c16
      rw [if_neg (show ¬ (false = true) by decide)] at H
      have H' := Aside0.mk H
      clear H
      have hnb31 := NB578_579.out
      have hnc31 := NB579_578.out
      have hcz32_0 : w9.cell? ⟨gb578, 0, none⟩ = some (.int .i64 a0_0) := (blk_cell BK578.out 0).trans rfl
      have hcz32_1 : w9.cell? ⟨gb578, 1, none⟩ = some (.slice A0_1 l0_1.length c0_1) := (blk_cell BK578.out 1).trans rfl
      have hfz32_0 := blk_frozen BK578.out 0
      have hfz32_1 := blk_frozen BK578.out 1
      have hcz33_0 : w9.cell? ⟨gb579, 0, none⟩ = some (.slice A1_0 l1_0.length c1_0) := (blk_cell BK579.out 0).trans rfl
      have hcz33_1 : w9.cell? ⟨gb579, 1, none⟩ = some (.slice A1_1 l1_1.length c1_1) := (blk_cell BK579.out 1).trans rfl
      have hcz33_2 : w9.cell? ⟨gb579, 2, none⟩ = some (.slice A1_2 l1_2.length c1_2) := (blk_cell BK579.out 2).trans rfl
      have hfz33_0 := blk_frozen BK579.out 0
      have hfz33_1 := blk_frozen BK579.out 1
      have hfz33_2 := blk_frozen BK579.out 2
      go_wp2_with (first | ((with_reducible refine gate_dst (N := 22) rfl ?_); (try (refine gate_guard (by rfl) ?_; dsimp only)); refine Kd.N_lit (Kd.slice 2 (Kd.int .i64)) _ 26 ?hg (N' := 22) ?hd (xs := ([l1_0] : List (List Int))) (inner := [.slice A1_0 l1_0.length c1_0]) (ok := (fun k_ => (P1_0_ k_ ∨ w.heap.size ≤ k_) ∧ k_ ≠ gb578 ∧ k_ ≠ gb579)) (okp := (fun k_ => (P1_0_ k_ ∨ w.heap.size ≤ k_) ∧ k_ ≠ gb578 ∧ k_ ≠ gb579)) ?hr ?hp (fun _ hk => hk) ((show ∀ k_, w9.heap.size ≤ k_ → (fun k_ => (P1_0_ k_ ∨ w.heap.size ≤ k_) ∧ k_ ≠ gb578 ∧ k_ ≠ gb579) k_ from fun k_ hk => ⟨(.inr (Nat.le_trans (below_size (zb2 HB.out GE578.out GE579.out)) hk)), Kd.freshB (g := gb578) (o := .cells #[.int .i64 a0_0, .slice A0_1 l0_1.length c0_1] 31 (0, 0)) (zk BK578.out) k_ hk, Kd.freshB (g := gb579) (o := .cells #[.slice A1_0 l1_0.length c1_0, .slice A1_1 l1_1.length c1_1, .slice A1_2 l1_2.length c1_2] 28 (0, 0)) (zk BK579.out) k_ hk⟩) _ (Nat.le_refl _)) (Below.refl _ _) (Nat.le_refl _) (by simp) ?_; (case hd => rfl); (case hg => rfl); (case hr => first | (go_simp; done) | (go_simp; rfl)); (case hp => exact (Reps.one (show Kd.FK (Kd.slice 2 (Kd.int .i64)) _ _ l1_0 [.slice A1_0 l1_0.length c1_0] from (Kd.FK_slice_mk (Kd.V_reads' (Kd.V_mono (ok' := (fun k_ => (P1_0_ k_ ∨ w.heap.size ≤ k_) ∧ k_ ≠ gb578 ∧ k_ ≠ gb579)) (HO1_0.out) (fun k_ hk => ⟨hk.1.1, ⟨hk.1.2, hk.2⟩⟩))).2.1 (Kd.V_F (Kd.V_mono (ok' := (fun k_ => (P1_0_ k_ ∨ w.heap.size ≤ k_) ∧ k_ ≠ gb578 ∧ k_ ≠ gb579)) (HO1_0.out) (fun k_ hk => ⟨hk.1.1, ⟨hk.1.2, hk.2⟩⟩))))) (Reps.none _ _))); intro v582 w34 ho35 hb hg_ hnew_; clear hg_ hnew_; (first | rw [← Ny581.out] at ho35 | (simp only [Int.reduceToNat] at ho35; rw [← Ny581.out] at ho35)); have n0_ := Aside0.mk (Kd.V_elder' (zv HO1_0.out) (by first | exact Kd.N_base ho35 | exact Kd.S_base ho35) hb); have n1_ := Aside0.mk (Kd.N_lower ho35 (below_size (zb2 HB.out GE578.out GE579.out))); have n2_ := Aside0.mk (blk_below (g := gb578) (o := .cells #[.int .i64 a0_0, .slice A0_1 l0_1.length c0_1] 31 (0, 0)) (zk BK578.out) hb); have n3_ := Aside0.mk (blk_below (g := gb579) (o := .cells #[.slice A1_0 l1_0.length c1_0, .slice A1_1 l1_1.length c1_1, .slice A1_2 l1_2.length c1_2] 28 (0, 0)) (zk BK579.out) hb); have n4_ := Aside0.mk (below_step (zb2 HB.out GE578.out GE579.out) hb); clear HO1_0; clear BK578; clear BK579; clear HB; have HO1_0 := n0_; have HO583 := n1_; have BK578 := n2_; have BK579 := n3_; have HB := n4_; clear n0_ n1_ n2_ n3_ n4_; clear hb ho35; obtain ⟨Ao36, co36, eo36⟩ := Kd.N_slice HO583.out; subst eo36) | (go_at_call 85; (with_reducible refine (impl_areGroups.calls k a0_0 _ _ y581 true _ ?side1 ?side2 A11.out).mono ?_); (case side1 => repeat (first | exact (Kd.N_reads' HO583.out).2.2 | (with_reducible refine Kd.C_alloc ?_ _) | (with_reducible refine Kd.C_drewN ?_ _) | (with_reducible refine Kd.C_drew ?_))); (case side2 => exact (Kd.N_reads' HO583.out).2.1); rintro e w37 ⟨rfl, hb⟩; have n0_ := Aside0.mk (Kd.V_below (zv HO1_0.out) hb); have n1_ := Aside0.mk (Kd.N_below (zn HO583.out) hb); have n2_ := Aside0.mk (blk_below (g := gb578) (o := .cells #[.int .i64 a0_0, .slice A0_1 l0_1.length c0_1] 31 (0, 0)) (zk BK578.out) hb); have n3_ := Aside0.mk (blk_below (g := gb579) (o := .cells #[.slice A1_0 l1_0.length c1_0, .slice A1_1 l1_1.length c1_1, .slice A1_2 l1_2.length c1_2] 28 (0, 0)) (zk BK579.out) hb); have n4_ := Aside0.mk (below_step (zb2 HB.out GE578.out GE579.out) hb); clear HO1_0; clear HO583; clear BK578; clear BK579; clear HB; have HO1_0 := n0_; have HO583 := n1_; have BK578 := n2_; have BK579 := n3_; have HB := n4_; clear n0_ n1_ n2_ n3_ n4_; (try clear hb); (try clear hb2); (try clear hk); (try clear hi); have hcz38_0 : w37.cell? ⟨gb578, 0, none⟩ = some (.int .i64 a0_0) := (blk_cell BK578.out 0).trans rfl; have hcz38_1 : w37.cell? ⟨gb578, 1, none⟩ = some (.slice A0_1 l0_1.length c0_1) := (blk_cell BK578.out 1).trans rfl; have hfz38_0 := blk_frozen BK578.out 0; have hfz38_1 := blk_frozen BK578.out 1; have hcz39_0 : w37.cell? ⟨gb579, 0, none⟩ = some (.slice A1_0 l1_0.length c1_0) := (blk_cell BK579.out 0).trans rfl; have hcz39_1 : w37.cell? ⟨gb579, 1, none⟩ = some (.slice A1_1 l1_1.length c1_1) := (blk_cell BK579.out 1).trans rfl; have hcz39_2 : w37.cell? ⟨gb579, 2, none⟩ = some (.slice A1_2 l1_2.length c1_2) := (blk_cell BK579.out 2).trans rfl; have hfz39_0 := blk_frozen BK579.out 0; have hfz39_1 := blk_frozen BK579.out 1; have hfz39_2 := blk_frozen BK579.out 2) | (go_at_call 85; (with_reducible refine (impl_areGroups.calls k a0_0 _ _ l1_1 true _ ?side1 ?side2 A13.out).mono ?_); (case side1 => exact zc (Kd.C_below HR1_1.out HB.out)); (case side2 => exact HC1_1.out); rintro e w40 ⟨rfl, hb⟩; have n0_ := Aside0.mk (Kd.V_below (zv HO1_0.out) hb); have n1_ := Aside0.mk (Kd.N_below (zn HO583.out) hb); have n2_ := Aside0.mk (blk_below (g := gb578) (o := .cells #[.int .i64 a0_0, .slice A0_1 l0_1.length c0_1] 31 (0, 0)) (zk BK578.out) hb); have n3_ := Aside0.mk (blk_below (g := gb579) (o := .cells #[.slice A1_0 l1_0.length c1_0, .slice A1_1 l1_1.length c1_1, .slice A1_2 l1_2.length c1_2] 28 (0, 0)) (zk BK579.out) hb); have n4_ := Aside0.mk (below_step (zb2 HB.out GE578.out GE579.out) hb); clear HO1_0; clear HO583; clear BK578; clear BK579; clear HB; have HO1_0 := n0_; have HO583 := n1_; have BK578 := n2_; have BK579 := n3_; have HB := n4_; clear n0_ n1_ n2_ n3_ n4_; (try clear hb); (try clear hb2); (try clear hk); (try clear hi); have hcz41_0 : w40.cell? ⟨gb578, 0, none⟩ = some (.int .i64 a0_0) := (blk_cell BK578.out 0).trans rfl; have hcz41_1 : w40.cell? ⟨gb578, 1, none⟩ = some (.slice A0_1 l0_1.length c0_1) := (blk_cell BK578.out 1).trans rfl; have hfz41_0 := blk_frozen BK578.out 0; have hfz41_1 := blk_frozen BK578.out 1; have hcz42_0 : w40.cell? ⟨gb579, 0, none⟩ = some (.slice A1_0 l1_0.length c1_0) := (blk_cell BK579.out 0).trans rfl; have hcz42_1 : w40.cell? ⟨gb579, 1, none⟩ = some (.slice A1_1 l1_1.length c1_1) := (blk_cell BK579.out 1).trans rfl; have hcz42_2 : w40.cell? ⟨gb579, 2, none⟩ = some (.slice A1_2 l1_2.length c1_2) := (blk_cell BK579.out 2).trans rfl; have hfz42_0 := blk_frozen BK579.out 0; have hfz42_1 := blk_frozen BK579.out 1; have hfz42_2 := blk_frozen BK579.out 2) | (go_at_call 85; (with_reducible refine (impl_areGroups.calls k a0_0 _ _ l1_2 false _ ?side1 ?side2 A15.out).mono ?_); (case side1 => exact zc (Kd.C_below HR1_2.out HB.out)); (case side2 => exact HC1_2.out); rintro e w43 ⟨rfl, hb⟩; have n0_ := Aside0.mk (Kd.V_below (zv HO1_0.out) hb); have n1_ := Aside0.mk (Kd.N_below (zn HO583.out) hb); have n2_ := Aside0.mk (blk_below (g := gb578) (o := .cells #[.int .i64 a0_0, .slice A0_1 l0_1.length c0_1] 31 (0, 0)) (zk BK578.out) hb); have n3_ := Aside0.mk (blk_below (g := gb579) (o := .cells #[.slice A1_0 l1_0.length c1_0, .slice A1_1 l1_1.length c1_1, .slice A1_2 l1_2.length c1_2] 28 (0, 0)) (zk BK579.out) hb); have n4_ := Aside0.mk (below_step (zb2 HB.out GE578.out GE579.out) hb); clear HO1_0; clear HO583; clear BK578; clear BK579; clear HB; have HO1_0 := n0_; have HO583 := n1_; have BK578 := n2_; have BK579 := n3_; have HB := n4_; clear n0_ n1_ n2_ n3_ n4_; (try clear hb); (try clear hb2); (try clear hk); (try clear hi)))
      go_meet
      case rel => exact ⟨_, (true), zt, H', ⟨by first | omega | exact Nat.le_refl _⟩, ⟨by (with_reducible repeat (first | apply Kd.V_alloc | apply Kd.V_drewN | apply Kd.V_drew)); exact Kd.V_mono HO1_0.out (fun _ hk => ⟨hk.1.1.1, ⟨hk.1.1.2, hk.1.2⟩⟩)⟩, ⟨zk BK578.out⟩, ⟨zk BK579.out⟩, ⟨zb2 HB.out GE578.out GE579.out⟩⟩
    ·replace c14 := Bool.eq_false_iff.mpr c14
     subst c14
     rw [if_neg (show ¬ (false = true) by decide)] at H
     have H' := Aside0.mk H
     clear H
     have hnb44 := NB578_579.out
     have hnc44 := NB579_578.out
     have hcz45_0 : w9.cell? ⟨gb578, 0, none⟩ = some (.int .i64 a0_0) := (blk_cell BK578.out 0).trans rfl
     have hcz45_1 : w9.cell? ⟨gb578, 1, none⟩ = some (.slice A0_1 l0_1.length c0_1) := (blk_cell BK578.out 1).trans rfl
     have hfz45_0 := blk_frozen BK578.out 0
     have hfz45_1 := blk_frozen BK578.out 1
     have hcz46_0 : w9.cell? ⟨gb579, 0, none⟩ = some (.slice A1_0 l1_0.length c1_0) := (blk_cell BK579.out 0).trans rfl
     have hcz46_1 : w9.cell? ⟨gb579, 1, none⟩ = some (.slice A1_1 l1_1.length c1_1) := (blk_cell BK579.out 1).trans rfl
     have hcz46_2 : w9.cell? ⟨gb579, 2, none⟩ = some (.slice A1_2 l1_2.length c1_2) := (blk_cell BK579.out 2).trans rfl
     have hfz46_0 := blk_frozen BK579.out 0
     have hfz46_1 := blk_frozen BK579.out 1
     have hfz46_2 := blk_frozen BK579.out 2
     go_wp2_with (first | ((with_reducible refine gate_dst (N := 22) rfl ?_); (try (refine gate_guard (by rfl) ?_; dsimp only)); refine Kd.N_lit (Kd.slice 2 (Kd.int .i64)) _ 26 ?hg (N' := 22) ?hd (xs := ([l1_0] : List (List Int))) (inner := [.slice A1_0 l1_0.length c1_0]) (ok := (fun k_ => (P1_0_ k_ ∨ w.heap.size ≤ k_) ∧ k_ ≠ gb578 ∧ k_ ≠ gb579)) (okp := (fun k_ => (P1_0_ k_ ∨ w.heap.size ≤ k_) ∧ k_ ≠ gb578 ∧ k_ ≠ gb579)) ?hr ?hp (fun _ hk => hk) ((show ∀ k_, w9.heap.size ≤ k_ → (fun k_ => (P1_0_ k_ ∨ w.heap.size ≤ k_) ∧ k_ ≠ gb578 ∧ k_ ≠ gb579) k_ from fun k_ hk => ⟨(.inr (Nat.le_trans (below_size (zb2 HB.out GE578.out GE579.out)) hk)), Kd.freshB (g := gb578) (o := .cells #[.int .i64 a0_0, .slice A0_1 l0_1.length c0_1] 31 (0, 0)) (zk BK578.out) k_ hk, Kd.freshB (g := gb579) (o := .cells #[.slice A1_0 l1_0.length c1_0, .slice A1_1 l1_1.length c1_1, .slice A1_2 l1_2.length c1_2] 28 (0, 0)) (zk BK579.out) k_ hk⟩) _ (Nat.le_refl _)) (Below.refl _ _) (Nat.le_refl _) (by simp) ?_; (case hd => rfl); (case hg => rfl); (case hr => first | (go_simp; done) | (go_simp; rfl)); (case hp => exact (Reps.one (show Kd.FK (Kd.slice 2 (Kd.int .i64)) _ _ l1_0 [.slice A1_0 l1_0.length c1_0] from (Kd.FK_slice_mk (Kd.V_reads' (Kd.V_mono (ok' := (fun k_ => (P1_0_ k_ ∨ w.heap.size ≤ k_) ∧ k_ ≠ gb578 ∧ k_ ≠ gb579)) (HO1_0.out) (fun k_ hk => ⟨hk.1.1, ⟨hk.1.2, hk.2⟩⟩))).2.1 (Kd.V_F (Kd.V_mono (ok' := (fun k_ => (P1_0_ k_ ∨ w.heap.size ≤ k_) ∧ k_ ≠ gb578 ∧ k_ ≠ gb579)) (HO1_0.out) (fun k_ hk => ⟨hk.1.1, ⟨hk.1.2, hk.2⟩⟩))))) (Reps.none _ _))); intro v582 w47 ho48 hb hg_ hnew_; clear hg_ hnew_; (first | rw [← Ny581.out] at ho48 | (simp only [Int.reduceToNat] at ho48; rw [← Ny581.out] at ho48)); have n0_ := Aside0.mk (Kd.V_elder' (zv HO1_0.out) (by first | exact Kd.N_base ho48 | exact Kd.S_base ho48) hb); have n1_ := Aside0.mk (Kd.N_lower ho48 (below_size (zb2 HB.out GE578.out GE579.out))); have n2_ := Aside0.mk (blk_below (g := gb578) (o := .cells #[.int .i64 a0_0, .slice A0_1 l0_1.length c0_1] 31 (0, 0)) (zk BK578.out) hb); have n3_ := Aside0.mk (blk_below (g := gb579) (o := .cells #[.slice A1_0 l1_0.length c1_0, .slice A1_1 l1_1.length c1_1, .slice A1_2 l1_2.length c1_2] 28 (0, 0)) (zk BK579.out) hb); have n4_ := Aside0.mk (below_step (zb2 HB.out GE578.out GE579.out) hb); clear HO1_0; clear BK578; clear BK579; clear HB; have HO1_0 := n0_; have HO583 := n1_; have BK578 := n2_; have BK579 := n3_; have HB := n4_; clear n0_ n1_ n2_ n3_ n4_; clear hb ho48; obtain ⟨Ao49, co49, eo49⟩ := Kd.N_slice HO583.out; subst eo49) | (go_at_call 85; (with_reducible refine (impl_areGroups.calls k a0_0 _ _ y581 true _ ?side1 ?side2 A11.out).mono ?_); (case side1 => repeat (first | exact (Kd.N_reads' HO583.out).2.2 | (with_reducible refine Kd.C_alloc ?_ _) | (with_reducible refine Kd.C_drewN ?_ _) | (with_reducible refine Kd.C_drew ?_))); (case side2 => exact (Kd.N_reads' HO583.out).2.1); rintro e w50 ⟨rfl, hb⟩; have n0_ := Aside0.mk (Kd.V_below (zv HO1_0.out) hb); have n1_ := Aside0.mk (Kd.N_below (zn HO583.out) hb); have n2_ := Aside0.mk (blk_below (g := gb578) (o := .cells #[.int .i64 a0_0, .slice A0_1 l0_1.length c0_1] 31 (0, 0)) (zk BK578.out) hb); have n3_ := Aside0.mk (blk_below (g := gb579) (o := .cells #[.slice A1_0 l1_0.length c1_0, .slice A1_1 l1_1.length c1_1, .slice A1_2 l1_2.length c1_2] 28 (0, 0)) (zk BK579.out) hb); have n4_ := Aside0.mk (below_step (zb2 HB.out GE578.out GE579.out) hb); clear HO1_0; clear HO583; clear BK578; clear BK579; clear HB; have HO1_0 := n0_; have HO583 := n1_; have BK578 := n2_; have BK579 := n3_; have HB := n4_; clear n0_ n1_ n2_ n3_ n4_; (try clear hb); (try clear hb2); (try clear hk); (try clear hi); have hcz51_0 : w50.cell? ⟨gb578, 0, none⟩ = some (.int .i64 a0_0) := (blk_cell BK578.out 0).trans rfl; have hcz51_1 : w50.cell? ⟨gb578, 1, none⟩ = some (.slice A0_1 l0_1.length c0_1) := (blk_cell BK578.out 1).trans rfl; have hfz51_0 := blk_frozen BK578.out 0; have hfz51_1 := blk_frozen BK578.out 1; have hcz52_0 : w50.cell? ⟨gb579, 0, none⟩ = some (.slice A1_0 l1_0.length c1_0) := (blk_cell BK579.out 0).trans rfl; have hcz52_1 : w50.cell? ⟨gb579, 1, none⟩ = some (.slice A1_1 l1_1.length c1_1) := (blk_cell BK579.out 1).trans rfl; have hcz52_2 : w50.cell? ⟨gb579, 2, none⟩ = some (.slice A1_2 l1_2.length c1_2) := (blk_cell BK579.out 2).trans rfl; have hfz52_0 := blk_frozen BK579.out 0; have hfz52_1 := blk_frozen BK579.out 1; have hfz52_2 := blk_frozen BK579.out 2) | (go_at_call 85; (with_reducible refine (impl_areGroups.calls k a0_0 _ _ l1_1 false _ ?side1 ?side2 A13.out).mono ?_); (case side1 => exact zc (Kd.C_below HR1_1.out HB.out)); (case side2 => exact HC1_1.out); rintro e w53 ⟨rfl, hb⟩; have n0_ := Aside0.mk (Kd.V_below (zv HO1_0.out) hb); have n1_ := Aside0.mk (Kd.N_below (zn HO583.out) hb); have n2_ := Aside0.mk (blk_below (g := gb578) (o := .cells #[.int .i64 a0_0, .slice A0_1 l0_1.length c0_1] 31 (0, 0)) (zk BK578.out) hb); have n3_ := Aside0.mk (blk_below (g := gb579) (o := .cells #[.slice A1_0 l1_0.length c1_0, .slice A1_1 l1_1.length c1_1, .slice A1_2 l1_2.length c1_2] 28 (0, 0)) (zk BK579.out) hb); have n4_ := Aside0.mk (below_step (zb2 HB.out GE578.out GE579.out) hb); clear HO1_0; clear HO583; clear BK578; clear BK579; clear HB; have HO1_0 := n0_; have HO583 := n1_; have BK578 := n2_; have BK579 := n3_; have HB := n4_; clear n0_ n1_ n2_ n3_ n4_; (try clear hb); (try clear hb2); (try clear hk); (try clear hi)))
     go_meet
     case rel => exact ⟨_, (true), zt, H', ⟨by first | omega | exact Nat.le_refl _⟩, ⟨by (with_reducible repeat (first | apply Kd.V_alloc | apply Kd.V_drewN | apply Kd.V_drew)); exact Kd.V_mono HO1_0.out (fun _ hk => ⟨hk.1.1.1, ⟨hk.1.1.2, hk.1.2⟩⟩)⟩, ⟨zk BK578.out⟩, ⟨zk BK579.out⟩, ⟨zb2 HB.out GE578.out GE579.out⟩⟩
   ·replace c12 := Bool.eq_false_iff.mpr c12
    subst c12
    rw [if_neg (show ¬ (false = true) by decide)] at H
    have H' := Aside0.mk H
    clear H
    have hnb54 := NB578_579.out
    have hnc54 := NB579_578.out
    have hcz55_0 : w9.cell? ⟨gb578, 0, none⟩ = some (.int .i64 a0_0) := (blk_cell BK578.out 0).trans rfl
    have hcz55_1 : w9.cell? ⟨gb578, 1, none⟩ = some (.slice A0_1 l0_1.length c0_1) := (blk_cell BK578.out 1).trans rfl
    have hfz55_0 := blk_frozen BK578.out 0
    have hfz55_1 := blk_frozen BK578.out 1
    have hcz56_0 : w9.cell? ⟨gb579, 0, none⟩ = some (.slice A1_0 l1_0.length c1_0) := (blk_cell BK579.out 0).trans rfl
    have hcz56_1 : w9.cell? ⟨gb579, 1, none⟩ = some (.slice A1_1 l1_1.length c1_1) := (blk_cell BK579.out 1).trans rfl
    have hcz56_2 : w9.cell? ⟨gb579, 2, none⟩ = some (.slice A1_2 l1_2.length c1_2) := (blk_cell BK579.out 2).trans rfl
    have hfz56_0 := blk_frozen BK579.out 0
    have hfz56_1 := blk_frozen BK579.out 1
    have hfz56_2 := blk_frozen BK579.out 2
    go_wp2_with (first | ((with_reducible refine gate_dst (N := 22) rfl ?_); (try (refine gate_guard (by rfl) ?_; dsimp only)); refine Kd.N_lit (Kd.slice 2 (Kd.int .i64)) _ 26 ?hg (N' := 22) ?hd (xs := ([l1_0] : List (List Int))) (inner := [.slice A1_0 l1_0.length c1_0]) (ok := (fun k_ => (P1_0_ k_ ∨ w.heap.size ≤ k_) ∧ k_ ≠ gb578 ∧ k_ ≠ gb579)) (okp := (fun k_ => (P1_0_ k_ ∨ w.heap.size ≤ k_) ∧ k_ ≠ gb578 ∧ k_ ≠ gb579)) ?hr ?hp (fun _ hk => hk) ((show ∀ k_, w9.heap.size ≤ k_ → (fun k_ => (P1_0_ k_ ∨ w.heap.size ≤ k_) ∧ k_ ≠ gb578 ∧ k_ ≠ gb579) k_ from fun k_ hk => ⟨(.inr (Nat.le_trans (below_size (zb2 HB.out GE578.out GE579.out)) hk)), Kd.freshB (g := gb578) (o := .cells #[.int .i64 a0_0, .slice A0_1 l0_1.length c0_1] 31 (0, 0)) (zk BK578.out) k_ hk, Kd.freshB (g := gb579) (o := .cells #[.slice A1_0 l1_0.length c1_0, .slice A1_1 l1_1.length c1_1, .slice A1_2 l1_2.length c1_2] 28 (0, 0)) (zk BK579.out) k_ hk⟩) _ (Nat.le_refl _)) (Below.refl _ _) (Nat.le_refl _) (by simp) ?_; (case hd => rfl); (case hg => rfl); (case hr => first | (go_simp; done) | (go_simp; rfl)); (case hp => exact (Reps.one (show Kd.FK (Kd.slice 2 (Kd.int .i64)) _ _ l1_0 [.slice A1_0 l1_0.length c1_0] from (Kd.FK_slice_mk (Kd.V_reads' (Kd.V_mono (ok' := (fun k_ => (P1_0_ k_ ∨ w.heap.size ≤ k_) ∧ k_ ≠ gb578 ∧ k_ ≠ gb579)) (HO1_0.out) (fun k_ hk => ⟨hk.1.1, ⟨hk.1.2, hk.2⟩⟩))).2.1 (Kd.V_F (Kd.V_mono (ok' := (fun k_ => (P1_0_ k_ ∨ w.heap.size ≤ k_) ∧ k_ ≠ gb578 ∧ k_ ≠ gb579)) (HO1_0.out) (fun k_ hk => ⟨hk.1.1, ⟨hk.1.2, hk.2⟩⟩))))) (Reps.none _ _))); intro v582 w57 ho58 hb hg_ hnew_; clear hg_ hnew_; (first | rw [← Ny581.out] at ho58 | (simp only [Int.reduceToNat] at ho58; rw [← Ny581.out] at ho58)); have n0_ := Aside0.mk (Kd.V_elder' (zv HO1_0.out) (by first | exact Kd.N_base ho58 | exact Kd.S_base ho58) hb); have n1_ := Aside0.mk (Kd.N_lower ho58 (below_size (zb2 HB.out GE578.out GE579.out))); have n2_ := Aside0.mk (blk_below (g := gb578) (o := .cells #[.int .i64 a0_0, .slice A0_1 l0_1.length c0_1] 31 (0, 0)) (zk BK578.out) hb); have n3_ := Aside0.mk (blk_below (g := gb579) (o := .cells #[.slice A1_0 l1_0.length c1_0, .slice A1_1 l1_1.length c1_1, .slice A1_2 l1_2.length c1_2] 28 (0, 0)) (zk BK579.out) hb); have n4_ := Aside0.mk (below_step (zb2 HB.out GE578.out GE579.out) hb); clear HO1_0; clear BK578; clear BK579; clear HB; have HO1_0 := n0_; have HO583 := n1_; have BK578 := n2_; have BK579 := n3_; have HB := n4_; clear n0_ n1_ n2_ n3_ n4_; clear hb ho58; obtain ⟨Ao59, co59, eo59⟩ := Kd.N_slice HO583.out; subst eo59) | (go_at_call 85; (with_reducible refine (impl_areGroups.calls k a0_0 _ _ y581 false _ ?side1 ?side2 A11.out).mono ?_); (case side1 => repeat (first | exact (Kd.N_reads' HO583.out).2.2 | (with_reducible refine Kd.C_alloc ?_ _) | (with_reducible refine Kd.C_drewN ?_ _) | (with_reducible refine Kd.C_drew ?_))); (case side2 => exact (Kd.N_reads' HO583.out).2.1); rintro e w60 ⟨rfl, hb⟩; have n0_ := Aside0.mk (Kd.V_below (zv HO1_0.out) hb); have n1_ := Aside0.mk (Kd.N_below (zn HO583.out) hb); have n2_ := Aside0.mk (blk_below (g := gb578) (o := .cells #[.int .i64 a0_0, .slice A0_1 l0_1.length c0_1] 31 (0, 0)) (zk BK578.out) hb); have n3_ := Aside0.mk (blk_below (g := gb579) (o := .cells #[.slice A1_0 l1_0.length c1_0, .slice A1_1 l1_1.length c1_1, .slice A1_2 l1_2.length c1_2] 28 (0, 0)) (zk BK579.out) hb); have n4_ := Aside0.mk (below_step (zb2 HB.out GE578.out GE579.out) hb); clear HO1_0; clear HO583; clear BK578; clear BK579; clear HB; have HO1_0 := n0_; have HO583 := n1_; have BK578 := n2_; have BK579 := n3_; have HB := n4_; clear n0_ n1_ n2_ n3_ n4_; (try clear hb); (try clear hb2); (try clear hk); (try clear hi)))
    go_meet
    case rel => exact ⟨_, (true), zt, H', ⟨by first | omega | exact Nat.le_refl _⟩, ⟨by (with_reducible repeat (first | apply Kd.V_alloc | apply Kd.V_drewN | apply Kd.V_drew)); exact Kd.V_mono HO1_0.out (fun _ hk => ⟨hk.1.1.1, ⟨hk.1.1.2, hk.1.2⟩⟩)⟩, ⟨zk BK578.out⟩, ⟨zk BK579.out⟩, ⟨zb2 HB.out GE578.out GE579.out⟩⟩
  ·rw [if_neg c10] at H
   have c10b0 : (t580 == 0) = false := beq_eq_false_iff_ne.mpr c10
   have c10b1 : (t580 != 0) = true := bne_iff_ne.mpr c10
   (first | rw [c10b0] | (simp only [i64_w, i32_w]; rw [c10b0]) | skip)
   have H' := Aside0.mk H
   clear H
   go_wp2
   repeat (go_quiet (fail); try go_wp2)
   go_meet
   case rel => exact ⟨_, (false), zt, H', ⟨by first | omega | exact Nat.le_refl _⟩, ⟨by (with_reducible repeat (first | apply Kd.V_alloc | apply Kd.V_drewN | apply Kd.V_drew)); exact Kd.V_mono HO1_0.out (fun _ hk => ⟨hk.1.1, ⟨hk.1.2, hk.2⟩⟩)⟩, ⟨zk BK578.out⟩, ⟨zk BK579.out⟩, ⟨zb2 HB.out GE578.out GE579.out⟩⟩
 case rest =>
  clear HC4
  obtain ⟨kq, x50_3, rfl, HA, HJ3, HO_580000, BK578, BK579, HB⟩ := hcut
  cases kq with
  | zero => exact absurd HA.out (by simp [impl_CheckSequence.j0])
  | succ kj3 =>
   have H := HA.out
   clear HA
   simp only [impl_CheckSequence.j0] at H
   have HC61 := Aside0.mk H
   clear H
   go_upto_if 50 with (fail)
   repeat (go_quiet (fail); go_upto_if 50 with (fail))
   go_cut [6] (fun v6 wc => ∃ (kq : Nat) (x6_60 : Int), v6 = .int .i64 x6_60 ∧ Aside0 (impl_CheckSequence.j1 kq x6_60 a0_0 l0_1 l1_0 l1_1 l1_2 = some (r1, r2)) ∧ Aside0 (kq ≤ kj3) ∧ Aside0 (Kd.V (Kd.int .i64) 2 wc w.heap.size (fun k_ => (P1_0_ k_ ∨ w.heap.size ≤ k_) ∧ k_ ≠ gb578 ∧ k_ ≠ gb579) (.slice A1_0 l1_0.length c1_0) l1_0) ∧ Aside0 (wc.heap[gb578]? = some (.cells #[.int .i64 a0_0, (.slice A0_1 l0_1.length c0_1)] 31 (0, 0))) ∧ Aside0 (wc.heap[gb579]? = some (.cells #[(.slice A1_0 l1_0.length c1_0), (.slice A1_1 l1_1.length c1_1), (.slice A1_2 l1_2.length c1_2)] 28 (0, 0))) ∧ Aside0 (Below w.heap.size w wc))
   case first =>
    have H := HC61.out
    clear HC61
    by_cases c62 : x50_3 = true
    ·subst c62
     rw [if_pos rfl] at H
     have H' := Aside0.mk H
     clear H
     go_wp2
     repeat (go_quiet (fail); try go_wp2)
     go_meet
     case rel => exact ⟨_, (2), zt, H', ⟨by have := HJ3.out; first | omega | exact Nat.le_refl _⟩, ⟨zv HO_580000.out⟩, ⟨zk BK578.out⟩, ⟨zk BK579.out⟩, ⟨zb2 HB.out GE578.out GE579.out⟩⟩
    ·replace c62 := Bool.eq_false_iff.mpr c62
     subst c62
     rw [if_neg (show ¬ (false = true) by decide)] at H
     have H' := Aside0.mk H
     clear H
     go_wp2
     repeat (go_quiet (fail); try go_wp2)
     go_meet
     case rel => exact ⟨_, (t580), zt, H', ⟨by have := HJ3.out; first | omega | exact Nat.le_refl _⟩, ⟨zv HO_580000.out⟩, ⟨zk BK578.out⟩, ⟨zk BK579.out⟩, ⟨zb2 HB.out GE578.out GE579.out⟩⟩
   case rest =>
    clear HC61
    obtain ⟨kq, x6_60, rfl, HA, HJ60, HO_580000, BK578, BK579, HB⟩ := hcut
    cases kq with
    | zero => exact absurd HA.out (by simp [impl_CheckSequence.j1])
    | succ kj60 =>
     have H := HA.out
     clear HA
     simp only [impl_CheckSequence.j1] at H
     by_cases c63 : x6_60 = 0
     ·rw [if_pos c63] at H
      have c63b0 : (x6_60 == 0) = true := beq_iff_eq.mpr c63
      have c63b1 : (x6_60 != 0) = false := bne_eq_false_iff_eq.mpr c63
      clear c63
      replace H := Option.bind_eq_some_iff.mp H
      obtain ⟨t587, A640, H⟩ := H
      replace H : (impl_CheckSequence.l0 kj60 t587 0 l1_1 (l1_1.length : Int) 0 a0_0 l0_1 l1_0 l1_1 l1_2) = some (r1, r2) := H
      have A64 := Aside0.mk A640
      clear A640
      have H' := Aside0.mk H
      clear H
      have hnb65 := NB579_578.out
      have hnc65 := NB578_579.out
      have hcz66_0 : wc.cell? ⟨gb579, 0, none⟩ = some (.slice A1_0 l1_0.length c1_0) := (blk_cell BK579.out 0).trans rfl
      have hcz66_1 : wc.cell? ⟨gb579, 1, none⟩ = some (.slice A1_1 l1_1.length c1_1) := (blk_cell BK579.out 1).trans rfl
      have hcz66_2 : wc.cell? ⟨gb579, 2, none⟩ = some (.slice A1_2 l1_2.length c1_2) := (blk_cell BK579.out 2).trans rfl
      have hfz66_0 := blk_frozen BK579.out 0
      have hfz66_1 := blk_frozen BK579.out 1
      have hfz66_2 := blk_frozen BK579.out 2
      go_wp2_with (first | (go_at_call 86; (with_reducible refine (impl_crowdOf.calls kj60 _ _ l1_0 t587 _ ?side1 ?side2 A64.out).mono ?_); (case side1 => repeat (first | exact (Kd.V_reads' HO_580000.out).2.2 | (with_reducible refine Kd.C_alloc ?_ _) | (with_reducible refine Kd.C_drewN ?_ _) | (with_reducible refine Kd.C_drew ?_))); (case side2 => exact (Kd.V_reads' HO_580000.out).2.1); rintro e w' ⟨rfl, ⟨nd, rfl⟩⟩; (try exact zd)))
      go_loopg [8, 60] kj60 (fun kq v8 v60 w' => ∃ (x8_3 : Int) (x60_3 : Int), v8 = .int .u64 x8_3 ∧ v60 = .int .i64 x60_3 ∧ Aside0 (impl_CheckSequence.l0 kq t587 x8_3 l1_1 (l1_1.length : Int) x60_3 a0_0 l0_1 l1_0 l1_1 l1_2 = some (r1, r2)) ∧ Aside0 (kq ≤ kj60) ∧ Aside0 (Kd.V (Kd.int .i64) 2 w' w.heap.size (fun k_ => (P1_0_ k_ ∨ w.heap.size ≤ k_) ∧ k_ ≠ gb578 ∧ k_ ≠ gb579) (.slice A1_0 l1_0.length c1_0) l1_0) ∧ Aside0 (w'.heap[gb578]? = some (.cells #[.int .i64 a0_0, (.slice A0_1 l0_1.length c0_1)] 31 (0, 0))) ∧ Aside0 (w'.heap[gb579]? = some (.cells #[(.slice A1_0 l1_0.length c1_0), (.slice A1_1 l1_1.length c1_1), (.slice A1_2 l1_2.length c1_2)] 28 (0, 0))) ∧ Aside0 (Below w.heap.size w w'))
      case atStart => exact ⟨(0), (0), zt, zt, H', ⟨Nat.le_refl _⟩, ⟨zv HO_580000.out⟩, ⟨zk BK578.out⟩, ⟨zk BK579.out⟩, ⟨zb2 HB.out GE578.out GE579.out⟩⟩
      case round =>
       clear H'
       obtain ⟨x8_3, x60_3, rfl, rfl, HA, HK3, HO_580000, BK578, BK579, HB⟩ := hrel
       cases gk with
       | zero => exact absurd HA.out (by simp [impl_CheckSequence.l0])
       | succ k3 =>
        have H := HA.out
        clear HA
        simp only [impl_CheckSequence.l0] at H
        by_cases c67 : x60_3 < (l1_1.length : Int)
        ·rw [if_pos c67] at H
         have c67b0 : decide (x60_3 < (l1_1.length : Int)) = true := decide_eq_true c67
         clear c67
         by_cases c68 : 0 ≤ x60_3
         ·rw [if_pos c68] at H
          have c68b0 : decide (0 ≤ x60_3) = true := decide_eq_true c68
          clear c68
          by_cases c69 : x60_3 < (l1_1.length : Int)
          ·rw [if_pos c69] at H
           have c69b0 : decide (x60_3 < (l1_1.length : Int)) = true := decide_eq_true c69
           clear c69
           replace H := Option.bind_eq_some_iff.mp H
           obtain ⟨t590, A700, H⟩ := H
           replace H : (if x60_3 < (l1_2.length : Int) then ((impl_crowdOf.f k3 (rd_L1 l1_2 x60_3)).bind fun t592 => ((impl_Family_chained.f k3 a0_0 l0_1 t587 x8_3 t590).bind fun t593 => (if t593 = true then ((impl_crowd_contains.f t587 t592).bind fun t594 => (if t594 = true then ((impl_Family_steps.f k3 a0_0 l0_1 x8_3 t590 t592).bind fun t595 => (if t595 = true then (impl_CheckSequence.l0 k3 t587 t590 l1_1 (l1_1.length : Int) (wrap64 (x60_3 + 1)) a0_0 l0_1 l1_0 l1_1 l1_2) else (some (0, 8)))) else (some (0, 8)))) else (some (0, 8))))) else (none)) = some (r1, r2) := H
           have A70 := Aside0.mk A700
           clear A700
           by_cases c71 : x60_3 < (l1_2.length : Int)
           ·rw [if_pos c71] at H
            have c71b0 : decide (x60_3 < (l1_2.length : Int)) = true := decide_eq_true c71
            clear c71
            replace H := Option.bind_eq_some_iff.mp H
            obtain ⟨t592, A720, H⟩ := H
            replace H : ((impl_Family_chained.f k3 a0_0 l0_1 t587 x8_3 t590).bind fun t593 => (if t593 = true then ((impl_crowd_contains.f t587 t592).bind fun t594 => (if t594 = true then ((impl_Family_steps.f k3 a0_0 l0_1 x8_3 t590 t592).bind fun t595 => (if t595 = true then (impl_CheckSequence.l0 k3 t587 t590 l1_1 (l1_1.length : Int) (wrap64 (x60_3 + 1)) a0_0 l0_1 l1_0 l1_1 l1_2) else (some (0, 8)))) else (some (0, 8)))) else (some (0, 8)))) = some (r1, r2) := H
            have A72 := Aside0.mk A720
            clear A720
            replace H := Option.bind_eq_some_iff.mp H
            obtain ⟨t593, A730, H⟩ := H
            replace H : (if t593 = true then ((impl_crowd_contains.f t587 t592).bind fun t594 => (if t594 = true then ((impl_Family_steps.f k3 a0_0 l0_1 x8_3 t590 t592).bind fun t595 => (if t595 = true then (impl_CheckSequence.l0 k3 t587 t590 l1_1 (l1_1.length : Int) (wrap64 (x60_3 + 1)) a0_0 l0_1 l1_0 l1_1 l1_2) else (some (0, 8)))) else (some (0, 8)))) else (some (0, 8))) = some (r1, r2) := H
            have A73 := Aside0.mk A730
            clear A730
            by_cases c74 : t593 = true
            ·subst c74
             rw [if_pos rfl] at H
             replace H := Option.bind_eq_some_iff.mp H
             obtain ⟨t594, A750, H⟩ := H
             replace H : (if t594 = true then ((impl_Family_steps.f k3 a0_0 l0_1 x8_3 t590 t592).bind fun t595 => (if t595 = true then (impl_CheckSequence.l0 k3 t587 t590 l1_1 (l1_1.length : Int) (wrap64 (x60_3 + 1)) a0_0 l0_1 l1_0 l1_1 l1_2) else (some (0, 8)))) else (some (0, 8))) = some (r1, r2) := H
             have A75 := Aside0.mk A750
             clear A750
             by_cases c76 : t594 = true
             ·subst c76
              rw [if_pos rfl] at H
              replace H := Option.bind_eq_some_iff.mp H
              obtain ⟨t595, A770, H⟩ := H
              replace H : (if t595 = true then (impl_CheckSequence.l0 k3 t587 t590 l1_1 (l1_1.length : Int) (wrap64 (x60_3 + 1)) a0_0 l0_1 l1_0 l1_1 l1_2) else (some (0, 8))) = some (r1, r2) := H
              have A77 := Aside0.mk A770
              clear A770
              by_cases c78 : t595 = true
              ·subst c78
               rw [if_pos rfl] at H
               have H' := Aside0.mk H
               clear H
               have p589 : 0 ≤ (x60_3 : Int) := of_decide_eq_true zq
               have q589 : x60_3 < (l1_1.length : Int) := of_decide_eq_true zq
               obtain ⟨ad589, A589_0, c589_0, e589, hx589_0, hl589_0, hi589_0⟩ := at_L1 HR1_1.out x60_3 p589 q589
               cases e589
               replace hx589_0 := (HB.out.cell (World.block_lt_of_cell? w _ hx589_0)).trans hx589_0
               have HR589_0 := Aside0.mk hi589_0
               have HC589_0 := Aside0.mk hl589_0
               clear hi589_0 hl589_0
               replace p589 := eq_true p589
               replace q589 := eq_true q589
               go_wp2
               repeat (go_quiet (first | (go_at_call 86; (with_reducible refine (impl_crowdOf.calls k3 _ _ (rd_L1 l1_1 x60_3) t590 _ ?side1 ?side2 A70.out).mono ?_); (case side1 => exact zc (Kd.C_below HR589_0.out HB.out)); (case side2 => exact HC589_0.out); rintro e w' ⟨rfl, ⟨nd, rfl⟩⟩; (try exact zd); have hnb79 := NB579_578.out; have hnc79 := NB578_579.out; have hcz80_0 : wr.cell? ⟨gb579, 0, none⟩ = some (.slice A1_0 l1_0.length c1_0) := (blk_cell BK579.out 0).trans rfl; have hcz80_1 : wr.cell? ⟨gb579, 1, none⟩ = some (.slice (some ad589) l1_1.length c1_1) := (blk_cell BK579.out 1).trans rfl; have hcz80_2 : wr.cell? ⟨gb579, 2, none⟩ = some (.slice A1_2 l1_2.length c1_2) := (blk_cell BK579.out 2).trans rfl; have hfz80_0 := blk_frozen BK579.out 0; have hfz80_1 := blk_frozen BK579.out 1; have hfz80_2 := blk_frozen BK579.out 2; have p591 : 0 ≤ (x60_3 : Int) := of_decide_eq_true (by first | (with_reducible assumption) | assumption); have q591 : x60_3 < (l1_2.length : Int) := of_decide_eq_true (by first | (with_reducible assumption) | assumption); obtain ⟨ad591, A591_0, c591_0, e591, hx591_0, hl591_0, hi591_0⟩ := at_L1 HR1_2.out x60_3 p591 q591; cases e591; replace hx591_0 := (HB.out.cell (World.block_lt_of_cell? w _ hx591_0)).trans hx591_0; have HR591_0 := Aside0.mk hi591_0; have HC591_0 := Aside0.mk hl591_0; clear hi591_0 hl591_0; replace p591 := eq_true p591; replace q591 := eq_true q591) | (go_at_call 86; (with_reducible refine (impl_crowdOf.calls k3 _ _ (rd_L1 l1_2 x60_3) t592 _ ?side1 ?side2 A72.out).mono ?_); (case side1 => exact zc (Kd.C_below HR591_0.out (zb2 HB.out GE578.out GE579.out))); (case side2 => exact HC591_0.out); rintro e w' ⟨rfl, ⟨nd, rfl⟩⟩; (try exact zd); have hcz81_0 : wr.cell? ⟨gb578, 0, none⟩ = some (.int .i64 a0_0) := (blk_cell BK578.out 0).trans rfl; have hcz81_1 : wr.cell? ⟨gb578, 1, none⟩ = some (.slice A0_1 l0_1.length c0_1) := (blk_cell BK578.out 1).trans rfl; have hfz81_0 := blk_frozen BK578.out 0; have hfz81_1 := blk_frozen BK578.out 1) | (go_at_call 89; (with_reducible refine (impl_Family_chained.calls k3 a0_0 _ _ l0_1 t587 x8_3 t590 true _ ?side1 ?side2 A73.out).mono ?_); (case side1 => exact zc (Kd.C_below HR0_1.out (zb2 HB.out GE578.out GE579.out))); (case side2 => exact HC0_1.out); rintro e w82 ⟨rfl, hb⟩; have n0_ := Aside0.mk (Kd.V_below (zv HO_580000.out) hb); have n1_ := Aside0.mk (blk_below (g := gb578) (o := .cells #[.int .i64 a0_0, .slice A0_1 l0_1.length c0_1] 31 (0, 0)) (zk BK578.out) hb); have n2_ := Aside0.mk (blk_below (g := gb579) (o := .cells #[.slice A1_0 l1_0.length c1_0, .slice (some ad589) l1_1.length c1_1, .slice (some ad591) l1_2.length c1_2] 28 (0, 0)) (zk BK579.out) hb); have n3_ := Aside0.mk (below_step (zb2 HB.out GE578.out GE579.out) hb); clear HO_580000; clear BK578; clear BK579; clear HB; have HO_580000 := n0_; have BK578 := n1_; have BK579 := n2_; have HB := n3_; clear n0_ n1_ n2_ n3_; (try clear hb); (try clear hb2); (try clear hk); (try clear hi)) | (go_at_call 94; (with_reducible refine (impl_crowd_contains.calls t587 t592 true _ A75.out).mono ?_); rintro e w' ⟨rfl, ⟨nd, rfl⟩⟩; (try exact zd); have hcz83_0 : w82.cell? ⟨gb578, 0, none⟩ = some (.int .i64 a0_0) := (blk_cell BK578.out 0).trans rfl; have hcz83_1 : w82.cell? ⟨gb578, 1, none⟩ = some (.slice A0_1 l0_1.length c0_1) := (blk_cell BK578.out 1).trans rfl; have hfz83_0 := blk_frozen BK578.out 0; have hfz83_1 := blk_frozen BK578.out 1) | (go_at_call 95; (with_reducible refine (impl_Family_steps.calls k3 a0_0 _ _ l0_1 x8_3 t590 t592 true _ ?side1 ?side2 A77.out).mono ?_); (case side1 => exact zc (Kd.C_below HR0_1.out (zb2 HB.out GE578.out GE579.out))); (case side2 => exact HC0_1.out); rintro e w84 ⟨rfl, hb⟩; have n0_ := Aside0.mk (Kd.V_below (zv HO_580000.out) hb); have n1_ := Aside0.mk (blk_below (g := gb578) (o := .cells #[.int .i64 a0_0, .slice A0_1 l0_1.length c0_1] 31 (0, 0)) (zk BK578.out) hb); have n2_ := Aside0.mk (blk_below (g := gb579) (o := .cells #[.slice A1_0 l1_0.length c1_0, .slice (some ad589) l1_1.length c1_1, .slice (some ad591) l1_2.length c1_2] 28 (0, 0)) (zk BK579.out) hb); have n3_ := Aside0.mk (below_step (zb2 HB.out GE578.out GE579.out) hb); clear HO_580000; clear BK578; clear BK579; clear HB; have HO_580000 := n0_; have BK578 := n1_; have BK579 := n2_; have HB := n3_; clear n0_ n1_ n2_ n3_; (try clear hb); (try clear hb2); (try clear hk); (try clear hi))); try go_wp2_with (first | (go_at_call 86; (with_reducible refine (impl_crowdOf.calls k3 _ _ (rd_L1 l1_1 x60_3) t590 _ ?side1 ?side2 A70.out).mono ?_); (case side1 => exact zc (Kd.C_below HR589_0.out HB.out)); (case side2 => exact HC589_0.out); rintro e w' ⟨rfl, ⟨nd, rfl⟩⟩; (try exact zd); have hnb79 := NB579_578.out; have hnc79 := NB578_579.out; have hcz80_0 : wr.cell? ⟨gb579, 0, none⟩ = some (.slice A1_0 l1_0.length c1_0) := (blk_cell BK579.out 0).trans rfl; have hcz80_1 : wr.cell? ⟨gb579, 1, none⟩ = some (.slice (some ad589) l1_1.length c1_1) := (blk_cell BK579.out 1).trans rfl; have hcz80_2 : wr.cell? ⟨gb579, 2, none⟩ = some (.slice A1_2 l1_2.length c1_2) := (blk_cell BK579.out 2).trans rfl; have hfz80_0 := blk_frozen BK579.out 0; have hfz80_1 := blk_frozen BK579.out 1; have hfz80_2 := blk_frozen BK579.out 2; have p591 : 0 ≤ (x60_3 : Int) := of_decide_eq_true (by first | (with_reducible assumption) | assumption); have q591 : x60_3 < (l1_2.length : Int) := of_decide_eq_true (by first | (with_reducible assumption) | assumption); obtain ⟨ad591, A591_0, c591_0, e591, hx591_0, hl591_0, hi591_0⟩ := at_L1 HR1_2.out x60_3 p591 q591; cases e591; replace hx591_0 := (HB.out.cell (World.block_lt_of_cell? w _ hx591_0)).trans hx591_0; have HR591_0 := Aside0.mk hi591_0; have HC591_0 := Aside0.mk hl591_0; clear hi591_0 hl591_0; replace p591 := eq_true p591; replace q591 := eq_true q591) | (go_at_call 86; (with_reducible refine (impl_crowdOf.calls k3 _ _ (rd_L1 l1_2 x60_3) t592 _ ?side1 ?side2 A72.out).mono ?_); (case side1 => exact zc (Kd.C_below HR591_0.out (zb2 HB.out GE578.out GE579.out))); (case side2 => exact HC591_0.out); rintro e w' ⟨rfl, ⟨nd, rfl⟩⟩; (try exact zd); have hcz81_0 : wr.cell? ⟨gb578, 0, none⟩ = some (.int .i64 a0_0) := (blk_cell BK578.out 0).trans rfl; have hcz81_1 : wr.cell? ⟨gb578, 1, none⟩ = some (.slice A0_1 l0_1.length c0_1) := (blk_cell BK578.out 1).trans rfl; have hfz81_0 := blk_frozen BK578.out 0; have hfz81_1 := blk_frozen BK578.out 1) | (go_at_call 89; (with_reducible refine (impl_Family_chained.calls k3 a0_0 _ _ l0_1 t587 x8_3 t590 true _ ?side1 ?side2 A73.out).mono ?_); (case side1 => exact zc (Kd.C_below HR0_1.out (zb2 HB.out GE578.out GE579.out))); (case side2 => exact HC0_1.out); rintro e w82 ⟨rfl, hb⟩; have n0_ := Aside0.mk (Kd.V_below (zv HO_580000.out) hb); have n1_ := Aside0.mk (blk_below (g := gb578) (o := .cells #[.int .i64 a0_0, .slice A0_1 l0_1.length c0_1] 31 (0, 0)) (zk BK578.out) hb); have n2_ := Aside0.mk (blk_below (g := gb579) (o := .cells #[.slice A1_0 l1_0.length c1_0, .slice (some ad589) l1_1.length c1_1, .slice (some ad591) l1_2.length c1_2] 28 (0, 0)) (zk BK579.out) hb); have n3_ := Aside0.mk (below_step (zb2 HB.out GE578.out GE579.out) hb); clear HO_580000; clear BK578; clear BK579; clear HB; have HO_580000 := n0_; have BK578 := n1_; have BK579 := n2_; have HB := n3_; clear n0_ n1_ n2_ n3_; (try clear hb); (try clear hb2); (try clear hk); (try clear hi)) | (go_at_call 94; (with_reducible refine (impl_crowd_contains.calls t587 t592 true _ A75.out).mono ?_); rintro e w' ⟨rfl, ⟨nd, rfl⟩⟩; (try exact zd); have hcz83_0 : w82.cell? ⟨gb578, 0, none⟩ = some (.int .i64 a0_0) := (blk_cell BK578.out 0).trans rfl; have hcz83_1 : w82.cell? ⟨gb578, 1, none⟩ = some (.slice A0_1 l0_1.length c0_1) := (blk_cell BK578.out 1).trans rfl; have hfz83_0 := blk_frozen BK578.out 0; have hfz83_1 := blk_frozen BK578.out 1) | (go_at_call 95; (with_reducible refine (impl_Family_steps.calls k3 a0_0 _ _ l0_1 x8_3 t590 t592 true _ ?side1 ?side2 A77.out).mono ?_); (case side1 => exact zc (Kd.C_below HR0_1.out (zb2 HB.out GE578.out GE579.out))); (case side2 => exact HC0_1.out); rintro e w84 ⟨rfl, hb⟩; have n0_ := Aside0.mk (Kd.V_below (zv HO_580000.out) hb); have n1_ := Aside0.mk (blk_below (g := gb578) (o := .cells #[.int .i64 a0_0, .slice A0_1 l0_1.length c0_1] 31 (0, 0)) (zk BK578.out) hb); have n2_ := Aside0.mk (blk_below (g := gb579) (o := .cells #[.slice A1_0 l1_0.length c1_0, .slice (some ad589) l1_1.length c1_1, .slice (some ad591) l1_2.length c1_2] 28 (0, 0)) (zk BK579.out) hb); have n3_ := Aside0.mk (below_step (zb2 HB.out GE578.out GE579.out) hb); clear HO_580000; clear BK578; clear BK579; clear HB; have HO_580000 := n0_; have BK578 := n1_; have BK579 := n2_; have HB := n3_; clear n0_ n1_ n2_ n3_; (try clear hb); (try clear hb2); (try clear hk); (try clear hi))))
               go_roundg k3
               case measure => have := HJ3.out; have := HJ60.out; have := HK3.out; omega
               case rel => exact ⟨(t590), (wrap64 (x60_3 + 1)), zt, zt, H', ⟨by have := HJ3.out; have := HJ60.out; have := HK3.out; omega⟩, ⟨zv HO_580000.out⟩, ⟨zk BK578.out⟩, ⟨zk BK579.out⟩, ⟨zb2 HB.out GE578.out GE579.out⟩⟩
              ·replace c78 := Bool.eq_false_iff.mpr c78
               subst c78
               rw [if_neg (show ¬ (false = true) by decide)] at H
               simp only [Option.some.injEq, Prod.mk.injEq] at H
               obtain ⟨rfl, rfl⟩ := H
               have p589 : 0 ≤ (x60_3 : Int) := of_decide_eq_true zq
               have q589 : x60_3 < (l1_1.length : Int) := of_decide_eq_true zq
               obtain ⟨ad589, A589_0, c589_0, e589, hx589_0, hl589_0, hi589_0⟩ := at_L1 HR1_1.out x60_3 p589 q589
               cases e589
               replace hx589_0 := (HB.out.cell (World.block_lt_of_cell? w _ hx589_0)).trans hx589_0
               have HR589_0 := Aside0.mk hi589_0
               have HC589_0 := Aside0.mk hl589_0
               clear hi589_0 hl589_0
               replace p589 := eq_true p589
               replace q589 := eq_true q589
               go_wp2
               repeat (go_quiet (first | (go_at_call 86; (with_reducible refine (impl_crowdOf.calls k3 _ _ (rd_L1 l1_1 x60_3) t590 _ ?side1 ?side2 A70.out).mono ?_); (case side1 => exact zc (Kd.C_below HR589_0.out HB.out)); (case side2 => exact HC589_0.out); rintro e w' ⟨rfl, ⟨nd, rfl⟩⟩; (try exact zd); have hnb85 := NB579_578.out; have hnc85 := NB578_579.out; have hcz86_0 : wr.cell? ⟨gb579, 0, none⟩ = some (.slice A1_0 l1_0.length c1_0) := (blk_cell BK579.out 0).trans rfl; have hcz86_1 : wr.cell? ⟨gb579, 1, none⟩ = some (.slice (some ad589) l1_1.length c1_1) := (blk_cell BK579.out 1).trans rfl; have hcz86_2 : wr.cell? ⟨gb579, 2, none⟩ = some (.slice A1_2 l1_2.length c1_2) := (blk_cell BK579.out 2).trans rfl; have hfz86_0 := blk_frozen BK579.out 0; have hfz86_1 := blk_frozen BK579.out 1; have hfz86_2 := blk_frozen BK579.out 2; have p591 : 0 ≤ (x60_3 : Int) := of_decide_eq_true (by first | (with_reducible assumption) | assumption); have q591 : x60_3 < (l1_2.length : Int) := of_decide_eq_true (by first | (with_reducible assumption) | assumption); obtain ⟨ad591, A591_0, c591_0, e591, hx591_0, hl591_0, hi591_0⟩ := at_L1 HR1_2.out x60_3 p591 q591; cases e591; replace hx591_0 := (HB.out.cell (World.block_lt_of_cell? w _ hx591_0)).trans hx591_0; have HR591_0 := Aside0.mk hi591_0; have HC591_0 := Aside0.mk hl591_0; clear hi591_0 hl591_0; replace p591 := eq_true p591; replace q591 := eq_true q591) | (go_at_call 86; (with_reducible refine (impl_crowdOf.calls k3 _ _ (rd_L1 l1_2 x60_3) t592 _ ?side1 ?side2 A72.out).mono ?_); (case side1 => exact zc (Kd.C_below HR591_0.out (zb2 HB.out GE578.out GE579.out))); (case side2 => exact HC591_0.out); rintro e w' ⟨rfl, ⟨nd, rfl⟩⟩; (try exact zd); have hcz87_0 : wr.cell? ⟨gb578, 0, none⟩ = some (.int .i64 a0_0) := (blk_cell BK578.out 0).trans rfl; have hcz87_1 : wr.cell? ⟨gb578, 1, none⟩ = some (.slice A0_1 l0_1.length c0_1) := (blk_cell BK578.out 1).trans rfl; have hfz87_0 := blk_frozen BK578.out 0; have hfz87_1 := blk_frozen BK578.out 1) | (go_at_call 89; (with_reducible refine (impl_Family_chained.calls k3 a0_0 _ _ l0_1 t587 x8_3 t590 true _ ?side1 ?side2 A73.out).mono ?_); (case side1 => exact zc (Kd.C_below HR0_1.out (zb2 HB.out GE578.out GE579.out))); (case side2 => exact HC0_1.out); rintro e w88 ⟨rfl, hb⟩; have n0_ := Aside0.mk (Kd.V_below (zv HO_580000.out) hb); have n1_ := Aside0.mk (blk_below (g := gb578) (o := .cells #[.int .i64 a0_0, .slice A0_1 l0_1.length c0_1] 31 (0, 0)) (zk BK578.out) hb); have n2_ := Aside0.mk (blk_below (g := gb579) (o := .cells #[.slice A1_0 l1_0.length c1_0, .slice (some ad589) l1_1.length c1_1, .slice (some ad591) l1_2.length c1_2] 28 (0, 0)) (zk BK579.out) hb); have n3_ := Aside0.mk (below_step (zb2 HB.out GE578.out GE579.out) hb); clear HO_580000; clear BK578; clear BK579; clear HB; have HO_580000 := n0_; have BK578 := n1_; have BK579 := n2_; have HB := n3_; clear n0_ n1_ n2_ n3_; (try clear hb); (try clear hb2); (try clear hk); (try clear hi)) | (go_at_call 94; (with_reducible refine (impl_crowd_contains.calls t587 t592 true _ A75.out).mono ?_); rintro e w' ⟨rfl, ⟨nd, rfl⟩⟩; (try exact zd); have hcz89_0 : w88.cell? ⟨gb578, 0, none⟩ = some (.int .i64 a0_0) := (blk_cell BK578.out 0).trans rfl; have hcz89_1 : w88.cell? ⟨gb578, 1, none⟩ = some (.slice A0_1 l0_1.length c0_1) := (blk_cell BK578.out 1).trans rfl; have hfz89_0 := blk_frozen BK578.out 0; have hfz89_1 := blk_frozen BK578.out 1) | (go_at_call 95; (with_reducible refine (impl_Family_steps.calls k3 a0_0 _ _ l0_1 x8_3 t590 t592 false _ ?side1 ?side2 A77.out).mono ?_); (case side1 => exact zc (Kd.C_below HR0_1.out (zb2 HB.out GE578.out GE579.out))); (case side2 => exact HC0_1.out); rintro e w90 ⟨rfl, hb⟩; have n0_ := Aside0.mk (Kd.V_below (zv HO_580000.out) hb); have n1_ := Aside0.mk (blk_below (g := gb578) (o := .cells #[.int .i64 a0_0, .slice A0_1 l0_1.length c0_1] 31 (0, 0)) (zk BK578.out) hb); have n2_ := Aside0.mk (blk_below (g := gb579) (o := .cells #[.slice A1_0 l1_0.length c1_0, .slice (some ad589) l1_1.length c1_1, .slice (some ad591) l1_2.length c1_2] 28 (0, 0)) (zk BK579.out) hb); have n3_ := Aside0.mk (below_step (zb2 HB.out GE578.out GE579.out) hb); clear HO_580000; clear BK578; clear BK579; clear HB; have HO_580000 := n0_; have BK578 := n1_; have BK579 := n2_; have HB := n3_; clear n0_ n1_ n2_ n3_; (try clear hb); (try clear hb2); (try clear hk); (try clear hi))); try go_wp2_with (first | (go_at_call 86; (with_reducible refine (impl_crowdOf.calls k3 _ _ (rd_L1 l1_1 x60_3) t590 _ ?side1 ?side2 A70.out).mono ?_); (case side1 => exact zc (Kd.C_below HR589_0.out HB.out)); (case side2 => exact HC589_0.out); rintro e w' ⟨rfl, ⟨nd, rfl⟩⟩; (try exact zd); have hnb85 := NB579_578.out; have hnc85 := NB578_579.out; have hcz86_0 : wr.cell? ⟨gb579, 0, none⟩ = some (.slice A1_0 l1_0.length c1_0) := (blk_cell BK579.out 0).trans rfl; have hcz86_1 : wr.cell? ⟨gb579, 1, none⟩ = some (.slice (some ad589) l1_1.length c1_1) := (blk_cell BK579.out 1).trans rfl; have hcz86_2 : wr.cell? ⟨gb579, 2, none⟩ = some (.slice A1_2 l1_2.length c1_2) := (blk_cell BK579.out 2).trans rfl; have hfz86_0 := blk_frozen BK579.out 0; have hfz86_1 := blk_frozen BK579.out 1; have hfz86_2 := blk_frozen BK579.out 2; have p591 : 0 ≤ (x60_3 : Int) := of_decide_eq_true (by first | (with_reducible assumption) | assumption); have q591 : x60_3 < (l1_2.length : Int) := of_decide_eq_true (by first | (with_reducible assumption) | assumption); obtain ⟨ad591, A591_0, c591_0, e591, hx591_0, hl591_0, hi591_0⟩ := at_L1 HR1_2.out x60_3 p591 q591; cases e591; replace hx591_0 := (HB.out.cell (World.block_lt_of_cell? w _ hx591_0)).trans hx591_0; have HR591_0 := Aside0.mk hi591_0; have HC591_0 := Aside0.mk hl591_0; clear hi591_0 hl591_0; replace p591 := eq_true p591; replace q591 := eq_true q591) | (go_at_call 86; (with_reducible refine (impl_crowdOf.calls k3 _ _ (rd_L1 l1_2 x60_3) t592 _ ?side1 ?side2 A72.out).mono ?_); (case side1 => exact zc (Kd.C_below HR591_0.out (zb2 HB.out GE578.out GE579.out))); (case side2 => exact HC591_0.out); rintro e w' ⟨rfl, ⟨nd, rfl⟩⟩; (try exact zd); have hcz87_0 : wr.cell? ⟨gb578, 0, none⟩ = some (.int .i64 a0_0) := (blk_cell BK578.out 0).trans rfl; have hcz87_1 : wr.cell? ⟨gb578, 1, none⟩ = some (.slice A0_1 l0_1.length c0_1) := (blk_cell BK578.out 1).trans rfl; have hfz87_0 := blk_frozen BK578.out 0; have hfz87_1 := blk_frozen BK578.out 1) | (go_at_call 89; (with_reducible refine (impl_Family_chained.calls k3 a0_0 _ _ l0_1 t587 x8_3 t590 true _ ?side1 ?side2 A73.out).mono ?_); (case side1 => exact zc (Kd.C_below HR0_1.out (zb2 HB.out GE578.out GE579.out))); (case side2 => exact HC0_1.out); rintro e w88 ⟨rfl, hb⟩; have n0_ := Aside0.mk (Kd.V_below (zv HO_580000.out) hb); have n1_ := Aside0.mk (blk_below (g := gb578) (o := .cells #[.int .i64 a0_0, .slice A0_1 l0_1.length c0_1] 31 (0, 0)) (zk BK578.out) hb); have n2_ := Aside0.mk (blk_below (g := gb579) (o := .cells #[.slice A1_0 l1_0.length c1_0, .slice (some ad589) l1_1.length c1_1, .slice (some ad591) l1_2.length c1_2] 28 (0, 0)) (zk BK579.out) hb); have n3_ := Aside0.mk (below_step (zb2 HB.out GE578.out GE579.out) hb); clear HO_580000; clear BK578; clear BK579; clear HB; have HO_580000 := n0_; have BK578 := n1_; have BK579 := n2_; have HB := n3_; clear n0_ n1_ n2_ n3_; (try clear hb); (try clear hb2); (try clear hk); (try clear hi)) | (go_at_call 94; (with_reducible refine (impl_crowd_contains.calls t587 t592 true _ A75.out).mono ?_); rintro e w' ⟨rfl, ⟨nd, rfl⟩⟩; (try exact zd); have hcz89_0 : w88.cell? ⟨gb578, 0, none⟩ = some (.int .i64 a0_0) := (blk_cell BK578.out 0).trans rfl; have hcz89_1 : w88.cell? ⟨gb578, 1, none⟩ = some (.slice A0_1 l0_1.length c0_1) := (blk_cell BK578.out 1).trans rfl; have hfz89_0 := blk_frozen BK578.out 0; have hfz89_1 := blk_frozen BK578.out 1) | (go_at_call 95; (with_reducible refine (impl_Family_steps.calls k3 a0_0 _ _ l0_1 x8_3 t590 t592 false _ ?side1 ?side2 A77.out).mono ?_); (case side1 => exact zc (Kd.C_below HR0_1.out (zb2 HB.out GE578.out GE579.out))); (case side2 => exact HC0_1.out); rintro e w90 ⟨rfl, hb⟩; have n0_ := Aside0.mk (Kd.V_below (zv HO_580000.out) hb); have n1_ := Aside0.mk (blk_below (g := gb578) (o := .cells #[.int .i64 a0_0, .slice A0_1 l0_1.length c0_1] 31 (0, 0)) (zk BK578.out) hb); have n2_ := Aside0.mk (blk_below (g := gb579) (o := .cells #[.slice A1_0 l1_0.length c1_0, .slice (some ad589) l1_1.length c1_1, .slice (some ad591) l1_2.length c1_2] 28 (0, 0)) (zk BK579.out) hb); have n3_ := Aside0.mk (below_step (zb2 HB.out GE578.out GE579.out) hb); clear HO_580000; clear BK578; clear BK579; clear HB; have HO_580000 := n0_; have BK578 := n1_; have BK579 := n2_; have HB := n3_; clear n0_ n1_ n2_ n3_; (try clear hb); (try clear hb2); (try clear hk); (try clear hi))))
               go_ret2
               exact ⟨ze, zb2 HB.out GE578.out GE579.out⟩
             ·replace c76 := Bool.eq_false_iff.mpr c76
              subst c76
              rw [if_neg (show ¬ (false = true) by decide)] at H
              simp only [Option.some.injEq, Prod.mk.injEq] at H
              obtain ⟨rfl, rfl⟩ := H
              have p589 : 0 ≤ (x60_3 : Int) := of_decide_eq_true zq
              have q589 : x60_3 < (l1_1.length : Int) := of_decide_eq_true zq
              obtain ⟨ad589, A589_0, c589_0, e589, hx589_0, hl589_0, hi589_0⟩ := at_L1 HR1_1.out x60_3 p589 q589
              cases e589
              replace hx589_0 := (HB.out.cell (World.block_lt_of_cell? w _ hx589_0)).trans hx589_0
              have HR589_0 := Aside0.mk hi589_0
              have HC589_0 := Aside0.mk hl589_0
              clear hi589_0 hl589_0
              replace p589 := eq_true p589
              replace q589 := eq_true q589
              go_wp2
              repeat (go_quiet (first | (go_at_call 86; (with_reducible refine (impl_crowdOf.calls k3 _ _ (rd_L1 l1_1 x60_3) t590 _ ?side1 ?side2 A70.out).mono ?_); (case side1 => exact zc (Kd.C_below HR589_0.out HB.out)); (case side2 => exact HC589_0.out); rintro e w' ⟨rfl, ⟨nd, rfl⟩⟩; (try exact zd); have hnb91 := NB579_578.out; have hnc91 := NB578_579.out; have hcz92_0 : wr.cell? ⟨gb579, 0, none⟩ = some (.slice A1_0 l1_0.length c1_0) := (blk_cell BK579.out 0).trans rfl; have hcz92_1 : wr.cell? ⟨gb579, 1, none⟩ = some (.slice (some ad589) l1_1.length c1_1) := (blk_cell BK579.out 1).trans rfl; have hcz92_2 : wr.cell? ⟨gb579, 2, none⟩ = some (.slice A1_2 l1_2.length c1_2) := (blk_cell BK579.out 2).trans rfl; have hfz92_0 := blk_frozen BK579.out 0; have hfz92_1 := blk_frozen BK579.out 1; have hfz92_2 := blk_frozen BK579.out 2; have p591 : 0 ≤ (x60_3 : Int) := of_decide_eq_true (by first | (with_reducible assumption) | assumption); have q591 : x60_3 < (l1_2.length : Int) := of_decide_eq_true (by first | (with_reducible assumption) | assumption); obtain ⟨ad591, A591_0, c591_0, e591, hx591_0, hl591_0, hi591_0⟩ := at_L1 HR1_2.out x60_3 p591 q591; cases e591; replace hx591_0 := (HB.out.cell (World.block_lt_of_cell? w _ hx591_0)).trans hx591_0; have HR591_0 := Aside0.mk hi591_0; have HC591_0 := Aside0.mk hl591_0; clear hi591_0 hl591_0; replace p591 := eq_true p591; replace q591 := eq_true q591) | (go_at_call 86; (with_reducible refine (impl_crowdOf.calls k3 _ _ (rd_L1 l1_2 x60_3) t592 _ ?side1 ?side2 A72.out).mono ?_); (case side1 => exact zc (Kd.C_below HR591_0.out (zb2 HB.out GE578.out GE579.out))); (case side2 => exact HC591_0.out); rintro e w' ⟨rfl, ⟨nd, rfl⟩⟩; (try exact zd); have hcz93_0 : wr.cell? ⟨gb578, 0, none⟩ = some (.int .i64 a0_0) := (blk_cell BK578.out 0).trans rfl; have hcz93_1 : wr.cell? ⟨gb578, 1, none⟩ = some (.slice A0_1 l0_1.length c0_1) := (blk_cell BK578.out 1).trans rfl; have hfz93_0 := blk_frozen BK578.out 0; have hfz93_1 := blk_frozen BK578.out 1) | (go_at_call 89; (with_reducible refine (impl_Family_chained.calls k3 a0_0 _ _ l0_1 t587 x8_3 t590 true _ ?side1 ?side2 A73.out).mono ?_); (case side1 => exact zc (Kd.C_below HR0_1.out (zb2 HB.out GE578.out GE579.out))); (case side2 => exact HC0_1.out); rintro e w94 ⟨rfl, hb⟩; have n0_ := Aside0.mk (Kd.V_below (zv HO_580000.out) hb); have n1_ := Aside0.mk (blk_below (g := gb578) (o := .cells #[.int .i64 a0_0, .slice A0_1 l0_1.length c0_1] 31 (0, 0)) (zk BK578.out) hb); have n2_ := Aside0.mk (blk_below (g := gb579) (o := .cells #[.slice A1_0 l1_0.length c1_0, .slice (some ad589) l1_1.length c1_1, .slice (some ad591) l1_2.length c1_2] 28 (0, 0)) (zk BK579.out) hb); have n3_ := Aside0.mk (below_step (zb2 HB.out GE578.out GE579.out) hb); clear HO_580000; clear BK578; clear BK579; clear HB; have HO_580000 := n0_; have BK578 := n1_; have BK579 := n2_; have HB := n3_; clear n0_ n1_ n2_ n3_; (try clear hb); (try clear hb2); (try clear hk); (try clear hi)) | (go_at_call 94; (with_reducible refine (impl_crowd_contains.calls t587 t592 false _ A75.out).mono ?_); rintro e w' ⟨rfl, ⟨nd, rfl⟩⟩; (try exact zd))); try go_wp2_with (first | (go_at_call 86; (with_reducible refine (impl_crowdOf.calls k3 _ _ (rd_L1 l1_1 x60_3) t590 _ ?side1 ?side2 A70.out).mono ?_); (case side1 => exact zc (Kd.C_below HR589_0.out HB.out)); (case side2 => exact HC589_0.out); rintro e w' ⟨rfl, ⟨nd, rfl⟩⟩; (try exact zd); have hnb91 := NB579_578.out; have hnc91 := NB578_579.out; have hcz92_0 : wr.cell? ⟨gb579, 0, none⟩ = some (.slice A1_0 l1_0.length c1_0) := (blk_cell BK579.out 0).trans rfl; have hcz92_1 : wr.cell? ⟨gb579, 1, none⟩ = some (.slice (some ad589) l1_1.length c1_1) := (blk_cell BK579.out 1).trans rfl; have hcz92_2 : wr.cell? ⟨gb579, 2, none⟩ = some (.slice A1_2 l1_2.length c1_2) := (blk_cell BK579.out 2).trans rfl; have hfz92_0 := blk_frozen BK579.out 0; have hfz92_1 := blk_frozen BK579.out 1; have hfz92_2 := blk_frozen BK579.out 2; have p591 : 0 ≤ (x60_3 : Int) := of_decide_eq_true (by first | (with_reducible assumption) | assumption); have q591 : x60_3 < (l1_2.length : Int) := of_decide_eq_true (by first | (with_reducible assumption) | assumption); obtain ⟨ad591, A591_0, c591_0, e591, hx591_0, hl591_0, hi591_0⟩ := at_L1 HR1_2.out x60_3 p591 q591; cases e591; replace hx591_0 := (HB.out.cell (World.block_lt_of_cell? w _ hx591_0)).trans hx591_0; have HR591_0 := Aside0.mk hi591_0; have HC591_0 := Aside0.mk hl591_0; clear hi591_0 hl591_0; replace p591 := eq_true p591; replace q591 := eq_true q591) | (go_at_call 86; (with_reducible refine (impl_crowdOf.calls k3 _ _ (rd_L1 l1_2 x60_3) t592 _ ?side1 ?side2 A72.out).mono ?_); (case side1 => exact zc (Kd.C_below HR591_0.out (zb2 HB.out GE578.out GE579.out))); (case side2 => exact HC591_0.out); rintro e w' ⟨rfl, ⟨nd, rfl⟩⟩; (try exact zd); have hcz93_0 : wr.cell? ⟨gb578, 0, none⟩ = some (.int .i64 a0_0) := (blk_cell BK578.out 0).trans rfl; have hcz93_1 : wr.cell? ⟨gb578, 1, none⟩ = some (.slice A0_1 l0_1.length c0_1) := (blk_cell BK578.out 1).trans rfl; have hfz93_0 := blk_frozen BK578.out 0; have hfz93_1 := blk_frozen BK578.out 1) | (go_at_call 89; (with_reducible refine (impl_Family_chained.calls k3 a0_0 _ _ l0_1 t587 x8_3 t590 true _ ?side1 ?side2 A73.out).mono ?_); (case side1 => exact zc (Kd.C_below HR0_1.out (zb2 HB.out GE578.out GE579.out))); (case side2 => exact HC0_1.out); rintro e w94 ⟨rfl, hb⟩; have n0_ := Aside0.mk (Kd.V_below (zv HO_580000.out) hb); have n1_ := Aside0.mk (blk_below (g := gb578) (o := .cells #[.int .i64 a0_0, .slice A0_1 l0_1.length c0_1] 31 (0, 0)) (zk BK578.out) hb); have n2_ := Aside0.mk (blk_below (g := gb579) (o := .cells #[.slice A1_0 l1_0.length c1_0, .slice (some ad589) l1_1.length c1_1, .slice (some ad591) l1_2.length c1_2] 28 (0, 0)) (zk BK579.out) hb); have n3_ := Aside0.mk (below_step (zb2 HB.out GE578.out GE579.out) hb); clear HO_580000; clear BK578; clear BK579; clear HB; have HO_580000 := n0_; have BK578 := n1_; have BK579 := n2_; have HB := n3_; clear n0_ n1_ n2_ n3_; (try clear hb); (try clear hb2); (try clear hk); (try clear hi)) | (go_at_call 94; (with_reducible refine (impl_crowd_contains.calls t587 t592 false _ A75.out).mono ?_); rintro e w' ⟨rfl, ⟨nd, rfl⟩⟩; (try exact zd))))
              go_ret2
              exact ⟨ze, zb2 HB.out GE578.out GE579.out⟩
            ·replace c74 := Bool.eq_false_iff.mpr c74
             subst c74
             rw [if_neg (show ¬ (false = true) by decide)] at H
             simp only [Option.some.injEq, Prod.mk.injEq] at H
             obtain ⟨rfl, rfl⟩ := H
             have p589 : 0 ≤ (x60_3 : Int) := of_decide_eq_true zq
             have q589 : x60_3 < (l1_1.length : Int) := of_decide_eq_true zq
             obtain ⟨ad589, A589_0, c589_0, e589, hx589_0, hl589_0, hi589_0⟩ := at_L1 HR1_1.out x60_3 p589 q589
             cases e589
             replace hx589_0 := (HB.out.cell (World.block_lt_of_cell? w _ hx589_0)).trans hx589_0
             have HR589_0 := Aside0.mk hi589_0
             have HC589_0 := Aside0.mk hl589_0
             clear hi589_0 hl589_0
             replace p589 := eq_true p589
             replace q589 := eq_true q589
             go_wp2
             repeat (go_quiet (first | (go_at_call 86; (with_reducible refine (impl_crowdOf.calls k3 _ _ (rd_L1 l1_1 x60_3) t590 _ ?side1 ?side2 A70.out).mono ?_); (case side1 => exact zc (Kd.C_below HR589_0.out HB.out)); (case side2 => exact HC589_0.out); rintro e w' ⟨rfl, ⟨nd, rfl⟩⟩; (try exact zd); have hnb95 := NB579_578.out; have hnc95 := NB578_579.out; have hcz96_0 : wr.cell? ⟨gb579, 0, none⟩ = some (.slice A1_0 l1_0.length c1_0) := (blk_cell BK579.out 0).trans rfl; have hcz96_1 : wr.cell? ⟨gb579, 1, none⟩ = some (.slice (some ad589) l1_1.length c1_1) := (blk_cell BK579.out 1).trans rfl; have hcz96_2 : wr.cell? ⟨gb579, 2, none⟩ = some (.slice A1_2 l1_2.length c1_2) := (blk_cell BK579.out 2).trans rfl; have hfz96_0 := blk_frozen BK579.out 0; have hfz96_1 := blk_frozen BK579.out 1; have hfz96_2 := blk_frozen BK579.out 2; have p591 : 0 ≤ (x60_3 : Int) := of_decide_eq_true (by first | (with_reducible assumption) | assumption); have q591 : x60_3 < (l1_2.length : Int) := of_decide_eq_true (by first | (with_reducible assumption) | assumption); obtain ⟨ad591, A591_0, c591_0, e591, hx591_0, hl591_0, hi591_0⟩ := at_L1 HR1_2.out x60_3 p591 q591; cases e591; replace hx591_0 := (HB.out.cell (World.block_lt_of_cell? w _ hx591_0)).trans hx591_0; have HR591_0 := Aside0.mk hi591_0; have HC591_0 := Aside0.mk hl591_0; clear hi591_0 hl591_0; replace p591 := eq_true p591; replace q591 := eq_true q591) | (go_at_call 86; (with_reducible refine (impl_crowdOf.calls k3 _ _ (rd_L1 l1_2 x60_3) t592 _ ?side1 ?side2 A72.out).mono ?_); (case side1 => exact zc (Kd.C_below HR591_0.out (zb2 HB.out GE578.out GE579.out))); (case side2 => exact HC591_0.out); rintro e w' ⟨rfl, ⟨nd, rfl⟩⟩; (try exact zd); have hcz97_0 : wr.cell? ⟨gb578, 0, none⟩ = some (.int .i64 a0_0) := (blk_cell BK578.out 0).trans rfl; have hcz97_1 : wr.cell? ⟨gb578, 1, none⟩ = some (.slice A0_1 l0_1.length c0_1) := (blk_cell BK578.out 1).trans rfl; have hfz97_0 := blk_frozen BK578.out 0; have hfz97_1 := blk_frozen BK578.out 1) | (go_at_call 89; (with_reducible refine (impl_Family_chained.calls k3 a0_0 _ _ l0_1 t587 x8_3 t590 false _ ?side1 ?side2 A73.out).mono ?_); (case side1 => exact zc (Kd.C_below HR0_1.out (zb2 HB.out GE578.out GE579.out))); (case side2 => exact HC0_1.out); rintro e w98 ⟨rfl, hb⟩; have n0_ := Aside0.mk (Kd.V_below (zv HO_580000.out) hb); have n1_ := Aside0.mk (blk_below (g := gb578) (o := .cells #[.int .i64 a0_0, .slice A0_1 l0_1.length c0_1] 31 (0, 0)) (zk BK578.out) hb); have n2_ := Aside0.mk (blk_below (g := gb579) (o := .cells #[.slice A1_0 l1_0.length c1_0, .slice (some ad589) l1_1.length c1_1, .slice (some ad591) l1_2.length c1_2] 28 (0, 0)) (zk BK579.out) hb); have n3_ := Aside0.mk (below_step (zb2 HB.out GE578.out GE579.out) hb); clear HO_580000; clear BK578; clear BK579; clear HB; have HO_580000 := n0_; have BK578 := n1_; have BK579 := n2_; have HB := n3_; clear n0_ n1_ n2_ n3_; (try clear hb); (try clear hb2); (try clear hk); (try clear hi))); try go_wp2_with (first | (go_at_call 86; (with_reducible refine (impl_crowdOf.calls k3 _ _ (rd_L1 l1_1 x60_3) t590 _ ?side1 ?side2 A70.out).mono ?_); (case side1 => exact zc (Kd.C_below HR589_0.out HB.out)); (case side2 => exact HC589_0.out); rintro e w' ⟨rfl, ⟨nd, rfl⟩⟩; (try exact zd); have hnb95 := NB579_578.out; have hnc95 := NB578_579.out; have hcz96_0 : wr.cell? ⟨gb579, 0, none⟩ = some (.slice A1_0 l1_0.length c1_0) := (blk_cell BK579.out 0).trans rfl; have hcz96_1 : wr.cell? ⟨gb579, 1, none⟩ = some (.slice (some ad589) l1_1.length c1_1) := (blk_cell BK579.out 1).trans rfl; have hcz96_2 : wr.cell? ⟨gb579, 2, none⟩ = some (.slice A1_2 l1_2.length c1_2) := (blk_cell BK579.out 2).trans rfl; have hfz96_0 := blk_frozen BK579.out 0; have hfz96_1 := blk_frozen BK579.out 1; have hfz96_2 := blk_frozen BK579.out 2; have p591 : 0 ≤ (x60_3 : Int) := of_decide_eq_true (by first | (with_reducible assumption) | assumption); have q591 : x60_3 < (l1_2.length : Int) := of_decide_eq_true (by first | (with_reducible assumption) | assumption); obtain ⟨ad591, A591_0, c591_0, e591, hx591_0, hl591_0, hi591_0⟩ := at_L1 HR1_2.out x60_3 p591 q591; cases e591; replace hx591_0 := (HB.out.cell (World.block_lt_of_cell? w _ hx591_0)).trans hx591_0; have HR591_0 := Aside0.mk hi591_0; have HC591_0 := Aside0.mk hl591_0; clear hi591_0 hl591_0; replace p591 := eq_true p591; replace q591 := eq_true q591) | (go_at_call 86; (with_reducible refine (impl_crowdOf.calls k3 _ _ (rd_L1 l1_2 x60_3) t592 _ ?side1 ?side2 A72.out).mono ?_); (case side1 => exact zc (Kd.C_below HR591_0.out (zb2 HB.out GE578.out GE579.out))); (case side2 => exact HC591_0.out); rintro e w' ⟨rfl, ⟨nd, rfl⟩⟩; (try exact zd); have hcz97_0 : wr.cell? ⟨gb578, 0, none⟩ = some (.int .i64 a0_0) := (blk_cell BK578.out 0).trans rfl; have hcz97_1 : wr.cell? ⟨gb578, 1, none⟩ = some (.slice A0_1 l0_1.length c0_1) := (blk_cell BK578.out 1).trans rfl; have hfz97_0 := blk_frozen BK578.out 0; have hfz97_1 := blk_frozen BK578.out 1) | (go_at_call 89; (with_reducible refine (impl_Family_chained.calls k3 a0_0 _ _ l0_1 t587 x8_3 t590 false _ ?side1 ?side2 A73.out).mono ?_); (case side1 => exact zc (Kd.C_below HR0_1.out (zb2 HB.out GE578.out GE579.out))); (case side2 => exact HC0_1.out); rintro e w98 ⟨rfl, hb⟩; have n0_ := Aside0.mk (Kd.V_below (zv HO_580000.out) hb); have n1_ := Aside0.mk (blk_below (g := gb578) (o := .cells #[.int .i64 a0_0, .slice A0_1 l0_1.length c0_1] 31 (0, 0)) (zk BK578.out) hb); have n2_ := Aside0.mk (blk_below (g := gb579) (o := .cells #[.slice A1_0 l1_0.length c1_0, .slice (some ad589) l1_1.length c1_1, .slice (some ad591) l1_2.length c1_2] 28 (0, 0)) (zk BK579.out) hb); have n3_ := Aside0.mk (below_step (zb2 HB.out GE578.out GE579.out) hb); clear HO_580000; clear BK578; clear BK579; clear HB; have HO_580000 := n0_; have BK578 := n1_; have BK579 := n2_; have HB := n3_; clear n0_ n1_ n2_ n3_; (try clear hb); (try clear hb2); (try clear hk); (try clear hi))))
             go_ret2
             exact ⟨ze, zb2 HB.out GE578.out GE579.out⟩
           ·rw [if_neg c71] at H
            exact absurd H (by simp)
          ·rw [if_neg c69] at H
           exact absurd H (by simp)
         ·rw [if_neg c68] at H
          exact absurd H (by simp)
        ·rw [if_neg c67] at H
         have c67b0 : decide (x60_3 < (l1_1.length : Int)) = false := decide_eq_false c67
         clear c67
         replace H := Option.bind_eq_some_iff.mp H
         obtain ⟨t588, A990, H⟩ := H
         replace H : (some (t588, 0)) = some (r1, r2) := H
         have A99 := Aside0.mk A990
         clear A990
         simp only [Option.some.injEq, Prod.mk.injEq] at H
         obtain ⟨rfl, rfl⟩ := H
         have hnb100 := NB578_579.out
         have hnc100 := NB579_578.out
         have hcz101_0 : wr.cell? ⟨gb578, 0, none⟩ = some (.int .i64 a0_0) := (blk_cell BK578.out 0).trans rfl
         have hcz101_1 : wr.cell? ⟨gb578, 1, none⟩ = some (.slice A0_1 l0_1.length c0_1) := (blk_cell BK578.out 1).trans rfl
         have hfz101_0 := blk_frozen BK578.out 0
         have hfz101_1 := blk_frozen BK578.out 1
         have hcz102_0 : wr.cell? ⟨gb579, 0, none⟩ = some (.slice A1_0 l1_0.length c1_0) := (blk_cell BK579.out 0).trans rfl
         have hcz102_1 : wr.cell? ⟨gb579, 1, none⟩ = some (.slice A1_1 l1_1.length c1_1) := (blk_cell BK579.out 1).trans rfl
         have hcz102_2 : wr.cell? ⟨gb579, 2, none⟩ = some (.slice A1_2 l1_2.length c1_2) := (blk_cell BK579.out 2).trans rfl
         have hfz102_0 := blk_frozen BK579.out 0
         have hfz102_1 := blk_frozen BK579.out 1
         have hfz102_2 := blk_frozen BK579.out 2
         go_wp2_with (first | (go_at_call 76; (with_reducible refine (impl_Family_number.calls k3 a0_0 _ _ l0_1 t587 (l1_1.length : Int) t588 _ ?side1 ?side2 A99.out).mono ?_); (case side1 => exact zc (Kd.C_below HR0_1.out HB.out)); (case side2 => exact HC0_1.out); rintro e w103 ⟨rfl, hb⟩; have n0_ := Aside0.mk (Kd.V_below (zv HO_580000.out) hb); have n1_ := Aside0.mk (blk_below (g := gb578) (o := .cells #[.int .i64 a0_0, .slice A0_1 l0_1.length c0_1] 31 (0, 0)) (zk BK578.out) hb); have n2_ := Aside0.mk (blk_below (g := gb579) (o := .cells #[.slice A1_0 l1_0.length c1_0, .slice A1_1 l1_1.length c1_1, .slice A1_2 l1_2.length c1_2] 28 (0, 0)) (zk BK579.out) hb); have n3_ := Aside0.mk (below_step (zb2 HB.out GE578.out GE579.out) hb); clear HO_580000; clear BK578; clear BK579; clear HB; have HO_580000 := n0_; have BK578 := n1_; have BK579 := n2_; have HB := n3_; clear n0_ n1_ n2_ n3_; (try clear hb); (try clear hb2); (try clear hk); (try clear hi)))
         go_ret2
         exact ⟨ze, zb2 HB.out GE578.out GE579.out⟩
     ·rw [if_neg c63] at H
      have c63b0 : (x6_60 == 0) = false := beq_eq_false_iff_ne.mpr c63
      have c63b1 : (x6_60 != 0) = true := bne_iff_ne.mpr c63
      simp only [Option.some.injEq, Prod.mk.injEq] at H
      obtain ⟨rfl, rfl⟩ := H
      go_wp2
      repeat (go_quiet (fail); try go_wp2)
      go_ret2
      exact ⟨ze, zb2 HB.out GE578.out GE579.out⟩
open Go.RowKit Go.Proofs.YtmbeijjkfmgkpaaW.PrintWords Go.Proofs.YtmbeijjkfmgkpaaW.PrintLast Go.Proofs.YtmbeijjkfmgkpaaW.PrintMore
attribute [local go_sem] max2_int min2_int max_two min_two max_three min_three max_four min_four
set_option linter.unusedVariables false
set_option linter.unusedSimpArgs false
def spec_l07Worth.f (l0 : List Bool) (a1 : Int) (a2 : Int) : Option (Int) := if 0 ≤ a1 then (if a1 < (l0.length : Int) then (if rdOf false l0 a1 = true then (some (wrap64 (a2 + 1))) else (some a2)) else (none)) else (none)
set_option maxHeartbeats 8000000 in
set_option maxRecDepth 100000 in
theorem spec_l07Worth.calls (A0 : Option Addr) (c0 : Nat) (l0 : List Bool) (a1 : Int) (a2 : Int) (r : Int) (w : World) (hr0 : Kd.C Kd.bool w A0 l0.length l0) (hc0 : l0.length ≤ c0) (h : spec_l07Worth.f l0 a1 a2 = some r) :
  Calls Try.prog 97 #[.slice A0 l0.length c0, .int .i64 a1, .int .i64 a2] w fun e w' => e = .returned (.int .i64 r) ∧ Drawn0 w w' := by
 have HR0 := Aside0.mk hr0
 have HC0 := Aside0.mk hc0
 clear hr0 hc0
 have H : (if 0 ≤ a1 then (if a1 < (l0.length : Int) then (if rdOf false l0 a1 = true then (some (wrap64 (a2 + 1))) else (some a2)) else (none)) else (none)) = some r := h
 clear h
 by_cases c4 : 0 ≤ a1
 ·rw [if_pos c4] at H
  have c4b0 : decide (0 ≤ a1) = true := decide_eq_true c4
  clear c4
  by_cases c5 : a1 < (l0.length : Int)
  ·rw [if_pos c5] at H
   have c5b0 : decide (a1 < (l0.length : Int)) = true := decide_eq_true c5
   clear c5
   obtain ⟨bq6, hbq6⟩ : ∃ b_ : Bool, b_ = (rdOf false l0 a1) := ⟨_, rfl⟩
   replace H : (if bq6 = true then (some (wrap64 (a2 + 1))) else (some a2)) = some r := by rw [← hbq6] at H; exact H
   have Nbq6 := Aside0.mk hbq6
   clear hbq6
   by_cases c7 : bq6 = true
   ·subst c7
    rw [if_pos rfl] at H
    obtain rfl := Option.some.inj H
    have p161 : 0 ≤ (a1 : Int) := of_decide_eq_true zq
    have q161 : a1 < (l0.length : Int) := of_decide_eq_true zq
    obtain ⟨ad161, e161, hx161_0⟩ := Kd.at_bool HR0.out a1 p161 q161
    (try rw [← Nbq6.out] at hx161_0)
    cases e161
    replace p161 := eq_true p161
    replace q161 := eq_true q161
    go_enter Try.func97, Try.ntmps97
    go_wp2
    go_ret
    exact ⟨by first | rfl | (simp; done) | (simp [*]; done), by repeat (first | exact Drawn0.refl _ | apply Drawn0.step)⟩
   ·replace c7 := Bool.eq_false_iff.mpr c7
    subst c7
    rw [if_neg (show ¬ (false = true) by decide)] at H
    obtain rfl := Option.some.inj H
    have p161 : 0 ≤ (a1 : Int) := of_decide_eq_true zq
    have q161 : a1 < (l0.length : Int) := of_decide_eq_true zq
    obtain ⟨ad161, e161, hx161_0⟩ := Kd.at_bool HR0.out a1 p161 q161
    (try rw [← Nbq6.out] at hx161_0)
    cases e161
    replace p161 := eq_true p161
    replace q161 := eq_true q161
    go_enter Try.func97, Try.ntmps97
    go_wp2
    go_ret
    exact ⟨by first | rfl | (simp; done) | (simp [*]; done), by repeat (first | exact Drawn0.refl _ | apply Drawn0.step)⟩
  ·rw [if_neg c5] at H
   exact absurd H (by simp)
 ·rw [if_neg c4] at H
  exact absurd H (by simp)
mutual
def spec_CheckSequence.j0 : Nat → Bool → Int → List (List Int) → List Int → List (List Int) → List (List Int) → Option (Int × Int)
  | 0, _, _, _, _, _, _ => none
  | k + 1, x40, x597000, x597001, x598000, x598001, x598002 => if x40 = true then (some (0, 2)) else ((spec_l07Open.f k x597000 x597001).bind fun t602 => ((spec_l07Bits.f k x598000).bind fun t605 => ((spec_l07Numbers.f k x598001).bind fun t606 => ((spec_l07Numbers.f k x598002).bind fun t609 => ((spec_l07Chain.f k t602 t605 t606).bind fun t612 => (if t612 = true then (spec_CheckSequence.l0 k t602 t605 t606 t609 0) else (some (0, 8))))))))
def spec_CheckSequence.l0 : Nat → List Bool → Int → List Int → List Int → Int → Option (Int × Int)
  | 0, _, _, _, _, _ => none
  | k + 1, x7, x8, x9, x10, x11 => if x11 < (x10.length : Int) then (if 0 ≤ x11 then (if (Go.bits .and .i64 (rd x10 x11) x8) = (rd x10 x11) then ((spec_l07Right.f x7 x9 x11 (rd x10 x11)).bind fun t616 => (if t616 = true then (spec_CheckSequence.l0 k x7 x8 x9 x10 (wrap64 (x11 + 1))) else (some (0, 8)))) else (some (0, 8))) else (none)) else ((spec_l07Worth.f x7 x8 (x9.length : Int)).bind fun t617 => (some (t617, 0)))
end
def spec_CheckSequence.f (k : Nat) (a0_0 : Int) (l0_1 : List (List Int)) (l1_0 : List Int) (l1_1 : List (List Int)) (l1_2 : List (List Int)) : Option (Int × Int) := (spec_l07Family.f k a0_0 l0_1).bind fun t598 => (if t598 = 0 then ((spec_l07Group.f k a0_0 l0_1 l1_0).bind fun t599 => (if t599 = true then ((spec_l07Groups.f k a0_0 l0_1 l1_1).bind fun t600 => (if t600 = true then ((spec_l07Groups.f k a0_0 l0_1 l1_2).bind fun t601 => (if t601 = true then (spec_CheckSequence.j0 k ((l1_1.length : Int) != (l1_2.length : Int)) a0_0 l0_1 l1_0 l1_1 l1_2) else (spec_CheckSequence.j0 k true a0_0 l0_1 l1_0 l1_1 l1_2))) else (spec_CheckSequence.j0 k true a0_0 l0_1 l1_0 l1_1 l1_2))) else (spec_CheckSequence.j0 k true a0_0 l0_1 l1_0 l1_1 l1_2))) else (some (0, t598)))
set_option maxHeartbeats 8000000 in
set_option maxRecDepth 100000 in
theorem spec_CheckSequence.calls (k : Nat) (a0_0 : Int) (A0_1 : Option Addr) (c0_1 : Nat) (l0_1 : List (List Int)) (A1_0 : Option Addr) (c1_0 : Nat) (l1_0 : List Int) (A1_1 : Option Addr) (c1_1 : Nat) (l1_1 : List (List Int)) (A1_2 : Option Addr) (c1_2 : Nat) (l1_2 : List (List Int)) (r1 : Int) (r2 : Int) (w : World) (hr0_1 : Kd.C (Kd.slice 2 (Kd.int .i64)) w A0_1 l0_1.length l0_1) (hc0_1 : l0_1.length ≤ c0_1) (hr1_0 : Kd.C (Kd.int .i64) w A1_0 l1_0.length l1_0) (hc1_0 : l1_0.length ≤ c1_0) (hr1_1 : Kd.C (Kd.slice 2 (Kd.int .i64)) w A1_1 l1_1.length l1_1) (hc1_1 : l1_1.length ≤ c1_1) (hr1_2 : Kd.C (Kd.slice 2 (Kd.int .i64)) w A1_2 l1_2.length l1_2) (hc1_2 : l1_2.length ≤ c1_2) (h : spec_CheckSequence.f k a0_0 l0_1 l1_0 l1_1 l1_2 = some (r1, r2)) :
  Calls Try.prog 29 #[.agg #[.int .i64 a0_0, .slice A0_1 l0_1.length c0_1], .agg #[.slice A1_0 l1_0.length c1_0, .slice A1_1 l1_1.length c1_1, .slice A1_2 l1_2.length c1_2]] w fun e w' => e = .returned (.tuple #[.int .i64 r1, .int .i64 r2]) ∧ Below w.heap.size w w' := by
 have hu31 := Try.underlying31
 have hu28 := Try.underlying28
 have HR0_1 := Aside0.mk hr0_1
 have HC0_1 := Aside0.mk hc0_1
 clear hr0_1 hc0_1
 have HR1_0 := Aside0.mk hr1_0
 have HC1_0 := Aside0.mk hc1_0
 clear hr1_0 hc1_0
 have HR1_1 := Aside0.mk hr1_1
 have HC1_1 := Aside0.mk hc1_1
 clear hr1_1 hc1_1
 have HR1_2 := Aside0.mk hr1_2
 have HC1_2 := Aside0.mk hc1_2
 clear hr1_2 hc1_2
 have HB := Aside0.mk (Below.refl w.heap.size w)
 have H : ((spec_l07Family.f k a0_0 l0_1).bind fun t598 => (if t598 = 0 then ((spec_l07Group.f k a0_0 l0_1 l1_0).bind fun t599 => (if t599 = true then ((spec_l07Groups.f k a0_0 l0_1 l1_1).bind fun t600 => (if t600 = true then ((spec_l07Groups.f k a0_0 l0_1 l1_2).bind fun t601 => (if t601 = true then (spec_CheckSequence.j0 k ((l1_1.length : Int) != (l1_2.length : Int)) a0_0 l0_1 l1_0 l1_1 l1_2) else (spec_CheckSequence.j0 k true a0_0 l0_1 l1_0 l1_1 l1_2))) else (spec_CheckSequence.j0 k true a0_0 l0_1 l1_0 l1_1 l1_2))) else (spec_CheckSequence.j0 k true a0_0 l0_1 l1_0 l1_1 l1_2))) else (some (0, t598)))) = some (r1, r2) := h
 clear h
 replace H := Option.bind_eq_some_iff.mp H
 obtain ⟨t598, A30, H⟩ := H
 replace H : (if t598 = 0 then ((spec_l07Group.f k a0_0 l0_1 l1_0).bind fun t599 => (if t599 = true then ((spec_l07Groups.f k a0_0 l0_1 l1_1).bind fun t600 => (if t600 = true then ((spec_l07Groups.f k a0_0 l0_1 l1_2).bind fun t601 => (if t601 = true then (spec_CheckSequence.j0 k ((l1_1.length : Int) != (l1_2.length : Int)) a0_0 l0_1 l1_0 l1_1 l1_2) else (spec_CheckSequence.j0 k true a0_0 l0_1 l1_0 l1_1 l1_2))) else (spec_CheckSequence.j0 k true a0_0 l0_1 l1_0 l1_1 l1_2))) else (spec_CheckSequence.j0 k true a0_0 l0_1 l1_0 l1_1 l1_2))) else (some (0, t598))) = some (r1, r2) := H
 have A3 := Aside0.mk A30
 clear A30
 by_cases c4 : t598 = 0
 ·rw [if_pos c4] at H
  have c4b0 : (t598 == 0) = true := beq_iff_eq.mpr c4
  have c4b1 : (t598 != 0) = false := bne_eq_false_iff_eq.mpr c4
  clear c4
  have HC5 := Aside0.mk H
  clear H
  go_enter Try.func29, Try.ntmps29
  go_upto_region 4 with (first | ((with_reducible refine gate_dst (N := 2) rfl ?_); (try (refine gate_guard (by rfl) ?_; dsimp only)); refine box_event ?hg (N := 2) ?hd (cs := #[.int .i64 a0_0, .slice A0_1 l0_1.length c0_1]) (t := 31) ?hr ?_; (case hd => rfl); (case hg => rfl); (case hr => first | (go_simp; done) | (go_simp; rfl)); intro gb596 hg w6 hbox hb; have n0_ := Aside0.mk (below_step (zb0 HB.out) hb); have n1_ := Aside0.mk (hbox); have n2_ := Aside0.mk ((by rw [hg]; exact (below_size (zb0 HB.out)) : w.heap.size ≤ gb596)); have n3_ := Aside0.mk ((by rw [hg]; exact (below_size (zb0 HB.out)) : w.heap.size ≤ gb596)); clear HB; have HB := n0_; have BK596 := n1_; have GW596 := n2_; have GE596 := n3_; clear n0_ n1_ n2_ n3_; clear hb hbox hg) | ((with_reducible refine gate_dst (N := 3) rfl ?_); (try (refine gate_guard (by rfl) ?_; dsimp only)); refine box_event ?hg (N := 3) ?hd (cs := #[.slice A1_0 l1_0.length c1_0, .slice A1_1 l1_1.length c1_1, .slice A1_2 l1_2.length c1_2]) (t := 28) ?hr ?_; (case hd => rfl); (case hg => rfl); (case hr => first | (go_simp; done) | (go_simp; rfl)); intro gb597 hg w7 hbox hb; have n0_ := Aside0.mk (blk_below (g := gb596) (o := .cells #[.int .i64 a0_0, .slice A0_1 l0_1.length c0_1] 31 (0, 0)) (zk BK596.out) hb); have n1_ := Aside0.mk (below_step (zb1 HB.out GE596.out) hb); have n2_ := Aside0.mk (hbox); have n3_ := Aside0.mk ((by rw [hg]; exact (below_size (zb1 HB.out GE596.out)) : w.heap.size ≤ gb597)); have n4_ := Aside0.mk ((by rw [hg]; exact (below_size (zb1 HB.out GE596.out)) : w.heap.size ≤ gb597)); have n5_ := Aside0.mk ((by rw [hg]; exact Nat.ne_of_lt (blk_lt (g := gb596) (o := .cells #[.int .i64 a0_0, .slice A0_1 l0_1.length c0_1] 31 (0, 0)) (zk BK596.out)) : gb596 ≠ gb597)); have n6_ := Aside0.mk ((by rw [hg]; exact Nat.ne_of_gt (blk_lt (g := gb596) (o := .cells #[.int .i64 a0_0, .slice A0_1 l0_1.length c0_1] 31 (0, 0)) (zk BK596.out)) : gb597 ≠ gb596)); clear BK596; clear HB; have BK596 := n0_; have HB := n1_; have BK597 := n2_; have GW597 := n3_; have GE597 := n4_; have NB596_597 := n5_; have NB597_596 := n6_; clear n0_ n1_ n2_ n3_ n4_ n5_ n6_; clear hb hbox hg) | (go_at_call 66; (with_reducible refine (spec_l07Family.calls k gb596 a0_0 A0_1 c0_1 l0_1 t598 _ ?side1 ?side2 ?side3 A3.out).mono ?_); (case side1 => (with_reducible repeat (first | refine blk_drewN ?_ _ | refine blk_drew ?_ | refine blk_alloc ?_ _)); exact BK596.out); (case side2 => exact zc (Kd.C_below HR0_1.out HB.out)); (case side3 => exact HC0_1.out); rintro e w8 ⟨rfl, hb⟩; have n0_ := Aside0.mk (blk_below (g := gb596) (o := .cells #[.int .i64 a0_0, .slice A0_1 l0_1.length c0_1] 31 (0, 0)) (zk BK596.out) hb); have n1_ := Aside0.mk (blk_below (g := gb597) (o := .cells #[.slice A1_0 l1_0.length c1_0, .slice A1_1 l1_1.length c1_1, .slice A1_2 l1_2.length c1_2] 28 (0, 0)) (zk BK597.out) hb); have n2_ := Aside0.mk (below_step (zb2 HB.out GE596.out GE597.out) hb); clear BK596; clear BK597; clear HB; have BK596 := n0_; have BK597 := n1_; have HB := n2_; clear n0_ n1_ n2_; (try clear hb); (try clear hb2); (try clear hk); (try clear hi)))
  (try simp only [Act.put, List.setIfInBounds_toArray, List.set_cons_zero, List.set_cons_succ])
  go_cut [40] (fun v40 wc => ∃ (kq : Nat) (x40_4 : Bool), v40 = .bool x40_4 ∧ Aside0 (spec_CheckSequence.j0 kq x40_4 a0_0 l0_1 l1_0 l1_1 l1_2 = some (r1, r2)) ∧ Aside0 (kq ≤ k) ∧ Aside0 (wc.heap[gb596]? = some (.cells #[.int .i64 a0_0, (.slice A0_1 l0_1.length c0_1)] 31 (0, 0))) ∧ Aside0 (wc.heap[gb597]? = some (.cells #[(.slice A1_0 l1_0.length c1_0), (.slice A1_1 l1_1.length c1_1), (.slice A1_2 l1_2.length c1_2)] 28 (0, 0))) ∧ Aside0 (Below w.heap.size w wc))
  case first =>
   have H := HC5.out
   clear HC5
   replace H := Option.bind_eq_some_iff.mp H
   obtain ⟨t599, A90, H⟩ := H
   replace H : (if t599 = true then ((spec_l07Groups.f k a0_0 l0_1 l1_1).bind fun t600 => (if t600 = true then ((spec_l07Groups.f k a0_0 l0_1 l1_2).bind fun t601 => (if t601 = true then (spec_CheckSequence.j0 k ((l1_1.length : Int) != (l1_2.length : Int)) a0_0 l0_1 l1_0 l1_1 l1_2) else (spec_CheckSequence.j0 k true a0_0 l0_1 l1_0 l1_1 l1_2))) else (spec_CheckSequence.j0 k true a0_0 l0_1 l1_0 l1_1 l1_2))) else (spec_CheckSequence.j0 k true a0_0 l0_1 l1_0 l1_1 l1_2)) = some (r1, r2) := H
   have A9 := Aside0.mk A90
   clear A90
   by_cases c10 : t599 = true
   ·subst c10
    rw [if_pos rfl] at H
    replace H := Option.bind_eq_some_iff.mp H
    obtain ⟨t600, A110, H⟩ := H
    replace H : (if t600 = true then ((spec_l07Groups.f k a0_0 l0_1 l1_2).bind fun t601 => (if t601 = true then (spec_CheckSequence.j0 k ((l1_1.length : Int) != (l1_2.length : Int)) a0_0 l0_1 l1_0 l1_1 l1_2) else (spec_CheckSequence.j0 k true a0_0 l0_1 l1_0 l1_1 l1_2))) else (spec_CheckSequence.j0 k true a0_0 l0_1 l1_0 l1_1 l1_2)) = some (r1, r2) := H
    have A11 := Aside0.mk A110
    clear A110
    by_cases c12 : t600 = true
    ·subst c12
     rw [if_pos rfl] at H
     replace H := Option.bind_eq_some_iff.mp H
     obtain ⟨t601, A130, H⟩ := H
     replace H : (if t601 = true then (spec_CheckSequence.j0 k ((l1_1.length : Int) != (l1_2.length : Int)) a0_0 l0_1 l1_0 l1_1 l1_2) else (spec_CheckSequence.j0 k true a0_0 l0_1 l1_0 l1_1 l1_2)) = some (r1, r2) := H
     have A13 := Aside0.mk A130
     clear A130
     by_cases c14 : t601 = true
     ·subst c14
      rw [if_pos rfl] at H
      have H' := Aside0.mk H
      clear H
      have hcz16_0 : w8.cell? ⟨gb597, 0, none⟩ = some (.slice A1_0 l1_0.length c1_0) := (blk_cell BK597.out 0).trans rfl
      have hcz16_1 : w8.cell? ⟨gb597, 1, none⟩ = some (.slice A1_1 l1_1.length c1_1) := (blk_cell BK597.out 1).trans rfl
      have hcz16_2 : w8.cell? ⟨gb597, 2, none⟩ = some (.slice A1_2 l1_2.length c1_2) := (blk_cell BK597.out 2).trans rfl
      have hfz16_0 := blk_frozen BK597.out 0
      have hfz16_1 := blk_frozen BK597.out 1
      have hfz16_2 := blk_frozen BK597.out 2
      go_wp2_with (first | (go_at_call 90; (with_reducible refine (spec_l07Group.calls k gb596 a0_0 A0_1 c0_1 l0_1 _ _ l1_0 true _ ?side1 ?side2 ?side3 ?side4 ?side5 A9.out).mono ?_); (case side1 => (with_reducible repeat (first | refine blk_drewN ?_ _ | refine blk_drew ?_ | refine blk_alloc ?_ _)); exact BK596.out); (case side2 => exact zc (Kd.C_below HR0_1.out HB.out)); (case side3 => exact HC0_1.out); (case side4 => exact zc (Kd.C_below HR1_0.out HB.out)); (case side5 => exact HC1_0.out); rintro e w17 ⟨rfl, hb⟩; have n0_ := Aside0.mk (blk_below (g := gb596) (o := .cells #[.int .i64 a0_0, .slice A0_1 l0_1.length c0_1] 31 (0, 0)) (zk BK596.out) hb); have n1_ := Aside0.mk (blk_below (g := gb597) (o := .cells #[.slice A1_0 l1_0.length c1_0, .slice A1_1 l1_1.length c1_1, .slice A1_2 l1_2.length c1_2] 28 (0, 0)) (zk BK597.out) hb); have n2_ := Aside0.mk (below_step (zb2 HB.out GE596.out GE597.out) hb); clear BK596; clear BK597; clear HB; have BK596 := n0_; have BK597 := n1_; have HB := n2_; clear n0_ n1_ n2_; (try clear hb); (try clear hb2); (try clear hk); (try clear hi); have hcz18_0 : w17.cell? ⟨gb597, 0, none⟩ = some (.slice A1_0 l1_0.length c1_0) := (blk_cell BK597.out 0).trans rfl; have hcz18_1 : w17.cell? ⟨gb597, 1, none⟩ = some (.slice A1_1 l1_1.length c1_1) := (blk_cell BK597.out 1).trans rfl; have hcz18_2 : w17.cell? ⟨gb597, 2, none⟩ = some (.slice A1_2 l1_2.length c1_2) := (blk_cell BK597.out 2).trans rfl; have hfz18_0 := blk_frozen BK597.out 0; have hfz18_1 := blk_frozen BK597.out 1; have hfz18_2 := blk_frozen BK597.out 2) | (go_at_call 91; (with_reducible refine (spec_l07Groups.calls k gb596 a0_0 A0_1 c0_1 l0_1 _ _ l1_1 true _ ?side1 ?side2 ?side3 ?side4 ?side5 A11.out).mono ?_); (case side1 => (with_reducible repeat (first | refine blk_drewN ?_ _ | refine blk_drew ?_ | refine blk_alloc ?_ _)); exact BK596.out); (case side2 => exact zc (Kd.C_below HR0_1.out HB.out)); (case side3 => exact HC0_1.out); (case side4 => exact zc (Kd.C_below HR1_1.out HB.out)); (case side5 => exact HC1_1.out); rintro e w19 ⟨rfl, hb⟩; have n0_ := Aside0.mk (blk_below (g := gb596) (o := .cells #[.int .i64 a0_0, .slice A0_1 l0_1.length c0_1] 31 (0, 0)) (zk BK596.out) hb); have n1_ := Aside0.mk (blk_below (g := gb597) (o := .cells #[.slice A1_0 l1_0.length c1_0, .slice A1_1 l1_1.length c1_1, .slice A1_2 l1_2.length c1_2] 28 (0, 0)) (zk BK597.out) hb); have n2_ := Aside0.mk (below_step (zb2 HB.out GE596.out GE597.out) hb); clear BK596; clear BK597; clear HB; have BK596 := n0_; have BK597 := n1_; have HB := n2_; clear n0_ n1_ n2_; (try clear hb); (try clear hb2); (try clear hk); (try clear hi); have hcz20_0 : w19.cell? ⟨gb597, 0, none⟩ = some (.slice A1_0 l1_0.length c1_0) := (blk_cell BK597.out 0).trans rfl; have hcz20_1 : w19.cell? ⟨gb597, 1, none⟩ = some (.slice A1_1 l1_1.length c1_1) := (blk_cell BK597.out 1).trans rfl; have hcz20_2 : w19.cell? ⟨gb597, 2, none⟩ = some (.slice A1_2 l1_2.length c1_2) := (blk_cell BK597.out 2).trans rfl; have hfz20_0 := blk_frozen BK597.out 0; have hfz20_1 := blk_frozen BK597.out 1; have hfz20_2 := blk_frozen BK597.out 2) | (go_at_call 91; (with_reducible refine (spec_l07Groups.calls k gb596 a0_0 A0_1 c0_1 l0_1 _ _ l1_2 true _ ?side1 ?side2 ?side3 ?side4 ?side5 A13.out).mono ?_); (case side1 => (with_reducible repeat (first | refine blk_drewN ?_ _ | refine blk_drew ?_ | refine blk_alloc ?_ _)); exact BK596.out); (case side2 => exact zc (Kd.C_below HR0_1.out HB.out)); (case side3 => exact HC0_1.out); (case side4 => exact zc (Kd.C_below HR1_2.out HB.out)); (case side5 => exact HC1_2.out); rintro e w21 ⟨rfl, hb⟩; have n0_ := Aside0.mk (blk_below (g := gb596) (o := .cells #[.int .i64 a0_0, .slice A0_1 l0_1.length c0_1] 31 (0, 0)) (zk BK596.out) hb); have n1_ := Aside0.mk (blk_below (g := gb597) (o := .cells #[.slice A1_0 l1_0.length c1_0, .slice A1_1 l1_1.length c1_1, .slice A1_2 l1_2.length c1_2] 28 (0, 0)) (zk BK597.out) hb); have n2_ := Aside0.mk (below_step (zb2 HB.out GE596.out GE597.out) hb); clear BK596; clear BK597; clear HB; have BK596 := n0_; have BK597 := n1_; have HB := n2_; clear n0_ n1_ n2_; (try clear hb); (try clear hb2); (try clear hk); (try clear hi); have hcz22_0 : w21.cell? ⟨gb597, 0, none⟩ = some (.slice A1_0 l1_0.length c1_0) := (blk_cell BK597.out 0).trans rfl; have hcz22_1 : w21.cell? ⟨gb597, 1, none⟩ = some (.slice A1_1 l1_1.length c1_1) := (blk_cell BK597.out 1).trans rfl; have hcz22_2 : w21.cell? ⟨gb597, 2, none⟩ = some (.slice A1_2 l1_2.length c1_2) := (blk_cell BK597.out 2).trans rfl; have hfz22_0 := blk_frozen BK597.out 0; have hfz22_1 := blk_frozen BK597.out 1; have hfz22_2 := blk_frozen BK597.out 2))
      go_meet
      case rel => exact ⟨_, (((l1_1.length : Int) != (l1_2.length : Int))), zt, H', ⟨by first | omega | exact Nat.le_refl _⟩, ⟨zk BK596.out⟩, ⟨zk BK597.out⟩, ⟨zb2 HB.out GE596.out GE597.out⟩⟩
     ·replace c14 := Bool.eq_false_iff.mpr c14
      subst c14
      rw [if_neg (show ¬ (false = true) by decide)] at H
      have H' := Aside0.mk H
      clear H
      have hcz24_0 : w8.cell? ⟨gb597, 0, none⟩ = some (.slice A1_0 l1_0.length c1_0) := (blk_cell BK597.out 0).trans rfl
      have hcz24_1 : w8.cell? ⟨gb597, 1, none⟩ = some (.slice A1_1 l1_1.length c1_1) := (blk_cell BK597.out 1).trans rfl
      have hcz24_2 : w8.cell? ⟨gb597, 2, none⟩ = some (.slice A1_2 l1_2.length c1_2) := (blk_cell BK597.out 2).trans rfl
      have hfz24_0 := blk_frozen BK597.out 0
      have hfz24_1 := blk_frozen BK597.out 1
      have hfz24_2 := blk_frozen BK597.out 2
      go_wp2_with (first | (go_at_call 90; (with_reducible refine (spec_l07Group.calls k gb596 a0_0 A0_1 c0_1 l0_1 _ _ l1_0 true _ ?side1 ?side2 ?side3 ?side4 ?side5 A9.out).mono ?_); (case side1 => (with_reducible repeat (first | refine blk_drewN ?_ _ | refine blk_drew ?_ | refine blk_alloc ?_ _)); exact BK596.out); (case side2 => exact zc (Kd.C_below HR0_1.out HB.out)); (case side3 => exact HC0_1.out); (case side4 => exact zc (Kd.C_below HR1_0.out HB.out)); (case side5 => exact HC1_0.out); rintro e w25 ⟨rfl, hb⟩; have n0_ := Aside0.mk (blk_below (g := gb596) (o := .cells #[.int .i64 a0_0, .slice A0_1 l0_1.length c0_1] 31 (0, 0)) (zk BK596.out) hb); have n1_ := Aside0.mk (blk_below (g := gb597) (o := .cells #[.slice A1_0 l1_0.length c1_0, .slice A1_1 l1_1.length c1_1, .slice A1_2 l1_2.length c1_2] 28 (0, 0)) (zk BK597.out) hb); have n2_ := Aside0.mk (below_step (zb2 HB.out GE596.out GE597.out) hb); clear BK596; clear BK597; clear HB; have BK596 := n0_; have BK597 := n1_; have HB := n2_; clear n0_ n1_ n2_; (try clear hb); (try clear hb2); (try clear hk); (try clear hi); have hcz26_0 : w25.cell? ⟨gb597, 0, none⟩ = some (.slice A1_0 l1_0.length c1_0) := (blk_cell BK597.out 0).trans rfl; have hcz26_1 : w25.cell? ⟨gb597, 1, none⟩ = some (.slice A1_1 l1_1.length c1_1) := (blk_cell BK597.out 1).trans rfl; have hcz26_2 : w25.cell? ⟨gb597, 2, none⟩ = some (.slice A1_2 l1_2.length c1_2) := (blk_cell BK597.out 2).trans rfl; have hfz26_0 := blk_frozen BK597.out 0; have hfz26_1 := blk_frozen BK597.out 1; have hfz26_2 := blk_frozen BK597.out 2) | (go_at_call 91; (with_reducible refine (spec_l07Groups.calls k gb596 a0_0 A0_1 c0_1 l0_1 _ _ l1_1 true _ ?side1 ?side2 ?side3 ?side4 ?side5 A11.out).mono ?_); (case side1 => (with_reducible repeat (first | refine blk_drewN ?_ _ | refine blk_drew ?_ | refine blk_alloc ?_ _)); exact BK596.out); (case side2 => exact zc (Kd.C_below HR0_1.out HB.out)); (case side3 => exact HC0_1.out); (case side4 => exact zc (Kd.C_below HR1_1.out HB.out)); (case side5 => exact HC1_1.out); rintro e w27 ⟨rfl, hb⟩; have n0_ := Aside0.mk (blk_below (g := gb596) (o := .cells #[.int .i64 a0_0, .slice A0_1 l0_1.length c0_1] 31 (0, 0)) (zk BK596.out) hb); have n1_ := Aside0.mk (blk_below (g := gb597) (o := .cells #[.slice A1_0 l1_0.length c1_0, .slice A1_1 l1_1.length c1_1, .slice A1_2 l1_2.length c1_2] 28 (0, 0)) (zk BK597.out) hb); have n2_ := Aside0.mk (below_step (zb2 HB.out GE596.out GE597.out) hb); clear BK596; clear BK597; clear HB; have BK596 := n0_; have BK597 := n1_; have HB := n2_; clear n0_ n1_ n2_; (try clear hb); (try clear hb2); (try clear hk); (try clear hi); have hcz28_0 : w27.cell? ⟨gb597, 0, none⟩ = some (.slice A1_0 l1_0.length c1_0) := (blk_cell BK597.out 0).trans rfl; have hcz28_1 : w27.cell? ⟨gb597, 1, none⟩ = some (.slice A1_1 l1_1.length c1_1) := (blk_cell BK597.out 1).trans rfl; have hcz28_2 : w27.cell? ⟨gb597, 2, none⟩ = some (.slice A1_2 l1_2.length c1_2) := (blk_cell BK597.out 2).trans rfl; have hfz28_0 := blk_frozen BK597.out 0; have hfz28_1 := blk_frozen BK597.out 1; have hfz28_2 := blk_frozen BK597.out 2) | (go_at_call 91; (with_reducible refine (spec_l07Groups.calls k gb596 a0_0 A0_1 c0_1 l0_1 _ _ l1_2 false _ ?side1 ?side2 ?side3 ?side4 ?side5 A13.out).mono ?_); (case side1 => (with_reducible repeat (first | refine blk_drewN ?_ _ | refine blk_drew ?_ | refine blk_alloc ?_ _)); exact BK596.out); (case side2 => exact zc (Kd.C_below HR0_1.out HB.out)); (case side3 => exact HC0_1.out); (case side4 => exact zc (Kd.C_below HR1_2.out HB.out)); (case side5 => exact HC1_2.out); rintro e w29 ⟨rfl, hb⟩; have n0_ := Aside0.mk (blk_below (g := gb596) (o := .cells #[.int .i64 a0_0, .slice A0_1 l0_1.length c0_1] 31 (0, 0)) (zk BK596.out) hb); have n1_ := Aside0.mk (blk_below (g := gb597) (o := .cells #[.slice A1_0 l1_0.length c1_0, .slice A1_1 l1_1.length c1_1, .slice A1_2 l1_2.length c1_2] 28 (0, 0)) (zk BK597.out) hb); have n2_ := Aside0.mk (below_step (zb2 HB.out GE596.out GE597.out) hb); clear BK596; clear BK597; clear HB; have BK596 := n0_; have BK597 := n1_; have HB := n2_; clear n0_ n1_ n2_; (try clear hb); (try clear hb2); (try clear hk); (try clear hi)))
      go_meet
      case rel => exact ⟨_, (true), zt, H', ⟨by first | omega | exact Nat.le_refl _⟩, ⟨zk BK596.out⟩, ⟨zk BK597.out⟩, ⟨zb2 HB.out GE596.out GE597.out⟩⟩
    ·replace c12 := Bool.eq_false_iff.mpr c12
     subst c12
     rw [if_neg (show ¬ (false = true) by decide)] at H
     have H' := Aside0.mk H
     clear H
     have hcz31_0 : w8.cell? ⟨gb597, 0, none⟩ = some (.slice A1_0 l1_0.length c1_0) := (blk_cell BK597.out 0).trans rfl
     have hcz31_1 : w8.cell? ⟨gb597, 1, none⟩ = some (.slice A1_1 l1_1.length c1_1) := (blk_cell BK597.out 1).trans rfl
     have hcz31_2 : w8.cell? ⟨gb597, 2, none⟩ = some (.slice A1_2 l1_2.length c1_2) := (blk_cell BK597.out 2).trans rfl
     have hfz31_0 := blk_frozen BK597.out 0
     have hfz31_1 := blk_frozen BK597.out 1
     have hfz31_2 := blk_frozen BK597.out 2
     go_wp2_with (first | (go_at_call 90; (with_reducible refine (spec_l07Group.calls k gb596 a0_0 A0_1 c0_1 l0_1 _ _ l1_0 true _ ?side1 ?side2 ?side3 ?side4 ?side5 A9.out).mono ?_); (case side1 => (with_reducible repeat (first | refine blk_drewN ?_ _ | refine blk_drew ?_ | refine blk_alloc ?_ _)); exact BK596.out); (case side2 => exact zc (Kd.C_below HR0_1.out HB.out)); (case side3 => exact HC0_1.out); (case side4 => exact zc (Kd.C_below HR1_0.out HB.out)); (case side5 => exact HC1_0.out); rintro e w32 ⟨rfl, hb⟩; have n0_ := Aside0.mk (blk_below (g := gb596) (o := .cells #[.int .i64 a0_0, .slice A0_1 l0_1.length c0_1] 31 (0, 0)) (zk BK596.out) hb); have n1_ := Aside0.mk (blk_below (g := gb597) (o := .cells #[.slice A1_0 l1_0.length c1_0, .slice A1_1 l1_1.length c1_1, .slice A1_2 l1_2.length c1_2] 28 (0, 0)) (zk BK597.out) hb); have n2_ := Aside0.mk (below_step (zb2 HB.out GE596.out GE597.out) hb); clear BK596; clear BK597; clear HB; have BK596 := n0_; have BK597 := n1_; have HB := n2_; clear n0_ n1_ n2_; (try clear hb); (try clear hb2); (try clear hk); (try clear hi); have hcz33_0 : w32.cell? ⟨gb597, 0, none⟩ = some (.slice A1_0 l1_0.length c1_0) := (blk_cell BK597.out 0).trans rfl; have hcz33_1 : w32.cell? ⟨gb597, 1, none⟩ = some (.slice A1_1 l1_1.length c1_1) := (blk_cell BK597.out 1).trans rfl; have hcz33_2 : w32.cell? ⟨gb597, 2, none⟩ = some (.slice A1_2 l1_2.length c1_2) := (blk_cell BK597.out 2).trans rfl; have hfz33_0 := blk_frozen BK597.out 0; have hfz33_1 := blk_frozen BK597.out 1; have hfz33_2 := blk_frozen BK597.out 2) | (go_at_call 91; (with_reducible refine (spec_l07Groups.calls k gb596 a0_0 A0_1 c0_1 l0_1 _ _ l1_1 false _ ?side1 ?side2 ?side3 ?side4 ?side5 A11.out).mono ?_); (case side1 => (with_reducible repeat (first | refine blk_drewN ?_ _ | refine blk_drew ?_ | refine blk_alloc ?_ _)); exact BK596.out); (case side2 => exact zc (Kd.C_below HR0_1.out HB.out)); (case side3 => exact HC0_1.out); (case side4 => exact zc (Kd.C_below HR1_1.out HB.out)); (case side5 => exact HC1_1.out); rintro e w34 ⟨rfl, hb⟩; have n0_ := Aside0.mk (blk_below (g := gb596) (o := .cells #[.int .i64 a0_0, .slice A0_1 l0_1.length c0_1] 31 (0, 0)) (zk BK596.out) hb); have n1_ := Aside0.mk (blk_below (g := gb597) (o := .cells #[.slice A1_0 l1_0.length c1_0, .slice A1_1 l1_1.length c1_1, .slice A1_2 l1_2.length c1_2] 28 (0, 0)) (zk BK597.out) hb); have n2_ := Aside0.mk (below_step (zb2 HB.out GE596.out GE597.out) hb); clear BK596; clear BK597; clear HB; have BK596 := n0_; have BK597 := n1_; have HB := n2_; clear n0_ n1_ n2_; (try clear hb); (try clear hb2); (try clear hk); (try clear hi)))
     go_meet
     case rel => exact ⟨_, (true), zt, H', ⟨by first | omega | exact Nat.le_refl _⟩, ⟨zk BK596.out⟩, ⟨zk BK597.out⟩, ⟨zb2 HB.out GE596.out GE597.out⟩⟩
   ·replace c10 := Bool.eq_false_iff.mpr c10
    subst c10
    rw [if_neg (show ¬ (false = true) by decide)] at H
    have H' := Aside0.mk H
    clear H
    have hcz36_0 : w8.cell? ⟨gb597, 0, none⟩ = some (.slice A1_0 l1_0.length c1_0) := (blk_cell BK597.out 0).trans rfl
    have hcz36_1 : w8.cell? ⟨gb597, 1, none⟩ = some (.slice A1_1 l1_1.length c1_1) := (blk_cell BK597.out 1).trans rfl
    have hcz36_2 : w8.cell? ⟨gb597, 2, none⟩ = some (.slice A1_2 l1_2.length c1_2) := (blk_cell BK597.out 2).trans rfl
    have hfz36_0 := blk_frozen BK597.out 0
    have hfz36_1 := blk_frozen BK597.out 1
    have hfz36_2 := blk_frozen BK597.out 2
    go_wp2_with (first | (go_at_call 90; (with_reducible refine (spec_l07Group.calls k gb596 a0_0 A0_1 c0_1 l0_1 _ _ l1_0 false _ ?side1 ?side2 ?side3 ?side4 ?side5 A9.out).mono ?_); (case side1 => (with_reducible repeat (first | refine blk_drewN ?_ _ | refine blk_drew ?_ | refine blk_alloc ?_ _)); exact BK596.out); (case side2 => exact zc (Kd.C_below HR0_1.out HB.out)); (case side3 => exact HC0_1.out); (case side4 => exact zc (Kd.C_below HR1_0.out HB.out)); (case side5 => exact HC1_0.out); rintro e w37 ⟨rfl, hb⟩; have n0_ := Aside0.mk (blk_below (g := gb596) (o := .cells #[.int .i64 a0_0, .slice A0_1 l0_1.length c0_1] 31 (0, 0)) (zk BK596.out) hb); have n1_ := Aside0.mk (blk_below (g := gb597) (o := .cells #[.slice A1_0 l1_0.length c1_0, .slice A1_1 l1_1.length c1_1, .slice A1_2 l1_2.length c1_2] 28 (0, 0)) (zk BK597.out) hb); have n2_ := Aside0.mk (below_step (zb2 HB.out GE596.out GE597.out) hb); clear BK596; clear BK597; clear HB; have BK596 := n0_; have BK597 := n1_; have HB := n2_; clear n0_ n1_ n2_; (try clear hb); (try clear hb2); (try clear hk); (try clear hi)))
    go_meet
    case rel => exact ⟨_, (true), zt, H', ⟨by first | omega | exact Nat.le_refl _⟩, ⟨zk BK596.out⟩, ⟨zk BK597.out⟩, ⟨zb2 HB.out GE596.out GE597.out⟩⟩
  case rest =>
   clear HC5
   obtain ⟨kq, x40_4, rfl, HA, HJ4, BK596, BK597, HB⟩ := hcut
   cases kq with
   | zero => exact absurd HA.out (by simp [spec_CheckSequence.j0])
   | succ kj4 =>
    have H := HA.out
    clear HA
    simp only [spec_CheckSequence.j0] at H
    by_cases c38 : x40_4 = true
    ·subst c38
     rw [if_pos rfl] at H
     simp only [Option.some.injEq, Prod.mk.injEq] at H
     obtain ⟨rfl, rfl⟩ := H
     go_wp2
     repeat (go_quiet (fail); try go_wp2)
     go_ret2
     exact ⟨ze, zb2 HB.out GE596.out GE597.out⟩
    ·replace c38 := Bool.eq_false_iff.mpr c38
     subst c38
     rw [if_neg (show ¬ (false = true) by decide)] at H
     replace H := Option.bind_eq_some_iff.mp H
     obtain ⟨t602, A390, H⟩ := H
     replace H : ((spec_l07Bits.f kj4 l1_0).bind fun t605 => ((spec_l07Numbers.f kj4 l1_1).bind fun t606 => ((spec_l07Numbers.f kj4 l1_2).bind fun t609 => ((spec_l07Chain.f kj4 t602 t605 t606).bind fun t612 => (if t612 = true then (spec_CheckSequence.l0 kj4 t602 t605 t606 t609 0) else (some (0, 8))))))) = some (r1, r2) := H
     have A39 := Aside0.mk A390
     clear A390
     replace H := Option.bind_eq_some_iff.mp H
     obtain ⟨t605, A400, H⟩ := H
     replace H : ((spec_l07Numbers.f kj4 l1_1).bind fun t606 => ((spec_l07Numbers.f kj4 l1_2).bind fun t609 => ((spec_l07Chain.f kj4 t602 t605 t606).bind fun t612 => (if t612 = true then (spec_CheckSequence.l0 kj4 t602 t605 t606 t609 0) else (some (0, 8)))))) = some (r1, r2) := H
     have A40 := Aside0.mk A400
     clear A400
     replace H := Option.bind_eq_some_iff.mp H
     obtain ⟨t606, A410, H⟩ := H
     replace H : ((spec_l07Numbers.f kj4 l1_2).bind fun t609 => ((spec_l07Chain.f kj4 t602 t605 t606).bind fun t612 => (if t612 = true then (spec_CheckSequence.l0 kj4 t602 t605 t606 t609 0) else (some (0, 8))))) = some (r1, r2) := H
     have A41 := Aside0.mk A410
     clear A410
     replace H := Option.bind_eq_some_iff.mp H
     obtain ⟨t609, A420, H⟩ := H
     replace H : ((spec_l07Chain.f kj4 t602 t605 t606).bind fun t612 => (if t612 = true then (spec_CheckSequence.l0 kj4 t602 t605 t606 t609 0) else (some (0, 8)))) = some (r1, r2) := H
     have A42 := Aside0.mk A420
     clear A420
     replace H := Option.bind_eq_some_iff.mp H
     obtain ⟨t612, A430, H⟩ := H
     replace H : (if t612 = true then (spec_CheckSequence.l0 kj4 t602 t605 t606 t609 0) else (some (0, 8))) = some (r1, r2) := H
     have A43 := Aside0.mk A430
     clear A430
     by_cases c44 : t612 = true
     ·subst c44
      rw [if_pos rfl] at H
      have H' := Aside0.mk H
      clear H
      go_wp2_with (first | (go_at_call 67; (with_reducible refine (spec_l07Open.calls kj4 gb596 a0_0 A0_1 c0_1 l0_1 t602 _ ?side1 ?side2 ?side3 A39.out).mono ?_); (case side1 => (with_reducible repeat (first | refine blk_drewN ?_ _ | refine blk_drew ?_ | refine blk_alloc ?_ _)); exact BK596.out); (case side2 => exact zc (Kd.C_below HR0_1.out HB.out)); (case side3 => exact HC0_1.out); rintro e w45 ⟨v603, rfl, ho0, hb⟩; have n0_ := Aside0.mk (Kd.R_lower ho0 (below_size (zb2 HB.out GE596.out GE597.out))); have n1_ := Aside0.mk (blk_below (g := gb596) (o := .cells #[.int .i64 a0_0, .slice A0_1 l0_1.length c0_1] 31 (0, 0)) (zk BK596.out) hb); have n2_ := Aside0.mk (blk_below (g := gb597) (o := .cells #[.slice A1_0 l1_0.length c1_0, .slice A1_1 l1_1.length c1_1, .slice A1_2 l1_2.length c1_2] 28 (0, 0)) (zk BK597.out) hb); have n3_ := Aside0.mk (below_step (zb2 HB.out GE596.out GE597.out) hb); clear BK596; clear BK597; clear HB; have HO604 := n0_; have BK596 := n1_; have BK597 := n2_; have HB := n3_; clear n0_ n1_ n2_ n3_; (try clear hb); (try clear hb2); (try clear hk); (try clear hi); (try clear ho0); have hnb46 := NB597_596.out; have hnc46 := NB596_597.out; have hcz47_0 : w45.cell? ⟨gb597, 0, none⟩ = some (.slice A1_0 l1_0.length c1_0) := (blk_cell BK597.out 0).trans rfl; have hcz47_1 : w45.cell? ⟨gb597, 1, none⟩ = some (.slice A1_1 l1_1.length c1_1) := (blk_cell BK597.out 1).trans rfl; have hcz47_2 : w45.cell? ⟨gb597, 2, none⟩ = some (.slice A1_2 l1_2.length c1_2) := (blk_cell BK597.out 2).trans rfl; have hfz47_0 := blk_frozen BK597.out 0; have hfz47_1 := blk_frozen BK597.out 1; have hfz47_2 := blk_frozen BK597.out 2) | (go_at_call 83; (with_reducible refine (spec_l07Bits.calls kj4 _ _ l1_0 t605 _ ?side1 ?side2 A40.out).mono ?_); (case side1 => exact zc (Kd.C_below HR1_0.out HB.out)); (case side2 => exact HC1_0.out); rintro e w' ⟨rfl, ⟨nd, rfl⟩⟩; (try exact zd)) | (go_at_call 92; (with_reducible refine (spec_l07Numbers.calls kj4 _ _ l1_1 t606 _ ?side1 ?side2 A41.out).mono ?_); (case side1 => exact zc (Kd.C_below HR1_1.out (zb2 HB.out GE596.out GE597.out))); (case side2 => exact HC1_1.out); rintro e w48 ⟨v607, rfl, ho0, hb⟩; have n0_ := Aside0.mk (Kd.R_below (zr HO604.out) hb); have n1_ := Aside0.mk (Kd.R_lower ho0 (below_size (zb2 HB.out GE596.out GE597.out))); have n2_ := Aside0.mk (blk_below (g := gb596) (o := .cells #[.int .i64 a0_0, .slice A0_1 l0_1.length c0_1] 31 (0, 0)) (zk BK596.out) hb); have n3_ := Aside0.mk (blk_below (g := gb597) (o := .cells #[.slice A1_0 l1_0.length c1_0, .slice A1_1 l1_1.length c1_1, .slice A1_2 l1_2.length c1_2] 28 (0, 0)) (zk BK597.out) hb); have n4_ := Aside0.mk (below_step (zb2 HB.out GE596.out GE597.out) hb); clear HO604; clear BK596; clear BK597; clear HB; have HO604 := n0_; have HO608 := n1_; have BK596 := n2_; have BK597 := n3_; have HB := n4_; clear n0_ n1_ n2_ n3_ n4_; (try clear hb); (try clear hb2); (try clear hk); (try clear hi); (try clear ho0); have hcz49_0 : w48.cell? ⟨gb597, 0, none⟩ = some (.slice A1_0 l1_0.length c1_0) := (blk_cell BK597.out 0).trans rfl; have hcz49_1 : w48.cell? ⟨gb597, 1, none⟩ = some (.slice A1_1 l1_1.length c1_1) := (blk_cell BK597.out 1).trans rfl; have hcz49_2 : w48.cell? ⟨gb597, 2, none⟩ = some (.slice A1_2 l1_2.length c1_2) := (blk_cell BK597.out 2).trans rfl; have hfz49_0 := blk_frozen BK597.out 0; have hfz49_1 := blk_frozen BK597.out 1; have hfz49_2 := blk_frozen BK597.out 2) | (go_at_call 92; (with_reducible refine (spec_l07Numbers.calls kj4 _ _ l1_2 t609 _ ?side1 ?side2 A42.out).mono ?_); (case side1 => exact zc (Kd.C_below HR1_2.out HB.out)); (case side2 => exact HC1_2.out); rintro e w50 ⟨v610, rfl, ho0, hb⟩; have n0_ := Aside0.mk (Kd.R_below (zr HO604.out) hb); have n1_ := Aside0.mk (Kd.R_elder' (zr HO608.out) (Kd.R_base ho0) hb); have n2_ := Aside0.mk (Kd.R_lower (Kd.R_new' ho0 (Kd.R_lt (zr HO608.out))) (below_size (zb2 HB.out GE596.out GE597.out))); have n3_ := Aside0.mk (blk_below (g := gb596) (o := .cells #[.int .i64 a0_0, .slice A0_1 l0_1.length c0_1] 31 (0, 0)) (zk BK596.out) hb); have n4_ := Aside0.mk (blk_below (g := gb597) (o := .cells #[.slice A1_0 l1_0.length c1_0, .slice A1_1 l1_1.length c1_1, .slice A1_2 l1_2.length c1_2] 28 (0, 0)) (zk BK597.out) hb); have n5_ := Aside0.mk (below_step (zb2 HB.out GE596.out GE597.out) hb); clear HO604; clear HO608; clear BK596; clear BK597; clear HB; have HO604 := n0_; have HO608 := n1_; have HO611 := n2_; have BK596 := n3_; have BK597 := n4_; have HB := n5_; clear n0_ n1_ n2_ n3_ n4_ n5_; (try clear hb); (try clear hb2); (try clear hk); (try clear hi); (try clear ho0); obtain ⟨Ao51, co51, eo51⟩ := Kd.R_slice HO604.out; subst eo51; obtain ⟨Ao52, co52, eo52⟩ := Kd.R_slice HO608.out; subst eo52) | (go_at_call 93; (with_reducible refine (spec_l07Chain.calls kj4 _ _ t602 t605 _ _ t606 true _ ?side1 ?side2 ?side3 ?side4 A43.out).mono ?_); (case side1 => repeat (first | exact (Kd.R_reads' HO604.out).2.2 | (with_reducible refine Kd.C_alloc ?_ _) | (with_reducible refine Kd.C_drewN ?_ _) | (with_reducible refine Kd.C_drew ?_))); (case side2 => exact (Kd.R_reads' HO604.out).2.1); (case side3 => repeat (first | exact (Kd.R_reads' HO608.out).2.2 | (with_reducible refine Kd.C_alloc ?_ _) | (with_reducible refine Kd.C_drewN ?_ _) | (with_reducible refine Kd.C_drew ?_))); (case side4 => exact (Kd.R_reads' HO608.out).2.1); rintro e w' ⟨rfl, ⟨nd, rfl⟩⟩; (try exact zd)))
      go_loopg [11] kj4 (fun kq v11 w' => ∃ (x11_2 : Int), v11 = .int .i64 x11_2 ∧ Aside0 (spec_CheckSequence.l0 kq t602 t605 t606 t609 x11_2 = some (r1, r2)) ∧ Aside0 (kq ≤ kj4) ∧ Aside0 (Kd.R Kd.bool 4 w' w.heap.size (fun _ => True) (.slice Ao51 t602.length co51) t602) ∧ Aside0 (Kd.R (Kd.int .i64) 2 w' w.heap.size (fun k_ => some k_ ≠ (v610 : Value).ownBlock) (.slice Ao52 t606.length co52) t606) ∧ Aside0 (Kd.R (Kd.int .i64) 2 w' w.heap.size (fun k_ => some k_ ≠ ((.slice Ao52 t606.length co52) : Value).ownBlock) v610 t609) ∧ Aside0 (w'.heap[gb596]? = some (.cells #[.int .i64 a0_0, (.slice A0_1 l0_1.length c0_1)] 31 (0, 0))) ∧ Aside0 (w'.heap[gb597]? = some (.cells #[(.slice A1_0 l1_0.length c1_0), (.slice A1_1 l1_1.length c1_1), (.slice A1_2 l1_2.length c1_2)] 28 (0, 0))) ∧ Aside0 (Below w.heap.size w w'))
      case atStart => exact ⟨(0), zt, H', ⟨Nat.le_refl _⟩, ⟨zr HO604.out⟩, ⟨by (with_reducible repeat (first | apply Kd.R_alloc | apply Kd.R_drewN | apply Kd.R_drew)); exact Kd.R_mono HO608.out (fun _ hk => hk.2)⟩, ⟨by (with_reducible repeat (first | apply Kd.R_alloc | apply Kd.R_drewN | apply Kd.R_drew)); exact Kd.R_mono HO611.out (fun _ hk => hk.2)⟩, ⟨zk BK596.out⟩, ⟨zk BK597.out⟩, ⟨zb2 HB.out GE596.out GE597.out⟩⟩
      case round =>
       clear H'
       obtain ⟨x11_2, rfl, HA, HK2, HO_7, HO_9, HO_10, BK596, BK597, HB⟩ := hrel
       cases gk with
       | zero => exact absurd HA.out (by simp [spec_CheckSequence.l0])
       | succ k2 =>
        have H := HA.out
        clear HA
        simp only [spec_CheckSequence.l0] at H
        by_cases c53 : x11_2 < (t609.length : Int)
        ·rw [if_pos c53] at H
         have c53b0 : decide (x11_2 < (t609.length : Int)) = true := decide_eq_true c53
         clear c53
         by_cases c54 : 0 ≤ x11_2
         ·rw [if_pos c54] at H
          have c54b0 : decide (0 ≤ x11_2) = true := decide_eq_true c54
          clear c54
          by_cases c55 : (Go.bits .and .i64 (rd t609 x11_2) t605) = (rd t609 x11_2)
          ·rw [if_pos c55] at H
           have c55b0 : ((Go.bits .and .i64 (rd t609 x11_2) t605) == (rd t609 x11_2)) = true := beq_iff_eq.mpr c55
           have c55b1 : ((Go.bits .and .i64 (rd t609 x11_2) t605) != (rd t609 x11_2)) = false := bne_eq_false_iff_eq.mpr c55
           clear c55
           replace H := Option.bind_eq_some_iff.mp H
           obtain ⟨t616, A560, H⟩ := H
           replace H : (if t616 = true then (spec_CheckSequence.l0 k2 t602 t605 t606 t609 (wrap64 (x11_2 + 1))) else (some (0, 8))) = some (r1, r2) := H
           have A56 := Aside0.mk A560
           clear A560
           by_cases c57 : t616 = true
           ·subst c57
            rw [if_pos rfl] at H
            have H' := Aside0.mk H
            clear H
            obtain ⟨Ao58, co58, eo58⟩ := Kd.R_slice HO_10.out
            subst eo58
            have p613 : 0 ≤ (x11_2 : Int) := of_decide_eq_true zq
            have q613 : x11_2 < (t609.length : Int) := of_decide_eq_true zq
            obtain ⟨ad613, e613, hx613_0⟩ := Kd.at_int (Kd.R_reads' HO_10.out).2.2 x11_2 p613 q613
            cases e613
            replace p613 := eq_true p613
            replace q613 := eq_true q613
            have p614 : 0 ≤ (x11_2 : Int) := of_decide_eq_true zq
            have q614 : x11_2 < (t609.length : Int) := of_decide_eq_true zq
            obtain ⟨ad614, e614, hx614_0⟩ := Kd.at_int (Kd.R_reads' HO_10.out).2.2 x11_2 p614 q614
            obtain rfl : ad613 = ad614 := (by injection e614)
            replace p614 := eq_true p614
            replace q614 := eq_true q614
            have p615 : 0 ≤ (x11_2 : Int) := of_decide_eq_true zq
            have q615 : x11_2 < (t609.length : Int) := of_decide_eq_true zq
            obtain ⟨ad615, e615, hx615_0⟩ := Kd.at_int (Kd.R_reads' HO_10.out).2.2 x11_2 p615 q615
            obtain rfl : ad613 = ad615 := (by injection e615)
            replace p615 := eq_true p615
            replace q615 := eq_true q615
            go_wp2
            repeat (go_quiet (first | (go_at_call 96; (with_reducible refine (spec_l07Right.calls _ _ t602 _ _ t606 x11_2 (rd t609 x11_2) true _ ?side1 ?side2 ?side3 ?side4 A56.out).mono ?_); (case side1 => repeat (first | exact (Kd.R_reads' HO_7.out).2.2 | (with_reducible refine Kd.C_alloc ?_ _) | (with_reducible refine Kd.C_drewN ?_ _) | (with_reducible refine Kd.C_drew ?_))); (case side2 => exact (Kd.R_reads' HO_7.out).2.1); (case side3 => repeat (first | exact (Kd.R_reads' HO_9.out).2.2 | (with_reducible refine Kd.C_alloc ?_ _) | (with_reducible refine Kd.C_drewN ?_ _) | (with_reducible refine Kd.C_drew ?_))); (case side4 => exact (Kd.R_reads' HO_9.out).2.1); rintro e w' ⟨rfl, ⟨nd, rfl⟩⟩; (try exact zd))); try go_wp2)
            go_roundg k2
            case measure => have := HJ4.out; have := HK2.out; omega
            case rel => exact ⟨(wrap64 (x11_2 + 1)), zt, H', ⟨by have := HJ4.out; have := HK2.out; omega⟩, ⟨zr HO_7.out⟩, ⟨zr HO_9.out⟩, ⟨zr HO_10.out⟩, ⟨zk BK596.out⟩, ⟨zk BK597.out⟩, ⟨zb2 HB.out GE596.out GE597.out⟩⟩
           ·replace c57 := Bool.eq_false_iff.mpr c57
            subst c57
            rw [if_neg (show ¬ (false = true) by decide)] at H
            simp only [Option.some.injEq, Prod.mk.injEq] at H
            obtain ⟨rfl, rfl⟩ := H
            obtain ⟨Ao59, co59, eo59⟩ := Kd.R_slice HO_10.out
            subst eo59
            have p613 : 0 ≤ (x11_2 : Int) := of_decide_eq_true zq
            have q613 : x11_2 < (t609.length : Int) := of_decide_eq_true zq
            obtain ⟨ad613, e613, hx613_0⟩ := Kd.at_int (Kd.R_reads' HO_10.out).2.2 x11_2 p613 q613
            cases e613
            replace p613 := eq_true p613
            replace q613 := eq_true q613
            have p614 : 0 ≤ (x11_2 : Int) := of_decide_eq_true zq
            have q614 : x11_2 < (t609.length : Int) := of_decide_eq_true zq
            obtain ⟨ad614, e614, hx614_0⟩ := Kd.at_int (Kd.R_reads' HO_10.out).2.2 x11_2 p614 q614
            obtain rfl : ad613 = ad614 := (by injection e614)
            replace p614 := eq_true p614
            replace q614 := eq_true q614
            have p615 : 0 ≤ (x11_2 : Int) := of_decide_eq_true zq
            have q615 : x11_2 < (t609.length : Int) := of_decide_eq_true zq
            obtain ⟨ad615, e615, hx615_0⟩ := Kd.at_int (Kd.R_reads' HO_10.out).2.2 x11_2 p615 q615
            obtain rfl : ad613 = ad615 := (by injection e615)
            replace p615 := eq_true p615
            replace q615 := eq_true q615
            go_wp2
            repeat (go_quiet (first | (go_at_call 96; (with_reducible refine (spec_l07Right.calls _ _ t602 _ _ t606 x11_2 (rd t609 x11_2) false _ ?side1 ?side2 ?side3 ?side4 A56.out).mono ?_); (case side1 => repeat (first | exact (Kd.R_reads' HO_7.out).2.2 | (with_reducible refine Kd.C_alloc ?_ _) | (with_reducible refine Kd.C_drewN ?_ _) | (with_reducible refine Kd.C_drew ?_))); (case side2 => exact (Kd.R_reads' HO_7.out).2.1); (case side3 => repeat (first | exact (Kd.R_reads' HO_9.out).2.2 | (with_reducible refine Kd.C_alloc ?_ _) | (with_reducible refine Kd.C_drewN ?_ _) | (with_reducible refine Kd.C_drew ?_))); (case side4 => exact (Kd.R_reads' HO_9.out).2.1); rintro e w' ⟨rfl, ⟨nd, rfl⟩⟩; (try exact zd))); try go_wp2)
            go_ret2
            exact ⟨ze, zb2 HB.out GE596.out GE597.out⟩
          ·rw [if_neg c55] at H
           have c55b0 : ((Go.bits .and .i64 (rd t609 x11_2) t605) == (rd t609 x11_2)) = false := beq_eq_false_iff_ne.mpr c55
           have c55b1 : ((Go.bits .and .i64 (rd t609 x11_2) t605) != (rd t609 x11_2)) = true := bne_iff_ne.mpr c55
           simp only [Option.some.injEq, Prod.mk.injEq] at H
           obtain ⟨rfl, rfl⟩ := H
           obtain ⟨Ao60, co60, eo60⟩ := Kd.R_slice HO_10.out
           subst eo60
           have p613 : 0 ≤ (x11_2 : Int) := of_decide_eq_true zq
           have q613 : x11_2 < (t609.length : Int) := of_decide_eq_true zq
           obtain ⟨ad613, e613, hx613_0⟩ := Kd.at_int (Kd.R_reads' HO_10.out).2.2 x11_2 p613 q613
           cases e613
           replace p613 := eq_true p613
           replace q613 := eq_true q613
           have p614 : 0 ≤ (x11_2 : Int) := of_decide_eq_true zq
           have q614 : x11_2 < (t609.length : Int) := of_decide_eq_true zq
           obtain ⟨ad614, e614, hx614_0⟩ := Kd.at_int (Kd.R_reads' HO_10.out).2.2 x11_2 p614 q614
           obtain rfl : ad613 = ad614 := (by injection e614)
           replace p614 := eq_true p614
           replace q614 := eq_true q614
           go_wp2
           repeat (go_quiet (fail); try go_wp2)
           go_ret2
           exact ⟨ze, zb2 HB.out GE596.out GE597.out⟩
         ·rw [if_neg c54] at H
          exact absurd H (by simp)
        ·rw [if_neg c53] at H
         have c53b0 : decide (x11_2 < (t609.length : Int)) = false := decide_eq_false c53
         clear c53
         replace H := Option.bind_eq_some_iff.mp H
         obtain ⟨t617, A610, H⟩ := H
         replace H : (some (t617, 0)) = some (r1, r2) := H
         have A61 := Aside0.mk A610
         clear A610
         simp only [Option.some.injEq, Prod.mk.injEq] at H
         obtain ⟨rfl, rfl⟩ := H
         obtain ⟨Ao62, co62, eo62⟩ := Kd.R_slice HO_10.out
         subst eo62
         go_wp2_with (first | (go_at_call 97; (with_reducible refine (spec_l07Worth.calls _ _ t602 t605 (t606.length : Int) t617 _ ?side1 ?side2 A61.out).mono ?_); (case side1 => repeat (first | exact (Kd.R_reads' HO_7.out).2.2 | (with_reducible refine Kd.C_alloc ?_ _) | (with_reducible refine Kd.C_drewN ?_ _) | (with_reducible refine Kd.C_drew ?_))); (case side2 => exact (Kd.R_reads' HO_7.out).2.1); rintro e w' ⟨rfl, ⟨nd, rfl⟩⟩; (try exact zd)))
         go_ret2
         exact ⟨ze, zb2 HB.out GE596.out GE597.out⟩
     ·replace c44 := Bool.eq_false_iff.mpr c44
      subst c44
      rw [if_neg (show ¬ (false = true) by decide)] at H
      simp only [Option.some.injEq, Prod.mk.injEq] at H
      obtain ⟨rfl, rfl⟩ := H
      go_wp2_with (first | (go_at_call 67; (with_reducible refine (spec_l07Open.calls kj4 gb596 a0_0 A0_1 c0_1 l0_1 t602 _ ?side1 ?side2 ?side3 A39.out).mono ?_); (case side1 => (with_reducible repeat (first | refine blk_drewN ?_ _ | refine blk_drew ?_ | refine blk_alloc ?_ _)); exact BK596.out); (case side2 => exact zc (Kd.C_below HR0_1.out HB.out)); (case side3 => exact HC0_1.out); rintro e w63 ⟨v603, rfl, ho0, hb⟩; have n0_ := Aside0.mk (Kd.R_lower ho0 (below_size (zb2 HB.out GE596.out GE597.out))); have n1_ := Aside0.mk (blk_below (g := gb596) (o := .cells #[.int .i64 a0_0, .slice A0_1 l0_1.length c0_1] 31 (0, 0)) (zk BK596.out) hb); have n2_ := Aside0.mk (blk_below (g := gb597) (o := .cells #[.slice A1_0 l1_0.length c1_0, .slice A1_1 l1_1.length c1_1, .slice A1_2 l1_2.length c1_2] 28 (0, 0)) (zk BK597.out) hb); have n3_ := Aside0.mk (below_step (zb2 HB.out GE596.out GE597.out) hb); clear BK596; clear BK597; clear HB; have HO604 := n0_; have BK596 := n1_; have BK597 := n2_; have HB := n3_; clear n0_ n1_ n2_ n3_; (try clear hb); (try clear hb2); (try clear hk); (try clear hi); (try clear ho0); have hnb64 := NB597_596.out; have hnc64 := NB596_597.out; have hcz65_0 : w63.cell? ⟨gb597, 0, none⟩ = some (.slice A1_0 l1_0.length c1_0) := (blk_cell BK597.out 0).trans rfl; have hcz65_1 : w63.cell? ⟨gb597, 1, none⟩ = some (.slice A1_1 l1_1.length c1_1) := (blk_cell BK597.out 1).trans rfl; have hcz65_2 : w63.cell? ⟨gb597, 2, none⟩ = some (.slice A1_2 l1_2.length c1_2) := (blk_cell BK597.out 2).trans rfl; have hfz65_0 := blk_frozen BK597.out 0; have hfz65_1 := blk_frozen BK597.out 1; have hfz65_2 := blk_frozen BK597.out 2) | (go_at_call 83; (with_reducible refine (spec_l07Bits.calls kj4 _ _ l1_0 t605 _ ?side1 ?side2 A40.out).mono ?_); (case side1 => exact zc (Kd.C_below HR1_0.out HB.out)); (case side2 => exact HC1_0.out); rintro e w' ⟨rfl, ⟨nd, rfl⟩⟩; (try exact zd)) | (go_at_call 92; (with_reducible refine (spec_l07Numbers.calls kj4 _ _ l1_1 t606 _ ?side1 ?side2 A41.out).mono ?_); (case side1 => exact zc (Kd.C_below HR1_1.out (zb2 HB.out GE596.out GE597.out))); (case side2 => exact HC1_1.out); rintro e w66 ⟨v607, rfl, ho0, hb⟩; have n0_ := Aside0.mk (Kd.R_below (zr HO604.out) hb); have n1_ := Aside0.mk (Kd.R_lower ho0 (below_size (zb2 HB.out GE596.out GE597.out))); have n2_ := Aside0.mk (blk_below (g := gb596) (o := .cells #[.int .i64 a0_0, .slice A0_1 l0_1.length c0_1] 31 (0, 0)) (zk BK596.out) hb); have n3_ := Aside0.mk (blk_below (g := gb597) (o := .cells #[.slice A1_0 l1_0.length c1_0, .slice A1_1 l1_1.length c1_1, .slice A1_2 l1_2.length c1_2] 28 (0, 0)) (zk BK597.out) hb); have n4_ := Aside0.mk (below_step (zb2 HB.out GE596.out GE597.out) hb); clear HO604; clear BK596; clear BK597; clear HB; have HO604 := n0_; have HO608 := n1_; have BK596 := n2_; have BK597 := n3_; have HB := n4_; clear n0_ n1_ n2_ n3_ n4_; (try clear hb); (try clear hb2); (try clear hk); (try clear hi); (try clear ho0); have hcz67_0 : w66.cell? ⟨gb597, 0, none⟩ = some (.slice A1_0 l1_0.length c1_0) := (blk_cell BK597.out 0).trans rfl; have hcz67_1 : w66.cell? ⟨gb597, 1, none⟩ = some (.slice A1_1 l1_1.length c1_1) := (blk_cell BK597.out 1).trans rfl; have hcz67_2 : w66.cell? ⟨gb597, 2, none⟩ = some (.slice A1_2 l1_2.length c1_2) := (blk_cell BK597.out 2).trans rfl; have hfz67_0 := blk_frozen BK597.out 0; have hfz67_1 := blk_frozen BK597.out 1; have hfz67_2 := blk_frozen BK597.out 2) | (go_at_call 92; (with_reducible refine (spec_l07Numbers.calls kj4 _ _ l1_2 t609 _ ?side1 ?side2 A42.out).mono ?_); (case side1 => exact zc (Kd.C_below HR1_2.out HB.out)); (case side2 => exact HC1_2.out); rintro e w68 ⟨v610, rfl, ho0, hb⟩; have n0_ := Aside0.mk (Kd.R_below (zr HO604.out) hb); have n1_ := Aside0.mk (Kd.R_elder' (zr HO608.out) (Kd.R_base ho0) hb); have n2_ := Aside0.mk (Kd.R_lower (Kd.R_new' ho0 (Kd.R_lt (zr HO608.out))) (below_size (zb2 HB.out GE596.out GE597.out))); have n3_ := Aside0.mk (blk_below (g := gb596) (o := .cells #[.int .i64 a0_0, .slice A0_1 l0_1.length c0_1] 31 (0, 0)) (zk BK596.out) hb); have n4_ := Aside0.mk (blk_below (g := gb597) (o := .cells #[.slice A1_0 l1_0.length c1_0, .slice A1_1 l1_1.length c1_1, .slice A1_2 l1_2.length c1_2] 28 (0, 0)) (zk BK597.out) hb); have n5_ := Aside0.mk (below_step (zb2 HB.out GE596.out GE597.out) hb); clear HO604; clear HO608; clear BK596; clear BK597; clear HB; have HO604 := n0_; have HO608 := n1_; have HO611 := n2_; have BK596 := n3_; have BK597 := n4_; have HB := n5_; clear n0_ n1_ n2_ n3_ n4_ n5_; (try clear hb); (try clear hb2); (try clear hk); (try clear hi); (try clear ho0); obtain ⟨Ao69, co69, eo69⟩ := Kd.R_slice HO604.out; subst eo69; obtain ⟨Ao70, co70, eo70⟩ := Kd.R_slice HO608.out; subst eo70) | (go_at_call 93; (with_reducible refine (spec_l07Chain.calls kj4 _ _ t602 t605 _ _ t606 false _ ?side1 ?side2 ?side3 ?side4 A43.out).mono ?_); (case side1 => repeat (first | exact (Kd.R_reads' HO604.out).2.2 | (with_reducible refine Kd.C_alloc ?_ _) | (with_reducible refine Kd.C_drewN ?_ _) | (with_reducible refine Kd.C_drew ?_))); (case side2 => exact (Kd.R_reads' HO604.out).2.1); (case side3 => repeat (first | exact (Kd.R_reads' HO608.out).2.2 | (with_reducible refine Kd.C_alloc ?_ _) | (with_reducible refine Kd.C_drewN ?_ _) | (with_reducible refine Kd.C_drew ?_))); (case side4 => exact (Kd.R_reads' HO608.out).2.1); rintro e w' ⟨rfl, ⟨nd, rfl⟩⟩; (try exact zd)))
      go_ret2
      exact ⟨ze, zb2 HB.out GE596.out GE597.out⟩
 ·rw [if_neg c4] at H
  have c4b0 : (t598 == 0) = false := beq_eq_false_iff_ne.mpr c4
  have c4b1 : (t598 != 0) = true := bne_iff_ne.mpr c4
  simp only [Option.some.injEq, Prod.mk.injEq] at H
  obtain ⟨rfl, rfl⟩ := H
  go_enter Try.func29, Try.ntmps29
  go_wp2_with (first | ((with_reducible refine gate_dst (N := 2) rfl ?_); (try (refine gate_guard (by rfl) ?_; dsimp only)); refine box_event ?hg (N := 2) ?hd (cs := #[.int .i64 a0_0, .slice A0_1 l0_1.length c0_1]) (t := 31) ?hr ?_; (case hd => rfl); (case hg => rfl); (case hr => first | (go_simp; done) | (go_simp; rfl)); intro gb596 hg w71 hbox hb; have n0_ := Aside0.mk (below_step (zb0 HB.out) hb); have n1_ := Aside0.mk (hbox); have n2_ := Aside0.mk ((by rw [hg]; exact (below_size (zb0 HB.out)) : w.heap.size ≤ gb596)); have n3_ := Aside0.mk ((by rw [hg]; exact (below_size (zb0 HB.out)) : w.heap.size ≤ gb596)); clear HB; have HB := n0_; have BK596 := n1_; have GW596 := n2_; have GE596 := n3_; clear n0_ n1_ n2_ n3_; clear hb hbox hg) | ((with_reducible refine gate_dst (N := 3) rfl ?_); (try (refine gate_guard (by rfl) ?_; dsimp only)); refine box_event ?hg (N := 3) ?hd (cs := #[.slice A1_0 l1_0.length c1_0, .slice A1_1 l1_1.length c1_1, .slice A1_2 l1_2.length c1_2]) (t := 28) ?hr ?_; (case hd => rfl); (case hg => rfl); (case hr => first | (go_simp; done) | (go_simp; rfl)); intro gb597 hg w72 hbox hb; have n0_ := Aside0.mk (blk_below (g := gb596) (o := .cells #[.int .i64 a0_0, .slice A0_1 l0_1.length c0_1] 31 (0, 0)) (zk BK596.out) hb); have n1_ := Aside0.mk (below_step (zb1 HB.out GE596.out) hb); have n2_ := Aside0.mk (hbox); have n3_ := Aside0.mk ((by rw [hg]; exact (below_size (zb1 HB.out GE596.out)) : w.heap.size ≤ gb597)); have n4_ := Aside0.mk ((by rw [hg]; exact (below_size (zb1 HB.out GE596.out)) : w.heap.size ≤ gb597)); have n5_ := Aside0.mk ((by rw [hg]; exact Nat.ne_of_lt (blk_lt (g := gb596) (o := .cells #[.int .i64 a0_0, .slice A0_1 l0_1.length c0_1] 31 (0, 0)) (zk BK596.out)) : gb596 ≠ gb597)); have n6_ := Aside0.mk ((by rw [hg]; exact Nat.ne_of_gt (blk_lt (g := gb596) (o := .cells #[.int .i64 a0_0, .slice A0_1 l0_1.length c0_1] 31 (0, 0)) (zk BK596.out)) : gb597 ≠ gb596)); clear BK596; clear HB; have BK596 := n0_; have HB := n1_; have BK597 := n2_; have GW597 := n3_; have GE597 := n4_; have NB596_597 := n5_; have NB597_596 := n6_; clear n0_ n1_ n2_ n3_ n4_ n5_ n6_; clear hb hbox hg) | (go_at_call 66; (with_reducible refine (spec_l07Family.calls k gb596 a0_0 A0_1 c0_1 l0_1 t598 _ ?side1 ?side2 ?side3 A3.out).mono ?_); (case side1 => (with_reducible repeat (first | refine blk_drewN ?_ _ | refine blk_drew ?_ | refine blk_alloc ?_ _)); exact BK596.out); (case side2 => exact zc (Kd.C_below HR0_1.out HB.out)); (case side3 => exact HC0_1.out); rintro e w73 ⟨rfl, hb⟩; have n0_ := Aside0.mk (blk_below (g := gb596) (o := .cells #[.int .i64 a0_0, .slice A0_1 l0_1.length c0_1] 31 (0, 0)) (zk BK596.out) hb); have n1_ := Aside0.mk (blk_below (g := gb597) (o := .cells #[.slice A1_0 l1_0.length c1_0, .slice A1_1 l1_1.length c1_1, .slice A1_2 l1_2.length c1_2] 28 (0, 0)) (zk BK597.out) hb); have n2_ := Aside0.mk (below_step (zb2 HB.out GE596.out GE597.out) hb); clear BK596; clear BK597; clear HB; have BK596 := n0_; have BK597 := n1_; have HB := n2_; clear n0_ n1_ n2_; (try clear hb); (try clear hb2); (try clear hk); (try clear hi)))
  go_ret2
  exact ⟨ze, zb2 HB.out GE596.out GE597.out⟩
end Go.Proofs.Ytmbeijjkfmgkpaa.Q
