/- For all bytes, the law FnSequences returns true: a sequence that is made for a chain is accepted and is not better than the best one; no condition. (7 of 7) Put together by a program of mine from texts of mine, from texts that the kit's print wrote for this claim and from the print's words; what is not reached is left out. -/
import Derived.ChangeOld
import Derived.OpenShut
import Derived.ProofKit
import Derived.ShutString
import Derived.Test.YtmbeijjkfmgkpaaSq6
import Derived.Test.YtmbeijjkfmgkpaaRows
set_option linter.unusedVariables false
set_option linter.unusedSimpArgs false
namespace Go.Proofs.Ytmbeijjkfmgkpaa.Q
open Go.RowKit Go.Proofs.YtmbeijjkfmgkpaaW.PrintWords Go.Proofs.YtmbeijjkfmgkpaaW.PrintLast Go.Proofs.YtmbeijjkfmgkpaaW.PrintMore
attribute [local go_sem] max2_int min2_int max_two min_two max_three min_three max_four min_four
set_option linter.unusedVariables false
set_option linter.unusedSimpArgs false
mutual
def laws_FnSequences.j0 : Nat → List Int → List Int → Bool → Option (Bool)
 | 0, _, _, _ => none
 | k + 1, x0, x1, x24 => if x24 = true then (some true) else ((spec_P6Family.f k x0).bind fun bt620 => ((spec_P6Chain.f k x1 bt620.1 bt620.2).bind fun bt625 => ((impl_SequenceFor.f k bt620.1 bt620.2 bt625.1 bt625.2).bind fun bt631 => ((spec_SequenceFor.f k bt620.1 bt620.2 bt625.1 bt625.2).bind fun bt642 => (if bt631.2.2.2 = bt642.2.2.2 then ((laws_f6ints.f k bt631.1 bt642.1).bind fun t653 => (if t653 = true then ((laws_f6rows.f k bt631.2.1 bt642.2.1).bind fun t654 => (if t654 = true then ((laws_f6rows.f k bt631.2.2.1 bt642.2.2.1).bind fun t655 => (laws_FnSequences.j1 k bt625.1 bt631.2.2.2 (!t655) bt620.1 bt620.2 bt642.1 bt642.2.1 bt642.2.2.1)) else (laws_FnSequences.j1 k bt625.1 bt631.2.2.2 true bt620.1 bt620.2 bt642.1 bt642.2.1 bt642.2.2.1))) else (laws_FnSequences.j1 k bt625.1 bt631.2.2.2 true bt620.1 bt620.2 bt642.1 bt642.2.1 bt642.2.2.1))) else (laws_FnSequences.j1 k bt625.1 bt631.2.2.2 true bt620.1 bt620.2 bt642.1 bt642.2.1 bt642.2.2.1))))))
def laws_FnSequences.j1 : Nat → List Int → Int → Bool → Int → List (List Int) → List Int → List (List Int) → List (List Int) → Option (Bool)
 | 0, _, _, _, _, _, _, _, _ => none
 | k + 1, x6, x9, x73, x625000, x625001, x653000, x653001, x653002 => if x73 = true then (some false) else (if x9 = 0 then ((impl_CheckSequence.f k x625000 x625001 x653000 x653001 x653002).bind fun bt656 => ((spec_CheckSequence.f k x625000 x625001 x653000 x653001 x653002).bind fun bt658 => ((impl_BestSequence.f k x625000 x625001).bind fun bt660 => (if bt656.2 = bt658.2 then (if bt656.2 = 0 then (if bt656.1 = bt658.1 then (if bt660.2.2.2.2 = 0 then (if (bt660.1.length : Int) > 0 then (if (x6.length : Int) = 0 then (some true) else (some (decide ((wrap64 (bt656.1 * (bt660.1.length : Int))) ≤ (wrap64 (bt660.2.2.2.1 * (x6.length : Int))))))) else (some false)) else (some false)) else (some false)) else (some false)) else (some false))))) else (some (x9 == 8)))
end
def laws_FnSequences.f (k : Nat) (l0 : List Int) (l1 : List Int) : Option (Bool) := (laws_f6big.f l0).bind fun t618 => (if t618 = true then (laws_FnSequences.j0 k l0 l1 true) else ((laws_f6big.f l1).bind fun t619 => (laws_FnSequences.j0 k l0 l1 t619)))
set_option maxHeartbeats 8000000 in
set_option maxRecDepth 100000 in
theorem laws_FnSequences.calls (k : Nat) (A0 : Option Addr) (c0 : Nat) (l0 : List Int) (A1 : Option Addr) (c1 : Nat) (l1 : List Int) (r : Bool) (w : World) (hr0 : Kd.C (Kd.int .u8) w A0 l0.length l0) (hc0 : l0.length ≤ c0) (hr1 : Kd.C (Kd.int .u8) w A1 l1.length l1) (hc1 : l1.length ≤ c1) (h : laws_FnSequences.f k l0 l1 = some r) (hrt : r = true) :
  Calls Try.prog 4 #[.slice A0 l0.length c0, .slice A1 l1.length c1] w fun e w' => e = .returned (.bool r) ∧ Below w.heap.size w w' := by
 have HRT := Aside0.mk hrt
 clear hrt
 have hu31 := Try.underlying31
 have hu28 := Try.underlying28
 have HR0 := Aside0.mk hr0
 have HC0 := Aside0.mk hc0
 clear hr0 hc0
 have HR1 := Aside0.mk hr1
 have HC1 := Aside0.mk hc1
 clear hr1 hc1
 have HB := Aside0.mk (Below.refl w.heap.size w)
 have H : ((laws_f6big.f l0).bind fun t618 => (if t618 = true then (laws_FnSequences.j0 k l0 l1 true) else ((laws_f6big.f l1).bind fun t619 => (laws_FnSequences.j0 k l0 l1 t619)))) = some r := h
 clear h
 have HC3 := Aside0.mk H
 clear H
 go_enter Try.func4, Try.ntmps4
 go_upto_region 1 with (fail)
 go_cut [24] (fun v24 wc => ∃ (kq : Nat) (x24_2 : Bool), v24 = .bool x24_2 ∧ Aside0 (laws_FnSequences.j0 kq l0 l1 x24_2 = some r) ∧ Aside0 (kq ≤ k) ∧ Aside0 (Below w.heap.size w wc))
 case first =>
  have H := HC3.out
  clear HC3
  replace H := Option.bind_eq_some_iff.mp H
  obtain ⟨t618, A40, H⟩ := H
  replace H : (if t618 = true then (laws_FnSequences.j0 k l0 l1 true) else ((laws_f6big.f l1).bind fun t619 => (laws_FnSequences.j0 k l0 l1 t619))) = some r := H
  have A4 := Aside0.mk A40
  clear A40
  by_cases c5 : t618 = true
  ·subst c5
   rw [if_pos rfl] at H
   have H' := Aside0.mk H
   clear H
   go_wp2_with (first | ((with_reducible refine gate_callee (f := 21) rfl ?_); refine goesL_ (some 20) rfl rfl Try.func21 (by kernel_rfl) rfl #[.slice A0 l0.length c0] rfl zl ?_; (with_reducible refine (laws_f6big.calls _ _ l0 true _ ?side1 ?side2 A4.out).mono ?_); (case side1 => exact zc (Kd.C_below HR0.out HB.out)); (case side2 => exact HC0.out); rintro e w' ⟨rfl, ⟨nd, rfl⟩⟩; refine ⟨_, rfl, ?_⟩))
   go_meet
   case rel => exact ⟨_, (true), zt, H', ⟨by first | omega | exact Nat.le_refl _⟩, ⟨zb0 HB.out⟩⟩
  ·replace c5 := Bool.eq_false_iff.mpr c5
   subst c5
   rw [if_neg (show ¬ (false = true) by decide)] at H
   replace H := Option.bind_eq_some_iff.mp H
   obtain ⟨t619, A60, H⟩ := H
   replace H : (laws_FnSequences.j0 k l0 l1 t619) = some r := H
   have A6 := Aside0.mk A60
   clear A60
   have H' := Aside0.mk H
   clear H
   go_wp2_with (first | ((with_reducible refine gate_callee (f := 21) rfl ?_); refine goesL_ (some 20) rfl rfl Try.func21 (by kernel_rfl) rfl #[.slice A0 l0.length c0] rfl zl ?_; (with_reducible refine (laws_f6big.calls _ _ l0 false _ ?side1 ?side2 A4.out).mono ?_); (case side1 => exact zc (Kd.C_below HR0.out HB.out)); (case side2 => exact HC0.out); rintro e w' ⟨rfl, ⟨nd, rfl⟩⟩; refine ⟨_, rfl, ?_⟩) | (go_at_call 21; (with_reducible refine (laws_f6big.calls _ _ l1 t619 _ ?side1 ?side2 A6.out).mono ?_); (case side1 => exact zc (Kd.C_below HR1.out (zb0 HB.out))); (case side2 => exact HC1.out); rintro e w' ⟨rfl, ⟨nd, rfl⟩⟩))
   go_meet
   case rel => exact ⟨_, (t619), zt, H', ⟨by first | omega | exact Nat.le_refl _⟩, ⟨zb0 HB.out⟩⟩
 case rest =>
  clear HC3
  obtain ⟨kq, x24_2, rfl, HA, HJ2, HB⟩ := hcut
  cases kq with
  | zero => exact absurd HA.out (by simp [laws_FnSequences.j0])
  | succ kj2 =>
   have H := HA.out
   clear HA
   simp only [laws_FnSequences.j0] at H
   by_cases c7 : x24_2 = true
   ·subst c7
    rw [if_pos rfl] at H
    obtain rfl := Option.some.inj H
    go_wp2
    go_ret
    exact ⟨ze, zb0 HB.out⟩
   ·replace c7 := Bool.eq_false_iff.mpr c7
    subst c7
    rw [if_neg (show ¬ (false = true) by decide)] at H
    replace H := Option.bind_eq_some_iff.mp H
    obtain ⟨⟨t620, t621⟩, A80, H⟩ := H
    replace H : ((spec_P6Chain.f kj2 l1 t620 t621).bind fun bt625 => ((impl_SequenceFor.f kj2 t620 t621 bt625.1 bt625.2).bind fun bt631 => ((spec_SequenceFor.f kj2 t620 t621 bt625.1 bt625.2).bind fun bt642 => (if bt631.2.2.2 = bt642.2.2.2 then ((laws_f6ints.f kj2 bt631.1 bt642.1).bind fun t653 => (if t653 = true then ((laws_f6rows.f kj2 bt631.2.1 bt642.2.1).bind fun t654 => (if t654 = true then ((laws_f6rows.f kj2 bt631.2.2.1 bt642.2.2.1).bind fun t655 => (laws_FnSequences.j1 kj2 bt625.1 bt631.2.2.2 (!t655) t620 t621 bt642.1 bt642.2.1 bt642.2.2.1)) else (laws_FnSequences.j1 kj2 bt625.1 bt631.2.2.2 true t620 t621 bt642.1 bt642.2.1 bt642.2.2.1))) else (laws_FnSequences.j1 kj2 bt625.1 bt631.2.2.2 true t620 t621 bt642.1 bt642.2.1 bt642.2.2.1))) else (laws_FnSequences.j1 kj2 bt625.1 bt631.2.2.2 true t620 t621 bt642.1 bt642.2.1 bt642.2.2.1))))) = some r := H
    have A8 := Aside0.mk A80
    clear A80
    replace H := Option.bind_eq_some_iff.mp H
    obtain ⟨⟨t625, t628⟩, A90, H⟩ := H
    replace H : ((impl_SequenceFor.f kj2 t620 t621 t625 t628).bind fun bt631 => ((spec_SequenceFor.f kj2 t620 t621 t625 t628).bind fun bt642 => (if bt631.2.2.2 = bt642.2.2.2 then ((laws_f6ints.f kj2 bt631.1 bt642.1).bind fun t653 => (if t653 = true then ((laws_f6rows.f kj2 bt631.2.1 bt642.2.1).bind fun t654 => (if t654 = true then ((laws_f6rows.f kj2 bt631.2.2.1 bt642.2.2.1).bind fun t655 => (laws_FnSequences.j1 kj2 t625 bt631.2.2.2 (!t655) t620 t621 bt642.1 bt642.2.1 bt642.2.2.1)) else (laws_FnSequences.j1 kj2 t625 bt631.2.2.2 true t620 t621 bt642.1 bt642.2.1 bt642.2.2.1))) else (laws_FnSequences.j1 kj2 t625 bt631.2.2.2 true t620 t621 bt642.1 bt642.2.1 bt642.2.2.1))) else (laws_FnSequences.j1 kj2 t625 bt631.2.2.2 true t620 t621 bt642.1 bt642.2.1 bt642.2.2.1)))) = some r := H
    have A9 := Aside0.mk A90
    clear A90
    replace H := Option.bind_eq_some_iff.mp H
    obtain ⟨⟨t631, t634, t637, t640⟩, A100, H⟩ := H
    replace H : ((spec_SequenceFor.f kj2 t620 t621 t625 t628).bind fun bt642 => (if t640 = bt642.2.2.2 then ((laws_f6ints.f kj2 t631 bt642.1).bind fun t653 => (if t653 = true then ((laws_f6rows.f kj2 t634 bt642.2.1).bind fun t654 => (if t654 = true then ((laws_f6rows.f kj2 t637 bt642.2.2.1).bind fun t655 => (laws_FnSequences.j1 kj2 t625 t640 (!t655) t620 t621 bt642.1 bt642.2.1 bt642.2.2.1)) else (laws_FnSequences.j1 kj2 t625 t640 true t620 t621 bt642.1 bt642.2.1 bt642.2.2.1))) else (laws_FnSequences.j1 kj2 t625 t640 true t620 t621 bt642.1 bt642.2.1 bt642.2.2.1))) else (laws_FnSequences.j1 kj2 t625 t640 true t620 t621 bt642.1 bt642.2.1 bt642.2.2.1))) = some r := H
    have A10 := Aside0.mk A100
    clear A100
    replace H := Option.bind_eq_some_iff.mp H
    obtain ⟨⟨t642, t645, t648, t651⟩, A110, H⟩ := H
    replace H : (if t640 = t651 then ((laws_f6ints.f kj2 t631 t642).bind fun t653 => (if t653 = true then ((laws_f6rows.f kj2 t634 t645).bind fun t654 => (if t654 = true then ((laws_f6rows.f kj2 t637 t648).bind fun t655 => (laws_FnSequences.j1 kj2 t625 t640 (!t655) t620 t621 t642 t645 t648)) else (laws_FnSequences.j1 kj2 t625 t640 true t620 t621 t642 t645 t648))) else (laws_FnSequences.j1 kj2 t625 t640 true t620 t621 t642 t645 t648))) else (laws_FnSequences.j1 kj2 t625 t640 true t620 t621 t642 t645 t648)) = some r := H
    have A11 := Aside0.mk A110
    clear A110
    have HC12 := Aside0.mk H
    clear H
    go_upto_region 7 with (first | ((with_reducible refine gate_callee (f := 22) rfl ?_); refine goesL_ (some 26) rfl rfl Try.func22 (by kernel_rfl) rfl #[.slice A0 l0.length c0] rfl zl ?_; (with_reducible refine (spec_P6Family.calls kj2 _ _ l0 t620 t621 _ ?side1 ?side2 A8.out).mono ?_); (case side1 => exact zc (Kd.C_below HR0.out HB.out)); (case side2 => exact HC0.out); rintro e w13 ⟨v622, rfl, ho0, hb⟩; refine ⟨_, rfl, ?_⟩; have n0_ := Aside0.mk (Kd.N_lower (Kd.N_mono (ok' := fun k_ => True) (Kd.S_N (Kd.S_bound ho0)) (fun k_ hk_ => trivial)) (below_size (zb0 HB.out))); have n1_ := Aside0.mk (below_step (zb0 HB.out) hb); clear HB; have HO623 := n0_; have HB := n1_; clear n0_ n1_; (try clear hb); (try clear hb2); (try clear hk); (try clear hi); (try clear ho0)) | ((with_reducible refine gate_dst (N := 5) rfl ?_); (try (refine gate_guard (by rfl) ?_; dsimp only)); refine box_event ?hg (N := 5) ?hd (cs := #[.int .i64 0, .slice none 0 0]) (t := 31) ?hr ?_; (case hd => rfl); (case hg => rfl); (case hr => first | (go_simp; done) | (go_simp; rfl)); intro gb624 hg w14 hbox hb; have n0_ := Aside0.mk (Kd.N_below (Kd.N_elderB (zn HO623.out) gb624 (Nat.le_of_eq hg.symm)) hb); have n1_ := Aside0.mk (below_step (zb0 HB.out) hb); have n2_ := Aside0.mk (hbox); have n3_ := Aside0.mk ((by rw [hg]; exact (below_size (zb0 HB.out)) : w.heap.size ≤ gb624)); have n4_ := Aside0.mk ((by rw [hg]; exact (below_size (zb0 HB.out)) : w.heap.size ≤ gb624)); clear HO623; clear HB; have HO623 := n0_; have HB := n1_; have BK624 := n2_; have GW624 := n3_; have GE624 := n4_; clear n0_ n1_ n2_ n3_ n4_; clear hb hbox hg; have hcz15_0 : w14.cell? ⟨gb624, 0, none⟩ = some (.int .i64 0) := (blk_cell BK624.out 0).trans rfl; have hcz15_1 : w14.cell? ⟨gb624, 1, none⟩ = some (.slice none 0 0) := (blk_cell BK624.out 1).trans rfl; have hfz15_0 := blk_frozen BK624.out 0; have hfz15_1 := blk_frozen BK624.out 1; obtain ⟨Ao16, co16, eo16⟩ := Kd.N_slice HO623.out; subst eo16) | ((with_reducible refine gate_callee (f := 23) rfl ?_); refine goesL_ (some 30) rfl rfl Try.func23 (by kernel_rfl) rfl #[.slice A1 l1.length c1, .agg #[.int .i64 t620, .slice Ao16 t621.length co16]] rfl zl ?_; (with_reducible refine (spec_P6Chain.calls kj2 _ _ l1 t620 _ _ t621 t625 t628 _ ?side1 ?side2 ?side3 ?side4 A9.out).mono ?_); (case side1 => exact Kd.C_below HR1.out (zb1 HB.out GE624.out)); (case side2 => exact HC1.out); (case side3 => refine (Kd.N_reads' (e := 26) (base := w.heap.size) (ok := fun k_ => (True ∧ k_ ≠ gb624)) (n := t621.length) (c := co16) ?_).2.2; exact (by (with_reducible repeat (first | apply Kd.N_alloc | apply Kd.N_drewN | apply Kd.N_drew)); exact (Kd.N_mono (Kd.N_far (p := ⟨gb624, 1, none⟩) (Kd.N_far (p := ⟨gb624, 0, none⟩) (Kd.N_mono HO623.out (fun k_ hk => (⟨hk, hk.2⟩ : _ ∧ k_ ≠ gb624))) (fun _ hk => hk.2) (.int .i64 t620)) (fun _ hk => hk.2) (.slice Ao16 t621.length co16)) (fun _ h_ => h_.1)))); (case side4 => exact (Kd.N_reads' HO623.out).2.1); rintro e w17 ⟨v626, v629, rfl, ho0, ho1, hb⟩; refine ⟨_, rfl, ?_⟩; have n0_ := Aside0.mk (Kd.N_mono (Kd.N_told (Kd.N_told (Kd.N_old (by (with_reducible repeat (first | apply Kd.N_alloc | apply Kd.N_drewN | apply Kd.N_drew)); exact (Kd.N_mono (Kd.N_far (p := ⟨gb624, 1, none⟩) (Kd.N_far (p := ⟨gb624, 0, none⟩) (Kd.N_mono HO623.out (fun k_ hk => (⟨hk, hk.2⟩ : _ ∧ k_ ≠ gb624))) (fun _ hk => hk.2) (.int .i64 t620)) (fun _ hk => hk.2) (.slice Ao16 t621.length co16)) (fun _ h_ => h_.1))) hb) (Kd.R_base ho0)) (by first | exact Kd.N_base ho1 | exact Kd.S_base ho1)) (fun _ h_ => h_.1)); have n1_ := Aside0.mk (Kd.R_lower ho0 (below_size (zb1 HB.out GE624.out))); have n2_ := Aside0.mk (Kd.N_lower (Kd.N_mono (ok' := fun k_ => some k_ ≠ (v626 : Value).ownBlock ∧ some k_ ≠ (.slice Ao16 t621.length co16 : Value).ownBlock ∧ k_ ≠ gb624) (Kd.S_N (Kd.S_bound ho1)) (fun k_ hk_ => ⟨hk_.1, (Kd.fresh' (Kd.N_lt (by (with_reducible repeat (first | apply Kd.N_alloc | apply Kd.N_drewN | apply Kd.N_drew)); exact (Kd.N_mono (Kd.N_far (p := ⟨gb624, 1, none⟩) (Kd.N_far (p := ⟨gb624, 0, none⟩) (Kd.N_mono HO623.out (fun k_ hk => (⟨hk, hk.2⟩ : _ ∧ k_ ≠ gb624))) (fun _ hk => hk.2) (.int .i64 t620)) (fun _ hk => hk.2) (.slice Ao16 t621.length co16)) (fun _ h_ => h_.1)))) k_ hk_.2.1), (Kd.freshB (g := gb624) (o := .cells #[.int .i64 t620, .slice Ao16 t621.length co16] 31 (0, 0)) (by (with_reducible repeat (first | refine blk_drewN ?_ _ | refine blk_drew ?_ | refine blk_alloc ?_ _)); refine blk_put (cs := #[.int .i64 t620, .slice none 0 0]) ?_ 1 _ rfl; (with_reducible repeat (first | refine blk_drewN ?_ _ | refine blk_drew ?_ | refine blk_alloc ?_ _)); refine blk_put (cs := #[.int .i64 0, .slice none 0 0]) ?_ 0 _ rfl; (with_reducible repeat (first | refine blk_drewN ?_ _ | refine blk_drew ?_ | refine blk_alloc ?_ _)); exact BK624.out) k_ hk_.2.1)⟩)) (below_size (zb1 HB.out GE624.out))); have n3_ := Aside0.mk (blk_below (g := gb624) (o := .cells #[.int .i64 t620, .slice Ao16 t621.length co16] 31 (0, 0)) (by (with_reducible repeat (first | refine blk_drewN ?_ _ | refine blk_drew ?_ | refine blk_alloc ?_ _)); refine blk_put (cs := #[.int .i64 t620, .slice none 0 0]) ?_ 1 _ rfl; (with_reducible repeat (first | refine blk_drewN ?_ _ | refine blk_drew ?_ | refine blk_alloc ?_ _)); refine blk_put (cs := #[.int .i64 0, .slice none 0 0]) ?_ 0 _ rfl; (with_reducible repeat (first | refine blk_drewN ?_ _ | refine blk_drew ?_ | refine blk_alloc ?_ _)); exact BK624.out) hb); have n4_ := Aside0.mk (below_step (zb1 HB.out GE624.out) hb); clear HO623; clear BK624; clear HB; have HO623 := n0_; have HO627 := n1_; have HO630 := n2_; have BK624 := n3_; have HB := n4_; clear n0_ n1_ n2_ n3_ n4_; (try clear hb); (try clear hb2); (try clear hk); (try clear hi); (try clear ho0); (try clear ho1); have hcz18_0 : w17.cell? ⟨gb624, 0, none⟩ = some (.int .i64 t620) := (blk_cell BK624.out 0).trans rfl; have hcz18_1 : w17.cell? ⟨gb624, 1, none⟩ = some (.slice Ao16 t621.length co16) := (blk_cell BK624.out 1).trans rfl; have hfz18_0 := blk_frozen BK624.out 0; have hfz18_1 := blk_frozen BK624.out 1; obtain ⟨Ao19, co19, eo19⟩ := Kd.R_slice HO627.out; subst eo19; obtain ⟨Ao20, co20, eo20⟩ := Kd.N_slice HO630.out; subst eo20) | ((with_reducible refine gate_callee (f := 24) rfl ?_); refine goesL_ (some 37) rfl rfl Try.func24 (by kernel_rfl) rfl #[.agg #[.int .i64 t620, .slice Ao16 t621.length co16], .slice Ao19 t625.length co19, .slice Ao20 t628.length co20] rfl zl ?_; (with_reducible refine (impl_SequenceFor.calls kj2 t620 _ _ t621 (fun k_ => some k_ = (.slice Ao19 t625.length co19 : Value).ownBlock) _ _ t625 _ _ t628 t631 t634 t637 t640 _ ?side1 ?side2 ?side3 ?side4 ?side5 A10.out).mono ?_); (case side1 => repeat (first | exact (Kd.N_reads' HO623.out).2.2 | (with_reducible refine Kd.C_alloc ?_ _) | (with_reducible refine Kd.C_drewN ?_ _) | (with_reducible refine Kd.C_drew ?_))); (case side2 => exact (Kd.N_reads' HO623.out).2.1); (case side3 => exact Kd.R_V (Kd.R_tight rfl (Kd.R_types (Kd.R_apart' (Kd.R_apart' (HO627.out) (Kd.N_typed HO623.out) (by decide)) (Kd.N_typed HO630.out) (by decide)) BK624.out (by decide)))); (case side4 => repeat (first | exact (Kd.N_reads' HO630.out).2.2 | (with_reducible refine Kd.C_alloc ?_ _) | (with_reducible refine Kd.C_drewN ?_ _) | (with_reducible refine Kd.C_drew ?_))); (case side5 => exact (Kd.N_reads' HO630.out).2.1); rintro e w21 ⟨v632, v635, v638, rfl, ho0, ho1, ho2, hb⟩; refine ⟨_, rfl, ?_⟩; have n0_ := Aside0.mk (Kd.N_mono (Kd.N_told (Kd.N_told (Kd.N_told (Kd.N_old (zn HO623.out) hb) (Kd.R_base ho0)) (by first | exact Kd.N_base ho1 | exact Kd.S_base ho1)) (by first | exact Kd.N_base ho2 | exact Kd.S_base ho2)) (fun _ h_ => h_.1)); have n1_ := Aside0.mk (Kd.R_elder' (zr HO627.out) (Kd.R_base ho0) hb); have n2_ := Aside0.mk (Kd.N_mono (Kd.N_told (Kd.N_told (Kd.N_told (Kd.N_old (zn HO630.out) hb) (Kd.R_base ho0)) (by first | exact Kd.N_base ho1 | exact Kd.S_base ho1)) (by first | exact Kd.N_base ho2 | exact Kd.S_base ho2)) (fun _ h_ => h_.1)); have n3_ := Aside0.mk (Kd.R_lower (Kd.R_new' (Kd.R_mono (ok' := fun k_ => True) ho0 (fun _ hk_ => trivial)) (Kd.R_lt (zr HO627.out))) (below_size (zb1 HB.out GE624.out))); have n4_ := Aside0.mk (Kd.N_lower (Kd.N_mono (ok' := fun k_ => some k_ ≠ (v632 : Value).ownBlock ∧ some k_ ≠ (v638 : Value).ownBlock ∧ some k_ ≠ (.slice Ao16 t621.length co16 : Value).ownBlock ∧ some k_ ≠ (.slice Ao20 t628.length co20 : Value).ownBlock ∧ k_ ≠ gb624) ho1 (fun k_ hk_ => ⟨hk_.2.1, hk_.2.2, Or.elim hk_.1 (fun hs_ => ((Kd.R_types (Kd.R_apart' (Kd.R_apart' (HO627.out) (Kd.N_typed HO623.out) (by decide)) (Kd.N_typed HO630.out) (by decide)) BK624.out (by decide)).1 k_ hs_.symm).1.1.2) (fun hn_ => (Kd.fresh' (Kd.N_lt (zn HO623.out)) k_ hn_)), Or.elim hk_.1 (fun hs_ => ((Kd.R_types (Kd.R_apart' (Kd.R_apart' (HO627.out) (Kd.N_typed HO623.out) (by decide)) (Kd.N_typed HO630.out) (by decide)) BK624.out (by decide)).1 k_ hs_.symm).1.2) (fun hn_ => (Kd.fresh' (Kd.N_lt (zn HO630.out)) k_ hn_)), Or.elim hk_.1 (fun hs_ => ((Kd.R_types (Kd.R_apart' (Kd.R_apart' (HO627.out) (Kd.N_typed HO623.out) (by decide)) (Kd.N_typed HO630.out) (by decide)) BK624.out (by decide)).1 k_ hs_.symm).2) (fun hn_ => (Kd.freshB (g := gb624) (o := .cells #[.int .i64 t620, .slice Ao16 t621.length co16] 31 (0, 0)) (zk BK624.out) k_ hn_))⟩)) (below_size (zb1 HB.out GE624.out))); have n5_ := Aside0.mk (Kd.N_lower (Kd.N_mono (ok' := fun k_ => some k_ ≠ (v632 : Value).ownBlock ∧ some k_ ≠ (v635 : Value).ownBlock ∧ some k_ ≠ (.slice Ao16 t621.length co16 : Value).ownBlock ∧ some k_ ≠ (.slice Ao20 t628.length co20 : Value).ownBlock ∧ k_ ≠ gb624) ho2 (fun k_ hk_ => ⟨hk_.2.1, hk_.2.2, Or.elim hk_.1 (fun hs_ => ((Kd.R_types (Kd.R_apart' (Kd.R_apart' (HO627.out) (Kd.N_typed HO623.out) (by decide)) (Kd.N_typed HO630.out) (by decide)) BK624.out (by decide)).1 k_ hs_.symm).1.1.2) (fun hn_ => (Kd.fresh' (Kd.N_lt (zn HO623.out)) k_ hn_)), Or.elim hk_.1 (fun hs_ => ((Kd.R_types (Kd.R_apart' (Kd.R_apart' (HO627.out) (Kd.N_typed HO623.out) (by decide)) (Kd.N_typed HO630.out) (by decide)) BK624.out (by decide)).1 k_ hs_.symm).1.2) (fun hn_ => (Kd.fresh' (Kd.N_lt (zn HO630.out)) k_ hn_)), Or.elim hk_.1 (fun hs_ => ((Kd.R_types (Kd.R_apart' (Kd.R_apart' (HO627.out) (Kd.N_typed HO623.out) (by decide)) (Kd.N_typed HO630.out) (by decide)) BK624.out (by decide)).1 k_ hs_.symm).2) (fun hn_ => (Kd.freshB (g := gb624) (o := .cells #[.int .i64 t620, .slice Ao16 t621.length co16] 31 (0, 0)) (zk BK624.out) k_ hn_))⟩)) (below_size (zb1 HB.out GE624.out))); have n6_ := Aside0.mk (blk_below (g := gb624) (o := .cells #[.int .i64 t620, .slice Ao16 t621.length co16] 31 (0, 0)) (zk BK624.out) hb); have n7_ := Aside0.mk (below_step (zb1 HB.out GE624.out) hb); clear HO623; clear HO627; clear HO630; clear BK624; clear HB; have HO623 := n0_; have HO627 := n1_; have HO630 := n2_; have HO633 := n3_; have HO636 := n4_; have HO639 := n5_; have BK624 := n6_; have HB := n7_; clear n0_ n1_ n2_ n3_ n4_ n5_ n6_ n7_; (try clear hb); (try clear hb2); (try clear hk); (try clear hi); (try clear ho0); (try clear ho1); (try clear ho2)) | ((with_reducible refine gate_dst (N := 8) rfl ?_); (try (refine gate_guard (by rfl) ?_; dsimp only)); refine box_event ?hg (N := 8) ?hd (cs := #[.slice none 0 0, .slice none 0 0, .slice none 0 0]) (t := 28) ?hr ?_; (case hd => rfl); (case hg => rfl); (case hr => first | (go_simp; done) | (go_simp; rfl)); intro gb641 hg w22 hbox hb; have n0_ := Aside0.mk (Kd.N_below (Kd.N_elderB (zn HO623.out) gb641 (Nat.le_of_eq hg.symm)) hb); have n1_ := Aside0.mk (Kd.R_below (zr HO627.out) hb); have n2_ := Aside0.mk (Kd.N_below (Kd.N_elderB (zn HO630.out) gb641 (Nat.le_of_eq hg.symm)) hb); have n3_ := Aside0.mk (Kd.R_below (zr HO633.out) hb); have n4_ := Aside0.mk (Kd.N_below (Kd.N_elderB (zn HO636.out) gb641 (Nat.le_of_eq hg.symm)) hb); have n5_ := Aside0.mk (Kd.N_below (Kd.N_elderB (zn HO639.out) gb641 (Nat.le_of_eq hg.symm)) hb); have n6_ := Aside0.mk (blk_below (g := gb624) (o := .cells #[.int .i64 t620, .slice Ao16 t621.length co16] 31 (0, 0)) (zk BK624.out) hb); have n7_ := Aside0.mk (below_step (zb1 HB.out GE624.out) hb); have n8_ := Aside0.mk (hbox); have n9_ := Aside0.mk ((by rw [hg]; exact (below_size (zb1 HB.out GE624.out)) : w.heap.size ≤ gb641)); have n10_ := Aside0.mk ((by rw [hg]; exact (below_size (zb1 HB.out GE624.out)) : w.heap.size ≤ gb641)); have n11_ := Aside0.mk ((by rw [hg]; exact Nat.ne_of_lt (blk_lt (g := gb624) (o := .cells #[.int .i64 t620, .slice Ao16 t621.length co16] 31 (0, 0)) (zk BK624.out)) : gb624 ≠ gb641)); have n12_ := Aside0.mk ((by rw [hg]; exact Nat.ne_of_gt (blk_lt (g := gb624) (o := .cells #[.int .i64 t620, .slice Ao16 t621.length co16] 31 (0, 0)) (zk BK624.out)) : gb641 ≠ gb624)); clear HO623; clear HO627; clear HO630; clear HO633; clear HO636; clear HO639; clear BK624; clear HB; have HO623 := n0_; have HO627 := n1_; have HO630 := n2_; have HO633 := n3_; have HO636 := n4_; have HO639 := n5_; have BK624 := n6_; have HB := n7_; have BK641 := n8_; have GW641 := n9_; have GE641 := n10_; have NB624_641 := n11_; have NB641_624 := n12_; clear n0_ n1_ n2_ n3_ n4_ n5_ n6_ n7_ n8_ n9_ n10_ n11_ n12_; clear hb hbox hg; obtain ⟨Ao23, co23, eo23⟩ := Kd.R_slice HO633.out; subst eo23; have hnb24 := NB641_624.out; have hnc24 := NB624_641.out; have hcz25_0 : w22.cell? ⟨gb641, 0, none⟩ = some (.slice none 0 0) := (blk_cell BK641.out 0).trans rfl; have hcz25_1 : w22.cell? ⟨gb641, 1, none⟩ = some (.slice none 0 0) := (blk_cell BK641.out 1).trans rfl; have hcz25_2 : w22.cell? ⟨gb641, 2, none⟩ = some (.slice none 0 0) := (blk_cell BK641.out 2).trans rfl; have hfz25_0 := blk_frozen BK641.out 0; have hfz25_1 := blk_frozen BK641.out 1; have hfz25_2 := blk_frozen BK641.out 2; obtain ⟨Ao26, co26, eo26⟩ := Kd.N_slice HO636.out; subst eo26; obtain ⟨Ao27, co27, eo27⟩ := Kd.N_slice HO639.out; subst eo27; have hcz28_0 : w22.cell? ⟨gb624, 0, none⟩ = some (.int .i64 t620) := (blk_cell BK624.out 0).trans rfl; have hcz28_1 : w22.cell? ⟨gb624, 1, none⟩ = some (.slice Ao16 t621.length co16) := (blk_cell BK624.out 1).trans rfl; have hfz28_0 := blk_frozen BK624.out 0; have hfz28_1 := blk_frozen BK624.out 1) | ((with_reducible refine gate_callee (f := 25) rfl ?_); refine goesL_ (some 44) rfl rfl Try.func25 (by kernel_rfl) rfl #[.agg #[.int .i64 t620, .slice Ao16 t621.length co16], .slice Ao19 t625.length co19, .slice Ao20 t628.length co20] rfl zl ?_; (with_reducible refine (spec_SequenceFor.calls kj2 t620 _ _ t621 _ _ t625 _ _ t628 t642 t645 t648 t651 _ ?side1 ?side2 ?side3 ?side4 ?side5 ?side6 A11.out).mono ?_); (case side1 => refine (Kd.N_reads' (e := 26) (base := w.heap.size) (ok := fun k_ => (((((((True ∧ k_ ≠ gb624) ∧ some k_ ≠ (.slice Ao19 t625.length co19 : Value).ownBlock) ∧ some k_ ≠ (.slice Ao20 t628.length co20 : Value).ownBlock) ∧ some k_ ≠ (.slice Ao23 t631.length co23 : Value).ownBlock) ∧ some k_ ≠ (.slice Ao26 t634.length co26 : Value).ownBlock) ∧ some k_ ≠ (.slice Ao27 t637.length co27 : Value).ownBlock) ∧ k_ ≠ gb641)) (n := t621.length) (c := co16) ?_).2.2; exact (by (with_reducible repeat (first | apply Kd.N_alloc | apply Kd.N_drewN | apply Kd.N_drew)); exact (Kd.N_mono (Kd.N_far (p := ⟨gb641, 2, none⟩) (Kd.N_far (p := ⟨gb641, 1, none⟩) (Kd.N_far (p := ⟨gb641, 0, none⟩) (Kd.N_mono HO623.out (fun k_ hk => (⟨hk, hk.2⟩ : _ ∧ k_ ≠ gb641))) (fun _ hk => hk.2) (.slice Ao23 t631.length co23)) (fun _ hk => hk.2) (.slice Ao26 t634.length co26)) (fun _ hk => hk.2) (.slice Ao27 t637.length co27)) (fun _ h_ => h_.1)))); (case side2 => exact (Kd.N_reads' HO623.out).2.1); (case side3 => refine (Kd.R_reads' (e := 2) (base := w.heap.size) (ok := fun k_ => (True ∧ some k_ ≠ (.slice Ao23 t631.length co23 : Value).ownBlock)) (n := t625.length) (c := co19) ?_).2.2; exact (by (with_reducible repeat (first | apply Kd.R_alloc | apply Kd.R_drewN | apply Kd.R_drew)); exact (Kd.R_mono (Kd.R_far (p := ⟨gb641, 2, none⟩) (Kd.R_far (p := ⟨gb641, 1, none⟩) (Kd.R_far (p := ⟨gb641, 0, none⟩) (Kd.R_types HO627.out BK641.out (by decide)) (fun _ hk => hk.2) (.slice Ao23 t631.length co23)) (fun _ hk => hk.2) (.slice Ao26 t634.length co26)) (fun _ hk => hk.2) (.slice Ao27 t637.length co27)) (fun _ h_ => h_.1)))); (case side4 => exact (Kd.R_reads' HO627.out).2.1); (case side5 => refine (Kd.N_reads' (e := 26) (base := w.heap.size) (ok := fun k_ => (((((some k_ ≠ (.slice Ao19 t625.length co19 : Value).ownBlock ∧ (some k_ ≠ (.slice Ao16 t621.length co16 : Value).ownBlock ∧ k_ ≠ gb624)) ∧ some k_ ≠ (.slice Ao23 t631.length co23 : Value).ownBlock) ∧ some k_ ≠ (.slice Ao26 t634.length co26 : Value).ownBlock) ∧ some k_ ≠ (.slice Ao27 t637.length co27 : Value).ownBlock) ∧ k_ ≠ gb641)) (n := t628.length) (c := co20) ?_).2.2; exact (by (with_reducible repeat (first | apply Kd.N_alloc | apply Kd.N_drewN | apply Kd.N_drew)); exact (Kd.N_mono (Kd.N_far (p := ⟨gb641, 2, none⟩) (Kd.N_far (p := ⟨gb641, 1, none⟩) (Kd.N_far (p := ⟨gb641, 0, none⟩) (Kd.N_mono HO630.out (fun k_ hk => (⟨hk, hk.2⟩ : _ ∧ k_ ≠ gb641))) (fun _ hk => hk.2) (.slice Ao23 t631.length co23)) (fun _ hk => hk.2) (.slice Ao26 t634.length co26)) (fun _ hk => hk.2) (.slice Ao27 t637.length co27)) (fun _ h_ => h_.1)))); (case side6 => exact (Kd.N_reads' HO630.out).2.1); rintro e w29 ⟨v643, v646, v649, rfl, ho0, ho1, ho2, hb⟩; refine ⟨_, rfl, ?_⟩; have n0_ := Aside0.mk (Kd.N_mono (Kd.N_told (Kd.N_told (Kd.N_told (Kd.N_old (by (with_reducible repeat (first | apply Kd.N_alloc | apply Kd.N_drewN | apply Kd.N_drew)); exact (Kd.N_mono (Kd.N_far (p := ⟨gb641, 2, none⟩) (Kd.N_far (p := ⟨gb641, 1, none⟩) (Kd.N_far (p := ⟨gb641, 0, none⟩) (Kd.N_mono HO623.out (fun k_ hk => (⟨hk, hk.2⟩ : _ ∧ k_ ≠ gb641))) (fun _ hk => hk.2) (.slice Ao23 t631.length co23)) (fun _ hk => hk.2) (.slice Ao26 t634.length co26)) (fun _ hk => hk.2) (.slice Ao27 t637.length co27)) (fun _ h_ => h_.1))) hb) (Kd.R_base ho0)) (by first | exact Kd.N_base ho1 | exact Kd.S_base ho1)) (by first | exact Kd.N_base ho2 | exact Kd.S_base ho2)) (fun _ h_ => h_.1)); have n1_ := Aside0.mk (Kd.R_elder' (by (with_reducible repeat (first | apply Kd.R_alloc | apply Kd.R_drewN | apply Kd.R_drew)); exact (Kd.R_mono (Kd.R_far (p := ⟨gb641, 2, none⟩) (Kd.R_far (p := ⟨gb641, 1, none⟩) (Kd.R_far (p := ⟨gb641, 0, none⟩) (Kd.R_types HO627.out BK641.out (by decide)) (fun _ hk => hk.2) (.slice Ao23 t631.length co23)) (fun _ hk => hk.2) (.slice Ao26 t634.length co26)) (fun _ hk => hk.2) (.slice Ao27 t637.length co27)) (fun _ h_ => h_.1))) (Kd.R_base ho0) hb); have n2_ := Aside0.mk (Kd.N_mono (Kd.N_told (Kd.N_told (Kd.N_told (Kd.N_old (by (with_reducible repeat (first | apply Kd.N_alloc | apply Kd.N_drewN | apply Kd.N_drew)); exact (Kd.N_mono (Kd.N_far (p := ⟨gb641, 2, none⟩) (Kd.N_far (p := ⟨gb641, 1, none⟩) (Kd.N_far (p := ⟨gb641, 0, none⟩) (Kd.N_mono HO630.out (fun k_ hk => (⟨hk, hk.2⟩ : _ ∧ k_ ≠ gb641))) (fun _ hk => hk.2) (.slice Ao23 t631.length co23)) (fun _ hk => hk.2) (.slice Ao26 t634.length co26)) (fun _ hk => hk.2) (.slice Ao27 t637.length co27)) (fun _ h_ => h_.1))) hb) (Kd.R_base ho0)) (by first | exact Kd.N_base ho1 | exact Kd.S_base ho1)) (by first | exact Kd.N_base ho2 | exact Kd.S_base ho2)) (fun _ h_ => h_.1)); have n3_ := Aside0.mk (Kd.R_elder' (by (with_reducible repeat (first | apply Kd.R_alloc | apply Kd.R_drewN | apply Kd.R_drew)); exact (Kd.R_mono (Kd.R_far (p := ⟨gb641, 2, none⟩) (Kd.R_far (p := ⟨gb641, 1, none⟩) (Kd.R_far (p := ⟨gb641, 0, none⟩) (Kd.R_types HO633.out BK641.out (by decide)) (fun _ hk => hk.2) (.slice Ao23 t631.length co23)) (fun _ hk => hk.2) (.slice Ao26 t634.length co26)) (fun _ hk => hk.2) (.slice Ao27 t637.length co27)) (fun _ h_ => h_.1))) (Kd.R_base ho0) hb); have n4_ := Aside0.mk (Kd.N_mono (Kd.N_told (Kd.N_told (Kd.N_told (Kd.N_old (by (with_reducible repeat (first | apply Kd.N_alloc | apply Kd.N_drewN | apply Kd.N_drew)); exact (Kd.N_mono (Kd.N_far (p := ⟨gb641, 2, none⟩) (Kd.N_far (p := ⟨gb641, 1, none⟩) (Kd.N_far (p := ⟨gb641, 0, none⟩) (Kd.N_mono HO636.out (fun k_ hk => (⟨hk, hk.2⟩ : _ ∧ k_ ≠ gb641))) (fun _ hk => hk.2) (.slice Ao23 t631.length co23)) (fun _ hk => hk.2) (.slice Ao26 t634.length co26)) (fun _ hk => hk.2) (.slice Ao27 t637.length co27)) (fun _ h_ => h_.1))) hb) (Kd.R_base ho0)) (by first | exact Kd.N_base ho1 | exact Kd.S_base ho1)) (by first | exact Kd.N_base ho2 | exact Kd.S_base ho2)) (fun _ h_ => h_.1)); have n5_ := Aside0.mk (Kd.N_mono (Kd.N_told (Kd.N_told (Kd.N_told (Kd.N_old (by (with_reducible repeat (first | apply Kd.N_alloc | apply Kd.N_drewN | apply Kd.N_drew)); exact (Kd.N_mono (Kd.N_far (p := ⟨gb641, 2, none⟩) (Kd.N_far (p := ⟨gb641, 1, none⟩) (Kd.N_far (p := ⟨gb641, 0, none⟩) (Kd.N_mono HO639.out (fun k_ hk => (⟨hk, hk.2⟩ : _ ∧ k_ ≠ gb641))) (fun _ hk => hk.2) (.slice Ao23 t631.length co23)) (fun _ hk => hk.2) (.slice Ao26 t634.length co26)) (fun _ hk => hk.2) (.slice Ao27 t637.length co27)) (fun _ h_ => h_.1))) hb) (Kd.R_base ho0)) (by first | exact Kd.N_base ho1 | exact Kd.S_base ho1)) (by first | exact Kd.N_base ho2 | exact Kd.S_base ho2)) (fun _ h_ => h_.1)); have n6_ := Aside0.mk (Kd.R_lower (Kd.R_new' (Kd.R_new' ho0 (Kd.R_lt (by (with_reducible repeat (first | apply Kd.R_alloc | apply Kd.R_drewN | apply Kd.R_drew)); exact (Kd.R_mono (Kd.R_far (p := ⟨gb641, 2, none⟩) (Kd.R_far (p := ⟨gb641, 1, none⟩) (Kd.R_far (p := ⟨gb641, 0, none⟩) (Kd.R_types HO627.out BK641.out (by decide)) (fun _ hk => hk.2) (.slice Ao23 t631.length co23)) (fun _ hk => hk.2) (.slice Ao26 t634.length co26)) (fun _ hk => hk.2) (.slice Ao27 t637.length co27)) (fun _ h_ => h_.1))))) (Kd.R_lt (by (with_reducible repeat (first | apply Kd.R_alloc | apply Kd.R_drewN | apply Kd.R_drew)); exact (Kd.R_mono (Kd.R_far (p := ⟨gb641, 2, none⟩) (Kd.R_far (p := ⟨gb641, 1, none⟩) (Kd.R_far (p := ⟨gb641, 0, none⟩) (Kd.R_types HO633.out BK641.out (by decide)) (fun _ hk => hk.2) (.slice Ao23 t631.length co23)) (fun _ hk => hk.2) (.slice Ao26 t634.length co26)) (fun _ hk => hk.2) (.slice Ao27 t637.length co27)) (fun _ h_ => h_.1))))) (below_size (zb2 HB.out GE624.out GE641.out))); have n7_ := Aside0.mk (Kd.N_lower (Kd.N_mono (ok' := fun k_ => some k_ ≠ (v643 : Value).ownBlock ∧ some k_ ≠ (v649 : Value).ownBlock ∧ some k_ ≠ (.slice Ao16 t621.length co16 : Value).ownBlock ∧ some k_ ≠ (.slice Ao19 t625.length co19 : Value).ownBlock ∧ some k_ ≠ (.slice Ao20 t628.length co20 : Value).ownBlock ∧ some k_ ≠ (.slice Ao23 t631.length co23 : Value).ownBlock ∧ some k_ ≠ (.slice Ao26 t634.length co26 : Value).ownBlock ∧ some k_ ≠ (.slice Ao27 t637.length co27 : Value).ownBlock ∧ k_ ≠ gb624 ∧ k_ ≠ gb641) (Kd.S_N (Kd.S_bound ho1)) (fun k_ hk_ => ⟨hk_.1.1, hk_.1.2, (Kd.fresh' (Kd.N_lt (by (with_reducible repeat (first | apply Kd.N_alloc | apply Kd.N_drewN | apply Kd.N_drew)); exact (Kd.N_mono (Kd.N_far (p := ⟨gb641, 2, none⟩) (Kd.N_far (p := ⟨gb641, 1, none⟩) (Kd.N_far (p := ⟨gb641, 0, none⟩) (Kd.N_mono HO623.out (fun k_ hk => (⟨hk, hk.2⟩ : _ ∧ k_ ≠ gb641))) (fun _ hk => hk.2) (.slice Ao23 t631.length co23)) (fun _ hk => hk.2) (.slice Ao26 t634.length co26)) (fun _ hk => hk.2) (.slice Ao27 t637.length co27)) (fun _ h_ => h_.1)))) k_ hk_.2.1), (Kd.fresh' (Kd.R_lt (by (with_reducible repeat (first | apply Kd.R_alloc | apply Kd.R_drewN | apply Kd.R_drew)); exact (Kd.R_mono (Kd.R_far (p := ⟨gb641, 2, none⟩) (Kd.R_far (p := ⟨gb641, 1, none⟩) (Kd.R_far (p := ⟨gb641, 0, none⟩) (Kd.R_types HO627.out BK641.out (by decide)) (fun _ hk => hk.2) (.slice Ao23 t631.length co23)) (fun _ hk => hk.2) (.slice Ao26 t634.length co26)) (fun _ hk => hk.2) (.slice Ao27 t637.length co27)) (fun _ h_ => h_.1)))) k_ hk_.2.1), (Kd.fresh' (Kd.N_lt (by (with_reducible repeat (first | apply Kd.N_alloc | apply Kd.N_drewN | apply Kd.N_drew)); exact (Kd.N_mono (Kd.N_far (p := ⟨gb641, 2, none⟩) (Kd.N_far (p := ⟨gb641, 1, none⟩) (Kd.N_far (p := ⟨gb641, 0, none⟩) (Kd.N_mono HO630.out (fun k_ hk => (⟨hk, hk.2⟩ : _ ∧ k_ ≠ gb641))) (fun _ hk => hk.2) (.slice Ao23 t631.length co23)) (fun _ hk => hk.2) (.slice Ao26 t634.length co26)) (fun _ hk => hk.2) (.slice Ao27 t637.length co27)) (fun _ h_ => h_.1)))) k_ hk_.2.1), (Kd.fresh' (Kd.R_lt (by (with_reducible repeat (first | apply Kd.R_alloc | apply Kd.R_drewN | apply Kd.R_drew)); exact (Kd.R_mono (Kd.R_far (p := ⟨gb641, 2, none⟩) (Kd.R_far (p := ⟨gb641, 1, none⟩) (Kd.R_far (p := ⟨gb641, 0, none⟩) (Kd.R_types HO633.out BK641.out (by decide)) (fun _ hk => hk.2) (.slice Ao23 t631.length co23)) (fun _ hk => hk.2) (.slice Ao26 t634.length co26)) (fun _ hk => hk.2) (.slice Ao27 t637.length co27)) (fun _ h_ => h_.1)))) k_ hk_.2.1), (Kd.fresh' (Kd.N_lt (by (with_reducible repeat (first | apply Kd.N_alloc | apply Kd.N_drewN | apply Kd.N_drew)); exact (Kd.N_mono (Kd.N_far (p := ⟨gb641, 2, none⟩) (Kd.N_far (p := ⟨gb641, 1, none⟩) (Kd.N_far (p := ⟨gb641, 0, none⟩) (Kd.N_mono HO636.out (fun k_ hk => (⟨hk, hk.2⟩ : _ ∧ k_ ≠ gb641))) (fun _ hk => hk.2) (.slice Ao23 t631.length co23)) (fun _ hk => hk.2) (.slice Ao26 t634.length co26)) (fun _ hk => hk.2) (.slice Ao27 t637.length co27)) (fun _ h_ => h_.1)))) k_ hk_.2.1), (Kd.fresh' (Kd.N_lt (by (with_reducible repeat (first | apply Kd.N_alloc | apply Kd.N_drewN | apply Kd.N_drew)); exact (Kd.N_mono (Kd.N_far (p := ⟨gb641, 2, none⟩) (Kd.N_far (p := ⟨gb641, 1, none⟩) (Kd.N_far (p := ⟨gb641, 0, none⟩) (Kd.N_mono HO639.out (fun k_ hk => (⟨hk, hk.2⟩ : _ ∧ k_ ≠ gb641))) (fun _ hk => hk.2) (.slice Ao23 t631.length co23)) (fun _ hk => hk.2) (.slice Ao26 t634.length co26)) (fun _ hk => hk.2) (.slice Ao27 t637.length co27)) (fun _ h_ => h_.1)))) k_ hk_.2.1), (Kd.freshB (g := gb624) (o := .cells #[.int .i64 t620, .slice Ao16 t621.length co16] 31 (0, 0)) (by (with_reducible repeat (first | refine blk_drewN ?_ _ | refine blk_drew ?_ | refine blk_alloc ?_ _)); refine blk_far ?_ NB624_641.out _; (with_reducible repeat (first | refine blk_drewN ?_ _ | refine blk_drew ?_ | refine blk_alloc ?_ _)); refine blk_far ?_ NB624_641.out _; (with_reducible repeat (first | refine blk_drewN ?_ _ | refine blk_drew ?_ | refine blk_alloc ?_ _)); refine blk_far ?_ NB624_641.out _; (with_reducible repeat (first | refine blk_drewN ?_ _ | refine blk_drew ?_ | refine blk_alloc ?_ _)); exact BK624.out) k_ hk_.2.1), (Kd.freshB (g := gb641) (o := .cells #[.slice Ao23 t631.length co23, .slice Ao26 t634.length co26, .slice Ao27 t637.length co27] 28 (0, 0)) (by (with_reducible repeat (first | refine blk_drewN ?_ _ | refine blk_drew ?_ | refine blk_alloc ?_ _)); refine blk_put (cs := #[.slice Ao23 t631.length co23, .slice Ao26 t634.length co26, .slice none 0 0]) ?_ 2 _ rfl; (with_reducible repeat (first | refine blk_drewN ?_ _ | refine blk_drew ?_ | refine blk_alloc ?_ _)); refine blk_put (cs := #[.slice Ao23 t631.length co23, .slice none 0 0, .slice none 0 0]) ?_ 1 _ rfl; (with_reducible repeat (first | refine blk_drewN ?_ _ | refine blk_drew ?_ | refine blk_alloc ?_ _)); refine blk_put (cs := #[.slice none 0 0, .slice none 0 0, .slice none 0 0]) ?_ 0 _ rfl; (with_reducible repeat (first | refine blk_drewN ?_ _ | refine blk_drew ?_ | refine blk_alloc ?_ _)); exact BK641.out) k_ hk_.2.1)⟩)) (below_size (zb2 HB.out GE624.out GE641.out))); have n8_ := Aside0.mk (Kd.N_lower (Kd.N_mono (ok' := fun k_ => some k_ ≠ (v643 : Value).ownBlock ∧ some k_ ≠ (v646 : Value).ownBlock ∧ some k_ ≠ (.slice Ao16 t621.length co16 : Value).ownBlock ∧ some k_ ≠ (.slice Ao19 t625.length co19 : Value).ownBlock ∧ some k_ ≠ (.slice Ao20 t628.length co20 : Value).ownBlock ∧ some k_ ≠ (.slice Ao23 t631.length co23 : Value).ownBlock ∧ some k_ ≠ (.slice Ao26 t634.length co26 : Value).ownBlock ∧ some k_ ≠ (.slice Ao27 t637.length co27 : Value).ownBlock ∧ k_ ≠ gb624 ∧ k_ ≠ gb641) (Kd.S_N (Kd.S_bound ho2)) (fun k_ hk_ => ⟨hk_.1.1, hk_.1.2, (Kd.fresh' (Kd.N_lt (by (with_reducible repeat (first | apply Kd.N_alloc | apply Kd.N_drewN | apply Kd.N_drew)); exact (Kd.N_mono (Kd.N_far (p := ⟨gb641, 2, none⟩) (Kd.N_far (p := ⟨gb641, 1, none⟩) (Kd.N_far (p := ⟨gb641, 0, none⟩) (Kd.N_mono HO623.out (fun k_ hk => (⟨hk, hk.2⟩ : _ ∧ k_ ≠ gb641))) (fun _ hk => hk.2) (.slice Ao23 t631.length co23)) (fun _ hk => hk.2) (.slice Ao26 t634.length co26)) (fun _ hk => hk.2) (.slice Ao27 t637.length co27)) (fun _ h_ => h_.1)))) k_ hk_.2.1), (Kd.fresh' (Kd.R_lt (by (with_reducible repeat (first | apply Kd.R_alloc | apply Kd.R_drewN | apply Kd.R_drew)); exact (Kd.R_mono (Kd.R_far (p := ⟨gb641, 2, none⟩) (Kd.R_far (p := ⟨gb641, 1, none⟩) (Kd.R_far (p := ⟨gb641, 0, none⟩) (Kd.R_types HO627.out BK641.out (by decide)) (fun _ hk => hk.2) (.slice Ao23 t631.length co23)) (fun _ hk => hk.2) (.slice Ao26 t634.length co26)) (fun _ hk => hk.2) (.slice Ao27 t637.length co27)) (fun _ h_ => h_.1)))) k_ hk_.2.1), (Kd.fresh' (Kd.N_lt (by (with_reducible repeat (first | apply Kd.N_alloc | apply Kd.N_drewN | apply Kd.N_drew)); exact (Kd.N_mono (Kd.N_far (p := ⟨gb641, 2, none⟩) (Kd.N_far (p := ⟨gb641, 1, none⟩) (Kd.N_far (p := ⟨gb641, 0, none⟩) (Kd.N_mono HO630.out (fun k_ hk => (⟨hk, hk.2⟩ : _ ∧ k_ ≠ gb641))) (fun _ hk => hk.2) (.slice Ao23 t631.length co23)) (fun _ hk => hk.2) (.slice Ao26 t634.length co26)) (fun _ hk => hk.2) (.slice Ao27 t637.length co27)) (fun _ h_ => h_.1)))) k_ hk_.2.1), (Kd.fresh' (Kd.R_lt (by (with_reducible repeat (first | apply Kd.R_alloc | apply Kd.R_drewN | apply Kd.R_drew)); exact (Kd.R_mono (Kd.R_far (p := ⟨gb641, 2, none⟩) (Kd.R_far (p := ⟨gb641, 1, none⟩) (Kd.R_far (p := ⟨gb641, 0, none⟩) (Kd.R_types HO633.out BK641.out (by decide)) (fun _ hk => hk.2) (.slice Ao23 t631.length co23)) (fun _ hk => hk.2) (.slice Ao26 t634.length co26)) (fun _ hk => hk.2) (.slice Ao27 t637.length co27)) (fun _ h_ => h_.1)))) k_ hk_.2.1), (Kd.fresh' (Kd.N_lt (by (with_reducible repeat (first | apply Kd.N_alloc | apply Kd.N_drewN | apply Kd.N_drew)); exact (Kd.N_mono (Kd.N_far (p := ⟨gb641, 2, none⟩) (Kd.N_far (p := ⟨gb641, 1, none⟩) (Kd.N_far (p := ⟨gb641, 0, none⟩) (Kd.N_mono HO636.out (fun k_ hk => (⟨hk, hk.2⟩ : _ ∧ k_ ≠ gb641))) (fun _ hk => hk.2) (.slice Ao23 t631.length co23)) (fun _ hk => hk.2) (.slice Ao26 t634.length co26)) (fun _ hk => hk.2) (.slice Ao27 t637.length co27)) (fun _ h_ => h_.1)))) k_ hk_.2.1), (Kd.fresh' (Kd.N_lt (by (with_reducible repeat (first | apply Kd.N_alloc | apply Kd.N_drewN | apply Kd.N_drew)); exact (Kd.N_mono (Kd.N_far (p := ⟨gb641, 2, none⟩) (Kd.N_far (p := ⟨gb641, 1, none⟩) (Kd.N_far (p := ⟨gb641, 0, none⟩) (Kd.N_mono HO639.out (fun k_ hk => (⟨hk, hk.2⟩ : _ ∧ k_ ≠ gb641))) (fun _ hk => hk.2) (.slice Ao23 t631.length co23)) (fun _ hk => hk.2) (.slice Ao26 t634.length co26)) (fun _ hk => hk.2) (.slice Ao27 t637.length co27)) (fun _ h_ => h_.1)))) k_ hk_.2.1), (Kd.freshB (g := gb624) (o := .cells #[.int .i64 t620, .slice Ao16 t621.length co16] 31 (0, 0)) (by (with_reducible repeat (first | refine blk_drewN ?_ _ | refine blk_drew ?_ | refine blk_alloc ?_ _)); refine blk_far ?_ NB624_641.out _; (with_reducible repeat (first | refine blk_drewN ?_ _ | refine blk_drew ?_ | refine blk_alloc ?_ _)); refine blk_far ?_ NB624_641.out _; (with_reducible repeat (first | refine blk_drewN ?_ _ | refine blk_drew ?_ | refine blk_alloc ?_ _)); refine blk_far ?_ NB624_641.out _; (with_reducible repeat (first | refine blk_drewN ?_ _ | refine blk_drew ?_ | refine blk_alloc ?_ _)); exact BK624.out) k_ hk_.2.1), (Kd.freshB (g := gb641) (o := .cells #[.slice Ao23 t631.length co23, .slice Ao26 t634.length co26, .slice Ao27 t637.length co27] 28 (0, 0)) (by (with_reducible repeat (first | refine blk_drewN ?_ _ | refine blk_drew ?_ | refine blk_alloc ?_ _)); refine blk_put (cs := #[.slice Ao23 t631.length co23, .slice Ao26 t634.length co26, .slice none 0 0]) ?_ 2 _ rfl; (with_reducible repeat (first | refine blk_drewN ?_ _ | refine blk_drew ?_ | refine blk_alloc ?_ _)); refine blk_put (cs := #[.slice Ao23 t631.length co23, .slice none 0 0, .slice none 0 0]) ?_ 1 _ rfl; (with_reducible repeat (first | refine blk_drewN ?_ _ | refine blk_drew ?_ | refine blk_alloc ?_ _)); refine blk_put (cs := #[.slice none 0 0, .slice none 0 0, .slice none 0 0]) ?_ 0 _ rfl; (with_reducible repeat (first | refine blk_drewN ?_ _ | refine blk_drew ?_ | refine blk_alloc ?_ _)); exact BK641.out) k_ hk_.2.1)⟩)) (below_size (zb2 HB.out GE624.out GE641.out))); have n9_ := Aside0.mk (blk_below (g := gb624) (o := .cells #[.int .i64 t620, .slice Ao16 t621.length co16] 31 (0, 0)) (by (with_reducible repeat (first | refine blk_drewN ?_ _ | refine blk_drew ?_ | refine blk_alloc ?_ _)); refine blk_far ?_ NB624_641.out _; (with_reducible repeat (first | refine blk_drewN ?_ _ | refine blk_drew ?_ | refine blk_alloc ?_ _)); refine blk_far ?_ NB624_641.out _; (with_reducible repeat (first | refine blk_drewN ?_ _ | refine blk_drew ?_ | refine blk_alloc ?_ _)); refine blk_far ?_ NB624_641.out _; (with_reducible repeat (first | refine blk_drewN ?_ _ | refine blk_drew ?_ | refine blk_alloc ?_ _)); exact BK624.out) hb); have n10_ := Aside0.mk (blk_below (g := gb641) (o := .cells #[.slice Ao23 t631.length co23, .slice Ao26 t634.length co26, .slice Ao27 t637.length co27] 28 (0, 0)) (by (with_reducible repeat (first | refine blk_drewN ?_ _ | refine blk_drew ?_ | refine blk_alloc ?_ _)); refine blk_put (cs := #[.slice Ao23 t631.length co23, .slice Ao26 t634.length co26, .slice none 0 0]) ?_ 2 _ rfl; (with_reducible repeat (first | refine blk_drewN ?_ _ | refine blk_drew ?_ | refine blk_alloc ?_ _)); refine blk_put (cs := #[.slice Ao23 t631.length co23, .slice none 0 0, .slice none 0 0]) ?_ 1 _ rfl; (with_reducible repeat (first | refine blk_drewN ?_ _ | refine blk_drew ?_ | refine blk_alloc ?_ _)); refine blk_put (cs := #[.slice none 0 0, .slice none 0 0, .slice none 0 0]) ?_ 0 _ rfl; (with_reducible repeat (first | refine blk_drewN ?_ _ | refine blk_drew ?_ | refine blk_alloc ?_ _)); exact BK641.out) hb); have n11_ := Aside0.mk (below_step (zb2 HB.out GE624.out GE641.out) hb); clear HO623; clear HO627; clear HO630; clear HO633; clear HO636; clear HO639; clear BK624; clear BK641; clear HB; have HO623 := n0_; have HO627 := n1_; have HO630 := n2_; have HO633 := n3_; have HO636 := n4_; have HO639 := n5_; have HO644 := n6_; have HO647 := n7_; have HO650 := n8_; have BK624 := n9_; have BK641 := n10_; have HB := n11_; clear n0_ n1_ n2_ n3_ n4_ n5_ n6_ n7_ n8_ n9_ n10_ n11_; (try clear hb); (try clear hb2); (try clear hk); (try clear hi); (try clear ho0); (try clear ho1); (try clear ho2)) | ((with_reducible refine gate_dst (N := 10) rfl ?_); (try (refine gate_guard (by rfl) ?_; dsimp only)); refine box_event ?hg (N := 10) ?hd (cs := #[.slice none 0 0, .slice none 0 0, .slice none 0 0]) (t := 28) ?hr ?_; (case hd => rfl); (case hg => rfl); (case hr => first | (go_simp; done) | (go_simp; rfl)); intro gb652 hg w30 hbox hb; have n0_ := Aside0.mk (Kd.N_below (Kd.N_elderB (zn HO623.out) gb652 (Nat.le_of_eq hg.symm)) hb); have n1_ := Aside0.mk (Kd.R_below (zr HO627.out) hb); have n2_ := Aside0.mk (Kd.N_below (Kd.N_elderB (zn HO630.out) gb652 (Nat.le_of_eq hg.symm)) hb); have n3_ := Aside0.mk (Kd.R_below (zr HO633.out) hb); have n4_ := Aside0.mk (Kd.N_below (Kd.N_elderB (zn HO636.out) gb652 (Nat.le_of_eq hg.symm)) hb); have n5_ := Aside0.mk (Kd.N_below (Kd.N_elderB (zn HO639.out) gb652 (Nat.le_of_eq hg.symm)) hb); have n6_ := Aside0.mk (Kd.R_below (zr HO644.out) hb); have n7_ := Aside0.mk (Kd.N_below (Kd.N_elderB (zn HO647.out) gb652 (Nat.le_of_eq hg.symm)) hb); have n8_ := Aside0.mk (Kd.N_below (Kd.N_elderB (zn HO650.out) gb652 (Nat.le_of_eq hg.symm)) hb); have n9_ := Aside0.mk (blk_below (g := gb624) (o := .cells #[.int .i64 t620, .slice Ao16 t621.length co16] 31 (0, 0)) (zk BK624.out) hb); have n10_ := Aside0.mk (blk_below (g := gb641) (o := .cells #[.slice Ao23 t631.length co23, .slice Ao26 t634.length co26, .slice Ao27 t637.length co27] 28 (0, 0)) (zk BK641.out) hb); have n11_ := Aside0.mk (below_step (zb2 HB.out GE624.out GE641.out) hb); have n12_ := Aside0.mk (hbox); have n13_ := Aside0.mk ((by rw [hg]; exact (below_size (zb2 HB.out GE624.out GE641.out)) : w.heap.size ≤ gb652)); have n14_ := Aside0.mk ((by rw [hg]; exact (below_size (zb2 HB.out GE624.out GE641.out)) : w.heap.size ≤ gb652)); have n15_ := Aside0.mk ((by rw [hg]; exact Nat.ne_of_lt (blk_lt (g := gb624) (o := .cells #[.int .i64 t620, .slice Ao16 t621.length co16] 31 (0, 0)) (zk BK624.out)) : gb624 ≠ gb652)); have n16_ := Aside0.mk ((by rw [hg]; exact Nat.ne_of_gt (blk_lt (g := gb624) (o := .cells #[.int .i64 t620, .slice Ao16 t621.length co16] 31 (0, 0)) (zk BK624.out)) : gb652 ≠ gb624)); have n17_ := Aside0.mk ((by rw [hg]; exact Nat.ne_of_lt (blk_lt (g := gb641) (o := .cells #[.slice Ao23 t631.length co23, .slice Ao26 t634.length co26, .slice Ao27 t637.length co27] 28 (0, 0)) (zk BK641.out)) : gb641 ≠ gb652)); have n18_ := Aside0.mk ((by rw [hg]; exact Nat.ne_of_gt (blk_lt (g := gb641) (o := .cells #[.slice Ao23 t631.length co23, .slice Ao26 t634.length co26, .slice Ao27 t637.length co27] 28 (0, 0)) (zk BK641.out)) : gb652 ≠ gb641)); clear HO623; clear HO627; clear HO630; clear HO633; clear HO636; clear HO639; clear HO644; clear HO647; clear HO650; clear BK624; clear BK641; clear HB; have HO623 := n0_; have HO627 := n1_; have HO630 := n2_; have HO633 := n3_; have HO636 := n4_; have HO639 := n5_; have HO644 := n6_; have HO647 := n7_; have HO650 := n8_; have BK624 := n9_; have BK641 := n10_; have HB := n11_; have BK652 := n12_; have GW652 := n13_; have GE652 := n14_; have NB624_652 := n15_; have NB652_624 := n16_; have NB641_652 := n17_; have NB652_641 := n18_; clear n0_ n1_ n2_ n3_ n4_ n5_ n6_ n7_ n8_ n9_ n10_ n11_ n12_ n13_ n14_ n15_ n16_ n17_ n18_; clear hb hbox hg; obtain ⟨Ao31, co31, eo31⟩ := Kd.R_slice HO644.out; subst eo31; have hnb32 := NB652_624.out; have hnc32 := NB624_652.out; have hnb33 := NB652_641.out; have hnc33 := NB641_652.out; have hcz34_0 : w30.cell? ⟨gb652, 0, none⟩ = some (.slice none 0 0) := (blk_cell BK652.out 0).trans rfl; have hcz34_1 : w30.cell? ⟨gb652, 1, none⟩ = some (.slice none 0 0) := (blk_cell BK652.out 1).trans rfl; have hcz34_2 : w30.cell? ⟨gb652, 2, none⟩ = some (.slice none 0 0) := (blk_cell BK652.out 2).trans rfl; have hfz34_0 := blk_frozen BK652.out 0; have hfz34_1 := blk_frozen BK652.out 1; have hfz34_2 := blk_frozen BK652.out 2; obtain ⟨Ao35, co35, eo35⟩ := Kd.N_slice HO647.out; subst eo35; obtain ⟨Ao36, co36, eo36⟩ := Kd.N_slice HO650.out; subst eo36))
    (try simp only [Act.put, List.setIfInBounds_toArray, List.set_cons_zero, List.set_cons_succ])
    go_cut [73] (fun v73 wc => ∃ (kq : Nat) (x73_11 : Bool), v73 = .bool x73_11 ∧ Aside0 (laws_FnSequences.j1 kq t625 t640 x73_11 t620 t621 t642 t645 t648 = some r) ∧ Aside0 (kq ≤ kj2) ∧ Aside0 (Kd.R (Kd.int .i64) 2 wc w.heap.size (fun k_ => some k_ ≠ ((.slice Ao23 t631.length co23) : Value).ownBlock ∧ some k_ ≠ ((.slice Ao31 t642.length co31) : Value).ownBlock) (.slice Ao19 t625.length co19) t625) ∧ Aside0 (Kd.N (Kd.slice 2 (Kd.int .i64)) 26 wc w.heap.size (fun k_ => some k_ ≠ ((.slice Ao19 t625.length co19) : Value).ownBlock ∧ some k_ ≠ ((.slice Ao23 t631.length co23) : Value).ownBlock ∧ some k_ ≠ ((.slice Ao26 t634.length co26) : Value).ownBlock ∧ some k_ ≠ ((.slice Ao27 t637.length co27) : Value).ownBlock ∧ some k_ ≠ ((.slice Ao31 t642.length co31) : Value).ownBlock ∧ some k_ ≠ ((.slice Ao35 t645.length co35) : Value).ownBlock ∧ some k_ ≠ ((.slice Ao36 t648.length co36) : Value).ownBlock ∧ k_ ≠ gb624 ∧ k_ ≠ gb641 ∧ k_ ≠ gb652) (.slice Ao16 t621.length co16) t621) ∧ Aside0 (Kd.R (Kd.int .i64) 2 wc w.heap.size (fun k_ => some k_ ≠ ((.slice Ao19 t625.length co19) : Value).ownBlock ∧ some k_ ≠ ((.slice Ao31 t642.length co31) : Value).ownBlock) (.slice Ao23 t631.length co23) t631) ∧ Aside0 (Kd.N (Kd.slice 2 (Kd.int .i64)) 26 wc w.heap.size (fun k_ => some k_ ≠ ((.slice Ao16 t621.length co16) : Value).ownBlock ∧ some k_ ≠ ((.slice Ao23 t631.length co23) : Value).ownBlock ∧ some k_ ≠ ((.slice Ao27 t637.length co27) : Value).ownBlock ∧ some k_ ≠ ((.slice Ao31 t642.length co31) : Value).ownBlock ∧ some k_ ≠ ((.slice Ao35 t645.length co35) : Value).ownBlock ∧ some k_ ≠ ((.slice Ao36 t648.length co36) : Value).ownBlock ∧ k_ ≠ gb624 ∧ k_ ≠ gb641 ∧ k_ ≠ gb652) (.slice Ao26 t634.length co26) t634) ∧ Aside0 (Kd.N (Kd.slice 2 (Kd.int .i64)) 26 wc w.heap.size (fun k_ => some k_ ≠ ((.slice Ao16 t621.length co16) : Value).ownBlock ∧ some k_ ≠ ((.slice Ao23 t631.length co23) : Value).ownBlock ∧ some k_ ≠ ((.slice Ao26 t634.length co26) : Value).ownBlock ∧ some k_ ≠ ((.slice Ao31 t642.length co31) : Value).ownBlock ∧ some k_ ≠ ((.slice Ao35 t645.length co35) : Value).ownBlock ∧ some k_ ≠ ((.slice Ao36 t648.length co36) : Value).ownBlock ∧ k_ ≠ gb624 ∧ k_ ≠ gb641 ∧ k_ ≠ gb652) (.slice Ao27 t637.length co27) t637) ∧ Aside0 (Kd.R (Kd.int .i64) 2 wc w.heap.size (fun k_ => some k_ ≠ ((.slice Ao19 t625.length co19) : Value).ownBlock ∧ some k_ ≠ ((.slice Ao23 t631.length co23) : Value).ownBlock) (.slice Ao31 t642.length co31) t642) ∧ Aside0 (Kd.N (Kd.slice 2 (Kd.int .i64)) 26 wc w.heap.size (fun k_ => some k_ ≠ ((.slice Ao19 t625.length co19) : Value).ownBlock ∧ some k_ ≠ ((.slice Ao16 t621.length co16) : Value).ownBlock ∧ some k_ ≠ ((.slice Ao23 t631.length co23) : Value).ownBlock ∧ some k_ ≠ ((.slice Ao26 t634.length co26) : Value).ownBlock ∧ some k_ ≠ ((.slice Ao27 t637.length co27) : Value).ownBlock ∧ some k_ ≠ ((.slice Ao31 t642.length co31) : Value).ownBlock ∧ some k_ ≠ ((.slice Ao36 t648.length co36) : Value).ownBlock ∧ k_ ≠ gb624 ∧ k_ ≠ gb641 ∧ k_ ≠ gb652) (.slice Ao35 t645.length co35) t645) ∧ Aside0 (Kd.N (Kd.slice 2 (Kd.int .i64)) 26 wc w.heap.size (fun k_ => some k_ ≠ ((.slice Ao19 t625.length co19) : Value).ownBlock ∧ some k_ ≠ ((.slice Ao16 t621.length co16) : Value).ownBlock ∧ some k_ ≠ ((.slice Ao23 t631.length co23) : Value).ownBlock ∧ some k_ ≠ ((.slice Ao26 t634.length co26) : Value).ownBlock ∧ some k_ ≠ ((.slice Ao27 t637.length co27) : Value).ownBlock ∧ some k_ ≠ ((.slice Ao31 t642.length co31) : Value).ownBlock ∧ some k_ ≠ ((.slice Ao35 t645.length co35) : Value).ownBlock ∧ k_ ≠ gb624 ∧ k_ ≠ gb641 ∧ k_ ≠ gb652) (.slice Ao36 t648.length co36) t648) ∧ Aside0 (wc.heap[gb624]? = some (.cells #[.int .i64 t620, (.slice Ao16 t621.length co16)] 31 (0, 0))) ∧ Aside0 (wc.heap[gb641]? = some (.cells #[(.slice Ao23 t631.length co23), (.slice Ao26 t634.length co26), (.slice Ao27 t637.length co27)] 28 (0, 0))) ∧ Aside0 (wc.heap[gb652]? = some (.cells #[(.slice Ao31 t642.length co31), (.slice Ao35 t645.length co35), (.slice Ao36 t648.length co36)] 28 (0, 0))) ∧ Aside0 (Below w.heap.size w wc))
    case first =>
     have H := HC12.out
     clear HC12
     by_cases c37 : t640 = t651
     ·rw [if_pos c37] at H
      have c37b0 : (t640 == t651) = true := beq_iff_eq.mpr c37
      have c37b1 : (t640 != t651) = false := bne_eq_false_iff_eq.mpr c37
      clear c37
      (first | rw [c37b0] | (simp only [i64_w, i32_w]; rw [c37b0]) | skip)
      replace H := Option.bind_eq_some_iff.mp H
      obtain ⟨t653, A380, H⟩ := H
      replace H : (if t653 = true then ((laws_f6rows.f kj2 t634 t645).bind fun t654 => (if t654 = true then ((laws_f6rows.f kj2 t637 t648).bind fun t655 => (laws_FnSequences.j1 kj2 t625 t640 (!t655) t620 t621 t642 t645 t648)) else (laws_FnSequences.j1 kj2 t625 t640 true t620 t621 t642 t645 t648))) else (laws_FnSequences.j1 kj2 t625 t640 true t620 t621 t642 t645 t648)) = some r := H
      have A38 := Aside0.mk A380
      clear A380
      by_cases c39 : t653 = true
      ·subst c39
       rw [if_pos rfl] at H
       replace H := Option.bind_eq_some_iff.mp H
       obtain ⟨t654, A400, H⟩ := H
       replace H : (if t654 = true then ((laws_f6rows.f kj2 t637 t648).bind fun t655 => (laws_FnSequences.j1 kj2 t625 t640 (!t655) t620 t621 t642 t645 t648)) else (laws_FnSequences.j1 kj2 t625 t640 true t620 t621 t642 t645 t648)) = some r := H
       have A40 := Aside0.mk A400
       clear A400
       by_cases c41 : t654 = true
       ·subst c41
        rw [if_pos rfl] at H
        replace H := Option.bind_eq_some_iff.mp H
        obtain ⟨t655, A420, H⟩ := H
        replace H : (laws_FnSequences.j1 kj2 t625 t640 (!t655) t620 t621 t642 t645 t648) = some r := H
        have A42 := Aside0.mk A420
        clear A420
        have H' := Aside0.mk H
        clear H
        have hnb43 := NB641_624.out
        have hnc43 := NB624_641.out
        have hnb44 := NB641_652.out
        have hnc44 := NB652_641.out
        have hcz45_0 : w30.cell? ⟨gb641, 0, none⟩ = some (.slice Ao23 t631.length co23) := (blk_cell BK641.out 0).trans rfl
        have hcz45_1 : w30.cell? ⟨gb641, 1, none⟩ = some (.slice Ao26 t634.length co26) := (blk_cell BK641.out 1).trans rfl
        have hcz45_2 : w30.cell? ⟨gb641, 2, none⟩ = some (.slice Ao27 t637.length co27) := (blk_cell BK641.out 2).trans rfl
        have hfz45_0 := blk_frozen BK641.out 0
        have hfz45_1 := blk_frozen BK641.out 1
        have hfz45_2 := blk_frozen BK641.out 2
        have hnb46 := NB652_624.out
        have hnc46 := NB624_652.out
        have hcz47_0 : w30.cell? ⟨gb652, 0, none⟩ = some (.slice none 0 0) := (blk_cell BK652.out 0).trans rfl
        have hcz47_1 : w30.cell? ⟨gb652, 1, none⟩ = some (.slice none 0 0) := (blk_cell BK652.out 1).trans rfl
        have hcz47_2 : w30.cell? ⟨gb652, 2, none⟩ = some (.slice none 0 0) := (blk_cell BK652.out 2).trans rfl
        have hfz47_0 := blk_frozen BK652.out 0
        have hfz47_1 := blk_frozen BK652.out 1
        have hfz47_2 := blk_frozen BK652.out 2
        go_wp2_with (first | (go_at_call 26; (with_reducible refine (laws_f6ints.calls kj2 _ _ t631 _ _ t642 true _ ?side1 ?side2 ?side3 ?side4 A38.out).mono ?_); (case side1 => refine (Kd.R_reads' (e := 2) (base := w.heap.size) (ok := fun k_ => ((True ∧ some k_ ≠ (.slice Ao19 t625.length co19 : Value).ownBlock) ∧ some k_ ≠ (.slice Ao31 t642.length co31 : Value).ownBlock)) (n := t631.length) (c := co23) ?_).2.2; exact (by (with_reducible repeat (first | apply Kd.R_alloc | apply Kd.R_drewN | apply Kd.R_drew)); exact (Kd.R_mono (Kd.R_far (p := ⟨gb652, 2, none⟩) (Kd.R_far (p := ⟨gb652, 1, none⟩) (Kd.R_far (p := ⟨gb652, 0, none⟩) (Kd.R_types HO633.out BK652.out (by decide)) (fun _ hk => hk.2) (.slice Ao31 t642.length co31)) (fun _ hk => hk.2) (.slice Ao35 t645.length co35)) (fun _ hk => hk.2) (.slice Ao36 t648.length co36)) (fun _ h_ => h_.1)))); (case side2 => exact (Kd.R_reads' HO633.out).2.1); (case side3 => refine (Kd.R_reads' (e := 2) (base := w.heap.size) (ok := fun k_ => ((True ∧ some k_ ≠ (.slice Ao19 t625.length co19 : Value).ownBlock) ∧ some k_ ≠ (.slice Ao23 t631.length co23 : Value).ownBlock)) (n := t642.length) (c := co31) ?_).2.2; exact (by (with_reducible repeat (first | apply Kd.R_alloc | apply Kd.R_drewN | apply Kd.R_drew)); exact (Kd.R_mono (Kd.R_far (p := ⟨gb652, 2, none⟩) (Kd.R_far (p := ⟨gb652, 1, none⟩) (Kd.R_far (p := ⟨gb652, 0, none⟩) (Kd.R_types HO644.out BK652.out (by decide)) (fun _ hk => hk.2) (.slice Ao31 t642.length co31)) (fun _ hk => hk.2) (.slice Ao35 t645.length co35)) (fun _ hk => hk.2) (.slice Ao36 t648.length co36)) (fun _ h_ => h_.1)))); (case side4 => exact (Kd.R_reads' HO644.out).2.1); rintro e w' ⟨rfl, ⟨nd, rfl⟩⟩) | (go_at_call 27; (with_reducible refine (laws_f6rows.calls kj2 _ _ t634 _ _ t645 true _ ?side1 ?side2 ?side3 ?side4 A40.out).mono ?_); (case side1 => refine (Kd.N_reads' (e := 26) (base := w.heap.size) (ok := fun k_ => ((((((some k_ ≠ (.slice Ao23 t631.length co23 : Value).ownBlock ∧ (some k_ ≠ (.slice Ao27 t637.length co27 : Value).ownBlock ∧ (some k_ ≠ (.slice Ao16 t621.length co16 : Value).ownBlock ∧ (some k_ ≠ (.slice Ao20 t628.length co20 : Value).ownBlock ∧ k_ ≠ gb624)))) ∧ k_ ≠ gb641) ∧ some k_ ≠ (.slice Ao31 t642.length co31 : Value).ownBlock) ∧ some k_ ≠ (.slice Ao35 t645.length co35 : Value).ownBlock) ∧ some k_ ≠ (.slice Ao36 t648.length co36 : Value).ownBlock) ∧ k_ ≠ gb652)) (n := t634.length) (c := co26) ?_).2.2; exact (by (with_reducible repeat (first | apply Kd.N_alloc | apply Kd.N_drewN | apply Kd.N_drew)); exact (Kd.N_mono (Kd.N_far (p := ⟨gb652, 2, none⟩) (Kd.N_far (p := ⟨gb652, 1, none⟩) (Kd.N_far (p := ⟨gb652, 0, none⟩) (Kd.N_mono HO636.out (fun k_ hk => (⟨hk, hk.2⟩ : _ ∧ k_ ≠ gb652))) (fun _ hk => hk.2) (.slice Ao31 t642.length co31)) (fun _ hk => hk.2) (.slice Ao35 t645.length co35)) (fun _ hk => hk.2) (.slice Ao36 t648.length co36)) (fun _ h_ => h_.1)))); (case side2 => exact (Kd.N_reads' HO636.out).2.1); (case side3 => refine (Kd.N_reads' (e := 26) (base := w.heap.size) (ok := fun k_ => ((some k_ ≠ (.slice Ao31 t642.length co31 : Value).ownBlock ∧ (some k_ ≠ (.slice Ao36 t648.length co36 : Value).ownBlock ∧ (some k_ ≠ (.slice Ao16 t621.length co16 : Value).ownBlock ∧ (some k_ ≠ (.slice Ao19 t625.length co19 : Value).ownBlock ∧ (some k_ ≠ (.slice Ao20 t628.length co20 : Value).ownBlock ∧ (some k_ ≠ (.slice Ao23 t631.length co23 : Value).ownBlock ∧ (some k_ ≠ (.slice Ao26 t634.length co26 : Value).ownBlock ∧ (some k_ ≠ (.slice Ao27 t637.length co27 : Value).ownBlock ∧ (k_ ≠ gb624 ∧ k_ ≠ gb641))))))))) ∧ k_ ≠ gb652)) (n := t645.length) (c := co35) ?_).2.2; exact (by (with_reducible repeat (first | apply Kd.N_alloc | apply Kd.N_drewN | apply Kd.N_drew)); exact (Kd.N_mono (Kd.N_far (p := ⟨gb652, 2, none⟩) (Kd.N_far (p := ⟨gb652, 1, none⟩) (Kd.N_far (p := ⟨gb652, 0, none⟩) (Kd.N_mono HO647.out (fun k_ hk => (⟨hk, hk.2⟩ : _ ∧ k_ ≠ gb652))) (fun _ hk => hk.2) (.slice Ao31 t642.length co31)) (fun _ hk => hk.2) (.slice Ao35 t645.length co35)) (fun _ hk => hk.2) (.slice Ao36 t648.length co36)) (fun _ h_ => h_.1)))); (case side4 => exact (Kd.N_reads' HO647.out).2.1); rintro e w' ⟨rfl, ⟨nd, rfl⟩⟩) | (go_at_call 27; (with_reducible refine (laws_f6rows.calls kj2 _ _ t637 _ _ t648 t655 _ ?side1 ?side2 ?side3 ?side4 A42.out).mono ?_); (case side1 => refine (Kd.N_reads' (e := 26) (base := w.heap.size) (ok := fun k_ => ((((((some k_ ≠ (.slice Ao23 t631.length co23 : Value).ownBlock ∧ (some k_ ≠ (.slice Ao26 t634.length co26 : Value).ownBlock ∧ (some k_ ≠ (.slice Ao16 t621.length co16 : Value).ownBlock ∧ (some k_ ≠ (.slice Ao20 t628.length co20 : Value).ownBlock ∧ k_ ≠ gb624)))) ∧ k_ ≠ gb641) ∧ some k_ ≠ (.slice Ao31 t642.length co31 : Value).ownBlock) ∧ some k_ ≠ (.slice Ao35 t645.length co35 : Value).ownBlock) ∧ some k_ ≠ (.slice Ao36 t648.length co36 : Value).ownBlock) ∧ k_ ≠ gb652)) (n := t637.length) (c := co27) ?_).2.2; exact (by (with_reducible repeat (first | apply Kd.N_alloc | apply Kd.N_drewN | apply Kd.N_drew)); exact (Kd.N_mono (Kd.N_far (p := ⟨gb652, 2, none⟩) (Kd.N_far (p := ⟨gb652, 1, none⟩) (Kd.N_far (p := ⟨gb652, 0, none⟩) (Kd.N_mono HO639.out (fun k_ hk => (⟨hk, hk.2⟩ : _ ∧ k_ ≠ gb652))) (fun _ hk => hk.2) (.slice Ao31 t642.length co31)) (fun _ hk => hk.2) (.slice Ao35 t645.length co35)) (fun _ hk => hk.2) (.slice Ao36 t648.length co36)) (fun _ h_ => h_.1)))); (case side2 => exact (Kd.N_reads' HO639.out).2.1); (case side3 => refine (Kd.N_reads' (e := 26) (base := w.heap.size) (ok := fun k_ => ((some k_ ≠ (.slice Ao31 t642.length co31 : Value).ownBlock ∧ (some k_ ≠ (.slice Ao35 t645.length co35 : Value).ownBlock ∧ (some k_ ≠ (.slice Ao16 t621.length co16 : Value).ownBlock ∧ (some k_ ≠ (.slice Ao19 t625.length co19 : Value).ownBlock ∧ (some k_ ≠ (.slice Ao20 t628.length co20 : Value).ownBlock ∧ (some k_ ≠ (.slice Ao23 t631.length co23 : Value).ownBlock ∧ (some k_ ≠ (.slice Ao26 t634.length co26 : Value).ownBlock ∧ (some k_ ≠ (.slice Ao27 t637.length co27 : Value).ownBlock ∧ (k_ ≠ gb624 ∧ k_ ≠ gb641))))))))) ∧ k_ ≠ gb652)) (n := t648.length) (c := co36) ?_).2.2; exact (by (with_reducible repeat (first | apply Kd.N_alloc | apply Kd.N_drewN | apply Kd.N_drew)); exact (Kd.N_mono (Kd.N_far (p := ⟨gb652, 2, none⟩) (Kd.N_far (p := ⟨gb652, 1, none⟩) (Kd.N_far (p := ⟨gb652, 0, none⟩) (Kd.N_mono HO650.out (fun k_ hk => (⟨hk, hk.2⟩ : _ ∧ k_ ≠ gb652))) (fun _ hk => hk.2) (.slice Ao31 t642.length co31)) (fun _ hk => hk.2) (.slice Ao35 t645.length co35)) (fun _ hk => hk.2) (.slice Ao36 t648.length co36)) (fun _ h_ => h_.1)))); (case side4 => exact (Kd.N_reads' HO650.out).2.1); rintro e w' ⟨rfl, ⟨nd, rfl⟩⟩))
        go_meet
        case rel => exact ⟨_, (!t655), zt, H', ⟨by have := HJ2.out; first | omega | exact Nat.le_refl _⟩, ⟨by (with_reducible repeat (first | apply Kd.R_alloc | apply Kd.R_drewN | apply Kd.R_drew)); exact Kd.R_mono (Kd.R_far (p := ⟨gb652, 2, none⟩) (Kd.R_far (p := ⟨gb652, 1, none⟩) (Kd.R_far (p := ⟨gb652, 0, none⟩) (Kd.R_types HO627.out BK652.out (by decide)) (fun _ hk => hk.2) (.slice Ao31 t642.length co31)) (fun _ hk => hk.2) (.slice Ao35 t645.length co35)) (fun _ hk => hk.2) (.slice Ao36 t648.length co36)) (fun _ hk => ⟨hk.1.1.2, hk.1.2⟩)⟩, ⟨by (with_reducible repeat (first | apply Kd.N_alloc | apply Kd.N_drewN | apply Kd.N_drew)); exact Kd.N_mono (Kd.N_far (p := ⟨gb652, 2, none⟩) (Kd.N_far (p := ⟨gb652, 1, none⟩) (Kd.N_far (p := ⟨gb652, 0, none⟩) (Kd.N_mono HO623.out (fun k_ hk => (⟨hk, hk.2⟩ : _ ∧ k_ ≠ gb652))) (fun _ hk => hk.2) (.slice Ao31 t642.length co31)) (fun _ hk => hk.2) (.slice Ao35 t645.length co35)) (fun _ hk => hk.2) (.slice Ao36 t648.length co36)) (fun _ hk => ⟨hk.1.1.1.1.1.1.1.1.1.1.2, ⟨hk.1.1.1.1.1.1.1.1.2, ⟨hk.1.1.1.1.1.1.1.2, ⟨hk.1.1.1.1.1.1.2, ⟨hk.1.1.1.1.2, ⟨hk.1.1.1.2, ⟨hk.1.1.2, ⟨hk.1.1.1.1.1.1.1.1.1.1.1.2, ⟨hk.1.1.1.1.1.2, hk.1.2⟩⟩⟩⟩⟩⟩⟩⟩⟩)⟩, ⟨by (with_reducible repeat (first | apply Kd.R_alloc | apply Kd.R_drewN | apply Kd.R_drew)); exact Kd.R_mono (Kd.R_far (p := ⟨gb652, 2, none⟩) (Kd.R_far (p := ⟨gb652, 1, none⟩) (Kd.R_far (p := ⟨gb652, 0, none⟩) (Kd.R_types HO633.out BK652.out (by decide)) (fun _ hk => hk.2) (.slice Ao31 t642.length co31)) (fun _ hk => hk.2) (.slice Ao35 t645.length co35)) (fun _ hk => hk.2) (.slice Ao36 t648.length co36)) (fun _ hk => ⟨hk.1.1.2, hk.1.2⟩)⟩, ⟨by (with_reducible repeat (first | apply Kd.N_alloc | apply Kd.N_drewN | apply Kd.N_drew)); exact Kd.N_mono (Kd.N_far (p := ⟨gb652, 2, none⟩) (Kd.N_far (p := ⟨gb652, 1, none⟩) (Kd.N_far (p := ⟨gb652, 0, none⟩) (Kd.N_mono HO636.out (fun k_ hk => (⟨hk, hk.2⟩ : _ ∧ k_ ≠ gb652))) (fun _ hk => hk.2) (.slice Ao31 t642.length co31)) (fun _ hk => hk.2) (.slice Ao35 t645.length co35)) (fun _ hk => hk.2) (.slice Ao36 t648.length co36)) (fun _ hk => ⟨hk.1.1.1.1.1.1.2.2.1, ⟨hk.1.1.1.1.1.1.1, ⟨hk.1.1.1.1.1.1.2.1, ⟨hk.1.1.1.1.2, ⟨hk.1.1.1.2, ⟨hk.1.1.2, ⟨hk.1.1.1.1.1.1.2.2.2.2, ⟨hk.1.1.1.1.1.2, hk.1.2⟩⟩⟩⟩⟩⟩⟩⟩)⟩, ⟨by (with_reducible repeat (first | apply Kd.N_alloc | apply Kd.N_drewN | apply Kd.N_drew)); exact Kd.N_mono (Kd.N_far (p := ⟨gb652, 2, none⟩) (Kd.N_far (p := ⟨gb652, 1, none⟩) (Kd.N_far (p := ⟨gb652, 0, none⟩) (Kd.N_mono HO639.out (fun k_ hk => (⟨hk, hk.2⟩ : _ ∧ k_ ≠ gb652))) (fun _ hk => hk.2) (.slice Ao31 t642.length co31)) (fun _ hk => hk.2) (.slice Ao35 t645.length co35)) (fun _ hk => hk.2) (.slice Ao36 t648.length co36)) (fun _ hk => ⟨hk.1.1.1.1.1.1.2.2.1, ⟨hk.1.1.1.1.1.1.1, ⟨hk.1.1.1.1.1.1.2.1, ⟨hk.1.1.1.1.2, ⟨hk.1.1.1.2, ⟨hk.1.1.2, ⟨hk.1.1.1.1.1.1.2.2.2.2, ⟨hk.1.1.1.1.1.2, hk.1.2⟩⟩⟩⟩⟩⟩⟩⟩)⟩, ⟨by (with_reducible repeat (first | apply Kd.R_alloc | apply Kd.R_drewN | apply Kd.R_drew)); exact Kd.R_mono (Kd.R_far (p := ⟨gb652, 2, none⟩) (Kd.R_far (p := ⟨gb652, 1, none⟩) (Kd.R_far (p := ⟨gb652, 0, none⟩) (Kd.R_types HO644.out BK652.out (by decide)) (fun _ hk => hk.2) (.slice Ao31 t642.length co31)) (fun _ hk => hk.2) (.slice Ao35 t645.length co35)) (fun _ hk => hk.2) (.slice Ao36 t648.length co36)) (fun _ hk => ⟨hk.1.1.2, hk.1.2⟩)⟩, ⟨by (with_reducible repeat (first | apply Kd.N_alloc | apply Kd.N_drewN | apply Kd.N_drew)); exact Kd.N_mono (Kd.N_far (p := ⟨gb652, 2, none⟩) (Kd.N_far (p := ⟨gb652, 1, none⟩) (Kd.N_far (p := ⟨gb652, 0, none⟩) (Kd.N_mono HO647.out (fun k_ hk => (⟨hk, hk.2⟩ : _ ∧ k_ ≠ gb652))) (fun _ hk => hk.2) (.slice Ao31 t642.length co31)) (fun _ hk => hk.2) (.slice Ao35 t645.length co35)) (fun _ hk => hk.2) (.slice Ao36 t648.length co36)) (fun _ hk => ⟨hk.1.1.2.2.2.1, ⟨hk.1.1.2.2.1, ⟨hk.1.1.2.2.2.2.2.1, ⟨hk.1.1.2.2.2.2.2.2.1, ⟨hk.1.1.2.2.2.2.2.2.2.1, ⟨hk.1.1.1, ⟨hk.1.1.2.1, ⟨hk.1.1.2.2.2.2.2.2.2.2.1, ⟨hk.1.1.2.2.2.2.2.2.2.2.2, hk.1.2⟩⟩⟩⟩⟩⟩⟩⟩⟩)⟩, ⟨by (with_reducible repeat (first | apply Kd.N_alloc | apply Kd.N_drewN | apply Kd.N_drew)); exact Kd.N_mono (Kd.N_far (p := ⟨gb652, 2, none⟩) (Kd.N_far (p := ⟨gb652, 1, none⟩) (Kd.N_far (p := ⟨gb652, 0, none⟩) (Kd.N_mono HO650.out (fun k_ hk => (⟨hk, hk.2⟩ : _ ∧ k_ ≠ gb652))) (fun _ hk => hk.2) (.slice Ao31 t642.length co31)) (fun _ hk => hk.2) (.slice Ao35 t645.length co35)) (fun _ hk => hk.2) (.slice Ao36 t648.length co36)) (fun _ hk => ⟨hk.1.1.2.2.2.1, ⟨hk.1.1.2.2.1, ⟨hk.1.1.2.2.2.2.2.1, ⟨hk.1.1.2.2.2.2.2.2.1, ⟨hk.1.1.2.2.2.2.2.2.2.1, ⟨hk.1.1.1, ⟨hk.1.1.2.1, ⟨hk.1.1.2.2.2.2.2.2.2.2.1, ⟨hk.1.1.2.2.2.2.2.2.2.2.2, hk.1.2⟩⟩⟩⟩⟩⟩⟩⟩⟩)⟩, ⟨by (with_reducible repeat (first | refine blk_drewN ?_ _ | refine blk_drew ?_ | refine blk_alloc ?_ _)); refine blk_far ?_ NB624_652.out _; (with_reducible repeat (first | refine blk_drewN ?_ _ | refine blk_drew ?_ | refine blk_alloc ?_ _)); refine blk_far ?_ NB624_652.out _; (with_reducible repeat (first | refine blk_drewN ?_ _ | refine blk_drew ?_ | refine blk_alloc ?_ _)); refine blk_far ?_ NB624_652.out _; (with_reducible repeat (first | refine blk_drewN ?_ _ | refine blk_drew ?_ | refine blk_alloc ?_ _)); exact BK624.out⟩, ⟨by (with_reducible repeat (first | refine blk_drewN ?_ _ | refine blk_drew ?_ | refine blk_alloc ?_ _)); refine blk_far ?_ NB641_652.out _; (with_reducible repeat (first | refine blk_drewN ?_ _ | refine blk_drew ?_ | refine blk_alloc ?_ _)); refine blk_far ?_ NB641_652.out _; (with_reducible repeat (first | refine blk_drewN ?_ _ | refine blk_drew ?_ | refine blk_alloc ?_ _)); refine blk_far ?_ NB641_652.out _; (with_reducible repeat (first | refine blk_drewN ?_ _ | refine blk_drew ?_ | refine blk_alloc ?_ _)); exact BK641.out⟩, ⟨by (with_reducible repeat (first | refine blk_drewN ?_ _ | refine blk_drew ?_ | refine blk_alloc ?_ _)); refine blk_put (cs := #[.slice Ao31 t642.length co31, .slice Ao35 t645.length co35, .slice none 0 0]) ?_ 2 _ rfl; (with_reducible repeat (first | refine blk_drewN ?_ _ | refine blk_drew ?_ | refine blk_alloc ?_ _)); refine blk_put (cs := #[.slice Ao31 t642.length co31, .slice none 0 0, .slice none 0 0]) ?_ 1 _ rfl; (with_reducible repeat (first | refine blk_drewN ?_ _ | refine blk_drew ?_ | refine blk_alloc ?_ _)); refine blk_put (cs := #[.slice none 0 0, .slice none 0 0, .slice none 0 0]) ?_ 0 _ rfl; (with_reducible repeat (first | refine blk_drewN ?_ _ | refine blk_drew ?_ | refine blk_alloc ?_ _)); exact BK652.out⟩, ⟨zb3 HB.out GE624.out GE641.out GE652.out⟩⟩
       ·replace c41 := Bool.eq_false_iff.mpr c41
        subst c41
        rw [if_neg (show ¬ (false = true) by decide)] at H
        cases kj2 with
        | zero => exact absurd H (by simp [laws_FnSequences.j1])
        | succ k_ => exact absurd HRT.out (by have h_ := H; simp only [laws_FnSequences.j1] at h_; rw [if_pos trivial] at h_; rw [← Option.some.inj h_]; decide)
      ·replace c39 := Bool.eq_false_iff.mpr c39
       subst c39
       rw [if_neg (show ¬ (false = true) by decide)] at H
       cases kj2 with
       | zero => exact absurd H (by simp [laws_FnSequences.j1])
       | succ k_ => exact absurd HRT.out (by have h_ := H; simp only [laws_FnSequences.j1] at h_; rw [if_pos trivial] at h_; rw [← Option.some.inj h_]; decide)
     ·rw [if_neg c37] at H
      have c37b0 : (t640 == t651) = false := beq_eq_false_iff_ne.mpr c37
      have c37b1 : (t640 != t651) = true := bne_iff_ne.mpr c37
      (first | rw [c37b0] | (simp only [i64_w, i32_w]; rw [c37b0]) | skip)
      cases kj2 with
      | zero => exact absurd H (by simp [laws_FnSequences.j1])
      | succ k_ => exact absurd HRT.out (by have h_ := H; simp only [laws_FnSequences.j1] at h_; rw [if_pos trivial] at h_; rw [← Option.some.inj h_]; decide)
    case rest =>
     clear HC12
     obtain ⟨kq, x73_11, rfl, HA, HJ11, HO_6, HO_625001, HO_642000, HO_642001, HO_642002, HO_653000, HO_653001, HO_653002, BK624, BK641, BK652, HB⟩ := hcut
     cases kq with
     | zero => exact absurd HA.out (by simp [laws_FnSequences.j1])
     | succ kj11 =>
      have H := HA.out
      clear HA
      simp only [laws_FnSequences.j1] at H
      by_cases c58 : x73_11 = true
      ·subst c58
       rw [if_pos rfl] at H
       obtain rfl := Option.some.inj H
       exact absurd HRT.out (by decide)
      ·replace c58 := Bool.eq_false_iff.mpr c58
       subst c58
       rw [if_neg (show ¬ (false = true) by decide)] at H
       by_cases c59 : t640 = 0
       ·rw [if_pos c59] at H
        have c59b0 : (t640 == 0) = true := beq_iff_eq.mpr c59
        have c59b1 : (t640 != 0) = false := bne_eq_false_iff_eq.mpr c59
        clear c59
        replace H := Option.bind_eq_some_iff.mp H
        obtain ⟨⟨t656, t657⟩, A600, H⟩ := H
        replace H : ((spec_CheckSequence.f kj11 t620 t621 t642 t645 t648).bind fun bt658 => ((impl_BestSequence.f kj11 t620 t621).bind fun bt660 => (if t657 = bt658.2 then (if t657 = 0 then (if t656 = bt658.1 then (if bt660.2.2.2.2 = 0 then (if (bt660.1.length : Int) > 0 then (if (t625.length : Int) = 0 then (some true) else (some (decide ((wrap64 (t656 * (bt660.1.length : Int))) ≤ (wrap64 (bt660.2.2.2.1 * (t625.length : Int))))))) else (some false)) else (some false)) else (some false)) else (some false)) else (some false)))) = some r := H
        have A60 := Aside0.mk A600
        clear A600
        replace H := Option.bind_eq_some_iff.mp H
        obtain ⟨⟨t658, t659⟩, A610, H⟩ := H
        replace H : ((impl_BestSequence.f kj11 t620 t621).bind fun bt660 => (if t657 = t659 then (if t657 = 0 then (if t656 = t658 then (if bt660.2.2.2.2 = 0 then (if (bt660.1.length : Int) > 0 then (if (t625.length : Int) = 0 then (some true) else (some (decide ((wrap64 (t656 * (bt660.1.length : Int))) ≤ (wrap64 (bt660.2.2.2.1 * (t625.length : Int))))))) else (some false)) else (some false)) else (some false)) else (some false)) else (some false))) = some r := H
        have A61 := Aside0.mk A610
        clear A610
        replace H := Option.bind_eq_some_iff.mp H
        obtain ⟨⟨t660, t663, t666, t669, t670⟩, A620, H⟩ := H
        replace H : (if t657 = t659 then (if t657 = 0 then (if t656 = t658 then (if t670 = 0 then (if (t660.length : Int) > 0 then (if (t625.length : Int) = 0 then (some true) else (some (decide ((wrap64 (t656 * (t660.length : Int))) ≤ (wrap64 (t669 * (t625.length : Int))))))) else (some false)) else (some false)) else (some false)) else (some false)) else (some false)) = some r := H
        have A62 := Aside0.mk A620
        clear A620
        by_cases c63 : t657 = t659
        ·rw [if_pos c63] at H
         have c63b0 : (t657 == t659) = true := beq_iff_eq.mpr c63
         have c63b1 : (t657 != t659) = false := bne_eq_false_iff_eq.mpr c63
         clear c63
         by_cases c64 : t657 = 0
         ·rw [if_pos c64] at H
          have c64b0 : (t657 == 0) = true := beq_iff_eq.mpr c64
          have c64b1 : (t657 != 0) = false := bne_eq_false_iff_eq.mpr c64
          clear c64
          by_cases c65 : t656 = t658
          ·rw [if_pos c65] at H
           have c65b0 : (t656 == t658) = true := beq_iff_eq.mpr c65
           have c65b1 : (t656 != t658) = false := bne_eq_false_iff_eq.mpr c65
           clear c65
           by_cases c66 : t670 = 0
           ·rw [if_pos c66] at H
            have c66b0 : (t670 == 0) = true := beq_iff_eq.mpr c66
            have c66b1 : (t670 != 0) = false := bne_eq_false_iff_eq.mpr c66
            clear c66
            by_cases c67 : (t660.length : Int) > 0
            ·rw [if_pos c67] at H
             have c67b0 : decide (0 < (t660.length : Int)) = true := decide_eq_true c67
             have c67b1 : decide (0 < t660.length) = true := decide_eq_true (by omega)
             clear c67
             by_cases c68 : (t625.length : Int) = 0
             ·rw [if_pos c68] at H
              have c68b0 : ((t625.length : Int) == 0) = true := beq_iff_eq.mpr c68
              have c68b1 : ((t625.length : Int) != 0) = false := bne_eq_false_iff_eq.mpr c68
              clear c68
              obtain rfl := Option.some.inj H
              have hnb69 := NB624_641.out
              have hnc69 := NB641_624.out
              have hnb70 := NB624_652.out
              have hnc70 := NB652_624.out
              have hcz71_0 : wc.cell? ⟨gb624, 0, none⟩ = some (.int .i64 t620) := (blk_cell BK624.out 0).trans rfl
              have hcz71_1 : wc.cell? ⟨gb624, 1, none⟩ = some (.slice Ao16 t621.length co16) := (blk_cell BK624.out 1).trans rfl
              have hfz71_0 := blk_frozen BK624.out 0
              have hfz71_1 := blk_frozen BK624.out 1
              have hnb72 := NB652_641.out
              have hnc72 := NB641_652.out
              have hcz73_0 : wc.cell? ⟨gb652, 0, none⟩ = some (.slice Ao31 t642.length co31) := (blk_cell BK652.out 0).trans rfl
              have hcz73_1 : wc.cell? ⟨gb652, 1, none⟩ = some (.slice Ao35 t645.length co35) := (blk_cell BK652.out 1).trans rfl
              have hcz73_2 : wc.cell? ⟨gb652, 2, none⟩ = some (.slice Ao36 t648.length co36) := (blk_cell BK652.out 2).trans rfl
              have hfz73_0 := blk_frozen BK652.out 0
              have hfz73_1 := blk_frozen BK652.out 1
              have hfz73_2 := blk_frozen BK652.out 2
              go_wp2_with (first | ((with_reducible refine gate_callee (f := 28) rfl ?_); refine goesL_ (some 81) rfl rfl Try.func28 (by kernel_rfl) rfl #[.agg #[.int .i64 t620, .slice Ao16 t621.length co16], .agg #[.slice Ao31 t642.length co31, .slice Ao35 t645.length co35, .slice Ao36 t648.length co36]] rfl zl ?_; (with_reducible refine (impl_CheckSequence.calls kj11 t620 _ _ t621 (fun k_ => some k_ = (.slice Ao31 t642.length co31 : Value).ownBlock) _ _ t642 _ _ t645 _ _ t648 t656 t657 _ ?side1 ?side2 ?side3 ?side4 ?side5 ?side6 ?side7 A60.out).mono ?_); (case side1 => repeat (first | exact (Kd.N_reads' HO_625001.out).2.2 | (with_reducible refine Kd.C_alloc ?_ _) | (with_reducible refine Kd.C_drewN ?_ _) | (with_reducible refine Kd.C_drew ?_))); (case side2 => exact (Kd.N_reads' HO_625001.out).2.1); (case side3 => exact Kd.R_V (Kd.R_tight rfl (Kd.R_types (Kd.R_types (Kd.R_types (Kd.R_apart' (Kd.R_apart' (Kd.R_apart' (Kd.R_apart' (Kd.R_apart' (HO_653000.out) (Kd.N_typed HO_625001.out) (by decide)) (Kd.N_typed HO_642001.out) (by decide)) (Kd.N_typed HO_642002.out) (by decide)) (Kd.N_typed HO_653001.out) (by decide)) (Kd.N_typed HO_653002.out) (by decide)) BK624.out (by decide)) BK641.out (by decide)) BK652.out (by decide)))); (case side4 => repeat (first | exact (Kd.N_reads' HO_653001.out).2.2 | (with_reducible refine Kd.C_alloc ?_ _) | (with_reducible refine Kd.C_drewN ?_ _) | (with_reducible refine Kd.C_drew ?_))); (case side5 => exact (Kd.N_reads' HO_653001.out).2.1); (case side6 => repeat (first | exact (Kd.N_reads' HO_653002.out).2.2 | (with_reducible refine Kd.C_alloc ?_ _) | (with_reducible refine Kd.C_drewN ?_ _) | (with_reducible refine Kd.C_drew ?_))); (case side7 => exact (Kd.N_reads' HO_653002.out).2.1); rintro e w74 ⟨rfl, hb⟩; refine ⟨_, rfl, ?_⟩; have n0_ := Aside0.mk (Kd.R_below (zr HO_6.out) hb); have n1_ := Aside0.mk (Kd.N_below (zn HO_625001.out) hb); have n2_ := Aside0.mk (Kd.R_below (zr HO_642000.out) hb); have n3_ := Aside0.mk (Kd.N_below (zn HO_642001.out) hb); have n4_ := Aside0.mk (Kd.N_below (zn HO_642002.out) hb); have n5_ := Aside0.mk (Kd.R_below (zr HO_653000.out) hb); have n6_ := Aside0.mk (Kd.N_below (zn HO_653001.out) hb); have n7_ := Aside0.mk (Kd.N_below (zn HO_653002.out) hb); have n8_ := Aside0.mk (blk_below (g := gb624) (o := .cells #[.int .i64 t620, .slice Ao16 t621.length co16] 31 (0, 0)) (zk BK624.out) hb); have n9_ := Aside0.mk (blk_below (g := gb641) (o := .cells #[.slice Ao23 t631.length co23, .slice Ao26 t634.length co26, .slice Ao27 t637.length co27] 28 (0, 0)) (zk BK641.out) hb); have n10_ := Aside0.mk (blk_below (g := gb652) (o := .cells #[.slice Ao31 t642.length co31, .slice Ao35 t645.length co35, .slice Ao36 t648.length co36] 28 (0, 0)) (zk BK652.out) hb); have n11_ := Aside0.mk (below_step (zb3 HB.out GE624.out GE641.out GE652.out) hb); clear HO_6; clear HO_625001; clear HO_642000; clear HO_642001; clear HO_642002; clear HO_653000; clear HO_653001; clear HO_653002; clear BK624; clear BK641; clear BK652; clear HB; have HO_6 := n0_; have HO_625001 := n1_; have HO_642000 := n2_; have HO_642001 := n3_; have HO_642002 := n4_; have HO_653000 := n5_; have HO_653001 := n6_; have HO_653002 := n7_; have BK624 := n8_; have BK641 := n9_; have BK652 := n10_; have HB := n11_; clear n0_ n1_ n2_ n3_ n4_ n5_ n6_ n7_ n8_ n9_ n10_ n11_; (try clear hb); (try clear hb2); (try clear hk); (try clear hi); have hcz75_0 : w74.cell? ⟨gb624, 0, none⟩ = some (.int .i64 t620) := (blk_cell BK624.out 0).trans rfl; have hcz75_1 : w74.cell? ⟨gb624, 1, none⟩ = some (.slice Ao16 t621.length co16) := (blk_cell BK624.out 1).trans rfl; have hfz75_0 := blk_frozen BK624.out 0; have hfz75_1 := blk_frozen BK624.out 1; have hcz76_0 : w74.cell? ⟨gb652, 0, none⟩ = some (.slice Ao31 t642.length co31) := (blk_cell BK652.out 0).trans rfl; have hcz76_1 : w74.cell? ⟨gb652, 1, none⟩ = some (.slice Ao35 t645.length co35) := (blk_cell BK652.out 1).trans rfl; have hcz76_2 : w74.cell? ⟨gb652, 2, none⟩ = some (.slice Ao36 t648.length co36) := (blk_cell BK652.out 2).trans rfl; have hfz76_0 := blk_frozen BK652.out 0; have hfz76_1 := blk_frozen BK652.out 1; have hfz76_2 := blk_frozen BK652.out 2) | ((with_reducible refine gate_callee (f := 29) rfl ?_); refine goesL_ (some 87) rfl rfl Try.func29 (by kernel_rfl) rfl #[.agg #[.int .i64 t620, .slice Ao16 t621.length co16], .agg #[.slice Ao31 t642.length co31, .slice Ao35 t645.length co35, .slice Ao36 t648.length co36]] rfl zl ?_; (with_reducible refine (spec_CheckSequence.calls kj11 t620 _ _ t621 _ _ t642 _ _ t645 _ _ t648 t658 t659 _ ?side1 ?side2 ?side3 ?side4 ?side5 ?side6 ?side7 ?side8 A61.out).mono ?_); (case side1 => repeat (first | exact (Kd.N_reads' HO_625001.out).2.2 | (with_reducible refine Kd.C_alloc ?_ _) | (with_reducible refine Kd.C_drewN ?_ _) | (with_reducible refine Kd.C_drew ?_))); (case side2 => exact (Kd.N_reads' HO_625001.out).2.1); (case side3 => repeat (first | exact (Kd.R_reads' HO_653000.out).2.2 | (with_reducible refine Kd.C_alloc ?_ _) | (with_reducible refine Kd.C_drewN ?_ _) | (with_reducible refine Kd.C_drew ?_))); (case side4 => exact (Kd.R_reads' HO_653000.out).2.1); (case side5 => repeat (first | exact (Kd.N_reads' HO_653001.out).2.2 | (with_reducible refine Kd.C_alloc ?_ _) | (with_reducible refine Kd.C_drewN ?_ _) | (with_reducible refine Kd.C_drew ?_))); (case side6 => exact (Kd.N_reads' HO_653001.out).2.1); (case side7 => repeat (first | exact (Kd.N_reads' HO_653002.out).2.2 | (with_reducible refine Kd.C_alloc ?_ _) | (with_reducible refine Kd.C_drewN ?_ _) | (with_reducible refine Kd.C_drew ?_))); (case side8 => exact (Kd.N_reads' HO_653002.out).2.1); rintro e w77 ⟨rfl, hb⟩; refine ⟨_, rfl, ?_⟩; have n0_ := Aside0.mk (Kd.R_below (zr HO_6.out) hb); have n1_ := Aside0.mk (Kd.N_below (zn HO_625001.out) hb); have n2_ := Aside0.mk (Kd.R_below (zr HO_642000.out) hb); have n3_ := Aside0.mk (Kd.N_below (zn HO_642001.out) hb); have n4_ := Aside0.mk (Kd.N_below (zn HO_642002.out) hb); have n5_ := Aside0.mk (Kd.R_below (zr HO_653000.out) hb); have n6_ := Aside0.mk (Kd.N_below (zn HO_653001.out) hb); have n7_ := Aside0.mk (Kd.N_below (zn HO_653002.out) hb); have n8_ := Aside0.mk (blk_below (g := gb624) (o := .cells #[.int .i64 t620, .slice Ao16 t621.length co16] 31 (0, 0)) (zk BK624.out) hb); have n9_ := Aside0.mk (blk_below (g := gb641) (o := .cells #[.slice Ao23 t631.length co23, .slice Ao26 t634.length co26, .slice Ao27 t637.length co27] 28 (0, 0)) (zk BK641.out) hb); have n10_ := Aside0.mk (blk_below (g := gb652) (o := .cells #[.slice Ao31 t642.length co31, .slice Ao35 t645.length co35, .slice Ao36 t648.length co36] 28 (0, 0)) (zk BK652.out) hb); have n11_ := Aside0.mk (below_step (zb3 HB.out GE624.out GE641.out GE652.out) hb); clear HO_6; clear HO_625001; clear HO_642000; clear HO_642001; clear HO_642002; clear HO_653000; clear HO_653001; clear HO_653002; clear BK624; clear BK641; clear BK652; clear HB; have HO_6 := n0_; have HO_625001 := n1_; have HO_642000 := n2_; have HO_642001 := n3_; have HO_642002 := n4_; have HO_653000 := n5_; have HO_653001 := n6_; have HO_653002 := n7_; have BK624 := n8_; have BK641 := n9_; have BK652 := n10_; have HB := n11_; clear n0_ n1_ n2_ n3_ n4_ n5_ n6_ n7_ n8_ n9_ n10_ n11_; (try clear hb); (try clear hb2); (try clear hk); (try clear hi); have hcz78_0 : w77.cell? ⟨gb624, 0, none⟩ = some (.int .i64 t620) := (blk_cell BK624.out 0).trans rfl; have hcz78_1 : w77.cell? ⟨gb624, 1, none⟩ = some (.slice Ao16 t621.length co16) := (blk_cell BK624.out 1).trans rfl; have hfz78_0 := blk_frozen BK624.out 0; have hfz78_1 := blk_frozen BK624.out 1) | ((with_reducible refine gate_callee (f := 15) rfl ?_); refine goesL_ (some 92) rfl rfl Try.func15 (by kernel_rfl) rfl #[.agg #[.int .i64 t620, .slice Ao16 t621.length co16]] rfl zl ?_; (with_reducible refine (impl_BestSequence.calls kj11 t620 _ _ t621 t660 t663 t666 t669 t670 _ ?side1 ?side2 A62.out).mono ?_); (case side1 => repeat (first | exact (Kd.N_reads' HO_625001.out).2.2 | (with_reducible refine Kd.C_alloc ?_ _) | (with_reducible refine Kd.C_drewN ?_ _) | (with_reducible refine Kd.C_drew ?_))); (case side2 => exact (Kd.N_reads' HO_625001.out).2.1); rintro e w79 ⟨v661, v664, v667, rfl, ho0, ho1, ho2, hb⟩; refine ⟨_, rfl, ?_⟩; have n0_ := Aside0.mk (Kd.R_elder' (zr HO_6.out) (Kd.R_base ho0) hb); have n1_ := Aside0.mk (Kd.N_mono (Kd.N_told (Kd.N_told (Kd.N_told (Kd.N_old (zn HO_625001.out) hb) (Kd.R_base ho0)) (by first | exact Kd.N_base ho1 | exact Kd.S_base ho1)) (by first | exact Kd.N_base ho2 | exact Kd.S_base ho2)) (fun _ h_ => h_.1)); have n2_ := Aside0.mk (Kd.R_elder' (zr HO_642000.out) (Kd.R_base ho0) hb); have n3_ := Aside0.mk (Kd.N_mono (Kd.N_told (Kd.N_told (Kd.N_told (Kd.N_old (zn HO_642001.out) hb) (Kd.R_base ho0)) (by first | exact Kd.N_base ho1 | exact Kd.S_base ho1)) (by first | exact Kd.N_base ho2 | exact Kd.S_base ho2)) (fun _ h_ => h_.1)); have n4_ := Aside0.mk (Kd.N_mono (Kd.N_told (Kd.N_told (Kd.N_told (Kd.N_old (zn HO_642002.out) hb) (Kd.R_base ho0)) (by first | exact Kd.N_base ho1 | exact Kd.S_base ho1)) (by first | exact Kd.N_base ho2 | exact Kd.S_base ho2)) (fun _ h_ => h_.1)); have n5_ := Aside0.mk (Kd.R_elder' (zr HO_653000.out) (Kd.R_base ho0) hb); have n6_ := Aside0.mk (Kd.N_mono (Kd.N_told (Kd.N_told (Kd.N_told (Kd.N_old (zn HO_653001.out) hb) (Kd.R_base ho0)) (by first | exact Kd.N_base ho1 | exact Kd.S_base ho1)) (by first | exact Kd.N_base ho2 | exact Kd.S_base ho2)) (fun _ h_ => h_.1)); have n7_ := Aside0.mk (Kd.N_mono (Kd.N_told (Kd.N_told (Kd.N_told (Kd.N_old (zn HO_653002.out) hb) (Kd.R_base ho0)) (by first | exact Kd.N_base ho1 | exact Kd.S_base ho1)) (by first | exact Kd.N_base ho2 | exact Kd.S_base ho2)) (fun _ h_ => h_.1)); have n8_ := Aside0.mk (Kd.R_lower (Kd.R_new' (Kd.R_new' (Kd.R_new' (Kd.R_mono (ok' := fun k_ => True) ho0 (fun _ hk_ => trivial)) (Kd.R_lt (zr HO_6.out))) (Kd.R_lt (zr HO_642000.out))) (Kd.R_lt (zr HO_653000.out))) (below_size (zb3 HB.out GE624.out GE641.out GE652.out))); have n9_ := Aside0.mk (Kd.N_lower (Kd.N_mono (ok' := fun k_ => some k_ ≠ (v661 : Value).ownBlock ∧ some k_ ≠ (v667 : Value).ownBlock ∧ some k_ ≠ (.slice Ao19 t625.length co19 : Value).ownBlock ∧ some k_ ≠ (.slice Ao16 t621.length co16 : Value).ownBlock ∧ some k_ ≠ (.slice Ao23 t631.length co23 : Value).ownBlock ∧ some k_ ≠ (.slice Ao26 t634.length co26 : Value).ownBlock ∧ some k_ ≠ (.slice Ao27 t637.length co27 : Value).ownBlock ∧ some k_ ≠ (.slice Ao31 t642.length co31 : Value).ownBlock ∧ some k_ ≠ (.slice Ao35 t645.length co35 : Value).ownBlock ∧ some k_ ≠ (.slice Ao36 t648.length co36 : Value).ownBlock ∧ k_ ≠ gb624 ∧ k_ ≠ gb641 ∧ k_ ≠ gb652) ho1 (fun k_ hk_ => ⟨hk_.2.1, hk_.2.2, (Kd.fresh' (Kd.R_lt (zr HO_6.out)) k_ hk_.1), (Kd.fresh' (Kd.N_lt (zn HO_625001.out)) k_ hk_.1), (Kd.fresh' (Kd.R_lt (zr HO_642000.out)) k_ hk_.1), (Kd.fresh' (Kd.N_lt (zn HO_642001.out)) k_ hk_.1), (Kd.fresh' (Kd.N_lt (zn HO_642002.out)) k_ hk_.1), (Kd.fresh' (Kd.R_lt (zr HO_653000.out)) k_ hk_.1), (Kd.fresh' (Kd.N_lt (zn HO_653001.out)) k_ hk_.1), (Kd.fresh' (Kd.N_lt (zn HO_653002.out)) k_ hk_.1), (Kd.freshB (g := gb624) (o := .cells #[.int .i64 t620, .slice Ao16 t621.length co16] 31 (0, 0)) (zk BK624.out) k_ hk_.1), (Kd.freshB (g := gb641) (o := .cells #[.slice Ao23 t631.length co23, .slice Ao26 t634.length co26, .slice Ao27 t637.length co27] 28 (0, 0)) (zk BK641.out) k_ hk_.1), (Kd.freshB (g := gb652) (o := .cells #[.slice Ao31 t642.length co31, .slice Ao35 t645.length co35, .slice Ao36 t648.length co36] 28 (0, 0)) (zk BK652.out) k_ hk_.1)⟩)) (below_size (zb3 HB.out GE624.out GE641.out GE652.out))); have n10_ := Aside0.mk (Kd.N_lower (Kd.N_mono (ok' := fun k_ => some k_ ≠ (v661 : Value).ownBlock ∧ some k_ ≠ (v664 : Value).ownBlock ∧ some k_ ≠ (.slice Ao19 t625.length co19 : Value).ownBlock ∧ some k_ ≠ (.slice Ao16 t621.length co16 : Value).ownBlock ∧ some k_ ≠ (.slice Ao23 t631.length co23 : Value).ownBlock ∧ some k_ ≠ (.slice Ao26 t634.length co26 : Value).ownBlock ∧ some k_ ≠ (.slice Ao27 t637.length co27 : Value).ownBlock ∧ some k_ ≠ (.slice Ao31 t642.length co31 : Value).ownBlock ∧ some k_ ≠ (.slice Ao35 t645.length co35 : Value).ownBlock ∧ some k_ ≠ (.slice Ao36 t648.length co36 : Value).ownBlock ∧ k_ ≠ gb624 ∧ k_ ≠ gb641 ∧ k_ ≠ gb652) ho2 (fun k_ hk_ => ⟨hk_.2.1, hk_.2.2, (Kd.fresh' (Kd.R_lt (zr HO_6.out)) k_ hk_.1), (Kd.fresh' (Kd.N_lt (zn HO_625001.out)) k_ hk_.1), (Kd.fresh' (Kd.R_lt (zr HO_642000.out)) k_ hk_.1), (Kd.fresh' (Kd.N_lt (zn HO_642001.out)) k_ hk_.1), (Kd.fresh' (Kd.N_lt (zn HO_642002.out)) k_ hk_.1), (Kd.fresh' (Kd.R_lt (zr HO_653000.out)) k_ hk_.1), (Kd.fresh' (Kd.N_lt (zn HO_653001.out)) k_ hk_.1), (Kd.fresh' (Kd.N_lt (zn HO_653002.out)) k_ hk_.1), (Kd.freshB (g := gb624) (o := .cells #[.int .i64 t620, .slice Ao16 t621.length co16] 31 (0, 0)) (zk BK624.out) k_ hk_.1), (Kd.freshB (g := gb641) (o := .cells #[.slice Ao23 t631.length co23, .slice Ao26 t634.length co26, .slice Ao27 t637.length co27] 28 (0, 0)) (zk BK641.out) k_ hk_.1), (Kd.freshB (g := gb652) (o := .cells #[.slice Ao31 t642.length co31, .slice Ao35 t645.length co35, .slice Ao36 t648.length co36] 28 (0, 0)) (zk BK652.out) k_ hk_.1)⟩)) (below_size (zb3 HB.out GE624.out GE641.out GE652.out))); have n11_ := Aside0.mk (blk_below (g := gb624) (o := .cells #[.int .i64 t620, .slice Ao16 t621.length co16] 31 (0, 0)) (zk BK624.out) hb); have n12_ := Aside0.mk (blk_below (g := gb641) (o := .cells #[.slice Ao23 t631.length co23, .slice Ao26 t634.length co26, .slice Ao27 t637.length co27] 28 (0, 0)) (zk BK641.out) hb); have n13_ := Aside0.mk (blk_below (g := gb652) (o := .cells #[.slice Ao31 t642.length co31, .slice Ao35 t645.length co35, .slice Ao36 t648.length co36] 28 (0, 0)) (zk BK652.out) hb); have n14_ := Aside0.mk (below_step (zb3 HB.out GE624.out GE641.out GE652.out) hb); clear HO_6; clear HO_625001; clear HO_642000; clear HO_642001; clear HO_642002; clear HO_653000; clear HO_653001; clear HO_653002; clear BK624; clear BK641; clear BK652; clear HB; have HO_6 := n0_; have HO_625001 := n1_; have HO_642000 := n2_; have HO_642001 := n3_; have HO_642002 := n4_; have HO_653000 := n5_; have HO_653001 := n6_; have HO_653002 := n7_; have HO662 := n8_; have HO665 := n9_; have HO668 := n10_; have BK624 := n11_; have BK641 := n12_; have BK652 := n13_; have HB := n14_; clear n0_ n1_ n2_ n3_ n4_ n5_ n6_ n7_ n8_ n9_ n10_ n11_ n12_ n13_ n14_; (try clear hb); (try clear hb2); (try clear hk); (try clear hi); (try clear ho0); (try clear ho1); (try clear ho2)) | ((with_reducible refine gate_dst (N := 16) rfl ?_); (try (refine gate_guard (by rfl) ?_; dsimp only)); refine box_event ?hg (N := 16) ?hd (cs := #[.slice none 0 0, .slice none 0 0, .slice none 0 0]) (t := 28) ?hr ?_; (case hd => rfl); (case hg => rfl); (case hr => first | (go_simp; done) | (go_simp; rfl)); intro gb671 hg w80 hbox hb; have n0_ := Aside0.mk (Kd.R_below (zr HO_6.out) hb); have n1_ := Aside0.mk (Kd.N_below (Kd.N_elderB (zn HO_625001.out) gb671 (Nat.le_of_eq hg.symm)) hb); have n2_ := Aside0.mk (Kd.R_below (zr HO_642000.out) hb); have n3_ := Aside0.mk (Kd.N_below (Kd.N_elderB (zn HO_642001.out) gb671 (Nat.le_of_eq hg.symm)) hb); have n4_ := Aside0.mk (Kd.N_below (Kd.N_elderB (zn HO_642002.out) gb671 (Nat.le_of_eq hg.symm)) hb); have n5_ := Aside0.mk (Kd.R_below (zr HO_653000.out) hb); have n6_ := Aside0.mk (Kd.N_below (Kd.N_elderB (zn HO_653001.out) gb671 (Nat.le_of_eq hg.symm)) hb); have n7_ := Aside0.mk (Kd.N_below (Kd.N_elderB (zn HO_653002.out) gb671 (Nat.le_of_eq hg.symm)) hb); have n8_ := Aside0.mk (Kd.R_below (zr HO662.out) hb); have n9_ := Aside0.mk (Kd.N_below (Kd.N_elderB (zn HO665.out) gb671 (Nat.le_of_eq hg.symm)) hb); have n10_ := Aside0.mk (Kd.N_below (Kd.N_elderB (zn HO668.out) gb671 (Nat.le_of_eq hg.symm)) hb); have n11_ := Aside0.mk (blk_below (g := gb624) (o := .cells #[.int .i64 t620, .slice Ao16 t621.length co16] 31 (0, 0)) (zk BK624.out) hb); have n12_ := Aside0.mk (blk_below (g := gb641) (o := .cells #[.slice Ao23 t631.length co23, .slice Ao26 t634.length co26, .slice Ao27 t637.length co27] 28 (0, 0)) (zk BK641.out) hb); have n13_ := Aside0.mk (blk_below (g := gb652) (o := .cells #[.slice Ao31 t642.length co31, .slice Ao35 t645.length co35, .slice Ao36 t648.length co36] 28 (0, 0)) (zk BK652.out) hb); have n14_ := Aside0.mk (below_step (zb3 HB.out GE624.out GE641.out GE652.out) hb); have n15_ := Aside0.mk (hbox); have n16_ := Aside0.mk ((by rw [hg]; exact (below_size (zb3 HB.out GE624.out GE641.out GE652.out)) : w.heap.size ≤ gb671)); have n17_ := Aside0.mk ((by rw [hg]; exact (below_size (zb3 HB.out GE624.out GE641.out GE652.out)) : w.heap.size ≤ gb671)); have n18_ := Aside0.mk ((by rw [hg]; exact Nat.ne_of_lt (blk_lt (g := gb624) (o := .cells #[.int .i64 t620, .slice Ao16 t621.length co16] 31 (0, 0)) (zk BK624.out)) : gb624 ≠ gb671)); have n19_ := Aside0.mk ((by rw [hg]; exact Nat.ne_of_gt (blk_lt (g := gb624) (o := .cells #[.int .i64 t620, .slice Ao16 t621.length co16] 31 (0, 0)) (zk BK624.out)) : gb671 ≠ gb624)); have n20_ := Aside0.mk ((by rw [hg]; exact Nat.ne_of_lt (blk_lt (g := gb641) (o := .cells #[.slice Ao23 t631.length co23, .slice Ao26 t634.length co26, .slice Ao27 t637.length co27] 28 (0, 0)) (zk BK641.out)) : gb641 ≠ gb671)); have n21_ := Aside0.mk ((by rw [hg]; exact Nat.ne_of_gt (blk_lt (g := gb641) (o := .cells #[.slice Ao23 t631.length co23, .slice Ao26 t634.length co26, .slice Ao27 t637.length co27] 28 (0, 0)) (zk BK641.out)) : gb671 ≠ gb641)); have n22_ := Aside0.mk ((by rw [hg]; exact Nat.ne_of_lt (blk_lt (g := gb652) (o := .cells #[.slice Ao31 t642.length co31, .slice Ao35 t645.length co35, .slice Ao36 t648.length co36] 28 (0, 0)) (zk BK652.out)) : gb652 ≠ gb671)); have n23_ := Aside0.mk ((by rw [hg]; exact Nat.ne_of_gt (blk_lt (g := gb652) (o := .cells #[.slice Ao31 t642.length co31, .slice Ao35 t645.length co35, .slice Ao36 t648.length co36] 28 (0, 0)) (zk BK652.out)) : gb671 ≠ gb652)); clear HO_6; clear HO_625001; clear HO_642000; clear HO_642001; clear HO_642002; clear HO_653000; clear HO_653001; clear HO_653002; clear HO662; clear HO665; clear HO668; clear BK624; clear BK641; clear BK652; clear HB; have HO_6 := n0_; have HO_625001 := n1_; have HO_642000 := n2_; have HO_642001 := n3_; have HO_642002 := n4_; have HO_653000 := n5_; have HO_653001 := n6_; have HO_653002 := n7_; have HO662 := n8_; have HO665 := n9_; have HO668 := n10_; have BK624 := n11_; have BK641 := n12_; have BK652 := n13_; have HB := n14_; have BK671 := n15_; have GW671 := n16_; have GE671 := n17_; have NB624_671 := n18_; have NB671_624 := n19_; have NB641_671 := n20_; have NB671_641 := n21_; have NB652_671 := n22_; have NB671_652 := n23_; clear n0_ n1_ n2_ n3_ n4_ n5_ n6_ n7_ n8_ n9_ n10_ n11_ n12_ n13_ n14_ n15_ n16_ n17_ n18_ n19_ n20_ n21_ n22_ n23_; clear hb hbox hg; obtain ⟨Ao81, co81, eo81⟩ := Kd.R_slice HO662.out; subst eo81; have hnb82 := NB671_624.out; have hnc82 := NB624_671.out; have hnb83 := NB671_641.out; have hnc83 := NB641_671.out; have hnb84 := NB671_652.out; have hnc84 := NB652_671.out; have hcz85_0 : w80.cell? ⟨gb671, 0, none⟩ = some (.slice none 0 0) := (blk_cell BK671.out 0).trans rfl; have hcz85_1 : w80.cell? ⟨gb671, 1, none⟩ = some (.slice none 0 0) := (blk_cell BK671.out 1).trans rfl; have hcz85_2 : w80.cell? ⟨gb671, 2, none⟩ = some (.slice none 0 0) := (blk_cell BK671.out 2).trans rfl; have hfz85_0 := blk_frozen BK671.out 0; have hfz85_1 := blk_frozen BK671.out 1; have hfz85_2 := blk_frozen BK671.out 2; obtain ⟨Ao86, co86, eo86⟩ := Kd.N_slice HO665.out; subst eo86; obtain ⟨Ao87, co87, eo87⟩ := Kd.N_slice HO668.out; subst eo87))
              go_ret
              exact ⟨ze, zb4 HB.out GE624.out GE641.out GE652.out GE671.out⟩
             ·rw [if_neg c68] at H
              have c68b0 : ((t625.length : Int) == 0) = false := beq_eq_false_iff_ne.mpr c68
              have c68b1 : ((t625.length : Int) != 0) = true := bne_iff_ne.mpr c68
              have c68b2 : ¬ (t625 = []) := fun h_ => c68 (by rw [h_]; rfl)
              obtain rfl := Option.some.inj H
              have hnb88 := NB624_641.out
              have hnc88 := NB641_624.out
              have hnb89 := NB624_652.out
              have hnc89 := NB652_624.out
              have hcz90_0 : wc.cell? ⟨gb624, 0, none⟩ = some (.int .i64 t620) := (blk_cell BK624.out 0).trans rfl
              have hcz90_1 : wc.cell? ⟨gb624, 1, none⟩ = some (.slice Ao16 t621.length co16) := (blk_cell BK624.out 1).trans rfl
              have hfz90_0 := blk_frozen BK624.out 0
              have hfz90_1 := blk_frozen BK624.out 1
              have hnb91 := NB652_641.out
              have hnc91 := NB641_652.out
              have hcz92_0 : wc.cell? ⟨gb652, 0, none⟩ = some (.slice Ao31 t642.length co31) := (blk_cell BK652.out 0).trans rfl
              have hcz92_1 : wc.cell? ⟨gb652, 1, none⟩ = some (.slice Ao35 t645.length co35) := (blk_cell BK652.out 1).trans rfl
              have hcz92_2 : wc.cell? ⟨gb652, 2, none⟩ = some (.slice Ao36 t648.length co36) := (blk_cell BK652.out 2).trans rfl
              have hfz92_0 := blk_frozen BK652.out 0
              have hfz92_1 := blk_frozen BK652.out 1
              have hfz92_2 := blk_frozen BK652.out 2
              go_wp2_with (first | ((with_reducible refine gate_callee (f := 28) rfl ?_); refine goesL_ (some 81) rfl rfl Try.func28 (by kernel_rfl) rfl #[.agg #[.int .i64 t620, .slice Ao16 t621.length co16], .agg #[.slice Ao31 t642.length co31, .slice Ao35 t645.length co35, .slice Ao36 t648.length co36]] rfl zl ?_; (with_reducible refine (impl_CheckSequence.calls kj11 t620 _ _ t621 (fun k_ => some k_ = (.slice Ao31 t642.length co31 : Value).ownBlock) _ _ t642 _ _ t645 _ _ t648 t656 t657 _ ?side1 ?side2 ?side3 ?side4 ?side5 ?side6 ?side7 A60.out).mono ?_); (case side1 => repeat (first | exact (Kd.N_reads' HO_625001.out).2.2 | (with_reducible refine Kd.C_alloc ?_ _) | (with_reducible refine Kd.C_drewN ?_ _) | (with_reducible refine Kd.C_drew ?_))); (case side2 => exact (Kd.N_reads' HO_625001.out).2.1); (case side3 => exact Kd.R_V (Kd.R_tight rfl (Kd.R_types (Kd.R_types (Kd.R_types (Kd.R_apart' (Kd.R_apart' (Kd.R_apart' (Kd.R_apart' (Kd.R_apart' (HO_653000.out) (Kd.N_typed HO_625001.out) (by decide)) (Kd.N_typed HO_642001.out) (by decide)) (Kd.N_typed HO_642002.out) (by decide)) (Kd.N_typed HO_653001.out) (by decide)) (Kd.N_typed HO_653002.out) (by decide)) BK624.out (by decide)) BK641.out (by decide)) BK652.out (by decide)))); (case side4 => repeat (first | exact (Kd.N_reads' HO_653001.out).2.2 | (with_reducible refine Kd.C_alloc ?_ _) | (with_reducible refine Kd.C_drewN ?_ _) | (with_reducible refine Kd.C_drew ?_))); (case side5 => exact (Kd.N_reads' HO_653001.out).2.1); (case side6 => repeat (first | exact (Kd.N_reads' HO_653002.out).2.2 | (with_reducible refine Kd.C_alloc ?_ _) | (with_reducible refine Kd.C_drewN ?_ _) | (with_reducible refine Kd.C_drew ?_))); (case side7 => exact (Kd.N_reads' HO_653002.out).2.1); rintro e w93 ⟨rfl, hb⟩; refine ⟨_, rfl, ?_⟩; have n0_ := Aside0.mk (Kd.R_below (zr HO_6.out) hb); have n1_ := Aside0.mk (Kd.N_below (zn HO_625001.out) hb); have n2_ := Aside0.mk (Kd.R_below (zr HO_642000.out) hb); have n3_ := Aside0.mk (Kd.N_below (zn HO_642001.out) hb); have n4_ := Aside0.mk (Kd.N_below (zn HO_642002.out) hb); have n5_ := Aside0.mk (Kd.R_below (zr HO_653000.out) hb); have n6_ := Aside0.mk (Kd.N_below (zn HO_653001.out) hb); have n7_ := Aside0.mk (Kd.N_below (zn HO_653002.out) hb); have n8_ := Aside0.mk (blk_below (g := gb624) (o := .cells #[.int .i64 t620, .slice Ao16 t621.length co16] 31 (0, 0)) (zk BK624.out) hb); have n9_ := Aside0.mk (blk_below (g := gb641) (o := .cells #[.slice Ao23 t631.length co23, .slice Ao26 t634.length co26, .slice Ao27 t637.length co27] 28 (0, 0)) (zk BK641.out) hb); have n10_ := Aside0.mk (blk_below (g := gb652) (o := .cells #[.slice Ao31 t642.length co31, .slice Ao35 t645.length co35, .slice Ao36 t648.length co36] 28 (0, 0)) (zk BK652.out) hb); have n11_ := Aside0.mk (below_step (zb3 HB.out GE624.out GE641.out GE652.out) hb); clear HO_6; clear HO_625001; clear HO_642000; clear HO_642001; clear HO_642002; clear HO_653000; clear HO_653001; clear HO_653002; clear BK624; clear BK641; clear BK652; clear HB; have HO_6 := n0_; have HO_625001 := n1_; have HO_642000 := n2_; have HO_642001 := n3_; have HO_642002 := n4_; have HO_653000 := n5_; have HO_653001 := n6_; have HO_653002 := n7_; have BK624 := n8_; have BK641 := n9_; have BK652 := n10_; have HB := n11_; clear n0_ n1_ n2_ n3_ n4_ n5_ n6_ n7_ n8_ n9_ n10_ n11_; (try clear hb); (try clear hb2); (try clear hk); (try clear hi); have hcz94_0 : w93.cell? ⟨gb624, 0, none⟩ = some (.int .i64 t620) := (blk_cell BK624.out 0).trans rfl; have hcz94_1 : w93.cell? ⟨gb624, 1, none⟩ = some (.slice Ao16 t621.length co16) := (blk_cell BK624.out 1).trans rfl; have hfz94_0 := blk_frozen BK624.out 0; have hfz94_1 := blk_frozen BK624.out 1; have hcz95_0 : w93.cell? ⟨gb652, 0, none⟩ = some (.slice Ao31 t642.length co31) := (blk_cell BK652.out 0).trans rfl; have hcz95_1 : w93.cell? ⟨gb652, 1, none⟩ = some (.slice Ao35 t645.length co35) := (blk_cell BK652.out 1).trans rfl; have hcz95_2 : w93.cell? ⟨gb652, 2, none⟩ = some (.slice Ao36 t648.length co36) := (blk_cell BK652.out 2).trans rfl; have hfz95_0 := blk_frozen BK652.out 0; have hfz95_1 := blk_frozen BK652.out 1; have hfz95_2 := blk_frozen BK652.out 2) | ((with_reducible refine gate_callee (f := 29) rfl ?_); refine goesL_ (some 87) rfl rfl Try.func29 (by kernel_rfl) rfl #[.agg #[.int .i64 t620, .slice Ao16 t621.length co16], .agg #[.slice Ao31 t642.length co31, .slice Ao35 t645.length co35, .slice Ao36 t648.length co36]] rfl zl ?_; (with_reducible refine (spec_CheckSequence.calls kj11 t620 _ _ t621 _ _ t642 _ _ t645 _ _ t648 t658 t659 _ ?side1 ?side2 ?side3 ?side4 ?side5 ?side6 ?side7 ?side8 A61.out).mono ?_); (case side1 => repeat (first | exact (Kd.N_reads' HO_625001.out).2.2 | (with_reducible refine Kd.C_alloc ?_ _) | (with_reducible refine Kd.C_drewN ?_ _) | (with_reducible refine Kd.C_drew ?_))); (case side2 => exact (Kd.N_reads' HO_625001.out).2.1); (case side3 => repeat (first | exact (Kd.R_reads' HO_653000.out).2.2 | (with_reducible refine Kd.C_alloc ?_ _) | (with_reducible refine Kd.C_drewN ?_ _) | (with_reducible refine Kd.C_drew ?_))); (case side4 => exact (Kd.R_reads' HO_653000.out).2.1); (case side5 => repeat (first | exact (Kd.N_reads' HO_653001.out).2.2 | (with_reducible refine Kd.C_alloc ?_ _) | (with_reducible refine Kd.C_drewN ?_ _) | (with_reducible refine Kd.C_drew ?_))); (case side6 => exact (Kd.N_reads' HO_653001.out).2.1); (case side7 => repeat (first | exact (Kd.N_reads' HO_653002.out).2.2 | (with_reducible refine Kd.C_alloc ?_ _) | (with_reducible refine Kd.C_drewN ?_ _) | (with_reducible refine Kd.C_drew ?_))); (case side8 => exact (Kd.N_reads' HO_653002.out).2.1); rintro e w96 ⟨rfl, hb⟩; refine ⟨_, rfl, ?_⟩; have n0_ := Aside0.mk (Kd.R_below (zr HO_6.out) hb); have n1_ := Aside0.mk (Kd.N_below (zn HO_625001.out) hb); have n2_ := Aside0.mk (Kd.R_below (zr HO_642000.out) hb); have n3_ := Aside0.mk (Kd.N_below (zn HO_642001.out) hb); have n4_ := Aside0.mk (Kd.N_below (zn HO_642002.out) hb); have n5_ := Aside0.mk (Kd.R_below (zr HO_653000.out) hb); have n6_ := Aside0.mk (Kd.N_below (zn HO_653001.out) hb); have n7_ := Aside0.mk (Kd.N_below (zn HO_653002.out) hb); have n8_ := Aside0.mk (blk_below (g := gb624) (o := .cells #[.int .i64 t620, .slice Ao16 t621.length co16] 31 (0, 0)) (zk BK624.out) hb); have n9_ := Aside0.mk (blk_below (g := gb641) (o := .cells #[.slice Ao23 t631.length co23, .slice Ao26 t634.length co26, .slice Ao27 t637.length co27] 28 (0, 0)) (zk BK641.out) hb); have n10_ := Aside0.mk (blk_below (g := gb652) (o := .cells #[.slice Ao31 t642.length co31, .slice Ao35 t645.length co35, .slice Ao36 t648.length co36] 28 (0, 0)) (zk BK652.out) hb); have n11_ := Aside0.mk (below_step (zb3 HB.out GE624.out GE641.out GE652.out) hb); clear HO_6; clear HO_625001; clear HO_642000; clear HO_642001; clear HO_642002; clear HO_653000; clear HO_653001; clear HO_653002; clear BK624; clear BK641; clear BK652; clear HB; have HO_6 := n0_; have HO_625001 := n1_; have HO_642000 := n2_; have HO_642001 := n3_; have HO_642002 := n4_; have HO_653000 := n5_; have HO_653001 := n6_; have HO_653002 := n7_; have BK624 := n8_; have BK641 := n9_; have BK652 := n10_; have HB := n11_; clear n0_ n1_ n2_ n3_ n4_ n5_ n6_ n7_ n8_ n9_ n10_ n11_; (try clear hb); (try clear hb2); (try clear hk); (try clear hi); have hcz97_0 : w96.cell? ⟨gb624, 0, none⟩ = some (.int .i64 t620) := (blk_cell BK624.out 0).trans rfl; have hcz97_1 : w96.cell? ⟨gb624, 1, none⟩ = some (.slice Ao16 t621.length co16) := (blk_cell BK624.out 1).trans rfl; have hfz97_0 := blk_frozen BK624.out 0; have hfz97_1 := blk_frozen BK624.out 1) | ((with_reducible refine gate_callee (f := 15) rfl ?_); refine goesL_ (some 92) rfl rfl Try.func15 (by kernel_rfl) rfl #[.agg #[.int .i64 t620, .slice Ao16 t621.length co16]] rfl zl ?_; (with_reducible refine (impl_BestSequence.calls kj11 t620 _ _ t621 t660 t663 t666 t669 t670 _ ?side1 ?side2 A62.out).mono ?_); (case side1 => repeat (first | exact (Kd.N_reads' HO_625001.out).2.2 | (with_reducible refine Kd.C_alloc ?_ _) | (with_reducible refine Kd.C_drewN ?_ _) | (with_reducible refine Kd.C_drew ?_))); (case side2 => exact (Kd.N_reads' HO_625001.out).2.1); rintro e w98 ⟨v661, v664, v667, rfl, ho0, ho1, ho2, hb⟩; refine ⟨_, rfl, ?_⟩; have n0_ := Aside0.mk (Kd.R_elder' (zr HO_6.out) (Kd.R_base ho0) hb); have n1_ := Aside0.mk (Kd.N_mono (Kd.N_told (Kd.N_told (Kd.N_told (Kd.N_old (zn HO_625001.out) hb) (Kd.R_base ho0)) (by first | exact Kd.N_base ho1 | exact Kd.S_base ho1)) (by first | exact Kd.N_base ho2 | exact Kd.S_base ho2)) (fun _ h_ => h_.1)); have n2_ := Aside0.mk (Kd.R_elder' (zr HO_642000.out) (Kd.R_base ho0) hb); have n3_ := Aside0.mk (Kd.N_mono (Kd.N_told (Kd.N_told (Kd.N_told (Kd.N_old (zn HO_642001.out) hb) (Kd.R_base ho0)) (by first | exact Kd.N_base ho1 | exact Kd.S_base ho1)) (by first | exact Kd.N_base ho2 | exact Kd.S_base ho2)) (fun _ h_ => h_.1)); have n4_ := Aside0.mk (Kd.N_mono (Kd.N_told (Kd.N_told (Kd.N_told (Kd.N_old (zn HO_642002.out) hb) (Kd.R_base ho0)) (by first | exact Kd.N_base ho1 | exact Kd.S_base ho1)) (by first | exact Kd.N_base ho2 | exact Kd.S_base ho2)) (fun _ h_ => h_.1)); have n5_ := Aside0.mk (Kd.R_elder' (zr HO_653000.out) (Kd.R_base ho0) hb); have n6_ := Aside0.mk (Kd.N_mono (Kd.N_told (Kd.N_told (Kd.N_told (Kd.N_old (zn HO_653001.out) hb) (Kd.R_base ho0)) (by first | exact Kd.N_base ho1 | exact Kd.S_base ho1)) (by first | exact Kd.N_base ho2 | exact Kd.S_base ho2)) (fun _ h_ => h_.1)); have n7_ := Aside0.mk (Kd.N_mono (Kd.N_told (Kd.N_told (Kd.N_told (Kd.N_old (zn HO_653002.out) hb) (Kd.R_base ho0)) (by first | exact Kd.N_base ho1 | exact Kd.S_base ho1)) (by first | exact Kd.N_base ho2 | exact Kd.S_base ho2)) (fun _ h_ => h_.1)); have n8_ := Aside0.mk (Kd.R_lower (Kd.R_new' (Kd.R_new' (Kd.R_new' (Kd.R_mono (ok' := fun k_ => True) ho0 (fun _ hk_ => trivial)) (Kd.R_lt (zr HO_6.out))) (Kd.R_lt (zr HO_642000.out))) (Kd.R_lt (zr HO_653000.out))) (below_size (zb3 HB.out GE624.out GE641.out GE652.out))); have n9_ := Aside0.mk (Kd.N_lower (Kd.N_mono (ok' := fun k_ => some k_ ≠ (v661 : Value).ownBlock ∧ some k_ ≠ (v667 : Value).ownBlock ∧ some k_ ≠ (.slice Ao19 t625.length co19 : Value).ownBlock ∧ some k_ ≠ (.slice Ao16 t621.length co16 : Value).ownBlock ∧ some k_ ≠ (.slice Ao23 t631.length co23 : Value).ownBlock ∧ some k_ ≠ (.slice Ao26 t634.length co26 : Value).ownBlock ∧ some k_ ≠ (.slice Ao27 t637.length co27 : Value).ownBlock ∧ some k_ ≠ (.slice Ao31 t642.length co31 : Value).ownBlock ∧ some k_ ≠ (.slice Ao35 t645.length co35 : Value).ownBlock ∧ some k_ ≠ (.slice Ao36 t648.length co36 : Value).ownBlock ∧ k_ ≠ gb624 ∧ k_ ≠ gb641 ∧ k_ ≠ gb652) ho1 (fun k_ hk_ => ⟨hk_.2.1, hk_.2.2, (Kd.fresh' (Kd.R_lt (zr HO_6.out)) k_ hk_.1), (Kd.fresh' (Kd.N_lt (zn HO_625001.out)) k_ hk_.1), (Kd.fresh' (Kd.R_lt (zr HO_642000.out)) k_ hk_.1), (Kd.fresh' (Kd.N_lt (zn HO_642001.out)) k_ hk_.1), (Kd.fresh' (Kd.N_lt (zn HO_642002.out)) k_ hk_.1), (Kd.fresh' (Kd.R_lt (zr HO_653000.out)) k_ hk_.1), (Kd.fresh' (Kd.N_lt (zn HO_653001.out)) k_ hk_.1), (Kd.fresh' (Kd.N_lt (zn HO_653002.out)) k_ hk_.1), (Kd.freshB (g := gb624) (o := .cells #[.int .i64 t620, .slice Ao16 t621.length co16] 31 (0, 0)) (zk BK624.out) k_ hk_.1), (Kd.freshB (g := gb641) (o := .cells #[.slice Ao23 t631.length co23, .slice Ao26 t634.length co26, .slice Ao27 t637.length co27] 28 (0, 0)) (zk BK641.out) k_ hk_.1), (Kd.freshB (g := gb652) (o := .cells #[.slice Ao31 t642.length co31, .slice Ao35 t645.length co35, .slice Ao36 t648.length co36] 28 (0, 0)) (zk BK652.out) k_ hk_.1)⟩)) (below_size (zb3 HB.out GE624.out GE641.out GE652.out))); have n10_ := Aside0.mk (Kd.N_lower (Kd.N_mono (ok' := fun k_ => some k_ ≠ (v661 : Value).ownBlock ∧ some k_ ≠ (v664 : Value).ownBlock ∧ some k_ ≠ (.slice Ao19 t625.length co19 : Value).ownBlock ∧ some k_ ≠ (.slice Ao16 t621.length co16 : Value).ownBlock ∧ some k_ ≠ (.slice Ao23 t631.length co23 : Value).ownBlock ∧ some k_ ≠ (.slice Ao26 t634.length co26 : Value).ownBlock ∧ some k_ ≠ (.slice Ao27 t637.length co27 : Value).ownBlock ∧ some k_ ≠ (.slice Ao31 t642.length co31 : Value).ownBlock ∧ some k_ ≠ (.slice Ao35 t645.length co35 : Value).ownBlock ∧ some k_ ≠ (.slice Ao36 t648.length co36 : Value).ownBlock ∧ k_ ≠ gb624 ∧ k_ ≠ gb641 ∧ k_ ≠ gb652) ho2 (fun k_ hk_ => ⟨hk_.2.1, hk_.2.2, (Kd.fresh' (Kd.R_lt (zr HO_6.out)) k_ hk_.1), (Kd.fresh' (Kd.N_lt (zn HO_625001.out)) k_ hk_.1), (Kd.fresh' (Kd.R_lt (zr HO_642000.out)) k_ hk_.1), (Kd.fresh' (Kd.N_lt (zn HO_642001.out)) k_ hk_.1), (Kd.fresh' (Kd.N_lt (zn HO_642002.out)) k_ hk_.1), (Kd.fresh' (Kd.R_lt (zr HO_653000.out)) k_ hk_.1), (Kd.fresh' (Kd.N_lt (zn HO_653001.out)) k_ hk_.1), (Kd.fresh' (Kd.N_lt (zn HO_653002.out)) k_ hk_.1), (Kd.freshB (g := gb624) (o := .cells #[.int .i64 t620, .slice Ao16 t621.length co16] 31 (0, 0)) (zk BK624.out) k_ hk_.1), (Kd.freshB (g := gb641) (o := .cells #[.slice Ao23 t631.length co23, .slice Ao26 t634.length co26, .slice Ao27 t637.length co27] 28 (0, 0)) (zk BK641.out) k_ hk_.1), (Kd.freshB (g := gb652) (o := .cells #[.slice Ao31 t642.length co31, .slice Ao35 t645.length co35, .slice Ao36 t648.length co36] 28 (0, 0)) (zk BK652.out) k_ hk_.1)⟩)) (below_size (zb3 HB.out GE624.out GE641.out GE652.out))); have n11_ := Aside0.mk (blk_below (g := gb624) (o := .cells #[.int .i64 t620, .slice Ao16 t621.length co16] 31 (0, 0)) (zk BK624.out) hb); have n12_ := Aside0.mk (blk_below (g := gb641) (o := .cells #[.slice Ao23 t631.length co23, .slice Ao26 t634.length co26, .slice Ao27 t637.length co27] 28 (0, 0)) (zk BK641.out) hb); have n13_ := Aside0.mk (blk_below (g := gb652) (o := .cells #[.slice Ao31 t642.length co31, .slice Ao35 t645.length co35, .slice Ao36 t648.length co36] 28 (0, 0)) (zk BK652.out) hb); have n14_ := Aside0.mk (below_step (zb3 HB.out GE624.out GE641.out GE652.out) hb); clear HO_6; clear HO_625001; clear HO_642000; clear HO_642001; clear HO_642002; clear HO_653000; clear HO_653001; clear HO_653002; clear BK624; clear BK641; clear BK652; clear HB; have HO_6 := n0_; have HO_625001 := n1_; have HO_642000 := n2_; have HO_642001 := n3_; have HO_642002 := n4_; have HO_653000 := n5_; have HO_653001 := n6_; have HO_653002 := n7_; have HO662 := n8_; have HO665 := n9_; have HO668 := n10_; have BK624 := n11_; have BK641 := n12_; have BK652 := n13_; have HB := n14_; clear n0_ n1_ n2_ n3_ n4_ n5_ n6_ n7_ n8_ n9_ n10_ n11_ n12_ n13_ n14_; (try clear hb); (try clear hb2); (try clear hk); (try clear hi); (try clear ho0); (try clear ho1); (try clear ho2)) | ((with_reducible refine gate_dst (N := 16) rfl ?_); (try (refine gate_guard (by rfl) ?_; dsimp only)); refine box_event ?hg (N := 16) ?hd (cs := #[.slice none 0 0, .slice none 0 0, .slice none 0 0]) (t := 28) ?hr ?_; (case hd => rfl); (case hg => rfl); (case hr => first | (go_simp; done) | (go_simp; rfl)); intro gb671 hg w99 hbox hb; have n0_ := Aside0.mk (Kd.R_below (zr HO_6.out) hb); have n1_ := Aside0.mk (Kd.N_below (Kd.N_elderB (zn HO_625001.out) gb671 (Nat.le_of_eq hg.symm)) hb); have n2_ := Aside0.mk (Kd.R_below (zr HO_642000.out) hb); have n3_ := Aside0.mk (Kd.N_below (Kd.N_elderB (zn HO_642001.out) gb671 (Nat.le_of_eq hg.symm)) hb); have n4_ := Aside0.mk (Kd.N_below (Kd.N_elderB (zn HO_642002.out) gb671 (Nat.le_of_eq hg.symm)) hb); have n5_ := Aside0.mk (Kd.R_below (zr HO_653000.out) hb); have n6_ := Aside0.mk (Kd.N_below (Kd.N_elderB (zn HO_653001.out) gb671 (Nat.le_of_eq hg.symm)) hb); have n7_ := Aside0.mk (Kd.N_below (Kd.N_elderB (zn HO_653002.out) gb671 (Nat.le_of_eq hg.symm)) hb); have n8_ := Aside0.mk (Kd.R_below (zr HO662.out) hb); have n9_ := Aside0.mk (Kd.N_below (Kd.N_elderB (zn HO665.out) gb671 (Nat.le_of_eq hg.symm)) hb); have n10_ := Aside0.mk (Kd.N_below (Kd.N_elderB (zn HO668.out) gb671 (Nat.le_of_eq hg.symm)) hb); have n11_ := Aside0.mk (blk_below (g := gb624) (o := .cells #[.int .i64 t620, .slice Ao16 t621.length co16] 31 (0, 0)) (zk BK624.out) hb); have n12_ := Aside0.mk (blk_below (g := gb641) (o := .cells #[.slice Ao23 t631.length co23, .slice Ao26 t634.length co26, .slice Ao27 t637.length co27] 28 (0, 0)) (zk BK641.out) hb); have n13_ := Aside0.mk (blk_below (g := gb652) (o := .cells #[.slice Ao31 t642.length co31, .slice Ao35 t645.length co35, .slice Ao36 t648.length co36] 28 (0, 0)) (zk BK652.out) hb); have n14_ := Aside0.mk (below_step (zb3 HB.out GE624.out GE641.out GE652.out) hb); have n15_ := Aside0.mk (hbox); have n16_ := Aside0.mk ((by rw [hg]; exact (below_size (zb3 HB.out GE624.out GE641.out GE652.out)) : w.heap.size ≤ gb671)); have n17_ := Aside0.mk ((by rw [hg]; exact (below_size (zb3 HB.out GE624.out GE641.out GE652.out)) : w.heap.size ≤ gb671)); have n18_ := Aside0.mk ((by rw [hg]; exact Nat.ne_of_lt (blk_lt (g := gb624) (o := .cells #[.int .i64 t620, .slice Ao16 t621.length co16] 31 (0, 0)) (zk BK624.out)) : gb624 ≠ gb671)); have n19_ := Aside0.mk ((by rw [hg]; exact Nat.ne_of_gt (blk_lt (g := gb624) (o := .cells #[.int .i64 t620, .slice Ao16 t621.length co16] 31 (0, 0)) (zk BK624.out)) : gb671 ≠ gb624)); have n20_ := Aside0.mk ((by rw [hg]; exact Nat.ne_of_lt (blk_lt (g := gb641) (o := .cells #[.slice Ao23 t631.length co23, .slice Ao26 t634.length co26, .slice Ao27 t637.length co27] 28 (0, 0)) (zk BK641.out)) : gb641 ≠ gb671)); have n21_ := Aside0.mk ((by rw [hg]; exact Nat.ne_of_gt (blk_lt (g := gb641) (o := .cells #[.slice Ao23 t631.length co23, .slice Ao26 t634.length co26, .slice Ao27 t637.length co27] 28 (0, 0)) (zk BK641.out)) : gb671 ≠ gb641)); have n22_ := Aside0.mk ((by rw [hg]; exact Nat.ne_of_lt (blk_lt (g := gb652) (o := .cells #[.slice Ao31 t642.length co31, .slice Ao35 t645.length co35, .slice Ao36 t648.length co36] 28 (0, 0)) (zk BK652.out)) : gb652 ≠ gb671)); have n23_ := Aside0.mk ((by rw [hg]; exact Nat.ne_of_gt (blk_lt (g := gb652) (o := .cells #[.slice Ao31 t642.length co31, .slice Ao35 t645.length co35, .slice Ao36 t648.length co36] 28 (0, 0)) (zk BK652.out)) : gb671 ≠ gb652)); clear HO_6; clear HO_625001; clear HO_642000; clear HO_642001; clear HO_642002; clear HO_653000; clear HO_653001; clear HO_653002; clear HO662; clear HO665; clear HO668; clear BK624; clear BK641; clear BK652; clear HB; have HO_6 := n0_; have HO_625001 := n1_; have HO_642000 := n2_; have HO_642001 := n3_; have HO_642002 := n4_; have HO_653000 := n5_; have HO_653001 := n6_; have HO_653002 := n7_; have HO662 := n8_; have HO665 := n9_; have HO668 := n10_; have BK624 := n11_; have BK641 := n12_; have BK652 := n13_; have HB := n14_; have BK671 := n15_; have GW671 := n16_; have GE671 := n17_; have NB624_671 := n18_; have NB671_624 := n19_; have NB641_671 := n20_; have NB671_641 := n21_; have NB652_671 := n22_; have NB671_652 := n23_; clear n0_ n1_ n2_ n3_ n4_ n5_ n6_ n7_ n8_ n9_ n10_ n11_ n12_ n13_ n14_ n15_ n16_ n17_ n18_ n19_ n20_ n21_ n22_ n23_; clear hb hbox hg; obtain ⟨Ao100, co100, eo100⟩ := Kd.R_slice HO662.out; subst eo100; have hnb101 := NB671_624.out; have hnc101 := NB624_671.out; have hnb102 := NB671_641.out; have hnc102 := NB641_671.out; have hnb103 := NB671_652.out; have hnc103 := NB652_671.out; have hcz104_0 : w99.cell? ⟨gb671, 0, none⟩ = some (.slice none 0 0) := (blk_cell BK671.out 0).trans rfl; have hcz104_1 : w99.cell? ⟨gb671, 1, none⟩ = some (.slice none 0 0) := (blk_cell BK671.out 1).trans rfl; have hcz104_2 : w99.cell? ⟨gb671, 2, none⟩ = some (.slice none 0 0) := (blk_cell BK671.out 2).trans rfl; have hfz104_0 := blk_frozen BK671.out 0; have hfz104_1 := blk_frozen BK671.out 1; have hfz104_2 := blk_frozen BK671.out 2; obtain ⟨Ao105, co105, eo105⟩ := Kd.N_slice HO665.out; subst eo105; obtain ⟨Ao106, co106, eo106⟩ := Kd.N_slice HO668.out; subst eo106))
              go_ret
              exact ⟨ze, zb4 HB.out GE624.out GE641.out GE652.out GE671.out⟩
            ·rw [if_neg c67] at H
             have c67b0 : decide (0 < (t660.length : Int)) = false := decide_eq_false c67
             have c67b1 : decide (0 < t660.length) = false := decide_eq_false (by omega)
             clear c67
             obtain rfl := Option.some.inj H
             exact absurd HRT.out (by decide)
           ·rw [if_neg c66] at H
            have c66b0 : (t670 == 0) = false := beq_eq_false_iff_ne.mpr c66
            have c66b1 : (t670 != 0) = true := bne_iff_ne.mpr c66
            obtain rfl := Option.some.inj H
            exact absurd HRT.out (by decide)
          ·rw [if_neg c65] at H
           have c65b0 : (t656 == t658) = false := beq_eq_false_iff_ne.mpr c65
           have c65b1 : (t656 != t658) = true := bne_iff_ne.mpr c65
           obtain rfl := Option.some.inj H
           exact absurd HRT.out (by decide)
         ·rw [if_neg c64] at H
          have c64b0 : (t657 == 0) = false := beq_eq_false_iff_ne.mpr c64
          have c64b1 : (t657 != 0) = true := bne_iff_ne.mpr c64
          obtain rfl := Option.some.inj H
          exact absurd HRT.out (by decide)
        ·rw [if_neg c63] at H
         have c63b0 : (t657 == t659) = false := beq_eq_false_iff_ne.mpr c63
         have c63b1 : (t657 != t659) = true := bne_iff_ne.mpr c63
         obtain rfl := Option.some.inj H
         exact absurd HRT.out (by decide)
       ·rw [if_neg c59] at H
        have c59b0 : (t640 == 0) = false := beq_eq_false_iff_ne.mpr c59
        have c59b1 : (t640 != 0) = true := bne_iff_ne.mpr c59
        obtain rfl := Option.some.inj H
        go_wp2
        go_ret
        exact ⟨ze, zb3 HB.out GE624.out GE641.out GE652.out⟩
def laws_FnSequences.Pure : Prop := ∀ (l0 : List Int) (l1 : List Int), l0.length ≤ maxLen → l0.length * 1 ≤ 140737488351232 → (∀ x ∈ l0, (Lit.int .u8 x).wf = true) → l1.length ≤ maxLen → l1.length * 1 ≤ 140737488351232 → (∀ x ∈ l1, (Lit.int .u8 x).wf = true) → ∃ k, laws_FnSequences.f k l0 l1 = some true
theorem laws_FnSequences.walk (P : laws_FnSequences.Pure) (a0 : Option Addr) (len0 cap0 : Nat) (z0 : List Int) (a1 : Option Addr) (len1 cap1 : Nat) (z1 : List Int) (w : World) (w0 : (a0 = none ∧ len0 = 0 ∧ cap0 = 0 ∧ z0 = []) ∨ ∃ x, a0 = some x ∧ len0 ≤ cap0 ∧ cap0 ≤ maxLen ∧ z0.length = cap0 ∧ (∀ i, i < z0.length → w.cell? (x.add i) = some (.int .u8 (z0.getD i 0))) ∧ ∀ n ∈ z0, (Lit.int .u8 n).wf = true) (y0 : len0 * 1 ≤ 140737488351232) (w1 : (a1 = none ∧ len1 = 0 ∧ cap1 = 0 ∧ z1 = []) ∨ ∃ x, a1 = some x ∧ len1 ≤ cap1 ∧ cap1 ≤ maxLen ∧ z1.length = cap1 ∧ (∀ i, i < z1.length → w.cell? (x.add i) = some (.int .u8 (z1.getD i 0))) ∧ ∀ n ∈ z1, (Lit.int .u8 n).wf = true) (y1 : len1 * 1 ≤ 140737488351232) :
    Calls Try.prog 4 #[.slice a0 len0 cap0, .slice a1 len1 cap1] w fun e w' => e = .returned (.bool true) ∧ Below w.heap.size w w' := by
  obtain ⟨l0, rfl, hr0, hm0, hw0, hc0⟩ := ReadsInt.ofRowC w0
  obtain ⟨l1, rfl, hr1, hm1, hw1, hc1⟩ := ReadsInt.ofRowC w1
  obtain ⟨k, h⟩ := P l0 l1 hm0 y0 hw0 hm1 y1 hw1
  refine (laws_FnSequences.calls k _ _ l0 _ _ l1 true w (Kd.C_of_reads (d := (0 : Int)) (h1 := fun _ => rfl) hr0) hc0 (Kd.C_of_reads (d := (0 : Int)) (h1 := fun _ => rfl) hr1) hc1 h rfl).mono ?_
  rintro e w' ⟨rfl, hd⟩
  exact ⟨rfl, hd⟩
end Go.Proofs.Ytmbeijjkfmgkpaa.Q
namespace Go.Proofs.Ytmbeijjkfmgkpaa.Pure
set_option linter.unusedVariables false
open Go.RowKit Go.Proofs.Ytmbeijjkfmgkpaa.Q Go.Proofs.YtmbeijjkfmgkpaaW.PrintWords Go.Proofs.YtmbeijjkfmgkpaaW.PrintLast
theorem byteOf (x : Int) (hw : (Lit.int .u8 x).wf = true) : 0 ≤ x ∧ x < 256 := by
  simp only [Lit.wf, Bool.and_eq_true, decide_eq_true_eq] at hw
  have m1 : IntKind.u8.min = 0 := by decide
  have m2 : IntKind.u8.max = 255 := by decide
  omega
theorem and255 (x : Int) : 0 ≤ Go.bits .and .u64 x 255 ∧ Go.bits .and .u64 x 255 < 256 := by
  have h : Go.bits .and .u64 x 255 = IntKind.u64.wrap (((BitVec.ofInt 64 x) &&& (BitVec.ofInt 64 255)).toNat : Int) := rfl
  have h2 : ((BitVec.ofInt 64 x) &&& (BitVec.ofInt 64 255)).toNat ≤ 255 := by
    rw [BitVec.toNat_and]
    exact Nat.le_trans Nat.and_le_right (by decide)
  rw [h]
  generalize ((BitVec.ofInt 64 x) &&& (BitVec.ofInt 64 255)).toNat = q at h2
  simp only [IntKind.wrap, IntKind.bits, IntKind.signed]
  simp
  omega
theorem next_ok (l0 : List Int) (hl : l0.length ≤ 4096) (hw : ∀ x ∈ l0, (Lit.int .u8 x).wf = true) (p : Nat) (hp : p ≤ 100000) (s : Int) :
    ∃ b s', spec_l00Src_next.f l0 p s = some (b, ((p + 1 : Nat) : Int), s') ∧ 0 ≤ b ∧ b < 256 := by
  have hwr : wrap64 ((p : Int) + 1) = ((p + 1 : Nat) : Int) := by unfold wrap64; omega
  have hand : ∀ x, 0 ≤ wrap64 (Go.bits .and .u64 x 255) ∧ wrap64 (Go.bits .and .u64 x 255) < 256 := fun x => by
    have := and255 x
    unfold wrap64
    omega
  unfold spec_l00Src_next.f
  rw [hwr]
  by_cases c : (p : Int) < (l0.length : Int)
  · have hpl : p < l0.length := by omega
    have hx := byteOf _ (hw _ (List.getElem_mem hpl))
    have hr : wrap64 (rd l0 (p : Int)) = l0[p] := by
      have : rd l0 (p : Int) = l0[p] := by simp [rd, List.getD_eq_getElem?_getD, hpl]
      rw [this]; unfold wrap64; omega
    rw [if_pos c, if_pos (by omega), if_pos (by omega), hr]
    exact ⟨_, _, rfl, hx.1, hx.2⟩
  · rw [if_neg c]
    by_cases c2 : ((p + 1 : Nat) : Int) ≤ (l0.length : Int)
    · omega
    · rw [if_neg c2]
      exact ⟨_, _, rfl, (hand _).1, (hand _).2⟩
theorem pick_ok (l0 : List Int) (hl : l0.length ≤ 4096) (hw : ∀ x ∈ l0, (Lit.int .u8 x).wf = true) (p : Nat) (hp : p ≤ 100000) (s : Int) (m : Nat) (h1 : 1 ≤ m) (h2 : m ≤ 200) :
    ∃ (v p' : Nat) (s' : Int), spec_l00Src_pick.f l0 p s m = some ((v : Int), (p' : Int), s') ∧ v < m ∧ p' ≤ p + 1 := by
  unfold spec_l00Src_pick.f
  by_cases c : (m : Int) ≤ 1
  · rw [if_pos c]
    exact ⟨0, p, s, rfl, by omega, by omega⟩
  · obtain ⟨b, s', e, hb0, hb1⟩ := next_ok l0 hl hw p hp s
    have hm : Int.tmod b m = b % m := Int.tmod_eq_emod_of_nonneg hb0
    have a0 : 0 ≤ b % (m : Int) := Int.emod_nonneg _ (by omega)
    have a1 : b % (m : Int) < m := Int.emod_lt_of_pos _ (by omega)
    rw [if_neg c, e, Option.bind_some, if_neg (by omega), if_neg (by omega)]
    refine ⟨(b % (m : Int)).toNat, p + 1, s', ?_, by omega, by omega⟩
    simp only [hm]
    rw [Int.toNat_of_nonneg a0]
theorem leO_le {α : Type} {f : Nat → Option α} (h : ∀ k, LeO (f k) (f (k + 1))) {a b : Nat} (hab : a ≤ b) {r : α} (hr : f a = some r) : f b = some r := by
  induction hab with
  | refl => exact hr
  | step _ ih => exact h _ _ ih
def maskOf (g : List Int) : Int := (spec_l01Bits.f 9 g).getD 0
def tableOf (n : Nat) (gs : List (List Int)) : List Bool := (List.range (2 ^ n)).map fun b : Nat => gs.any fun g => Go.bits .and .i64 (maskOf g) b == maskOf g
theorem w64_succ (b : Nat) (h : b < 1000000) : wrap64 ((b : Int) + 1) = ((b + 1 : Nat) : Int) := by unfold wrap64; omega
theorem table_l1 (gs : List (List Int)) (hgs : ∀ g, g ∈ gs → spec_l01Bits.f 9 g = some (maskOf g)) (hlen : gs.length < 1000) (n : Int) (b : Nat) (hb : b < 1000) :
  ∀ (m i : Nat), gs.length = i + m → ∀ (x3 : List Bool), b < x3.length → x3.length < 1000 → ∀ (k : Nat) (r : List Bool), x3.getD b false = false →
   spec_l01Table.l0 k (x3.set b ((gs.drop i).any fun g => Go.bits .and .i64 (maskOf g) b == maskOf g)) ((b + 1 : Nat) : Int) n gs = some r → spec_l01Table.l1 (k + m + 10) x3 (b : Int) (i : Int) n gs = some r := by
 intro m
 induction m with
 | zero =>
  intro i hi x3 hbx hx k r h0 h
  have hd : gs.drop i = [] := List.drop_eq_nil_of_le (by omega)
  rw [hd] at h
  have hs : x3.set b (([] : List (List Int)).any fun g => Go.bits .and .i64 (maskOf g) b == maskOf g) = x3 := by
   apply List.ext_getElem?
   intro j
   rw [List.getElem?_set]
   split
   ·rename_i e
    subst e
    rw [List.getD_eq_getElem?_getD, List.getElem?_eq_getElem hbx] at h0
    simp at h0
    simp [hbx, h0]
   ·rfl
  rw [hs] at h
  rw [show k + 0 + 10 = (k + 9) + 1 by omega]
  unfold spec_l01Table.l1
  rw [if_neg (by omega), w64_succ b (by omega)]
  exact leO_le (f := fun k => spec_l01Table.l0 k x3 ((b + 1 : Nat) : Int) n gs) (fun k => (spec_l01Table.mono_l k).1 _ _ _ _) (by omega) h
 | succ m ih =>
  intro i hi x3 hbx hx k r h0 h
  have hil : i < gs.length := by omega
  have hg := hgs gs[i] (List.getElem_mem hil)
  have hr : rd_L1 gs (i : Int) = gs[i] := by simp [rd_L1, List.getD_eq_getElem?_getD, hil]
  have hb0 : rdOf false x3 (b : Int) = false := by simpa [rdOf] using h0
  rw [show k + (m + 1) + 10 = (k + m + 10) + 1 by omega]
  unfold spec_l01Table.l1
  rw [if_pos (by omega), if_pos (by omega), if_pos (by omega), hb0, if_neg (by decide), if_pos (by omega), hr, leO_le (f := fun k => spec_l01Bits.f k gs[i]) (fun k => spec_l01Bits.mono _ k) (show 9 ≤ k + m + 10 by omega) hg, Option.bind_some, w64_succ i (by omega), Int.toNat_natCast]
  rw [List.drop_eq_getElem_cons hil, List.any_cons] at h
  have self : ∀ v : Bool, (x3.set b v).length = x3.length := fun v => List.length_set
  cases hp : (Go.bits .and .i64 (maskOf gs[i]) b == maskOf gs[i]) with
  | true =>
   rw [hp, Bool.true_or] at h
   rw [show k + m + 10 = (k + m + 9) + 1 by omega]
   have h9 := leO_le (f := fun k => spec_l01Table.l0 k (x3.set b true) ((b + 1 : Nat) : Int) n gs) (fun k => (spec_l01Table.mono_l k).1 _ _ _ _) (show k ≤ k + m + 9 by omega) h
   unfold spec_l01Table.l1
   by_cases c : ((i + 1 : Nat) : Int) < (gs.length : Int)
   ·have hrd : rdOf false (x3.set b true) (b : Int) = true := by simp [rdOf, hbx]
    rw [if_pos c, if_pos (by omega), if_pos (by rw [self]; omega), hrd, if_pos rfl, w64_succ b (by omega)]
    exact h9
   ·rw [if_neg c, w64_succ b (by omega)]
    exact h9
  | false =>
   rw [hp, Bool.false_or] at h
   have hs : x3.set b false = x3 := by
    apply List.ext_getElem?
    intro j
    rw [List.getElem?_set]
    split
    ·rename_i e
     subst e
     rw [List.getD_eq_getElem?_getD, List.getElem?_eq_getElem hbx] at h0
     simp at h0
     simp [hbx, h0]
    ·rfl
   rw [hs]
   exact ih (i + 1) (by omega) x3 hbx hx k r h0 h
theorem table_l0 (gs : List (List Int)) (hgs : ∀ g, g ∈ gs → spec_l01Bits.f 9 g = some (maskOf g)) (hlen : gs.length < 1000) (n : Int) (P : Nat → Bool) (hP : ∀ b : Nat, P b = gs.any fun g => Go.bits .and .i64 (maskOf g) b == maskOf g) :
    ∀ (d b : Nat), b + d < 1000 → spec_l01Table.l0 (1 + d * (gs.length + 11)) ((List.range b).map P ++ List.replicate d false) (b : Int) n gs = some ((List.range (b + d)).map P) := by
  intro d
  induction d with
  | zero =>
    intro b hb
    rw [show 1 + 0 * (gs.length + 11) = 0 + 1 by omega]
    unfold spec_l01Table.l0
    rw [if_neg (by simp)]
    simp
  | succ d ih =>
    intro b hb
    have hl : ((List.range b).map P ++ List.replicate (d + 1) false).length = b + (d + 1) := by simp
    have h := ih (b + 1) (by omega)
    have hset : ((List.range b).map P ++ List.replicate (d + 1) false).set b (gs.any fun g => Go.bits .and .i64 (maskOf g) b == maskOf g) = (List.range (b + 1)).map P ++ List.replicate d false := by
      rw [← hP b, List.range_succ, List.map_append, List.append_assoc, List.set_append_right _ _ (by simp), List.replicate_succ]
      simp
    have h0 : ((List.range b).map P ++ List.replicate (d + 1) false).getD b false = false := by
      rw [List.getD_eq_getElem?_getD, List.getElem?_append_right (by simp)]
      simp
    rw [show 1 + (d + 1) * (gs.length + 11) = ((1 + d * (gs.length + 11)) + gs.length + 10) + 1 by rw [Nat.add_mul]; omega]
    unfold spec_l01Table.l0
    rw [if_pos (by rw [hl]; omega)]
    have h1 := table_l1 gs hgs hlen n b (by omega) gs.length 0 (by omega) _ (by rw [hl]; omega) (by rw [hl]; omega) _ _ h0 (by rw [List.drop_zero, hset]; exact h)
    rw [show b + 1 + d = b + (d + 1) by omega] at h1
    exact h1
theorem table_f (n : Nat) (hn : n ≤ 7) (gs : List (List Int)) (hgs : ∀ g, g ∈ gs → spec_l01Bits.f 9 g = some (maskOf g)) (hlen : gs.length ≤ 4) (k : Nat) (hk : 2000 ≤ k) : spec_l01Table.f k n gs = some (tableOf n gs) := by
  have hs : ∀ n : Nat, n < 8 → 0 ≤ IntKind.u64.wrap (n : Int) ∧ shl .i64 1 (IntKind.u64.wrap (n : Int)) = ((2 ^ n : Nat) : Int) := by decide
  obtain ⟨s1, s2⟩ := hs n (by omega)
  have hp : 2 ^ n ≤ 128 := Nat.le_trans (Nat.pow_le_pow_right (by omega) hn) (by decide)
  unfold spec_l01Table.f
  rw [if_pos s1, s2, if_pos (Int.natCast_nonneg _), if_pos (by rw [Int.toNat_natCast]; omega), Int.toNat_natCast]
  have h := table_l0 gs hgs (by omega) n (fun b => gs.any fun g => Go.bits .and .i64 (maskOf g) b == maskOf g) (fun _ => rfl) (2 ^ n) 0 (by omega)
  rw [Nat.zero_add] at h
  have h2 : (2 ^ n) * (gs.length + 11) ≤ 128 * 15 := Nat.mul_le_mul hp (by omega)
  exact leO_le (f := fun k => spec_l01Table.l0 k (List.replicate (2 ^ n) false) 0 n gs) (fun k => (spec_l01Table.mono_l k).1 _ _ _ _) (by omega) h
def lists : Nat → List (List Int)
  | 0 => [[]]
  | h + 1 => lists h ++ (lists h).map fun g => g ++ [(h : Int)]
def groups (n : Nat) : List (List Int) := (lists n).filter fun g => !g.isEmpty
def tabOr (s t : List Bool) : List Bool := List.zipWith (· || ·) s t
theorem bits_all : ∀ n : Nat, n < 5 → ∀ g ∈ groups n, spec_l01Bits.f 9 g = some (maskOf g) := by decide +kernel
theorem one_ok (l0 : List Int) (hl : l0.length ≤ 4096) (hw : ∀ x ∈ l0, (Lit.int .u8 x).wf = true) (p : Nat) (hp : p ≤ 100000) (s : Int) (m : Nat) (h1 : 1 ≤ m) (h2 : m ≤ 200) :
    ∃ (b : Bool) (p' : Nat) (s' : Int), spec_l00Src_one.f l0 p s m = some (b, (p' : Int), s') ∧ p' ≤ p + 1 := by
  obtain ⟨v, p', s', e, _, h⟩ := pick_ok l0 hl hw p hp s m h1 h2
  unfold spec_l00Src_one.f
  rw [e, Option.bind_some]
  exact ⟨_, p', s', rfl, h⟩
theorem w64_s (b : Nat) (h : b < 1000000) : wrap64 ((b : Int) + 1) = ((b + 1 : Nat) : Int) := by unfold wrap64; omega
theorem singles : ∀ n : Nat, n < 5 → ∀ v : Nat, v < n → [(v : Int)] ∈ groups n := by decide +kernel
theorem draw_l1 (l0 : List Int) (hl : l0.length ≤ 4096) (hw : ∀ x ∈ l0, (Lit.int .u8 x).wf = true) (n : Nat) (hn1 : 1 ≤ n) (hn : n ≤ 4) (x6 : List (List Int)) (h6 : x6.length ≤ 1000) (x7 : Int) (k : Nat) :
  ∀ (d h : Nat), h + d = n → ∀ (x8 : List Int), x8 ∈ lists h → x8.length ≤ h → ∀ (p : Nat) (s : Int), p + d ≤ 1000 →
   ∃ g ∈ groups n, ∃ (p' : Nat) (s' : Int), p' ≤ p + d + 1 ∧ spec_l07Draw.l1 (k + d + 1) n x6 x7 x8 h l0 p s = spec_l07Draw.l0 k n (x6 ++ [g]) (wrap64 (x7 - 1)) l0 p' s' := by
 intro d
 induction d with
 | zero =>
  intro h hh x8 h8 hlen p s hp
  obtain rfl : h = n := by omega
  unfold spec_l07Draw.l1
  rw [if_neg (by omega)]
  by_cases c : (x8.length : Int) = 0
  ·obtain ⟨v, p', s', e, hv, hpp⟩ := pick_ok l0 hl hw p (by omega) s h (by omega) (by omega)
   have hx : x8 = [] := List.eq_nil_of_length_eq_zero (by omega)
   subst hx
   rw [if_pos c, e, Option.bind_some, if_pos (by simp), if_pos (by omega)]
   refine ⟨[(v : Int)], ?_, p', s', by omega, rfl⟩
   exact singles h (by omega) v hv
  ·rw [if_neg c, if_pos (by omega)]
   refine ⟨x8, ?_, p, s, by omega, rfl⟩
   unfold groups
   rw [List.mem_filter]
   refine ⟨h8, ?_⟩
   cases x8 with
   | nil => simp at c
   | cons => rfl
 | succ d ih =>
  intro h hh x8 h8 hlen p s hp
  obtain ⟨b, p', s', e, hpp⟩ := one_ok l0 hl hw p (by omega) s 2 (by omega) (by omega)
  rw [show ((2 : Nat) : Int) = 2 from rfl] at e
  rw [show k + (d + 1) + 1 = (k + d + 1) + 1 by omega]
  unfold spec_l07Draw.l1
  rw [if_pos (by omega), e, Option.bind_some]
  cases b with
  | true =>
   rw [if_pos rfl, if_pos (by omega), w64_s h (by omega)]
   obtain ⟨g, hg, p2, s2, h2, e2⟩ := ih (h + 1) (by omega) (x8 ++ [(h : Int)]) (by simp [lists, h8]) (by simp; omega) p' s' (by omega)
   exact ⟨g, hg, p2, s2, by omega, e2⟩
  | false =>
   rw [if_neg (by simp), w64_s h (by omega)]
   obtain ⟨g, hg, p2, s2, h2, e2⟩ := ih (h + 1) (by omega) x8 (by simp [lists, h8]) (by omega) p' s' (by omega)
   exact ⟨g, hg, p2, s2, by omega, e2⟩
def fams : List (Int × List (List Int)) := [
 (1, [[0]]), (2, [[0,1]]), (2, [[0]]), (2, [[1]]), (2, [[0],[1]]), (3, [[0,1,2]]), (3, [[0,1]]), (3, [[0,2]]),
 (3, [[0,1],[0,2]]), (3, [[0]]), (3, [[1,2]]), (3, [[0,1],[1,2]]), (3, [[1]]), (3, [[0,2],[1,2]]),
 (3, [[0,1],[0,2],[1,2]]), (3, [[0],[1,2]]), (3, [[0,2],[1]]), (3, [[0],[1]]), (3, [[2]]), (3, [[0,1],[2]]),
 (3, [[0],[2]]), (3, [[1],[2]]), (3, [[0],[1],[2]]), (4, [[0,1,2,3]]), (4, [[0,1,2]]), (4, [[0,1,3]]),
 (4, [[0,1,2],[0,1,3]]), (4, [[0,1]]), (4, [[0,2,3]]), (4, [[0,1,2],[0,2,3]]), (4, [[0,2]]),
 (4, [[0,1,3],[0,2,3]]), (4, [[0,1,2],[0,1,3],[0,2,3]]), (4, [[0,1],[0,2,3]]), (4, [[0,1,3],[0,2]]),
 (4, [[0,1],[0,2]]), (4, [[0,3]]), (4, [[0,1,2],[0,3]]), (4, [[0,1],[0,3]]), (4, [[0,2],[0,3]]),
 (4, [[0,1],[0,2],[0,3]]), (4, [[0]]), (4, [[1,2,3]]), (4, [[0,1,2],[1,2,3]]), (4, [[1,2]]),
 (4, [[0,1,3],[1,2,3]]), (4, [[0,1,2],[0,1,3],[1,2,3]]), (4, [[0,1],[1,2,3]]), (4, [[0,1,3],[1,2]]),
 (4, [[0,1],[1,2]]), (4, [[1,3]]), (4, [[0,1,2],[1,3]]), (4, [[0,1],[1,3]]), (4, [[1,2],[1,3]]),
 (4, [[0,1],[1,2],[1,3]]), (4, [[1]]), (4, [[0,2,3],[1,2,3]]), (4, [[0,1,2],[0,2,3],[1,2,3]]),
 (4, [[0,2],[1,2,3]]), (4, [[0,2,3],[1,2]]), (4, [[0,2],[1,2]]), (4, [[0,1,3],[0,2,3],[1,2,3]]),
 (4, [[0,1,2],[0,1,3],[0,2,3],[1,2,3]]), (4, [[0,1],[0,2,3],[1,2,3]]), (4, [[0,1,3],[0,2],[1,2,3]]),
 (4, [[0,1],[0,2],[1,2,3]]), (4, [[0,1,3],[0,2,3],[1,2]]), (4, [[0,1],[0,2,3],[1,2]]),
 (4, [[0,1,3],[0,2],[1,2]]), (4, [[0,1],[0,2],[1,2]]), (4, [[0,3],[1,2,3]]), (4, [[0,1,2],[0,3],[1,2,3]]),
 (4, [[0,1],[0,3],[1,2,3]]), (4, [[0,2],[0,3],[1,2,3]]), (4, [[0,1],[0,2],[0,3],[1,2,3]]), (4, [[0],[1,2,3]]),
 (4, [[0,3],[1,2]]), (4, [[0,1],[0,3],[1,2]]), (4, [[0,2],[0,3],[1,2]]), (4, [[0,1],[0,2],[0,3],[1,2]]),
 (4, [[0],[1,2]]), (4, [[0,2,3],[1,3]]), (4, [[0,1,2],[0,2,3],[1,3]]), (4, [[0,1],[0,2,3],[1,3]]),
 (4, [[0,2],[1,3]]), (4, [[0,1],[0,2],[1,3]]), (4, [[0,2,3],[1,2],[1,3]]), (4, [[0,1],[0,2,3],[1,2],[1,3]]),
 (4, [[0,2,3],[1]]), (4, [[0,2],[1,2],[1,3]]), (4, [[0,1],[0,2],[1,2],[1,3]]), (4, [[0,2],[1]]),
 (4, [[0,3],[1,3]]), (4, [[0,1,2],[0,3],[1,3]]), (4, [[0,1],[0,3],[1,3]]), (4, [[0,2],[0,3],[1,3]]),
 (4, [[0,1],[0,2],[0,3],[1,3]]), (4, [[0],[1,3]]), (4, [[0,3],[1,2],[1,3]]), (4, [[0,1],[0,3],[1,2],[1,3]]),
 (4, [[0,3],[1]]), (4, [[0,2],[0,3],[1,2],[1,3]]), (4, [[0,1],[0,2],[0,3],[1,2],[1,3]]), (4, [[0],[1,2],[1,3]]),
 (4, [[0,2],[0,3],[1]]), (4, [[0],[1]]), (4, [[2,3]]), (4, [[0,1,2],[2,3]]), (4, [[0,2],[2,3]]),
 (4, [[1,2],[2,3]]), (4, [[0,2],[1,2],[2,3]]), (4, [[2]]), (4, [[0,1,3],[2,3]]), (4, [[0,1,2],[0,1,3],[2,3]]),
 (4, [[0,1],[2,3]]), (4, [[0,1,3],[0,2],[2,3]]), (4, [[0,1],[0,2],[2,3]]), (4, [[0,1,3],[1,2],[2,3]]),
 (4, [[0,1],[1,2],[2,3]]), (4, [[0,1,3],[0,2],[1,2],[2,3]]), (4, [[0,1],[0,2],[1,2],[2,3]]), (4, [[0,1,3],[2]]),
 (4, [[0,1],[2]]), (4, [[0,3],[2,3]]), (4, [[0,1,2],[0,3],[2,3]]), (4, [[0,1],[0,3],[2,3]]),
 (4, [[0,2],[0,3],[2,3]]), (4, [[0,1],[0,2],[0,3],[2,3]]), (4, [[0],[2,3]]), (4, [[0,3],[1,2],[2,3]]),
 (4, [[0,1],[0,3],[1,2],[2,3]]), (4, [[0,2],[0,3],[1,2],[2,3]]), (4, [[0,1],[0,2],[0,3],[1,2],[2,3]]),
 (4, [[0],[1,2],[2,3]]), (4, [[0,3],[2]]), (4, [[0,1],[0,3],[2]]), (4, [[0],[2]]), (4, [[1,3],[2,3]]),
 (4, [[0,1,2],[1,3],[2,3]]), (4, [[0,1],[1,3],[2,3]]), (4, [[0,2],[1,3],[2,3]]), (4, [[0,1],[0,2],[1,3],[2,3]]),
 (4, [[1,2],[1,3],[2,3]]), (4, [[0,1],[1,2],[1,3],[2,3]]), (4, [[1],[2,3]]), (4, [[0,2],[1,2],[1,3],[2,3]]),
 (4, [[0,1],[0,2],[1,2],[1,3],[2,3]]), (4, [[0,2],[1],[2,3]]), (4, [[1,3],[2]]), (4, [[0,1],[1,3],[2]]),
 (4, [[1],[2]]), (4, [[0,3],[1,3],[2,3]]), (4, [[0,1,2],[0,3],[1,3],[2,3]]), (4, [[0,1],[0,3],[1,3],[2,3]]),
 (4, [[0,2],[0,3],[1,3],[2,3]]), (4, [[0,1],[0,2],[0,3],[1,3],[2,3]]), (4, [[0],[1,3],[2,3]]),
 (4, [[0,3],[1,2],[1,3],[2,3]]), (4, [[0,1],[0,3],[1,2],[1,3],[2,3]]), (4, [[0,3],[1],[2,3]]),
 (4, [[0,2],[0,3],[1,2],[1,3],[2,3]]), (4, [[0,1],[0,2],[0,3],[1,2],[1,3],[2,3]]), (4, [[0],[1,2],[1,3],[2,3]]),
 (4, [[0,2],[0,3],[1],[2,3]]), (4, [[0],[1],[2,3]]), (4, [[0,3],[1,3],[2]]), (4, [[0,1],[0,3],[1,3],[2]]),
 (4, [[0],[1,3],[2]]), (4, [[0,3],[1],[2]]), (4, [[0],[1],[2]]), (4, [[3]]), (4, [[0,1,2],[3]]),
 (4, [[0,1],[3]]), (4, [[0,2],[3]]), (4, [[0,1],[0,2],[3]]), (4, [[0],[3]]), (4, [[1,2],[3]]),
 (4, [[0,1],[1,2],[3]]), (4, [[1],[3]]), (4, [[0,2],[1,2],[3]]), (4, [[0,1],[0,2],[1,2],[3]]),
 (4, [[0],[1,2],[3]]), (4, [[0,2],[1],[3]]), (4, [[0],[1],[3]]), (4, [[2],[3]]), (4, [[0,1],[2],[3]]),
 (4, [[0],[2],[3]]), (4, [[1],[2],[3]]), (4, [[0],[1],[2],[3]])]
def L : Nat → List Nat
  | 1 => [2]
  | 2 => [8, 10, 12, 14]
  | 3 => [128, 136, 160, 168, 170, 192, 200, 204, 224, 232, 234, 236, 238, 240, 248, 250, 252, 254]
  | 4 => [32768, 32896, 34816, 34944, 34952, 40960, 41088, 41120, 43008, 43136, 43144, 43168, 43176, 43520, 43648, 43656, 43680, 43688, 43690, 49152, 49280, 49344, 51200, 51328, 51336, 51392, 51400, 52224, 52352, 52360, 52416, 52424, 52428, 57344, 57472, 57504, 57536, 57568, 59392, 59520, 59528, 59552, 59560, 59584, 59592, 59616, 59624, 59904, 60032, 60040, 60064, 60072, 60074, 60096, 60104, 60128, 60136, 60138, 60416, 60544, 60552, 60576, 60584, 60608, 60616, 60620, 60640, 60648, 60652, 60928, 61056, 61064, 61088, 61096, 61098, 61120, 61128, 61132, 61152, 61160, 61162, 61164, 61166, 61440, 61568, 61600, 61632, 61664, 61680, 63488, 63616, 63624, 63648, 63656, 63680, 63688, 63712, 63720, 63728, 63736, 64000, 64128, 64136, 64160, 64168, 64170, 64192, 64200, 64224, 64232, 64234, 64240, 64248, 64250, 64512, 64640, 64648, 64672, 64680, 64704, 64712, 64716, 64736, 64744, 64748, 64752, 64760, 64764, 65024, 65152, 65160, 65184, 65192, 65194, 65216, 65224, 65228, 65248, 65256, 65258, 65260, 65262, 65264, 65272, 65274, 65276, 65278, 65280, 65408, 65416, 65440, 65448, 65450, 65472, 65480, 65484, 65504, 65512, 65514, 65516, 65518, 65520, 65528, 65530, 65532, 65534]
  | _ => []
def ofMask (n m : Nat) : List Bool := (List.range (2 ^ n)).map m.testBit
def m1 (n : Nat) (g : List Int) : Nat := (List.range (2 ^ n)).foldr (fun (b acc : Nat) => if Go.bits .and .i64 (maskOf g) (b : Int) == maskOf g then acc + 2 ^ b else acc) 0
def fromOk (n : Nat) (m : Nat) : Bool := match spec_l01From.f 3000 n (ofMask n m) with | some r => fams.contains r | none => false
def thrOk (n l : Nat) : Bool := match spec_ThresholdFamily.f 3000 n ((l : Int) + 1) with | some r => fams.contains (r.1, r.2.1) | none => false
theorem fromAll0 : [1, 2, 3, 4].all (fun n => (L n).all (fromOk n)) = true := by decide +kernel
theorem oneAll0 : [1, 2, 3, 4].all (fun n => (groups n).all fun g => (L n).contains (m1 n g) && tableOf n [g] == ofMask n (m1 n g)) = true := by decide +kernel
theorem orAll0 : [1, 2, 3, 4].all (fun n => (groups n).all fun g => (L n).all fun m => (L n).contains (m ||| m1 n g)) = true := by decide +kernel
theorem thrAll0 : [1, 2, 3, 4].all (fun n => (List.range n).all (thrOk n)) = true := by decide +kernel
theorem four (n : Nat) (hn : n < 5) (hn1 : 1 ≤ n) : n ∈ [1, 2, 3, 4] := by
  match n, hn, hn1 with
  | 1, _, _ => simp
  | 2, _, _ => simp
  | 3, _, _ => simp
  | 4, _, _ => simp
theorem fromAll (n : Nat) (hn : n < 5) (hn1 : 1 ≤ n) : ∀ m ∈ L n, fromOk n m = true := fun m hm => List.all_eq_true.1 (List.all_eq_true.1 fromAll0 n (four n hn hn1)) m hm
theorem thrAll (n : Nat) (hn : n < 5) (hn1 : 1 ≤ n) (l : Nat) (hl : l < n) : thrOk n l = true :=
  List.all_eq_true.1 (List.all_eq_true.1 thrAll0 n (four n hn hn1)) l (List.mem_range.2 hl)
theorem zip_maps {α : Type} (f g : α → Bool) : ∀ l : List α, List.zipWith (· || ·) (l.map f) (l.map g) = l.map fun x => f x || g x := by
  intro l
  induction l with
  | nil => rfl
  | cons x l ih => simp [ih]
theorem table_cons (n : Nat) (g : List Int) (gs : List (List Int)) : tableOf n (g :: gs) = tabOr (tableOf n gs) (tableOf n [g]) := by
  unfold tableOf tabOr
  rw [zip_maps]
  refine List.map_congr_left fun b _ => ?_
  simp only [List.any_cons, List.any_nil, Bool.or_false]
  exact Bool.or_comm _ _
theorem ofMask_or (n a b : Nat) : ofMask n (a ||| b) = tabOr (ofMask n a) (ofMask n b) := by
  unfold ofMask tabOr
  rw [zip_maps]
  refine List.map_congr_left fun x _ => ?_
  exact Nat.testBit_or ..
theorem one_mem (n : Nat) (hn : n < 5) (hn1 : 1 ≤ n) (g : List Int) (hg : g ∈ groups n) : m1 n g ∈ L n ∧ tableOf n [g] = ofMask n (m1 n g) := by
  have h := List.all_eq_true.1 (List.all_eq_true.1 oneAll0 n (four n hn hn1)) g hg
  simp only [Bool.and_eq_true, List.contains_iff_mem, beq_iff_eq] at h
  exact h
theorem table_mem (n : Nat) (hn : n < 5) (hn1 : 1 ≤ n) : ∀ (gs : List (List Int)), (∀ g ∈ gs, g ∈ groups n) → 1 ≤ gs.length → ∃ m ∈ L n, tableOf n gs = ofMask n m := by
  intro gs
  induction gs with
  | nil => intro _ h; simp at h
  | cons g gs ih =>
    intro hg _
    obtain ⟨h1, e1⟩ := one_mem n hn hn1 g (hg g (by simp))
    by_cases c : 1 ≤ gs.length
    · obtain ⟨m, hm, e⟩ := ih (fun x hx => hg x (by simp [hx])) c
      refine ⟨m ||| m1 n g, ?_, ?_⟩
      · have h := List.all_eq_true.1 (List.all_eq_true.1 (List.all_eq_true.1 orAll0 n (four n hn hn1)) g (hg g (by simp))) m hm
        simpa using h
      · rw [table_cons, ofMask_or, e, e1]
    · have hx : gs = [] := List.eq_nil_of_length_eq_zero (by omega)
      subst hx
      exact ⟨_, h1, e1⟩
theorem groupOk : ∀ n : Nat, n < 5 → ∀ g ∈ groups n, spec_l01Group.f 20 n g = some true := by decide +kernel
theorem famOf_l0 (n : Nat) (hn1 : 1 ≤ n) (hn : n < 5) (gs : List (List Int)) (hg : ∀ g ∈ gs, g ∈ groups n) (h1 : 1 ≤ gs.length) (h4 : gs.length ≤ 4) (k : Nat) :
    ∀ (d i : Nat), i + d = gs.length → ∃ fam ∈ fams, spec_FamilyOf.l0 (3000 + k + d + 1) n gs i = some (fam.1, fam.2, 0) := by
  intro d
  induction d with
  | zero =>
    intro i hi
    unfold spec_FamilyOf.l0
    rw [if_neg (by omega), table_f n (by omega) gs (fun g h => bits_all n (by omega) g (hg g h)) h4 _ (by omega), Option.bind_some]
    obtain ⟨tm, htm, etm⟩ := table_mem n hn hn1 gs hg h1
    have h := fromAll n hn hn1 _ htm
    rw [etm]
    unfold fromOk at h
    split at h
    · rename_i r e
      rw [leO_le (f := fun k => spec_l01From.f k n (ofMask n tm)) (fun k => spec_l01From.mono _ _ k) (show 3000 ≤ 3000 + k by omega) e, Option.bind_some]
      exact ⟨r, by simpa using h, rfl⟩
    · exact absurd h (by simp)
  | succ d ih =>
    intro i hi
    have hil : i < gs.length := by omega
    have hr : rd_L1 gs (i : Int) = gs[i] := by simp [rd_L1, List.getD_eq_getElem?_getD, hil]
    obtain ⟨fam, hf, e⟩ := ih (i + 1) (by omega)
    refine ⟨fam, hf, ?_⟩
    rw [show 3000 + k + (d + 1) + 1 = (3000 + k + d + 1) + 1 by omega]
    unfold spec_FamilyOf.l0
    rw [if_pos (by omega), if_pos (by omega), hr, leO_le (f := fun k => spec_l01Group.f k n gs[i]) (fun k => spec_l01Group.mono _ _ k) (show 20 ≤ 3000 + k + d + 1 by omega) (groupOk n hn _ (hg _ (List.getElem_mem hil))), Option.bind_some, if_pos rfl, w64_s i (by omega)]
    exact e
theorem famOf (n : Nat) (hn1 : 1 ≤ n) (hn : n < 5) (gs : List (List Int)) (hg : ∀ g ∈ gs, g ∈ groups n) (h1 : 1 ≤ gs.length) (h4 : gs.length ≤ 4) (k : Nat) (hk : 3010 ≤ k) :
    ∃ fam ∈ fams, spec_FamilyOf.f k n gs = some (fam.1, fam.2, 0) := by
  obtain ⟨m, rfl⟩ : ∃ m, k = m + 3010 := ⟨k - 3010, by omega⟩
  have hin : spec_l00In.f (n : Int) 1 7 = some true := by
    unfold spec_l00In.f
    rw [if_pos (by omega)]
    simp; omega
  obtain ⟨fam, hf, e⟩ := famOf_l0 n hn1 hn gs hg h1 h4 (m + 9 - 1 - gs.length) gs.length 0 (by omega)
  refine ⟨fam, hf, ?_⟩
  unfold spec_FamilyOf.f
  rw [hin, Option.bind_some, if_pos rfl, show decide ((gs.length : Int) > 200) = false from decide_eq_false (by omega), show m + 3010 = (m + 3009) + 1 by omega]
  unfold spec_FamilyOf.j0
  simp only [Bool.false_eq_true, if_false]
  rw [show 3000 + (m + 9 - 1 - gs.length) + gs.length + 1 = m + 3009 by omega] at e
  exact e
theorem draw_l0 (l0 : List Int) (hl : l0.length ≤ 4096) (hw : ∀ x ∈ l0, (Lit.int .u8 x).wf = true) (n : Nat) (hn1 : 1 ≤ n) (hn : n ≤ 4) :
  ∀ (c : Nat) (gs : List (List Int)), (∀ g ∈ gs, g ∈ groups n) → 1 ≤ gs.length + c → gs.length + c ≤ 4 → ∀ (p : Nat) (s : Int), p + c * 10 ≤ 500 →
   ∃ fam ∈ fams, ∃ p' s', spec_l07Draw.l0 (3011 + c * (n + 2)) n gs c l0 p s = some (fam.1, fam.2, p', s') := by
 intro c
 induction c with
 | zero =>
  intro gs hg h1 h4 p s hp
  obtain ⟨b, p', s', e, hpp⟩ := one_ok l0 hl hw p (by omega) s 4 (by omega) (by omega)
  rw [show ((4 : Nat) : Int) = 4 from rfl] at e
  rw [show 3011 + 0 * (n + 2) = 3010 + 1 by omega]
  unfold spec_l07Draw.l0
  rw [if_neg (by simp), e, Option.bind_some]
  cases b with
  | true =>
   obtain ⟨v, p2, s2, e2, hv, hp2⟩ := pick_ok l0 hl hw p' (by omega) s' n (by omega) (by omega)
   rw [if_pos rfl, e2, Option.bind_some]
   have h := thrAll n (by omega) hn1 v hv
   unfold thrOk at h
   split at h
   ·rename_i r e3
    have hwv : wrap64 (1 + ((v : Nat) : Int)) = (v : Int) + 1 := by unfold wrap64; omega
    rw [hwv, leO_le (f := fun k => spec_ThresholdFamily.f k n ((v : Int) + 1)) (fun k => spec_ThresholdFamily.mono _ _ k) (show 3000 ≤ 3010 by omega) e3, Option.bind_some]
    exact ⟨(r.1, r.2.1), by simpa using h, p2, s2, rfl⟩
   ·exact absurd h (by simp)
  | false =>
   obtain ⟨fam, hf, e3⟩ := famOf n hn1 (by omega) gs hg (by omega) (by omega) 3010 (by omega)
   rw [if_neg (by simp), e3, Option.bind_some]
   exact ⟨fam, hf, p', s', rfl⟩
 | succ c ih =>
  intro gs hg h1 h4 p s hp
  obtain ⟨g, hgg, p', s', hpp, e⟩ := draw_l1 l0 hl hw n hn1 hn gs (by omega) ((c + 1 : Nat) : Int) (3011 + c * (n + 2)) n 0 (by omega) [] (by simp [lists]) (by simp) p s (by omega)
  have hw1 : wrap64 (((c + 1 : Nat) : Int) - 1) = (c : Int) := by unfold wrap64; omega
  obtain ⟨fam, hf, p2, s2, e2⟩ := ih (gs ++ [g]) (by intro x hx; rcases List.mem_append.1 hx with hx | hx; exact hg x hx; rw [List.mem_singleton.1 hx]; exact hgg) (by simp; omega) (by simp; omega) p' s' (by omega)
  refine ⟨fam, hf, p2, s2, ?_⟩
  rw [show 3011 + (c + 1) * (n + 2) = (3011 + c * (n + 2) + n + 1) + 1 by rw [Nat.add_mul]; omega]
  unfold spec_l07Draw.l0
  rw [if_pos (by omega)]
  rw [hw1, e2] at e
  exact e
theorem p6family (l0 : List Int) (hl : l0.length ≤ 4096) (hw : ∀ x ∈ l0, (Lit.int .u8 x).wf = true) (k : Nat) (hk : 3100 ≤ k) : ∃ fam ∈ fams, spec_P6Family.f k l0 = some fam := by
  obtain ⟨v, p1, s1, e1, hv, hp1⟩ := pick_ok l0 hl hw 0 (by omega) 0 4 (by omega) (by omega)
  obtain ⟨c, p2, s2, e2, hc, hp2⟩ := pick_ok l0 hl hw p1 (by omega) s1 4 (by omega) (by omega)
  rw [show ((4 : Nat) : Int) = 4 from rfl] at e1 e2
  rw [show ((0 : Nat) : Int) = 0 from rfl] at e1
  obtain ⟨fam, hf, p', s', e3⟩ := draw_l0 l0 hl hw (v + 1) (by omega) (by omega) (c + 1) [] (by simp) (by simp) (by simp; omega) p2 s2 (by omega)
  refine ⟨fam, hf, ?_⟩
  have hk2 : 3011 + (c + 1) * (v + 1 + 2) ≤ k := by
    have : (c + 1) * (v + 1 + 2) ≤ 4 * 6 := Nat.mul_le_mul (by omega) (by omega)
    omega
  have hv1 : wrap64 (1 + (v : Int)) = ((v + 1 : Nat) : Int) := by unfold wrap64; omega
  have hc1 : wrap64 (1 + (c : Int)) = ((c + 1 : Nat) : Int) := by unfold wrap64; omega
  unfold spec_P6Family.f spec_l00From.f
  rw [Option.bind_some]
  unfold spec_l07Draw.f
  rw [e1, Option.bind_some, e2, Option.bind_some, hv1, hc1]
  rw [leO_le (f := fun k => spec_l07Draw.l0 k ((v + 1 : Nat) : Int) [] ((c + 1 : Nat) : Int) l0 p2 s2) (fun k => (spec_l07Draw.mono_l k).1 _ _ _ _ _ _) hk2 e3, Option.bind_some]
def holdersOf (b n : Int) : List Int := (spec_l06Holders.f 20 b n).getD []
def chainsFrom (n free : Int) : Nat → Nat → Int → List (List Int) → List (List (List Int))
  | 0, _, _, out => [out]
  | d + 1, h, now, out =>
    if (Go.bits .and .i64 free (shl .i64 1 (IntKind.u64.wrap ((h : Nat) : Int)))) = 0 then chainsFrom n free d (h + 1) now out
    else chainsFrom n free d (h + 1) now out ++ chainsFrom n free d (h + 1) (Go.bits .or .i64 now (shl .i64 1 (IntKind.u64.wrap ((h : Nat) : Int)))) (out ++ [holdersOf (Go.bits .or .i64 now (shl .i64 1 (IntKind.u64.wrap ((h : Nat) : Int)))) n])
theorem u64_small (h : Nat) (hh : h < 1000) : 0 ≤ IntKind.u64.wrap (h : Int) := by
  simp only [IntKind.wrap, IntKind.bits, IntKind.signed]; simp; omega
theorem holders_l0 (b : Int) (n : Nat) (k : Nat) : ∀ (d h : Nat), h + d = n → h + d < 100 → ∀ x : List Int, x.length ≤ h → ∃ r, spec_l06Holders.l0 (k + d + 1) b n x h = some r := by
  intro d
  induction d with
  | zero =>
    intro h hh _ x hx
    unfold spec_l06Holders.l0
    rw [if_neg (by omega)]
    exact ⟨_, rfl⟩
  | succ d ih =>
    intro h hh hb x hx
    rw [show k + (d + 1) + 1 = (k + d + 1) + 1 by omega]
    unfold spec_l06Holders.l0
    rw [if_pos (by omega), if_pos (u64_small h (by omega)), w64_s h (by omega)]
    split
    · rw [if_pos (by omega)]
      exact ih (h + 1) (by omega) (by omega) _ (by simp; omega)
    · exact ih (h + 1) (by omega) (by omega) _ (by omega)
theorem holders_f (b : Int) (n : Nat) (hn : n ≤ 10) (k : Nat) (hk : 20 ≤ k) : spec_l06Holders.f k b n = some (holdersOf b n) := by
  obtain ⟨r, e⟩ := holders_l0 b n (19 - n) n 0 (by omega) (by omega) [] (by simp)
  have e2 : spec_l06Holders.f 20 b n = some r := by
    unfold spec_l06Holders.f
    rw [show 20 = 19 - n + n + 1 by omega]
    exact e
  unfold holdersOf
  rw [e2]
  exact leO_le (f := fun k => spec_l06Holders.f k b n) (fun k => spec_l06Holders.mono _ _ k) hk e2
theorem chain_l0 (l0 : List Int) (hl : l0.length ≤ 4096) (hw : ∀ x ∈ l0, (Lit.int .u8 x).wf = true) (n : Nat) (hn : n ≤ 4) (gs : List (List Int)) (known : List Int) (free : Int) :
  ∀ (d h : Nat), h + d = n → ∀ (now : Int) (out : List (List Int)), out.length ≤ h → ∀ (p : Nat) (s : Int), p + d ≤ 1000 →
   ∃ c ∈ chainsFrom n free d h now out, spec_P6Chain.l0 (30 + d + 1) known free out now h n gs l0 p s = some (known, c) := by
 intro d
 induction d with
 | zero =>
  intro h hh now out ho p s hp
  refine ⟨out, by simp [chainsFrom], ?_⟩
  unfold spec_P6Chain.l0
  rw [if_neg (by omega)]
 | succ d ih =>
  intro h hh now out ho p s hp
  rw [show 30 + (d + 1) + 1 = (30 + d + 1) + 1 by omega]
  by_cases c : (Go.bits .and .i64 free (shl .i64 1 (IntKind.u64.wrap ((h : Nat) : Int)))) = 0
  ·have hcf : chainsFrom n free (d + 1) h now out = chainsFrom n free d (h + 1) now out := by
    simp only [chainsFrom]; rw [if_pos c]
   rw [hcf]
   unfold spec_P6Chain.l0
   rw [if_pos (by omega), if_pos (u64_small h (by omega)), w64_s h (by omega), if_pos c]
   exact ih (h + 1) (by omega) now out (by omega) p s (by omega)
  ·have hcf : chainsFrom n free (d + 1) h now out = chainsFrom n free d (h + 1) now out ++ chainsFrom n free d (h + 1) (Go.bits .or .i64 now (shl .i64 1 (IntKind.u64.wrap ((h : Nat) : Int)))) (out ++ [holdersOf (Go.bits .or .i64 now (shl .i64 1 (IntKind.u64.wrap ((h : Nat) : Int)))) n]) := by
    simp only [chainsFrom]; rw [if_neg c]
   rw [hcf]
   unfold spec_P6Chain.l0
   rw [if_pos (by omega), if_pos (u64_small h (by omega)), w64_s h (by omega), if_neg c]
   obtain ⟨b, p', s', e, hpp⟩ := one_ok l0 hl hw p (by omega) s 2 (by omega) (by omega)
   rw [show ((2 : Nat) : Int) = 2 from rfl] at e
   rw [e, Option.bind_some]
   cases b with
   | true =>
    rw [if_pos rfl, holders_f _ n (by omega) _ (by omega), Option.bind_some, if_pos (by omega)]
    obtain ⟨r, hr, e2⟩ := ih (h + 1) (by omega) (Go.bits .or .i64 now (shl .i64 1 (IntKind.u64.wrap ((h : Nat) : Int)))) (out ++ [holdersOf (Go.bits .or .i64 now (shl .i64 1 (IntKind.u64.wrap ((h : Nat) : Int)))) n]) (by simp; omega) p' s' (by omega)
    exact ⟨r, List.mem_append_right _ hr, e2⟩
   | false =>
    rw [if_neg (by simp)]
    obtain ⟨r, hr, e2⟩ := ih (h + 1) (by omega) now out (by omega) p' s' (by omega)
    exact ⟨r, List.mem_append_left _ hr, e2⟩
def pairs (n : Nat) : List (List Int × List (List Int)) := (List.range (2 ^ n)).flatMap fun (b : Nat) =>
  (chainsFrom n (Go.bits .andNot .i64 (wrap64 ((shl .i64 1 (IntKind.u64.wrap (n : Int))) - 1)) ((spec_l07Bits.f 20 (holdersOf b n)).getD 0)) n 0 0 []).map fun c => (holdersOf b n, c)
theorem shl_n : ∀ n : Nat, n < 5 → shl .i64 1 (IntKind.u64.wrap (n : Int)) = ((2 ^ n : Nat) : Int) := by decide
theorem bitsAll : (List.range 5).all (fun n => (List.range (2 ^ n)).all fun b : Nat => spec_l07Bits.f 20 (holdersOf b n) == some ((spec_l07Bits.f 20 (holdersOf b n)).getD 0)) = true := by decide +kernel
theorem p6chain (l1 : List Int) (hl : l1.length ≤ 4096) (hw : ∀ x ∈ l1, (Lit.int .u8 x).wf = true) (n : Nat) (hn1 : 1 ≤ n) (hn : n ≤ 4) (gs : List (List Int)) (k : Nat) (hk : 40 ≤ k) :
    ∃ c ∈ pairs n, spec_P6Chain.f k l1 n gs = some c := by
  have hp16 : 2 ^ n ≤ 16 := Nat.pow_le_pow_right (n := 2) (by omega) (show n ≤ 4 by omega)
  have hp1 : 1 ≤ 2 ^ n := Nat.one_le_two_pow
  obtain ⟨v, p1, s1, e1, hv, hpp⟩ := pick_ok l1 hl hw 0 (by omega) 0 (2 ^ n) hp1 (by omega)
  rw [show ((0 : Nat) : Int) = 0 from rfl] at e1
  have hb := List.all_eq_true.1 (List.all_eq_true.1 bitsAll n (List.mem_range.2 (by omega))) v (List.mem_range.2 hv)
  simp only [beq_iff_eq] at hb
  obtain ⟨c, hc, e2⟩ := chain_l0 l1 hl hw n hn gs (holdersOf v n) (Go.bits .andNot .i64 (wrap64 ((shl .i64 1 (IntKind.u64.wrap (n : Int))) - 1)) ((spec_l07Bits.f 20 (holdersOf v n)).getD 0)) n 0 (by omega) 0 [] (by simp) p1 s1 (by omega)
  refine ⟨(holdersOf v n, c), ?_, ?_⟩
  · unfold pairs
    rw [List.mem_flatMap]
    exact ⟨v, List.mem_range.2 hv, List.mem_map.2 ⟨c, hc, rfl⟩⟩
  · unfold spec_P6Chain.f spec_l00From.f
    rw [Option.bind_some, if_pos (u64_small n (by omega)), shl_n n (by omega), e1, Option.bind_some, holders_f _ n (by omega) k (by omega), Option.bind_some]
    rw [leO_le (f := fun k => spec_l07Bits.f k (holdersOf v n)) (fun k => spec_l07Bits.mono _ k) (show 20 ≤ k by omega) hb, Option.bind_some]
    rw [shl_n n (by omega)] at e2
    exact leO_le (f := fun k => spec_P6Chain.l0 k (holdersOf v n) _ [] 0 0 n gs l1 p1 s1) (fun k => (spec_P6Chain.mono_l k) _ _ _ _ _ _ _ _ _ _) (show 30 + n + 1 ≤ k by omega) e2
def rest (k : Nat) (n : Int) (gs : List (List Int)) (known : List Int) (chain : List (List Int)) : Option Bool := ((impl_SequenceFor.f k n gs known chain).bind fun bt631 => ((spec_SequenceFor.f k n gs known chain).bind fun bt642 => (if bt631.2.2.2 = bt642.2.2.2 then ((laws_f6ints.f k bt631.1 bt642.1).bind fun t653 => (if t653 = true then ((laws_f6rows.f k bt631.2.1 bt642.2.1).bind fun t654 => (if t654 = true then ((laws_f6rows.f k bt631.2.2.1 bt642.2.2.1).bind fun t655 => (laws_FnSequences.j1 k known bt631.2.2.2 (!t655) n gs bt642.1 bt642.2.1 bt642.2.2.1)) else (laws_FnSequences.j1 k known bt631.2.2.2 true n gs bt642.1 bt642.2.1 bt642.2.2.1))) else (laws_FnSequences.j1 k known bt631.2.2.2 true n gs bt642.1 bt642.2.1 bt642.2.2.1))) else (laws_FnSequences.j1 k known bt631.2.2.2 true n gs bt642.1 bt642.2.1 bt642.2.2.1))))
def famOk (f : Int × List (List Int)) : Bool := (pairs f.1.toNat).all fun p => rest 3100 f.1 f.2 p.1 p.2 == some true
set_option maxRecDepth 100000 in
theorem famPart0 : ((fams.drop 0).take 16).all famOk = true := by decide +kernel
set_option maxRecDepth 100000 in
theorem famPart1 : ((fams.drop 16).take 16).all famOk = true := by decide +kernel
set_option maxRecDepth 100000 in
theorem famPart2 : ((fams.drop 32).take 16).all famOk = true := by decide +kernel
set_option maxRecDepth 100000 in
theorem famPart3 : ((fams.drop 48).take 16).all famOk = true := by decide +kernel
set_option maxRecDepth 100000 in
theorem famPart4 : ((fams.drop 64).take 16).all famOk = true := by decide +kernel
set_option maxRecDepth 100000 in
theorem famPart5 : ((fams.drop 80).take 16).all famOk = true := by decide +kernel
set_option maxRecDepth 100000 in
theorem famPart6 : ((fams.drop 96).take 16).all famOk = true := by decide +kernel
set_option maxRecDepth 100000 in
theorem famPart7 : ((fams.drop 112).take 16).all famOk = true := by decide +kernel
set_option maxRecDepth 100000 in
theorem famPart8 : ((fams.drop 128).take 16).all famOk = true := by decide +kernel
set_option maxRecDepth 100000 in
theorem famPart9 : ((fams.drop 144).take 16).all famOk = true := by decide +kernel
set_option maxRecDepth 100000 in
theorem famPart10 : ((fams.drop 160).take 16).all famOk = true := by decide +kernel
set_option maxRecDepth 100000 in
theorem famPart11 : ((fams.drop 176).take 16).all famOk = true := by decide +kernel
theorem famsOk (f : Int × List (List Int)) (hf : f ∈ fams) : famOk f = true := by
  have split : ∀ (m : Nat) (l : List (Int × List (List Int))), ((l.drop 0).take m).all famOk = true → (l.drop m).all famOk = true → l.all famOk = true := by
    intro m l h1 h2
    rw [← List.take_append_drop m l, List.all_append, Bool.and_eq_true]
    exact ⟨by simpa using h1, h2⟩
  have step : ∀ (a : Nat), ((fams.drop a).take 16).all famOk = true → (fams.drop (a + 16)).all famOk = true → (fams.drop a).all famOk = true := by
    intro a h1 h2
    refine split 16 _ (by simpa using h1) ?_
    rw [List.drop_drop]
    exact h2
  have e : (fams.drop 192).all famOk = true := by decide +kernel
  have h := step 0 famPart0 (step 16 famPart1 (step 32 famPart2 (step 48 famPart3 (step 64 famPart4 (step 80 famPart5 (step 96 famPart6 (step 112 famPart7 (step 128 famPart8 (step 144 famPart9 (step 160 famPart10 (step 176 famPart11 e)))))))))))
  exact List.all_eq_true.1 h f (by simpa using hf)
theorem famRange : fams.all (fun f => decide (1 ≤ f.1) && decide (f.1 ≤ 4)) = true := by decide +kernel
theorem FnSequences : laws_FnSequences.Pure := by
  intro l0 l1 a0 b0 w0 a1 b1 w1
  refine ⟨3101, ?_⟩
  unfold laws_FnSequences.f laws_f6big.f
  rw [Option.bind_some]
  by_cases c0 : (l0.length : Int) > 4096
  · rw [if_pos (decide_eq_true c0)]
    rfl
  · rw [if_neg (by simpa using c0), Option.bind_some]
    by_cases c1 : (l1.length : Int) > 4096
    · rw [decide_eq_true c1]
      rfl
    · rw [decide_eq_false c1]
      obtain ⟨fam, hf, e1⟩ := p6family l0 (by omega) w0 3100 (by omega)
      have hr := List.all_eq_true.1 famRange fam hf
      simp only [Bool.and_eq_true, decide_eq_true_eq] at hr
      obtain ⟨n, hn⟩ : ∃ n : Nat, fam.1 = n := ⟨fam.1.toNat, by omega⟩
      obtain ⟨c, hc, e2⟩ := p6chain l1 (by omega) w1 n (by omega) (by omega) fam.2 3100 (by omega)
      have hok := famsOk fam hf
      unfold famOk at hok
      have h := List.all_eq_true.1 hok c (by rw [hn]; exact hc)
      have h2 : rest 3100 fam.1 fam.2 c.1 c.2 = some true := by simpa using h
      unfold laws_FnSequences.j0
      simp only [Bool.false_eq_true, if_false]
      rw [e1, Option.bind_some, hn, e2, Option.bind_some]
      rw [hn] at h2
      exact h2
end Go.Proofs.Ytmbeijjkfmgkpaa.Pure
namespace Go.Proofs.Ytmbeijjkfmgkpaa.fnSequences
open Go.ChangeShapes Go.WideShapes Go.ChangeAt Go.RowKit
open Go.ChangeMaps (open_string shut_string)
set_option linter.unusedVariables false
theorem own : ownKnob Try.prog.godebug = none := by kernel_rfl
theorem laidOut : laidOutB Try.prog = true := by kernel_rfl
def IsRow (k : IntKind) (w : World) (a : Option Addr) (len cap : Nat) (zs : List Int) : Prop :=
  (a = none ∧ len = 0 ∧ cap = 0 ∧ zs = []) ∨
  ∃ x, a = some x ∧ len ≤ cap ∧ cap ≤ maxLen ∧ zs.length = cap ∧ (∀ i, i < zs.length → w.cell? (x.add i) = some (.int k (zs.getD i 0))) ∧ ∀ n ∈ zs, (Lit.int k n).wf = true
set_option maxRecDepth 100000 in
theorem lifted (os : Os) (started : os.Started) (H : Type) (enc : TypeId × Value → H) :
  ReturnsInHanded {} Try.checked os 4 .any (Rows.fnSequencesSpec.pre6 enc Try.prog Try.f4 Rows.fnSequencesRow.domain false) (Rows.fnSequencesSpec.post enc Try.prog Try.f4 false true false false) := by
 refine returnsInHanded_of_change_sized (C := Try.checked) own started (by kernel_rfl) Try.func4
  (ChangeSpec.witness6 (enc := enc) (C := Try.checked) false ⟨#[], #[.slice none 0 0, .slice none 0 0], []⟩ 8 (by kernel_rfl) (by kernel_rfl) (by kernel_rfl) (by kernel_rfl)) ?_
 intro W base args ds gs before hval0 hW hcnd hsz0 _
 have hsz : (DataW.weightsEach Try.prog (Try.f4.params.toList ++ Rows.fnSequencesSpec.plain.varTypes Try.prog) (ds ++ gs)).all (· ≤ reachBytes) = true := hsz0
 have hval : ∀ (j : Nat) t v, Try.f4.params[j]? = some t → args[j]? = some v → Value.okWide Try.prog W .any base t v := hval0
 have hW' := hW
 obtain ⟨p, q, hA0, hV, rfl, hfz, hnd⟩ := hW
 have hA : DataW.TrodAll enc Try.prog W 0 (fun _ => true) true Try.f4.params.toList args.toList ds p := hA0
 rw [Try.params4] at hA hval hsz
 obtain ⟨v0, vs0, d0, ds0, p0, q0, hargs, rfl, rfl, h0, r0⟩ := trodAll_cons hA
 obtain ⟨v1, vs1, d1, ds1, p1, q1, rfl, rfl, rfl, h1, r1⟩ := trodAll_cons r0
 obtain ⟨rfl, rfl, rfl⟩ := trodAll_nil r1
 obtain rfl : args = #[v0, v1] := by cases args; simp_all
 obtain ⟨rfl, rfl⟩ := trodVars_none hV
 obtain ⟨a0, len0, cap0, rfl⟩ := okWide_slice Try.underlying38 (hval 0 38 v0 rfl rfl)
 have k0 := h0
 have lt0 : ∀ x ∈ p0, x.block < W.heap.size := by obtain ⟨m, hm⟩ := k0; exact DataW.trod_lt m _ _ _ hm
 obtain ⟨z0, w0⟩ : ∃ zs, IsRow .u8 W a0 len0 cap0 zs := by
  obtain ⟨fuel, hf⟩ := h0
  rcases open_ints Try.underlying38 Try.underlying5 (by kernel_rfl) hf with ⟨hcs, _⟩ | ⟨x, l, c, zs, hcs, _, hl, hm, hz, _, hcell, hwz⟩
  ·simp [Value.cells] at hcs
   obtain ⟨rfl, rfl, rfl⟩ := hcs
   exact ⟨[], .inl ⟨rfl, rfl, rfl, rfl⟩⟩
  ·simp [Value.cells] at hcs
   obtain ⟨rfl, rfl, rfl⟩ := hcs
   exact ⟨zs, .inr ⟨_, rfl, hl, hm, by simpa using hz, hcell, hwz⟩⟩
 have y0 : len0 * 1 ≤ 140737488351232 := Go.Proofs.YtmbeijjkfmgkpaaW.PrintWords.sized_ints hsz (j := 0) (t := 38) rfl rfl Try.underlying38 Try.underlying5 (by kernel_rfl) (by kernel_rfl) h0
 obtain ⟨a1, len1, cap1, rfl⟩ := okWide_slice Try.underlying38 (hval 1 38 v1 rfl rfl)
 have k1 := h1
 have lt1 : ∀ x ∈ p1, x.block < W.heap.size := by obtain ⟨m, hm⟩ := k1; exact DataW.trod_lt m _ _ _ hm
 obtain ⟨z1, w1⟩ : ∃ zs, IsRow .u8 W a1 len1 cap1 zs := by
  obtain ⟨fuel, hf⟩ := h1
  rcases open_ints Try.underlying38 Try.underlying5 (by kernel_rfl) hf with ⟨hcs, _⟩ | ⟨x, l, c, zs, hcs, _, hl, hm, hz, _, hcell, hwz⟩
  ·simp [Value.cells] at hcs
   obtain ⟨rfl, rfl, rfl⟩ := hcs
   exact ⟨[], .inl ⟨rfl, rfl, rfl, rfl⟩⟩
  ·simp [Value.cells] at hcs
   obtain ⟨rfl, rfl, rfl⟩ := hcs
   exact ⟨zs, .inr ⟨_, rfl, hl, hm, by simpa using hz, hcell, hwz⟩⟩
 have y1 : len1 * 1 ≤ 140737488351232 := Go.Proofs.YtmbeijjkfmgkpaaW.PrintWords.sized_ints hsz (j := 1) (t := 38) rfl rfl Try.underlying38 Try.underlying5 (by kernel_rfl) (by kernel_rfl) h1
 clear hA0 hval0 hsz0 hsz
 refine (Q.laws_FnSequences.walk Pure.FnSequences a0 len0 cap0 z0 a1 len1 cap1 z1 W w0 y0 w1 y1).mono fun e W' ⟨he, bel⟩ => ?_
 subst he
 exact ⟨_, rfl, _, _, _, [], _, [], hW', trodAll_mk1 (shut_bool Try.underlying4 _), (trodAll_cons_mk (Below.trod laidOut (by kernel_rfl) (of_decide_eq_true (by kernel_rfl)) k0 bel lt0) (trodAll_cons_mk (Below.trod laidOut (by kernel_rfl) (of_decide_eq_true (by kernel_rfl)) k1 bel lt1) trodAll_mk0)), rfl, bel.frame _, fun h => by cases h⟩
theorem over : Rows.fnSequencesRow.holds Try.pinned (OpenSpec.ofChange Rows.fnSequencesSpec) :=
  OpenClaim.holds_of_wide 4 Try.f4 rfl rfl rfl rfl rfl rfl rfl ⟨rfl, rfl, rfl, rfl, rfl⟩ rfl rfl rfl rfl rfl (by kernel_rfl) Try.func4 (by kernel_rfl)
    (of_decide_eq_true (by kernel_rfl)) (by unfold Func.isWrapper; first | (rw [if_pos (by decide +kernel)]; kernel_rfl) | (rw [if_neg (by decide +kernel)]; exact ⟨rfl, rfl⟩))
    (fun os started H enc _ => lifted os started H enc)
theorem proved : Rows.FnSequencesSaid := over
end Go.Proofs.Ytmbeijjkfmgkpaa.fnSequences
namespace Go.Proofs.Ytmbeijjkfmgkpaa
theorem fnSequences_holds : Rows.FnSequencesSaid := fnSequences.proved
end Go.Proofs.Ytmbeijjkfmgkpaa
#print axioms Go.Proofs.Ytmbeijjkfmgkpaa.fnSequences.proved
