/- For every family, the law FnExactIsPort returns true: the program's IsPort answers as the reference's, and leaves its argument as it was; no condition. (5 of 5) Put together by a program of mine from texts of mine, from texts that the kit's print wrote for this claim and from the print's words; what is not reached is left out. -/
import Derived.ChangeOld
import Derived.Deep.Matrix
import Derived.Lib.SmallJoins
import Derived.OpenShut
import Derived.ProofKit
import Derived.SizedLaws
import Derived.Test.YtmbeijjkfmgkpaaIp4
import Derived.Test.YtmbeijjkfmgkpaaRows
set_option linter.unusedVariables false
set_option linter.unusedSimpArgs false
namespace Go.Proofs.Ytmbeijjkfmgkpaa.Q
open Go.RowKit Go.Proofs.YtmbeijjkfmgkpaaW.PrintWords Go.Proofs.YtmbeijjkfmgkpaaW.PrintLast Go.Proofs.YtmbeijjkfmgkpaaW.PrintMore
attribute [local go_sem] max2_int min2_int max_two min_two max_three min_three max_four min_four
set_option linter.unusedVariables false
set_option linter.unusedSimpArgs false
mutual
def impl_Family_isPort.l0 : Nat → List Int → List (List Int) → Int → Int → Int → List (List Int) → Option (Bool)
 | 0, _, _, _, _, _, _ => none
 | k + 1, x3, x16, x17, x18, x720000, x720001 => if x18 < x17 then (if 0 ≤ x18 then (if x18 < (x16.length : Int) then ((impl_crowdOf.f k (rd_L1 x16 x18)).bind fun t724 => (if 0 ≤ x720000 then ((impl_crowd_144.f k x3 (Go.bits .or .u64 t724 (shl .u64 1 x720000))).bind fun t725 => (if t725 = true then (impl_Family_isPort.l0 k x3 x16 x17 (wrap64 (x18 + 1)) x720000 x720001) else (some false))) else (none))) else (none)) else (none)) else (impl_Family_isPort.l1 k x3 x3 (x3.length : Int) 0)
def impl_Family_isPort.l1 : Nat → List Int → List Int → Int → Int → Option (Bool)
 | 0, _, _, _, _ => none
 | k + 1, x3, x32, x33, x34 => if x34 < x33 then (if 0 ≤ x34 then (if x34 < (x32.length : Int) then (if x34 ≤ (x3.length : Int) then ((some (x3.take (x34 : Int).toNat : List Int)).bind fun y727 => (impl_Family_isPort.l2 k x3 (rd x32 x34) x32 x33 x34 y727 (y727.length : Int) 0)) else (none)) else (none)) else (none)) else (some true)
def impl_Family_isPort.l2 : Nat → List Int → Int → List Int → Int → Int → List Int → Int → Int → Option (Bool)
 | 0, _, _, _, _, _, _, _, _ => none
 | k + 1, x3, x7, x32, x33, x34, x41, x42, x43 => if x43 < x42 then (if 0 ≤ x43 then (if x43 < (x41.length : Int) then ((impl_crowd_group.f k (Go.bits .and .u64 x7 (rd x41 x43))).bind fun t732 => (impl_Family_isPort.l3 k x3 x7 (rd x41 x43) x32 x33 x34 x41 x42 x43 t732 (t732.length : Int) 0)) else (none)) else (none)) else (impl_Family_isPort.l1 k x3 x32 x33 (wrap64 (x34 + 1)))
def impl_Family_isPort.l3 : Nat → List Int → Int → Int → List Int → Int → Int → List Int → Int → Int → List Int → Int → Int → Option (Bool)
 | 0, _, _, _, _, _, _, _, _, _, _, _, _ => none
 | k + 1, x3, x7, x9, x32, x33, x34, x41, x42, x43, x50, x51, x52 => if x52 < x51 then (if 0 ≤ x52 then (if x52 < (x50.length : Int) then (if 0 ≤ (rd x50 x52) then ((anyIn.f k x3 (Go.bits .andNot .u64 (Go.bits .or .u64 x7 x9) (shl .u64 1 (rd x50 x52)))).bind fun t736 => (if t736 = true then (impl_Family_isPort.l3 k x3 x7 x9 x32 x33 x34 x41 x42 x43 x50 x51 (wrap64 (x52 + 1))) else (some false))) else (none)) else (none)) else (none)) else (impl_Family_isPort.l2 k x3 x7 x32 x33 x34 x41 x42 (wrap64 (x43 + 1)))
end
def impl_Family_isPort.f (k : Nat) (a0_0 : Int) (l0_1 : List (List Int)) : Option (Bool) := (impl_Family_circuits.f k a0_0 l0_1).bind fun t720 => (impl_Family_isPort.l0 k t720 l0_1 (l0_1.length : Int) 0 a0_0 l0_1)
set_option maxHeartbeats 8000000 in
set_option maxRecDepth 100000 in
theorem impl_Family_isPort.calls (k : Nat) (a0_0 : Int) (A0_1 : Option Addr) (c0_1 : Nat) (l0_1 : List (List Int)) (r : Bool) (w : World) (hr0_1 : Kd.C (Kd.slice 2 (Kd.int .i64)) w A0_1 l0_1.length l0_1) (hc0_1 : l0_1.length ≤ c0_1) (h : impl_Family_isPort.f k a0_0 l0_1 = some r) :
  Calls Try.prog 101 #[.agg #[.int .i64 a0_0, .slice A0_1 l0_1.length c0_1]] w fun e w' => e = .returned (.bool r) ∧ Below w.heap.size w w' := by
 have hu31 := Try.underlying31
 have HR0_1 := Aside0.mk hr0_1
 have HC0_1 := Aside0.mk hc0_1
 clear hr0_1 hc0_1
 have HB := Aside0.mk (Below.refl w.heap.size w)
 have H : ((impl_Family_circuits.f k a0_0 l0_1).bind fun t720 => (impl_Family_isPort.l0 k t720 l0_1 (l0_1.length : Int) 0 a0_0 l0_1)) = some r := h
 clear h
 replace H := Option.bind_eq_some_iff.mp H
 obtain ⟨t720, A20, H⟩ := H
 replace H : (impl_Family_isPort.l0 k t720 l0_1 (l0_1.length : Int) 0 a0_0 l0_1) = some r := H
 have A2 := Aside0.mk A20
 clear A20
 have H' := Aside0.mk H
 clear H
 go_enter Try.func101, Try.ntmps101
 go_wp2_with (first | ((with_reducible refine gate_dst (N := 1) rfl ?_); refine box_event ?hg (N := 1) ?hd (cs := #[.int .i64 a0_0, .slice A0_1 l0_1.length c0_1]) (t := 31) ?hr ?_; (case hd => rfl); (case hg => rfl); (case hr => first | (go_simp; done) | (go_simp; rfl)); intro gb719 hg w3 hbox hb; have n0_ := Aside0.mk (below_step (zb0 HB.out) hb); have n1_ := Aside0.mk (hbox); have n2_ := Aside0.mk ((by rw [hg]; exact (below_size (zb0 HB.out)) : w.heap.size ≤ gb719)); have n3_ := Aside0.mk ((by rw [hg]; exact (below_size (zb0 HB.out)) : w.heap.size ≤ gb719)); clear HB; have HB := n0_; have BK719 := n1_; have GW719 := n2_; have GE719 := n3_; clear n0_ n1_ n2_ n3_; clear hb hbox hg; have hcz4_0 : w3.cell? ⟨gb719, 0, none⟩ = some (.int .i64 a0_0) := (blk_cell BK719.out 0).trans rfl; have hcz4_1 : w3.cell? ⟨gb719, 1, none⟩ = some (.slice A0_1 l0_1.length c0_1) := (blk_cell BK719.out 1).trans rfl; have hfz4_0 := blk_frozen BK719.out 0; have hfz4_1 := blk_frozen BK719.out 1) | (go_at_call 102; (with_reducible refine (impl_Family_circuits.calls k a0_0 _ _ l0_1 t720 _ ?side1 ?side2 A2.out).mono ?_); (case side1 => exact zc (Kd.C_below HR0_1.out HB.out)); (case side2 => exact HC0_1.out); rintro e w5 ⟨v721, rfl, ho0, hb⟩; have n0_ := Aside0.mk (Kd.R_lower ho0 (below_size (zb1 HB.out GE719.out))); have n1_ := Aside0.mk (blk_below (g := gb719) (o := .cells #[.int .i64 a0_0, .slice A0_1 l0_1.length c0_1] 31 (0, 0)) (zk BK719.out) hb); have n2_ := Aside0.mk (below_step (zb1 HB.out GE719.out) hb); clear BK719; clear HB; have HO722 := n0_; have BK719 := n1_; have HB := n2_; clear n0_ n1_ n2_; (try clear hb); (try clear hb2); (try clear hk); (try clear hi); (try clear ho0); have hcz6_0 : w5.cell? ⟨gb719, 0, none⟩ = some (.int .i64 a0_0) := (blk_cell BK719.out 0).trans rfl; have hcz6_1 : w5.cell? ⟨gb719, 1, none⟩ = some (.slice A0_1 l0_1.length c0_1) := (blk_cell BK719.out 1).trans rfl; have hfz6_0 := blk_frozen BK719.out 0; have hfz6_1 := blk_frozen BK719.out 1))
 repeat (go_quiet (first | ((with_reducible refine gate_dst (N := 1) rfl ?_); refine box_event ?hg (N := 1) ?hd (cs := #[.int .i64 a0_0, .slice A0_1 l0_1.length c0_1]) (t := 31) ?hr ?_; (case hd => rfl); (case hg => rfl); (case hr => first | (go_simp; done) | (go_simp; rfl)); intro gb719 hg w3 hbox hb; have n0_ := Aside0.mk (below_step (zb0 HB.out) hb); have n1_ := Aside0.mk (hbox); have n2_ := Aside0.mk ((by rw [hg]; exact (below_size (zb0 HB.out)) : w.heap.size ≤ gb719)); have n3_ := Aside0.mk ((by rw [hg]; exact (below_size (zb0 HB.out)) : w.heap.size ≤ gb719)); clear HB; have HB := n0_; have BK719 := n1_; have GW719 := n2_; have GE719 := n3_; clear n0_ n1_ n2_ n3_; clear hb hbox hg; have hcz4_0 : w3.cell? ⟨gb719, 0, none⟩ = some (.int .i64 a0_0) := (blk_cell BK719.out 0).trans rfl; have hcz4_1 : w3.cell? ⟨gb719, 1, none⟩ = some (.slice A0_1 l0_1.length c0_1) := (blk_cell BK719.out 1).trans rfl; have hfz4_0 := blk_frozen BK719.out 0; have hfz4_1 := blk_frozen BK719.out 1) | (go_at_call 102; (with_reducible refine (impl_Family_circuits.calls k a0_0 _ _ l0_1 t720 _ ?side1 ?side2 A2.out).mono ?_); (case side1 => exact zc (Kd.C_below HR0_1.out HB.out)); (case side2 => exact HC0_1.out); rintro e w5 ⟨v721, rfl, ho0, hb⟩; have n0_ := Aside0.mk (Kd.R_lower ho0 (below_size (zb1 HB.out GE719.out))); have n1_ := Aside0.mk (blk_below (g := gb719) (o := .cells #[.int .i64 a0_0, .slice A0_1 l0_1.length c0_1] 31 (0, 0)) (zk BK719.out) hb); have n2_ := Aside0.mk (below_step (zb1 HB.out GE719.out) hb); clear BK719; clear HB; have HO722 := n0_; have BK719 := n1_; have HB := n2_; clear n0_ n1_ n2_; (try clear hb); (try clear hb2); (try clear hk); (try clear hi); (try clear ho0); have hcz6_0 : w5.cell? ⟨gb719, 0, none⟩ = some (.int .i64 a0_0) := (blk_cell BK719.out 0).trans rfl; have hcz6_1 : w5.cell? ⟨gb719, 1, none⟩ = some (.slice A0_1 l0_1.length c0_1) := (blk_cell BK719.out 1).trans rfl; have hfz6_0 := blk_frozen BK719.out 0; have hfz6_1 := blk_frozen BK719.out 1)); try go_wp2_with (first | ((with_reducible refine gate_dst (N := 1) rfl ?_); refine box_event ?hg (N := 1) ?hd (cs := #[.int .i64 a0_0, .slice A0_1 l0_1.length c0_1]) (t := 31) ?hr ?_; (case hd => rfl); (case hg => rfl); (case hr => first | (go_simp; done) | (go_simp; rfl)); intro gb719 hg w3 hbox hb; have n0_ := Aside0.mk (below_step (zb0 HB.out) hb); have n1_ := Aside0.mk (hbox); have n2_ := Aside0.mk ((by rw [hg]; exact (below_size (zb0 HB.out)) : w.heap.size ≤ gb719)); have n3_ := Aside0.mk ((by rw [hg]; exact (below_size (zb0 HB.out)) : w.heap.size ≤ gb719)); clear HB; have HB := n0_; have BK719 := n1_; have GW719 := n2_; have GE719 := n3_; clear n0_ n1_ n2_ n3_; clear hb hbox hg; have hcz4_0 : w3.cell? ⟨gb719, 0, none⟩ = some (.int .i64 a0_0) := (blk_cell BK719.out 0).trans rfl; have hcz4_1 : w3.cell? ⟨gb719, 1, none⟩ = some (.slice A0_1 l0_1.length c0_1) := (blk_cell BK719.out 1).trans rfl; have hfz4_0 := blk_frozen BK719.out 0; have hfz4_1 := blk_frozen BK719.out 1) | (go_at_call 102; (with_reducible refine (impl_Family_circuits.calls k a0_0 _ _ l0_1 t720 _ ?side1 ?side2 A2.out).mono ?_); (case side1 => exact zc (Kd.C_below HR0_1.out HB.out)); (case side2 => exact HC0_1.out); rintro e w5 ⟨v721, rfl, ho0, hb⟩; have n0_ := Aside0.mk (Kd.R_lower ho0 (below_size (zb1 HB.out GE719.out))); have n1_ := Aside0.mk (blk_below (g := gb719) (o := .cells #[.int .i64 a0_0, .slice A0_1 l0_1.length c0_1] 31 (0, 0)) (zk BK719.out) hb); have n2_ := Aside0.mk (below_step (zb1 HB.out GE719.out) hb); clear BK719; clear HB; have HO722 := n0_; have BK719 := n1_; have HB := n2_; clear n0_ n1_ n2_; (try clear hb); (try clear hb2); (try clear hk); (try clear hi); (try clear ho0); have hcz6_0 : w5.cell? ⟨gb719, 0, none⟩ = some (.int .i64 a0_0) := (blk_cell BK719.out 0).trans rfl; have hcz6_1 : w5.cell? ⟨gb719, 1, none⟩ = some (.slice A0_1 l0_1.length c0_1) := (blk_cell BK719.out 1).trans rfl; have hfz6_0 := blk_frozen BK719.out 0; have hfz6_1 := blk_frozen BK719.out 1)))
 go_loopg [18] k (fun kq v18 w' => ∃ (x18_1 : Int), v18 = .int .i64 x18_1 ∧ Aside0 (impl_Family_isPort.l0 kq t720 l0_1 (l0_1.length : Int) x18_1 a0_0 l0_1 = some r) ∧ Aside0 (kq ≤ k) ∧ Aside0 (Kd.R (Kd.int .u64) 97 w' w.heap.size (fun _ => True) v721 t720) ∧ Aside0 (w'.heap[gb719]? = some (.cells #[.int .i64 a0_0, (.slice A0_1 l0_1.length c0_1)] 31 (0, 0))) ∧ Aside0 (Below w.heap.size w w'))
 case atStart => exact ⟨(0), zt, H', ⟨Nat.le_refl _⟩, ⟨zr HO722.out⟩, ⟨zk BK719.out⟩, ⟨zb1 HB.out GE719.out⟩⟩
 case round =>
  clear H'
  obtain ⟨x18_1, rfl, HA, HK1, HO_3, BK719, HB⟩ := hrel
  cases gk with
  | zero => exact absurd HA.out (by simp [impl_Family_isPort.l0])
  | succ k1 =>
   have H := HA.out
   clear HA
   simp only [impl_Family_isPort.l0] at H
   by_cases c7 : x18_1 < (l0_1.length : Int)
   ·rw [if_pos c7] at H
    have c7b0 : decide (x18_1 < (l0_1.length : Int)) = true := decide_eq_true c7
    clear c7
    by_cases c8 : 0 ≤ x18_1
    ·rw [if_pos c8] at H
     have c8b0 : decide (0 ≤ x18_1) = true := decide_eq_true c8
     clear c8
     by_cases c9 : x18_1 < (l0_1.length : Int)
     ·rw [if_pos c9] at H
      have c9b0 : decide (x18_1 < (l0_1.length : Int)) = true := decide_eq_true c9
      clear c9
      replace H := Option.bind_eq_some_iff.mp H
      obtain ⟨t724, A100, H⟩ := H
      replace H : (if 0 ≤ a0_0 then ((impl_crowd_144.f k1 t720 (Go.bits .or .u64 t724 (shl .u64 1 a0_0))).bind fun t725 => (if t725 = true then (impl_Family_isPort.l0 k1 t720 l0_1 (l0_1.length : Int) (wrap64 (x18_1 + 1)) a0_0 l0_1) else (some false))) else (none)) = some r := H
      have A10 := Aside0.mk A100
      clear A100
      by_cases c11 : 0 ≤ a0_0
      ·rw [if_pos c11] at H
       have c11b0 := eq_true c11
       have c11b1 : decide (0 ≤ a0_0) = true := decide_eq_true c11
       clear c11
       obtain ⟨ji12, hji12⟩ : ∃ j_ : Int, (shl .u64 1 a0_0) = j_ := ⟨_, rfl⟩
       replace H : ((impl_crowd_144.f k1 t720 (Go.bits .or .u64 t724 (ji12))).bind fun t725 => (if t725 = true then (impl_Family_isPort.l0 k1 t720 l0_1 (l0_1.length : Int) (wrap64 (x18_1 + 1)) a0_0 l0_1) else (some false))) = some r := by first | (rw [hji12] at H; exact H) | (simp only [hji12] at H ⊢; exact H)
       (try rw [hji12] at A10)
       have hji12_ : (IntKind.u64.wrap (1 * 2 ^ min a0_0.toNat 64)) = ji12 := hji12
       have hji12z : a0_0 ≤ 64 → (IntKind.u64.wrap (1 * 2 ^ a0_0.toNat)) = ji12 := shl_small hji12
       have hji12u : (IntKind.u64.wrap (2 ^ min a0_0.toNat 64)) = ji12 := by have h_ := hji12_; rw [Int.one_mul] at h_; exact h_
       have hji12v : a0_0 ≤ 64 → (IntKind.u64.wrap (2 ^ a0_0.toNat)) = ji12 := fun hle_ => by have h_ := hji12z hle_; rw [Int.one_mul] at h_; exact h_
       replace H := Option.bind_eq_some_iff.mp H
       obtain ⟨t725, A130, H⟩ := H
       replace H : (if t725 = true then (impl_Family_isPort.l0 k1 t720 l0_1 (l0_1.length : Int) (wrap64 (x18_1 + 1)) a0_0 l0_1) else (some false)) = some r := H
       have A13 := Aside0.mk A130
       clear A130
       by_cases c14 : t725 = true
       ·subst c14
        rw [if_pos rfl] at H
        have H' := Aside0.mk H
        clear H
        have p723 : 0 ≤ (x18_1 : Int) := of_decide_eq_true zq
        have q723 : x18_1 < (l0_1.length : Int) := of_decide_eq_true zq
        obtain ⟨ad723, A723_0, c723_0, e723, hx723_0, hl723_0, hi723_0⟩ := at_L1 HR0_1.out x18_1 p723 q723
        cases e723
        replace hx723_0 := (HB.out.cell (World.block_lt_of_cell? w _ hx723_0)).trans hx723_0
        have HR723_0 := Aside0.mk hi723_0
        have HC723_0 := Aside0.mk hl723_0
        clear hi723_0 hl723_0
        replace p723 := eq_true p723
        replace q723 := eq_true q723
        go_wp2_with (first | (go_at_call 86; (with_reducible refine (impl_crowdOf.calls k1 _ _ (rd_L1 l0_1 x18_1) t724 _ ?side1 ?side2 A10.out).mono ?_); (case side1 => exact zc (Kd.C_below HR723_0.out HB.out)); (case side2 => exact HC723_0.out); rintro e w' ⟨rfl, ⟨nd, rfl⟩⟩; (try exact zd); have hcz15_0 : wr.cell? ⟨gb719, 0, none⟩ = some (.int .i64 a0_0) := (blk_cell BK719.out 0).trans rfl; have hcz15_1 : wr.cell? ⟨gb719, 1, none⟩ = some (.slice (some ad723) l0_1.length c0_1) := (blk_cell BK719.out 1).trans rfl; have hfz15_0 := blk_frozen BK719.out 0; have hfz15_1 := blk_frozen BK719.out 1; obtain ⟨Ao16, co16, eo16⟩ := Kd.R_slice HO_3.out; subst eo16) | (go_at_call 144; (with_reducible refine (impl_crowd_144.calls k1 _ _ t720 (Go.bits .or .u64 t724 (ji12)) true _ ?side1 ?side2 A13.out).mono ?_); (case side1 => repeat (first | exact (Kd.R_reads' HO_3.out).2.2 | (with_reducible refine Kd.C_alloc ?_ _) | (with_reducible refine Kd.C_drewN ?_ _) | (with_reducible refine Kd.C_drew ?_))); (case side2 => exact (Kd.R_reads' HO_3.out).2.1); rintro e w' ⟨rfl, ⟨nd, rfl⟩⟩; (try exact zd)))
        repeat (go_quiet (first | (go_at_call 86; (with_reducible refine (impl_crowdOf.calls k1 _ _ (rd_L1 l0_1 x18_1) t724 _ ?side1 ?side2 A10.out).mono ?_); (case side1 => exact zc (Kd.C_below HR723_0.out HB.out)); (case side2 => exact HC723_0.out); rintro e w' ⟨rfl, ⟨nd, rfl⟩⟩; (try exact zd); have hcz15_0 : wr.cell? ⟨gb719, 0, none⟩ = some (.int .i64 a0_0) := (blk_cell BK719.out 0).trans rfl; have hcz15_1 : wr.cell? ⟨gb719, 1, none⟩ = some (.slice (some ad723) l0_1.length c0_1) := (blk_cell BK719.out 1).trans rfl; have hfz15_0 := blk_frozen BK719.out 0; have hfz15_1 := blk_frozen BK719.out 1; obtain ⟨Ao16, co16, eo16⟩ := Kd.R_slice HO_3.out; subst eo16) | (go_at_call 144; (with_reducible refine (impl_crowd_144.calls k1 _ _ t720 (Go.bits .or .u64 t724 (ji12)) true _ ?side1 ?side2 A13.out).mono ?_); (case side1 => repeat (first | exact (Kd.R_reads' HO_3.out).2.2 | (with_reducible refine Kd.C_alloc ?_ _) | (with_reducible refine Kd.C_drewN ?_ _) | (with_reducible refine Kd.C_drew ?_))); (case side2 => exact (Kd.R_reads' HO_3.out).2.1); rintro e w' ⟨rfl, ⟨nd, rfl⟩⟩; (try exact zd))); try go_wp2_with (first | (go_at_call 86; (with_reducible refine (impl_crowdOf.calls k1 _ _ (rd_L1 l0_1 x18_1) t724 _ ?side1 ?side2 A10.out).mono ?_); (case side1 => exact zc (Kd.C_below HR723_0.out HB.out)); (case side2 => exact HC723_0.out); rintro e w' ⟨rfl, ⟨nd, rfl⟩⟩; (try exact zd); have hcz15_0 : wr.cell? ⟨gb719, 0, none⟩ = some (.int .i64 a0_0) := (blk_cell BK719.out 0).trans rfl; have hcz15_1 : wr.cell? ⟨gb719, 1, none⟩ = some (.slice (some ad723) l0_1.length c0_1) := (blk_cell BK719.out 1).trans rfl; have hfz15_0 := blk_frozen BK719.out 0; have hfz15_1 := blk_frozen BK719.out 1; obtain ⟨Ao16, co16, eo16⟩ := Kd.R_slice HO_3.out; subst eo16) | (go_at_call 144; (with_reducible refine (impl_crowd_144.calls k1 _ _ t720 (Go.bits .or .u64 t724 (ji12)) true _ ?side1 ?side2 A13.out).mono ?_); (case side1 => repeat (first | exact (Kd.R_reads' HO_3.out).2.2 | (with_reducible refine Kd.C_alloc ?_ _) | (with_reducible refine Kd.C_drewN ?_ _) | (with_reducible refine Kd.C_drew ?_))); (case side2 => exact (Kd.R_reads' HO_3.out).2.1); rintro e w' ⟨rfl, ⟨nd, rfl⟩⟩; (try exact zd))))
        go_roundg k1
        case measure => have := HK1.out; omega
        case rel => exact ⟨(wrap64 (x18_1 + 1)), zt, H', ⟨by have := HK1.out; omega⟩, ⟨zr HO_3.out⟩, ⟨zk BK719.out⟩, ⟨zb1 HB.out GE719.out⟩⟩
       ·replace c14 := Bool.eq_false_iff.mpr c14
        subst c14
        rw [if_neg (show ¬ (false = true) by decide)] at H
        obtain rfl := Option.some.inj H
        have p723 : 0 ≤ (x18_1 : Int) := of_decide_eq_true zq
        have q723 : x18_1 < (l0_1.length : Int) := of_decide_eq_true zq
        obtain ⟨ad723, A723_0, c723_0, e723, hx723_0, hl723_0, hi723_0⟩ := at_L1 HR0_1.out x18_1 p723 q723
        cases e723
        replace hx723_0 := (HB.out.cell (World.block_lt_of_cell? w _ hx723_0)).trans hx723_0
        have HR723_0 := Aside0.mk hi723_0
        have HC723_0 := Aside0.mk hl723_0
        clear hi723_0 hl723_0
        replace p723 := eq_true p723
        replace q723 := eq_true q723
        go_wp2_with (first | (go_at_call 86; (with_reducible refine (impl_crowdOf.calls k1 _ _ (rd_L1 l0_1 x18_1) t724 _ ?side1 ?side2 A10.out).mono ?_); (case side1 => exact zc (Kd.C_below HR723_0.out HB.out)); (case side2 => exact HC723_0.out); rintro e w' ⟨rfl, ⟨nd, rfl⟩⟩; (try exact zd); have hcz17_0 : wr.cell? ⟨gb719, 0, none⟩ = some (.int .i64 a0_0) := (blk_cell BK719.out 0).trans rfl; have hcz17_1 : wr.cell? ⟨gb719, 1, none⟩ = some (.slice (some ad723) l0_1.length c0_1) := (blk_cell BK719.out 1).trans rfl; have hfz17_0 := blk_frozen BK719.out 0; have hfz17_1 := blk_frozen BK719.out 1; obtain ⟨Ao18, co18, eo18⟩ := Kd.R_slice HO_3.out; subst eo18) | (go_at_call 144; (with_reducible refine (impl_crowd_144.calls k1 _ _ t720 (Go.bits .or .u64 t724 (ji12)) false _ ?side1 ?side2 A13.out).mono ?_); (case side1 => repeat (first | exact (Kd.R_reads' HO_3.out).2.2 | (with_reducible refine Kd.C_alloc ?_ _) | (with_reducible refine Kd.C_drewN ?_ _) | (with_reducible refine Kd.C_drew ?_))); (case side2 => exact (Kd.R_reads' HO_3.out).2.1); rintro e w' ⟨rfl, ⟨nd, rfl⟩⟩; (try exact zd)))
        repeat (go_quiet (first | (go_at_call 86; (with_reducible refine (impl_crowdOf.calls k1 _ _ (rd_L1 l0_1 x18_1) t724 _ ?side1 ?side2 A10.out).mono ?_); (case side1 => exact zc (Kd.C_below HR723_0.out HB.out)); (case side2 => exact HC723_0.out); rintro e w' ⟨rfl, ⟨nd, rfl⟩⟩; (try exact zd); have hcz17_0 : wr.cell? ⟨gb719, 0, none⟩ = some (.int .i64 a0_0) := (blk_cell BK719.out 0).trans rfl; have hcz17_1 : wr.cell? ⟨gb719, 1, none⟩ = some (.slice (some ad723) l0_1.length c0_1) := (blk_cell BK719.out 1).trans rfl; have hfz17_0 := blk_frozen BK719.out 0; have hfz17_1 := blk_frozen BK719.out 1; obtain ⟨Ao18, co18, eo18⟩ := Kd.R_slice HO_3.out; subst eo18) | (go_at_call 144; (with_reducible refine (impl_crowd_144.calls k1 _ _ t720 (Go.bits .or .u64 t724 (ji12)) false _ ?side1 ?side2 A13.out).mono ?_); (case side1 => repeat (first | exact (Kd.R_reads' HO_3.out).2.2 | (with_reducible refine Kd.C_alloc ?_ _) | (with_reducible refine Kd.C_drewN ?_ _) | (with_reducible refine Kd.C_drew ?_))); (case side2 => exact (Kd.R_reads' HO_3.out).2.1); rintro e w' ⟨rfl, ⟨nd, rfl⟩⟩; (try exact zd))); try go_wp2_with (first | (go_at_call 86; (with_reducible refine (impl_crowdOf.calls k1 _ _ (rd_L1 l0_1 x18_1) t724 _ ?side1 ?side2 A10.out).mono ?_); (case side1 => exact zc (Kd.C_below HR723_0.out HB.out)); (case side2 => exact HC723_0.out); rintro e w' ⟨rfl, ⟨nd, rfl⟩⟩; (try exact zd); have hcz17_0 : wr.cell? ⟨gb719, 0, none⟩ = some (.int .i64 a0_0) := (blk_cell BK719.out 0).trans rfl; have hcz17_1 : wr.cell? ⟨gb719, 1, none⟩ = some (.slice (some ad723) l0_1.length c0_1) := (blk_cell BK719.out 1).trans rfl; have hfz17_0 := blk_frozen BK719.out 0; have hfz17_1 := blk_frozen BK719.out 1; obtain ⟨Ao18, co18, eo18⟩ := Kd.R_slice HO_3.out; subst eo18) | (go_at_call 144; (with_reducible refine (impl_crowd_144.calls k1 _ _ t720 (Go.bits .or .u64 t724 (ji12)) false _ ?side1 ?side2 A13.out).mono ?_); (case side1 => repeat (first | exact (Kd.R_reads' HO_3.out).2.2 | (with_reducible refine Kd.C_alloc ?_ _) | (with_reducible refine Kd.C_drewN ?_ _) | (with_reducible refine Kd.C_drew ?_))); (case side2 => exact (Kd.R_reads' HO_3.out).2.1); rintro e w' ⟨rfl, ⟨nd, rfl⟩⟩; (try exact zd))))
        go_ret
        exact ⟨by first | rfl | (simp [errW_none, errW_some] <;> rfl) | (simp only [← hji12]; first | rfl | (simp [errW_none, errW_some] <;> rfl)) | (simp [*, errW_none, errW_some] <;> rfl), zb1 HB.out GE719.out⟩
      ·rw [if_neg c11] at H
       exact absurd H (by simp)
     ·rw [if_neg c9] at H
      exact absurd H (by simp)
    ·rw [if_neg c8] at H
     exact absurd H (by simp)
   ·rw [if_neg c7] at H
    have c7b0 : decide (x18_1 < (l0_1.length : Int)) = false := decide_eq_false c7
    clear c7
    have H' := Aside0.mk H
    clear H
    obtain ⟨Ao19, co19, eo19⟩ := Kd.R_slice HO_3.out
    subst eo19
    go_wp2
    repeat (go_quiet (fail); try go_wp2)
    go_loopg [34] k1 (fun kq v34 w' => ∃ (x34_2 : Int), v34 = .int .i64 x34_2 ∧ Aside0 (impl_Family_isPort.l1 kq t720 t720 (t720.length : Int) x34_2 = some r) ∧ Aside0 (kq ≤ k1) ∧ Aside0 (Kd.R (Kd.int .u64) 97 w' w.heap.size (fun _ => True) (.slice Ao19 t720.length co19) t720) ∧ Aside0 (Kd.R (Kd.int .u64) 97 w' w.heap.size (fun _ => True) (.slice Ao19 t720.length co19) t720) ∧ Aside0 (w'.heap[gb719]? = some (.cells #[.int .i64 a0_0, (.slice A0_1 l0_1.length c0_1)] 31 (0, 0))) ∧ Aside0 (Below w.heap.size w w'))
    case atStart => exact ⟨(0), zt, H', ⟨Nat.le_refl _⟩, ⟨zr HO_3.out⟩, ⟨zr HO_3.out⟩, ⟨zk BK719.out⟩, ⟨zb1 HB.out GE719.out⟩⟩
    case round =>
     clear H'
     obtain ⟨x34_2, rfl, HA, HK2, HO_3, HO_32, BK719, HB⟩ := hrel
     cases gk with
     | zero => exact absurd HA.out (by simp [impl_Family_isPort.l1])
     | succ k2 =>
      have H := HA.out
      clear HA
      simp only [impl_Family_isPort.l1] at H
      by_cases c20 : x34_2 < (t720.length : Int)
      ·rw [if_pos c20] at H
       have c20b0 : decide (x34_2 < (t720.length : Int)) = true := decide_eq_true c20
       clear c20
       by_cases c21 : 0 ≤ x34_2
       ·rw [if_pos c21] at H
        have c21b0 : decide (0 ≤ x34_2) = true := decide_eq_true c21
        clear c21
        by_cases c22 : x34_2 < (t720.length : Int)
        ·rw [if_pos c22] at H
         have c22b0 : decide (x34_2 < (t720.length : Int)) = true := decide_eq_true c22
         clear c22
         have c23b0 := eq_true (of_decide_eq_true (by first | (with_reducible assumption) | assumption) : 0 ≤ x34_2)
         by_cases c24 : x34_2 ≤ (t720.length : Int)
         ·rw [if_pos c24] at H
          have c24b0 := eq_true c24
          have c24b1 : decide (x34_2 ≤ (t720.length : Int)) = true := decide_eq_true c24
          clear c24
          obtain ⟨y727, hy727⟩ : ∃ y_ : List Int, y_ = (t720.take (x34_2 : Int).toNat) := ⟨_, rfl⟩
          replace H : (impl_Family_isPort.l2 k2 t720 (rd t720 x34_2) t720 (t720.length : Int) x34_2 y727 (y727.length : Int) 0) = some r := by first | (rw [hy727]; with_reducible exact H) | (have H2_ := (Option.bind_some _ _).symm.trans H; rw [hy727]; with_reducible exact H2_) | (have H2_ := (Option.bind_some _ _).symm.trans H; with_reducible exact H2_) | with_reducible exact H | (rw [hy727]; exact H) | exact H
          have Ny727 := Aside0.mk hy727
          clear hy727
          have H' := Aside0.mk H
          clear H
          have p726 : 0 ≤ (x34_2 : Int) := of_decide_eq_true zq
          have q726 : x34_2 < (t720.length : Int) := of_decide_eq_true zq
          obtain ⟨ad726, e726, hx726_0⟩ := Kd.at_int (Kd.R_reads' HO_32.out).2.2 x34_2 p726 q726
          cases e726
          replace p726 := eq_true p726
          replace q726 := eq_true q726
          have q25 : (x34_2 : Int) ≤ ((t720.length : Int) : Int) := of_decide_eq_true zq
          obtain ⟨i025, hi025, _, hsz25, _⟩ := info_parts info97
          have hroom25 : t720.length ≤ co19 := (Kd.R_reads' HO_3.out).2.1
          have hC25 : Kd.C (Kd.int .u64) _ (some ad726) t720.length t720 := (Kd.R_reads' HO_3.out).2.2
          have hcut25 := cut_to (P := Try.prog) 124 97 .i64 Try.underlying124 hi025 (some ad726) t720.length co19 x34_2 (of_decide_eq_true (by first | (with_reducible assumption) | assumption)) q25 hroom25
          have hr25 := Kd.C_take (m := (x34_2 : Int).toNat) hC25 (by omega)
          have hy25 : y727.length = (x34_2 : Int).toNat := (by rw [Ny727.out, List.length_take]; omega)
          rw [← Ny727.out] at hr25
          rw [← hy25] at hcut25
          have HR730 := Aside0.mk hr25
          have HC730 := Aside0.mk (show y727.length ≤ co19 from by omega)
          clear hr25 hC25 hroom25 hi025 hsz25
          have KY25 := Aside0.mk hy25
          clear hy25
          have KL25 := Aside0.mk (show (x34_2 : Int).toNat ≤ t720.length from by omega)
          replace q25 := eq_true q25
          go_wp2
          repeat (go_quiet (fail); try go_wp2)
          go_loopg [43] k2 (fun kq v43 w' => ∃ (x43_3 : Int), v43 = .int .i64 x43_3 ∧ Aside0 (impl_Family_isPort.l2 kq t720 (rd t720 x34_2) t720 (t720.length : Int) x34_2 y727 (y727.length : Int) x43_3 = some r) ∧ Aside0 (kq ≤ k2) ∧ Aside0 (Kd.R (Kd.int .u64) 97 w' w.heap.size (fun _ => True) (.slice (some ad726) t720.length co19) t720) ∧ Aside0 (Kd.R (Kd.int .u64) 97 w' w.heap.size (fun _ => True) (.slice (some ad726) t720.length co19) t720) ∧ Aside0 (w'.heap[gb719]? = some (.cells #[.int .i64 a0_0, (.slice A0_1 l0_1.length c0_1)] 31 (0, 0))) ∧ Aside0 (Kd.C (Kd.int .u64) w' (some ad726) y727.length y727) ∧ Aside0 (Below w.heap.size w w'))
          case atStart => exact ⟨(0), zt, H', ⟨Nat.le_refl _⟩, ⟨zr HO_3.out⟩, ⟨zr HO_32.out⟩, ⟨zk BK719.out⟩, ⟨by repeat (first | (with_reducible exact HR730.out) | (with_reducible refine Kd.C_alloc ?_ _) | (with_reducible refine Kd.C_drewN ?_ _) | (with_reducible refine Kd.C_drew ?_) | exact HR730.out)⟩, ⟨zb1 HB.out GE719.out⟩⟩
          case round =>
           clear H'
           obtain ⟨x43_3, rfl, HA, HK3, HO_3, HO_32, BK719, HR730, HB⟩ := hrel
           cases gk with
           | zero => exact absurd HA.out (by simp [impl_Family_isPort.l2])
           | succ k3 =>
            have H := HA.out
            clear HA
            simp only [impl_Family_isPort.l2] at H
            by_cases c26 : x43_3 < (y727.length : Int)
            ·rw [if_pos c26] at H
             have c26b0 : decide (x43_3 < (y727.length : Int)) = true := decide_eq_true c26
             clear c26
             by_cases c27 : 0 ≤ x43_3
             ·rw [if_pos c27] at H
              have c27b0 : decide (0 ≤ x43_3) = true := decide_eq_true c27
              clear c27
              by_cases c28 : x43_3 < (y727.length : Int)
              ·rw [if_pos c28] at H
               have c28b0 : decide (x43_3 < (y727.length : Int)) = true := decide_eq_true c28
               clear c28
               replace H := Option.bind_eq_some_iff.mp H
               obtain ⟨t732, A290, H⟩ := H
               replace H : (impl_Family_isPort.l3 k3 t720 (rd t720 x34_2) (rd y727 x43_3) t720 (t720.length : Int) x34_2 y727 (y727.length : Int) x43_3 t732 (t732.length : Int) 0) = some r := H
               have A29 := Aside0.mk A290
               clear A290
               have H' := Aside0.mk H
               clear H
               have p731 : 0 ≤ (x43_3 : Int) := of_decide_eq_true zq
               have q731 : x43_3 < (y727.length : Int) := of_decide_eq_true zq
               obtain ⟨ad731, e731, hx731_0⟩ := Kd.at_int HR730.out x43_3 p731 q731
               obtain rfl : ad726 = ad731 := (by injection e731)
               (try replace hx731_0 := (HB.out.cell (World.block_lt_of_cell? w _ hx731_0)).trans hx731_0)
               replace p731 := eq_true p731
               replace q731 := eq_true q731
               go_wp2_with (first | (go_at_call 78; (with_reducible refine (impl_crowd_group.calls k3 (Go.bits .and .u64 (rd t720 x34_2) (rd y727 x43_3)) t732 _ A29.out).mono ?_); rintro e w30 ⟨v733, rfl, ho0, hb⟩; have n0_ := Aside0.mk (Kd.R_below (zr HO_3.out) hb); have n1_ := Aside0.mk (Kd.R_below (zr HO_32.out) hb); have n2_ := Aside0.mk (Kd.R_lower ho0 (below_size (zb1 HB.out GE719.out))); have n3_ := Aside0.mk (blk_below (g := gb719) (o := .cells #[.int .i64 a0_0, .slice A0_1 l0_1.length c0_1] 31 (0, 0)) (zk BK719.out) hb); have n4_ := Aside0.mk (Kd.C_below (by repeat (first | (with_reducible exact HR730.out) | (with_reducible refine Kd.C_alloc ?_ _) | (with_reducible refine Kd.C_drewN ?_ _) | (with_reducible refine Kd.C_drew ?_) | exact HR730.out)) hb); have n5_ := Aside0.mk (below_step (zb1 HB.out GE719.out) hb); clear HO_3; clear HO_32; clear BK719; clear HR730; clear HB; have HO_3 := n0_; have HO_32 := n1_; have HO734 := n2_; have BK719 := n3_; have HR730 := n4_; have HB := n5_; clear n0_ n1_ n2_ n3_ n4_ n5_; (try clear hb); (try clear hb2); (try clear hk); (try clear hi); (try clear ho0); obtain ⟨Ao31, co31, eo31⟩ := Kd.R_slice HO734.out; subst eo31))
               repeat (go_quiet (first | (go_at_call 78; (with_reducible refine (impl_crowd_group.calls k3 (Go.bits .and .u64 (rd t720 x34_2) (rd y727 x43_3)) t732 _ A29.out).mono ?_); rintro e w30 ⟨v733, rfl, ho0, hb⟩; have n0_ := Aside0.mk (Kd.R_below (zr HO_3.out) hb); have n1_ := Aside0.mk (Kd.R_below (zr HO_32.out) hb); have n2_ := Aside0.mk (Kd.R_lower ho0 (below_size (zb1 HB.out GE719.out))); have n3_ := Aside0.mk (blk_below (g := gb719) (o := .cells #[.int .i64 a0_0, .slice A0_1 l0_1.length c0_1] 31 (0, 0)) (zk BK719.out) hb); have n4_ := Aside0.mk (Kd.C_below (by repeat (first | (with_reducible exact HR730.out) | (with_reducible refine Kd.C_alloc ?_ _) | (with_reducible refine Kd.C_drewN ?_ _) | (with_reducible refine Kd.C_drew ?_) | exact HR730.out)) hb); have n5_ := Aside0.mk (below_step (zb1 HB.out GE719.out) hb); clear HO_3; clear HO_32; clear BK719; clear HR730; clear HB; have HO_3 := n0_; have HO_32 := n1_; have HO734 := n2_; have BK719 := n3_; have HR730 := n4_; have HB := n5_; clear n0_ n1_ n2_ n3_ n4_ n5_; (try clear hb); (try clear hb2); (try clear hk); (try clear hi); (try clear ho0); obtain ⟨Ao31, co31, eo31⟩ := Kd.R_slice HO734.out; subst eo31)); try go_wp2_with (first | (go_at_call 78; (with_reducible refine (impl_crowd_group.calls k3 (Go.bits .and .u64 (rd t720 x34_2) (rd y727 x43_3)) t732 _ A29.out).mono ?_); rintro e w30 ⟨v733, rfl, ho0, hb⟩; have n0_ := Aside0.mk (Kd.R_below (zr HO_3.out) hb); have n1_ := Aside0.mk (Kd.R_below (zr HO_32.out) hb); have n2_ := Aside0.mk (Kd.R_lower ho0 (below_size (zb1 HB.out GE719.out))); have n3_ := Aside0.mk (blk_below (g := gb719) (o := .cells #[.int .i64 a0_0, .slice A0_1 l0_1.length c0_1] 31 (0, 0)) (zk BK719.out) hb); have n4_ := Aside0.mk (Kd.C_below (by repeat (first | (with_reducible exact HR730.out) | (with_reducible refine Kd.C_alloc ?_ _) | (with_reducible refine Kd.C_drewN ?_ _) | (with_reducible refine Kd.C_drew ?_) | exact HR730.out)) hb); have n5_ := Aside0.mk (below_step (zb1 HB.out GE719.out) hb); clear HO_3; clear HO_32; clear BK719; clear HR730; clear HB; have HO_3 := n0_; have HO_32 := n1_; have HO734 := n2_; have BK719 := n3_; have HR730 := n4_; have HB := n5_; clear n0_ n1_ n2_ n3_ n4_ n5_; (try clear hb); (try clear hb2); (try clear hk); (try clear hi); (try clear ho0); obtain ⟨Ao31, co31, eo31⟩ := Kd.R_slice HO734.out; subst eo31)))
               go_loopg [52] k3 (fun kq v52 w' => ∃ (x52_4 : Int), v52 = .int .i64 x52_4 ∧ Aside0 (impl_Family_isPort.l3 kq t720 (rd t720 x34_2) (rd y727 x43_3) t720 (t720.length : Int) x34_2 y727 (y727.length : Int) x43_3 t732 (t732.length : Int) x52_4 = some r) ∧ Aside0 (kq ≤ k3) ∧ Aside0 (Kd.R (Kd.int .u64) 97 w' w.heap.size (fun _ => True) (.slice (some ad726) t720.length co19) t720) ∧ Aside0 (Kd.R (Kd.int .u64) 97 w' w.heap.size (fun _ => True) (.slice (some ad726) t720.length co19) t720) ∧ Aside0 (Kd.R (Kd.int .i64) 2 w' w.heap.size (fun _ => True) (.slice Ao31 t732.length co31) t732) ∧ Aside0 (w'.heap[gb719]? = some (.cells #[.int .i64 a0_0, (.slice A0_1 l0_1.length c0_1)] 31 (0, 0))) ∧ Aside0 (Kd.C (Kd.int .u64) w' (some ad726) y727.length y727) ∧ Aside0 (Below w.heap.size w w'))
               case atStart => exact ⟨(0), zt, H', ⟨Nat.le_refl _⟩, ⟨zr HO_3.out⟩, ⟨zr HO_32.out⟩, ⟨zr HO734.out⟩, ⟨zk BK719.out⟩, ⟨by repeat (first | (with_reducible exact HR730.out) | (with_reducible refine Kd.C_alloc ?_ _) | (with_reducible refine Kd.C_drewN ?_ _) | (with_reducible refine Kd.C_drew ?_) | exact HR730.out)⟩, ⟨zb1 HB.out GE719.out⟩⟩
               case round =>
                clear H'
                obtain ⟨x52_4, rfl, HA, HK4, HO_3, HO_32, HO_50, BK719, HR730, HB⟩ := hrel
                cases gk with
                | zero => exact absurd HA.out (by simp [impl_Family_isPort.l3])
                | succ k4 =>
                 have H := HA.out
                 clear HA
                 simp only [impl_Family_isPort.l3] at H
                 by_cases c32 : x52_4 < (t732.length : Int)
                 ·rw [if_pos c32] at H
                  have c32b0 : decide (x52_4 < (t732.length : Int)) = true := decide_eq_true c32
                  clear c32
                  by_cases c33 : 0 ≤ x52_4
                  ·rw [if_pos c33] at H
                   have c33b0 : decide (0 ≤ x52_4) = true := decide_eq_true c33
                   clear c33
                   by_cases c34 : x52_4 < (t732.length : Int)
                   ·rw [if_pos c34] at H
                    have c34b0 : decide (x52_4 < (t732.length : Int)) = true := decide_eq_true c34
                    clear c34
                    by_cases c35 : 0 ≤ (rd t732 x52_4)
                    ·rw [if_pos c35] at H
                     have c35b0 := eq_true c35
                     have c35b1 : decide (0 ≤ (rd t732 x52_4)) = true := decide_eq_true c35
                     clear c35
                     obtain ⟨ji36, hji36⟩ : ∃ j_ : Int, (shl .u64 1 (rd t732 x52_4)) = j_ := ⟨_, rfl⟩
                     replace H : ((anyIn.f k4 t720 (Go.bits .andNot .u64 (Go.bits .or .u64 (rd t720 x34_2) (rd y727 x43_3)) (ji36))).bind fun t736 => (if t736 = true then (impl_Family_isPort.l3 k4 t720 (rd t720 x34_2) (rd y727 x43_3) t720 (t720.length : Int) x34_2 y727 (y727.length : Int) x43_3 t732 (t732.length : Int) (wrap64 (x52_4 + 1))) else (some false))) = some r := by first | (rw [hji36] at H; exact H) | (simp only [hji36] at H ⊢; exact H)
                     have hji36_ : (IntKind.u64.wrap (1 * 2 ^ min (rd t732 x52_4).toNat 64)) = ji36 := hji36
                     have hji36z : (rd t732 x52_4) ≤ 64 → (IntKind.u64.wrap (1 * 2 ^ (rd t732 x52_4).toNat)) = ji36 := shl_small hji36
                     have hji36u : (IntKind.u64.wrap (2 ^ min (rd t732 x52_4).toNat 64)) = ji36 := by have h_ := hji36_; rw [Int.one_mul] at h_; exact h_
                     have hji36v : (rd t732 x52_4) ≤ 64 → (IntKind.u64.wrap (2 ^ (rd t732 x52_4).toNat)) = ji36 := fun hle_ => by have h_ := hji36z hle_; rw [Int.one_mul] at h_; exact h_
                     replace H := Option.bind_eq_some_iff.mp H
                     obtain ⟨t736, A370, H⟩ := H
                     replace H : (if t736 = true then (impl_Family_isPort.l3 k4 t720 (rd t720 x34_2) (rd y727 x43_3) t720 (t720.length : Int) x34_2 y727 (y727.length : Int) x43_3 t732 (t732.length : Int) (wrap64 (x52_4 + 1))) else (some false)) = some r := H
                     have A37 := Aside0.mk A370
                     clear A370
                     by_cases c38 : t736 = true
                     ·subst c38
                      rw [if_pos rfl] at H
                      have H' := Aside0.mk H
                      clear H
                      have p735 : 0 ≤ (x52_4 : Int) := of_decide_eq_true zq
                      have q735 : x52_4 < (t732.length : Int) := of_decide_eq_true zq
                      obtain ⟨ad735, e735, hx735_0⟩ := Kd.at_int (Kd.R_reads' HO_50.out).2.2 x52_4 p735 q735
                      cases e735
                      replace p735 := eq_true p735
                      replace q735 := eq_true q735
                      go_wp2_with (first | (go_at_call 103; (with_reducible refine (anyIn_calls k4 _ _ t720 (Go.bits .andNot .u64 (Go.bits .or .u64 (rd t720 x34_2) (rd y727 x43_3)) (ji36)) true _ ?side1 ?side2 A37.out).mono ?_); (case side1 => repeat (first | exact (Kd.R_reads' HO_3.out).2.2 | (with_reducible refine Kd.C_alloc ?_ _) | (with_reducible refine Kd.C_drewN ?_ _) | (with_reducible refine Kd.C_drew ?_))); (case side2 => exact (Kd.R_reads' HO_3.out).2.1); rintro e w' ⟨rfl, ⟨nd, rfl⟩⟩; (try exact zd)))
                      repeat (go_quiet (first | (go_at_call 103; (with_reducible refine (anyIn_calls k4 _ _ t720 (Go.bits .andNot .u64 (Go.bits .or .u64 (rd t720 x34_2) (rd y727 x43_3)) (ji36)) true _ ?side1 ?side2 A37.out).mono ?_); (case side1 => repeat (first | exact (Kd.R_reads' HO_3.out).2.2 | (with_reducible refine Kd.C_alloc ?_ _) | (with_reducible refine Kd.C_drewN ?_ _) | (with_reducible refine Kd.C_drew ?_))); (case side2 => exact (Kd.R_reads' HO_3.out).2.1); rintro e w' ⟨rfl, ⟨nd, rfl⟩⟩; (try exact zd))); try go_wp2_with (first | (go_at_call 103; (with_reducible refine (anyIn_calls k4 _ _ t720 (Go.bits .andNot .u64 (Go.bits .or .u64 (rd t720 x34_2) (rd y727 x43_3)) (ji36)) true _ ?side1 ?side2 A37.out).mono ?_); (case side1 => repeat (first | exact (Kd.R_reads' HO_3.out).2.2 | (with_reducible refine Kd.C_alloc ?_ _) | (with_reducible refine Kd.C_drewN ?_ _) | (with_reducible refine Kd.C_drew ?_))); (case side2 => exact (Kd.R_reads' HO_3.out).2.1); rintro e w' ⟨rfl, ⟨nd, rfl⟩⟩; (try exact zd))))
                      go_roundg k4
                      case measure => have := HK1.out; have := HK2.out; have := HK3.out; have := HK4.out; omega
                      case rel => exact ⟨(wrap64 (x52_4 + 1)), zt, H', ⟨by have := HK1.out; have := HK2.out; have := HK3.out; have := HK4.out; omega⟩, ⟨zr HO_3.out⟩, ⟨zr HO_32.out⟩, ⟨zr HO_50.out⟩, ⟨zk BK719.out⟩, ⟨by repeat (first | (with_reducible exact HR730.out) | (with_reducible refine Kd.C_alloc ?_ _) | (with_reducible refine Kd.C_drewN ?_ _) | (with_reducible refine Kd.C_drew ?_) | exact HR730.out)⟩, ⟨zb1 HB.out GE719.out⟩⟩
                     ·replace c38 := Bool.eq_false_iff.mpr c38
                      subst c38
                      rw [if_neg (show ¬ (false = true) by decide)] at H
                      obtain rfl := Option.some.inj H
                      have p735 : 0 ≤ (x52_4 : Int) := of_decide_eq_true zq
                      have q735 : x52_4 < (t732.length : Int) := of_decide_eq_true zq
                      obtain ⟨ad735, e735, hx735_0⟩ := Kd.at_int (Kd.R_reads' HO_50.out).2.2 x52_4 p735 q735
                      cases e735
                      replace p735 := eq_true p735
                      replace q735 := eq_true q735
                      go_wp2_with (first | (go_at_call 103; (with_reducible refine (anyIn_calls k4 _ _ t720 (Go.bits .andNot .u64 (Go.bits .or .u64 (rd t720 x34_2) (rd y727 x43_3)) (ji36)) false _ ?side1 ?side2 A37.out).mono ?_); (case side1 => repeat (first | exact (Kd.R_reads' HO_3.out).2.2 | (with_reducible refine Kd.C_alloc ?_ _) | (with_reducible refine Kd.C_drewN ?_ _) | (with_reducible refine Kd.C_drew ?_))); (case side2 => exact (Kd.R_reads' HO_3.out).2.1); rintro e w' ⟨rfl, ⟨nd, rfl⟩⟩; (try exact zd)))
                      repeat (go_quiet (first | (go_at_call 103; (with_reducible refine (anyIn_calls k4 _ _ t720 (Go.bits .andNot .u64 (Go.bits .or .u64 (rd t720 x34_2) (rd y727 x43_3)) (ji36)) false _ ?side1 ?side2 A37.out).mono ?_); (case side1 => repeat (first | exact (Kd.R_reads' HO_3.out).2.2 | (with_reducible refine Kd.C_alloc ?_ _) | (with_reducible refine Kd.C_drewN ?_ _) | (with_reducible refine Kd.C_drew ?_))); (case side2 => exact (Kd.R_reads' HO_3.out).2.1); rintro e w' ⟨rfl, ⟨nd, rfl⟩⟩; (try exact zd))); try go_wp2_with (first | (go_at_call 103; (with_reducible refine (anyIn_calls k4 _ _ t720 (Go.bits .andNot .u64 (Go.bits .or .u64 (rd t720 x34_2) (rd y727 x43_3)) (ji36)) false _ ?side1 ?side2 A37.out).mono ?_); (case side1 => repeat (first | exact (Kd.R_reads' HO_3.out).2.2 | (with_reducible refine Kd.C_alloc ?_ _) | (with_reducible refine Kd.C_drewN ?_ _) | (with_reducible refine Kd.C_drew ?_))); (case side2 => exact (Kd.R_reads' HO_3.out).2.1); rintro e w' ⟨rfl, ⟨nd, rfl⟩⟩; (try exact zd))))
                      go_ret
                      exact ⟨by first | rfl | (simp [errW_none, errW_some] <;> rfl) | (simp only [← hji36]; first | rfl | (simp [errW_none, errW_some] <;> rfl)) | (simp [*, errW_none, errW_some] <;> rfl), zb1 HB.out GE719.out⟩
                    ·rw [if_neg c35] at H
                     exact absurd H (by simp)
                   ·rw [if_neg c34] at H
                    exact absurd H (by simp)
                  ·rw [if_neg c33] at H
                   exact absurd H (by simp)
                 ·rw [if_neg c32] at H
                  have c32b0 : decide (x52_4 < (t732.length : Int)) = false := decide_eq_false c32
                  clear c32
                  have H' := Aside0.mk H
                  clear H
                  go_wp2
                  repeat (go_quiet (fail); try go_wp2)
                  go_roundg k4
                  case measure => have := HK1.out; have := HK2.out; have := HK3.out; have := HK4.out; omega
                  case rel => exact ⟨(wrap64 (x43_3 + 1)), zt, H', ⟨by have := HK1.out; have := HK2.out; have := HK3.out; have := HK4.out; omega⟩, ⟨zr HO_3.out⟩, ⟨zr HO_32.out⟩, ⟨zk BK719.out⟩, ⟨by repeat (first | (with_reducible exact HR730.out) | (with_reducible refine Kd.C_alloc ?_ _) | (with_reducible refine Kd.C_drewN ?_ _) | (with_reducible refine Kd.C_drew ?_) | exact HR730.out)⟩, ⟨zb1 HB.out GE719.out⟩⟩
              ·rw [if_neg c28] at H
               exact absurd H (by simp)
             ·rw [if_neg c27] at H
              exact absurd H (by simp)
            ·rw [if_neg c26] at H
             have c26b0 : decide (x43_3 < (y727.length : Int)) = false := decide_eq_false c26
             clear c26
             have H' := Aside0.mk H
             clear H
             go_wp2
             repeat (go_quiet (fail); try go_wp2)
             go_roundg k3
             case measure => have := HK1.out; have := HK2.out; have := HK3.out; omega
             case rel => exact ⟨(wrap64 (x34_2 + 1)), zt, H', ⟨by have := HK1.out; have := HK2.out; have := HK3.out; omega⟩, ⟨zr HO_3.out⟩, ⟨zr HO_32.out⟩, ⟨zk BK719.out⟩, ⟨zb1 HB.out GE719.out⟩⟩
         ·rw [if_neg c24] at H
          exact absurd H (by simp)
        ·rw [if_neg c22] at H
         exact absurd H (by simp)
       ·rw [if_neg c21] at H
        exact absurd H (by simp)
      ·rw [if_neg c20] at H
       have c20b0 : decide (x34_2 < (t720.length : Int)) = false := decide_eq_false c20
       clear c20
       obtain rfl := Option.some.inj H
       go_wp2
       repeat (go_quiet (fail); try go_wp2)
       go_ret
       exact ⟨ze, zb1 HB.out GE719.out⟩
open Go.RowKit Go.Proofs.YtmbeijjkfmgkpaaW.PrintWords Go.Proofs.YtmbeijjkfmgkpaaW.PrintLast Go.Proofs.YtmbeijjkfmgkpaaW.PrintMore
attribute [local go_sem] max2_int min2_int max_two min_two max_three min_three max_four min_four
set_option linter.unusedVariables false
set_option linter.unusedSimpArgs false
def spec_l07Within.l0 : Nat → List Int → Int → Int → Option (Bool)
  | 0, _, _, _ => none
  | k + 1, x0, x1, x5 => if x5 < (x0.length : Int) then (if 0 ≤ x5 then (if (Go.bits .and .i64 (rd x0 x5) x1) = (rd x0 x5) then (some true) else (spec_l07Within.l0 k x0 x1 (wrap64 (x5 + 1)))) else (none)) else (some false)
def spec_l07Within.f (k : Nat) (l0 : List Int) (a1 : Int) : Option (Bool) := spec_l07Within.l0 k l0 a1 0
set_option maxHeartbeats 8000000 in
set_option maxRecDepth 100000 in
theorem spec_l07Within.calls (k : Nat) (A0 : Option Addr) (c0 : Nat) (l0 : List Int) (a1 : Int) (r : Bool) (w : World) (hr0 : Kd.C (Kd.int .i64) w A0 l0.length l0) (hc0 : l0.length ≤ c0) (h : spec_l07Within.f k l0 a1 = some r) :
  Calls Try.prog 114 #[.slice A0 l0.length c0, .int .i64 a1] w fun e w' => e = .returned (.bool r) ∧ Drawn0 w w' := by
 have HR0 := Aside0.mk hr0
 have HC0 := Aside0.mk hc0
 clear hr0 hc0
 have H : (spec_l07Within.l0 k l0 a1 0) = some r := h
 clear h
 have H' := Aside0.mk H
 clear H
 go_enter Try.func114, Try.ntmps114
 go_wp2
 repeat (go_quiet (fail); try go_wp2)
 go_loopg [5] k (fun kq v5 w' => ∃ (x5_1 : Int), v5 = .int .i64 x5_1 ∧ Aside0 (spec_l07Within.l0 kq l0 a1 x5_1 = some r) ∧ Aside0 (kq ≤ k) ∧ Drawn0 w w')
 case atStart => exact ⟨(0), zt, H', ⟨Nat.le_refl _⟩, by repeat (first | exact Drawn0.refl _ | apply Drawn0.step)⟩
 case round =>
  clear H'
  obtain ⟨x5_1, rfl, HA, HK1, ⟨m1, rfl⟩⟩ := hrel
  cases gk with
  | zero => exact absurd HA.out (by simp [spec_l07Within.l0])
  | succ k1 =>
   have H := HA.out
   clear HA
   simp only [spec_l07Within.l0] at H
   by_cases c3 : x5_1 < (l0.length : Int)
   ·rw [if_pos c3] at H
    have c3b0 : decide (x5_1 < (l0.length : Int)) = true := decide_eq_true c3
    clear c3
    by_cases c4 : 0 ≤ x5_1
    ·rw [if_pos c4] at H
     have c4b0 : decide (0 ≤ x5_1) = true := decide_eq_true c4
     clear c4
     by_cases c5 : (Go.bits .and .i64 (rd l0 x5_1) a1) = (rd l0 x5_1)
     ·rw [if_pos c5] at H
      have c5b0 : ((Go.bits .and .i64 (rd l0 x5_1) a1) == (rd l0 x5_1)) = true := beq_iff_eq.mpr c5
      have c5b1 : ((Go.bits .and .i64 (rd l0 x5_1) a1) != (rd l0 x5_1)) = false := bne_eq_false_iff_eq.mpr c5
      clear c5
      obtain rfl := Option.some.inj H
      have p964 : 0 ≤ (x5_1 : Int) := of_decide_eq_true zq
      have q964 : x5_1 < (l0.length : Int) := of_decide_eq_true zq
      obtain ⟨ad964, e964, hx964_0⟩ := Kd.at_int HR0.out x5_1 p964 q964
      cases e964
      replace p964 := eq_true p964
      replace q964 := eq_true q964
      have p965 : 0 ≤ (x5_1 : Int) := of_decide_eq_true zq
      have q965 : x5_1 < (l0.length : Int) := of_decide_eq_true zq
      obtain ⟨ad965, e965, hx965_0⟩ := Kd.at_int HR0.out x5_1 p965 q965
      obtain rfl : ad964 = ad965 := (by injection e965)
      replace p965 := eq_true p965
      replace q965 := eq_true q965
      go_wp2
      repeat (go_quiet (fail); try go_wp2)
      go_ret
      exact ⟨by first | rfl | (simp; done) | (simp [*]; done), by repeat (first | exact Drawn0.refl _ | apply Drawn0.step)⟩
     ·rw [if_neg c5] at H
      have c5b0 : ((Go.bits .and .i64 (rd l0 x5_1) a1) == (rd l0 x5_1)) = false := beq_eq_false_iff_ne.mpr c5
      have c5b1 : ((Go.bits .and .i64 (rd l0 x5_1) a1) != (rd l0 x5_1)) = true := bne_iff_ne.mpr c5
      have H' := Aside0.mk H
      clear H
      have p964 : 0 ≤ (x5_1 : Int) := of_decide_eq_true zq
      have q964 : x5_1 < (l0.length : Int) := of_decide_eq_true zq
      obtain ⟨ad964, e964, hx964_0⟩ := Kd.at_int HR0.out x5_1 p964 q964
      cases e964
      replace p964 := eq_true p964
      replace q964 := eq_true q964
      have p965 : 0 ≤ (x5_1 : Int) := of_decide_eq_true zq
      have q965 : x5_1 < (l0.length : Int) := of_decide_eq_true zq
      obtain ⟨ad965, e965, hx965_0⟩ := Kd.at_int HR0.out x5_1 p965 q965
      obtain rfl : ad964 = ad965 := (by injection e965)
      replace p965 := eq_true p965
      replace q965 := eq_true q965
      go_wp2
      repeat (go_quiet (fail); try go_wp2)
      go_roundg k1
      case measure => have := HK1.out; omega
      case rel => exact ⟨(wrap64 (x5_1 + 1)), zt, H', ⟨by have := HK1.out; omega⟩, by repeat (first | exact Drawn0.refl _ | apply Drawn0.step)⟩
    ·rw [if_neg c4] at H
     exact absurd H (by simp)
   ·rw [if_neg c3] at H
    have c3b0 : decide (x5_1 < (l0.length : Int)) = false := decide_eq_false c3
    clear c3
    obtain rfl := Option.some.inj H
    go_wp2
    repeat (go_quiet (fail); try go_wp2)
    go_ret
    exact ⟨by first | rfl | (simp; done) | (simp [*]; done), by repeat (first | exact Drawn0.refl _ | apply Drawn0.step)⟩
mutual
def spec_l07Port.l0 : Nat → List Int → Bool → Int → Int → List (List Int) → Option (List Int × Bool)
 | 0, _, _, _, _, _ => none
 | k + 1, x4, x5, x6, x967000, x967001 => if x6 < (x4.length : Int) then (spec_l07Port.j1 k x4 x5 x6 x5 x967000 x967001) else (spec_l07Port.j1 k x4 x5 x6 false x967000 x967001)
def spec_l07Port.j1 : Nat → List Int → Bool → Int → Bool → Int → List (List Int) → Option (List Int × Bool)
 | 0, _, _, _, _, _, _ => none
 | k + 1, x4, x5, x6, x21, x967000, x967001 => if x21 = true then (spec_l07Port.l1 k x4 x5 x6 0 x967000 x967001) else (some (x4, x5))
def spec_l07Port.l1 : Nat → List Int → Bool → Int → Int → Int → List (List Int) → Option (List Int × Bool)
 | 0, _, _, _, _, _, _ => none
 | k + 1, x4, x5, x6, x7, x967000, x967001 => if x7 < x6 then (spec_l07Port.j3 k x4 x5 x6 x7 x5 x967000 x967001) else (spec_l07Port.j3 k x4 x5 x6 x7 false x967000 x967001)
def spec_l07Port.j3 : Nat → List Int → Bool → Int → Int → Bool → Int → List (List Int) → Option (List Int × Bool)
 | 0, _, _, _, _, _, _, _ => none
 | k + 1, x4, x5, x6, x7, x29, x967000, x967001 => if x29 = true then (spec_l07Port.l2 k x4 x5 x6 x7 0 x967000 x967001) else (spec_l07Port.l0 k x4 x5 (wrap64 (x6 + 1)) x967000 x967001)
def spec_l07Port.l2 : Nat → List Int → Bool → Int → Int → Int → Int → List (List Int) → Option (List Int × Bool)
 | 0, _, _, _, _, _, _, _ => none
 | k + 1, x4, x5, x6, x7, x8, x967000, x967001 => if x8 ≤ x967000 then (spec_l07Port.j5 k x4 x5 x6 x7 x8 x5 x967000 x967001) else (spec_l07Port.j5 k x4 x5 x6 x7 x8 false x967000 x967001)
def spec_l07Port.j5 : Nat → List Int → Bool → Int → Int → Int → Bool → Int → List (List Int) → Option (List Int × Bool)
 | 0, _, _, _, _, _, _, _, _ => none
 | k + 1, x4, x5, x6, x7, x8, x40, x967000, x967001 => if x40 = true then (if 0 ≤ (IntKind.u64.wrap (x8)) then (if 0 ≤ x6 then (if x6 < (x4.length : Int) then (if 0 ≤ x7 then (if x7 < (x4.length : Int) then (if (Go.bits .and .i64 (Go.bits .and .i64 (rd x4 x6) (rd x4 x7)) (shl .i64 1 (IntKind.u64.wrap (x8)))) = 0 then (spec_l07Port.l2 k x4 x5 x6 x7 (wrap64 (x8 + 1)) x967000 x967001) else ((spec_l07Within.f k x4 (Go.bits .andNot .i64 (Go.bits .or .i64 (rd x4 x6) (rd x4 x7)) (shl .i64 1 (IntKind.u64.wrap (x8))))).bind fun t975 => (spec_l07Port.l2 k x4 t975 x6 x7 (wrap64 (x8 + 1)) x967000 x967001))) else (none)) else (none)) else (none)) else (none)) else (none)) else (spec_l07Port.l1 k x4 x5 x6 (wrap64 (x7 + 1)) x967000 x967001)
end
def spec_l07Port.f (k : Nat) (a0_0 : Int) (l0_1 : List (List Int)) : Option (List Int × Bool) := (spec_l07Circuits.f k a0_0 l0_1).bind fun bt967 => (spec_l07Port.l0 k bt967.1 bt967.2 0 a0_0 l0_1)
set_option maxHeartbeats 8000000 in
set_option maxRecDepth 100000 in
theorem spec_l07Port.calls (k : Nat) (g0 : Nat) (a0_0 : Int) (A0_1 : Option Addr) (c0_1 : Nat) (l0_1 : List (List Int)) (r1 : List Int) (r2 : Bool) (w : World) (hb0 : w.heap[g0]? = some (.cells #[.int .i64 a0_0, .slice A0_1 l0_1.length c0_1] 31 (0, 0))) (hr0_1 : Kd.C (Kd.slice 2 (Kd.int .i64)) w A0_1 l0_1.length l0_1) (hc0_1 : l0_1.length ≤ c0_1) (h : spec_l07Port.f k a0_0 l0_1 = some (r1, r2)) :
  Calls Try.prog 111 #[.pointer (some ⟨g0, 0, none⟩)] w fun e w' => ∃ v0_ : Value, e = .returned (.tuple #[v0_, .bool r2]) ∧ Kd.R (Kd.int .i64) 2 w' w.heap.size (fun _ => True) v0_ r1 ∧ Below w.heap.size w w' := by
 have HR0_1 := Aside0.mk hr0_1
 have HC0_1 := Aside0.mk hc0_1
 clear hr0_1 hc0_1
 have BK966 := Aside0.mk hb0
 clear hb0
 have HB := Aside0.mk (Below.refl w.heap.size w)
 have H : ((spec_l07Circuits.f k a0_0 l0_1).bind fun bt967 => (spec_l07Port.l0 k bt967.1 bt967.2 0 a0_0 l0_1)) = some (r1, r2) := h
 clear h
 replace H := Option.bind_eq_some_iff.mp H
 obtain ⟨⟨t967, t970⟩, A20, H⟩ := H
 replace H : (spec_l07Port.l0 k t967 t970 0 a0_0 l0_1) = some (r1, r2) := H
 have A2 := Aside0.mk A20
 clear A20
 have H' := Aside0.mk H
 clear H
 go_enter Try.func111, Try.ntmps111
 go_wp2_with (first | (go_at_call 112; (with_reducible refine (spec_l07Circuits.calls k g0 a0_0 A0_1 c0_1 l0_1 t967 t970 _ ?side1 ?side2 ?side3 A2.out).mono ?_); (case side1 => (with_reducible repeat (first | refine blk_drewN ?_ _ | refine blk_drew ?_ | refine blk_alloc ?_ _)); exact BK966.out); (case side2 => exact zc HR0_1.out); (case side3 => exact HC0_1.out); rintro e w3 ⟨v968, rfl, ho0, hb⟩; have n0_ := Aside0.mk (Kd.R_lower ho0 (below_size (zb0 HB.out))); have n1_ := Aside0.mk (blk_below (g := g0) (o := .cells #[.int .i64 a0_0, .slice A0_1 l0_1.length c0_1] 31 (0, 0)) (zk BK966.out) hb); have n2_ := Aside0.mk (below_step (zb0 HB.out) hb); clear BK966; clear HB; have HO969 := n0_; have BK966 := n1_; have HB := n2_; clear n0_ n1_ n2_; (try clear hb); (try clear hb2); (try clear hk); (try clear hi); (try clear ho0)))
 repeat (go_quiet (first | (go_at_call 112; (with_reducible refine (spec_l07Circuits.calls k g0 a0_0 A0_1 c0_1 l0_1 t967 t970 _ ?side1 ?side2 ?side3 A2.out).mono ?_); (case side1 => (with_reducible repeat (first | refine blk_drewN ?_ _ | refine blk_drew ?_ | refine blk_alloc ?_ _)); exact BK966.out); (case side2 => exact zc HR0_1.out); (case side3 => exact HC0_1.out); rintro e w3 ⟨v968, rfl, ho0, hb⟩; have n0_ := Aside0.mk (Kd.R_lower ho0 (below_size (zb0 HB.out))); have n1_ := Aside0.mk (blk_below (g := g0) (o := .cells #[.int .i64 a0_0, .slice A0_1 l0_1.length c0_1] 31 (0, 0)) (zk BK966.out) hb); have n2_ := Aside0.mk (below_step (zb0 HB.out) hb); clear BK966; clear HB; have HO969 := n0_; have BK966 := n1_; have HB := n2_; clear n0_ n1_ n2_; (try clear hb); (try clear hb2); (try clear hk); (try clear hi); (try clear ho0))); try go_wp2_with (first | (go_at_call 112; (with_reducible refine (spec_l07Circuits.calls k g0 a0_0 A0_1 c0_1 l0_1 t967 t970 _ ?side1 ?side2 ?side3 A2.out).mono ?_); (case side1 => (with_reducible repeat (first | refine blk_drewN ?_ _ | refine blk_drew ?_ | refine blk_alloc ?_ _)); exact BK966.out); (case side2 => exact zc HR0_1.out); (case side3 => exact HC0_1.out); rintro e w3 ⟨v968, rfl, ho0, hb⟩; have n0_ := Aside0.mk (Kd.R_lower ho0 (below_size (zb0 HB.out))); have n1_ := Aside0.mk (blk_below (g := g0) (o := .cells #[.int .i64 a0_0, .slice A0_1 l0_1.length c0_1] 31 (0, 0)) (zk BK966.out) hb); have n2_ := Aside0.mk (below_step (zb0 HB.out) hb); clear BK966; clear HB; have HO969 := n0_; have BK966 := n1_; have HB := n2_; clear n0_ n1_ n2_; (try clear hb); (try clear hb2); (try clear hk); (try clear hi); (try clear ho0))))
 go_loopg [5, 6] k (fun kq v5 v6 w' => ∃ (x5_1 : Bool) (x6_1 : Int), v5 = .bool x5_1 ∧ v6 = .int .i64 x6_1 ∧ Aside0 (spec_l07Port.l0 kq t967 x5_1 x6_1 a0_0 l0_1 = some (r1, r2)) ∧ Aside0 (kq ≤ k) ∧ Aside0 (Kd.R (Kd.int .i64) 2 w' w.heap.size (fun _ => True) v968 t967) ∧ Aside0 (w'.heap[g0]? = some (.cells #[.int .i64 a0_0, (.slice A0_1 l0_1.length c0_1)] 31 (0, 0))) ∧ Aside0 (Below w.heap.size w w'))
 case atStart => exact ⟨(t970), (0), zt, zt, H', ⟨Nat.le_refl _⟩, ⟨zr HO969.out⟩, ⟨zk BK966.out⟩, ⟨zb0 HB.out⟩⟩
 case round =>
  clear H'
  obtain ⟨x5_1, x6_1, rfl, rfl, HA, HK1, HO_4, BK966, HB⟩ := hrel
  cases gk with
  | zero => exact absurd HA.out (by simp [spec_l07Port.l0])
  | succ k1 =>
   have H := HA.out
   clear HA
   simp only [spec_l07Port.l0] at H
   have HC4 := Aside0.mk H
   clear H
   go_upto_region 3 with (fail)
   repeat (go_quiet (fail); go_upto_region 3 with (fail))
   go_cut [21] (fun v21 wc => ∃ (kq : Nat) (x21_3 : Bool), v21 = .bool x21_3 ∧ Aside0 (spec_l07Port.j1 kq t967 x5_1 x6_1 x21_3 a0_0 l0_1 = some (r1, r2)) ∧ Aside0 (kq ≤ k1) ∧ Aside0 (Kd.R (Kd.int .i64) 2 wc w.heap.size (fun _ => True) v968 t967) ∧ Aside0 (wc.heap[g0]? = some (.cells #[.int .i64 a0_0, (.slice A0_1 l0_1.length c0_1)] 31 (0, 0))) ∧ Aside0 (Below w.heap.size w wc))
   case first =>
    have H := HC4.out
    clear HC4
    by_cases c5 : x6_1 < (t967.length : Int)
    ·rw [if_pos c5] at H
     have c5b0 : decide (x6_1 < (t967.length : Int)) = true := decide_eq_true c5
     clear c5
     (first | rw [c5b0] | (simp only [i64_w, i32_w]; rw [c5b0]) | skip)
     have H' := Aside0.mk H
     clear H
     obtain ⟨Ao6, co6, eo6⟩ := Kd.R_slice HO_4.out
     subst eo6
     go_wp2
     repeat (go_quiet (fail); try go_wp2)
     go_meet
     case rel => exact ⟨_, (x5_1), zt, H', ⟨by have := HK1.out; first | omega | exact Nat.le_refl _⟩, ⟨zr HO_4.out⟩, ⟨zk BK966.out⟩, ⟨zb0 HB.out⟩⟩
    ·rw [if_neg c5] at H
     have c5b0 : decide (x6_1 < (t967.length : Int)) = false := decide_eq_false c5
     clear c5
     (first | rw [c5b0] | (simp only [i64_w, i32_w]; rw [c5b0]) | skip)
     have H' := Aside0.mk H
     clear H
     obtain ⟨Ao7, co7, eo7⟩ := Kd.R_slice HO_4.out
     subst eo7
     go_wp2
     repeat (go_quiet (fail); try go_wp2)
     go_meet
     case rel => exact ⟨_, (false), zt, H', ⟨by have := HK1.out; first | omega | exact Nat.le_refl _⟩, ⟨zr HO_4.out⟩, ⟨zk BK966.out⟩, ⟨zb0 HB.out⟩⟩
   case rest =>
    clear HC4
    obtain ⟨kq, x21_3, rfl, HA, HJ3, HO_4, BK966, HB⟩ := hcut
    cases kq with
    | zero => exact absurd HA.out (by simp [spec_l07Port.j1])
    | succ kj3 =>
     have H := HA.out
     clear HA
     simp only [spec_l07Port.j1] at H
     by_cases c8 : x21_3 = true
     ·subst c8
      rw [if_pos rfl] at H
      have H' := Aside0.mk H
      clear H
      go_wp2
      repeat (go_quiet (fail); try go_wp2)
      go_loopg [5, 7] kj3 (fun kq v5 v7 w' => ∃ (x5_3 : Bool) (x7_3 : Int), v5 = .bool x5_3 ∧ v7 = .int .i64 x7_3 ∧ Aside0 (spec_l07Port.l1 kq t967 x5_3 x6_1 x7_3 a0_0 l0_1 = some (r1, r2)) ∧ Aside0 (kq ≤ kj3) ∧ Aside0 (Kd.R (Kd.int .i64) 2 w' w.heap.size (fun _ => True) v968 t967) ∧ Aside0 (w'.heap[g0]? = some (.cells #[.int .i64 a0_0, (.slice A0_1 l0_1.length c0_1)] 31 (0, 0))) ∧ Aside0 (Below w.heap.size w w'))
      case atStart => exact ⟨(x5_1), (0), zt, zt, H', ⟨Nat.le_refl _⟩, ⟨zr HO_4.out⟩, ⟨zk BK966.out⟩, ⟨zb0 HB.out⟩⟩
      case round =>
       clear H'
       obtain ⟨x5_3, x7_3, rfl, rfl, HA, HK3, HO_4, BK966, HB⟩ := hrel
       cases gk with
       | zero => exact absurd HA.out (by simp [spec_l07Port.l1])
       | succ k3 =>
        have H := HA.out
        clear HA
        simp only [spec_l07Port.l1] at H
        have HC9 := Aside0.mk H
        clear H
        go_upto_region 6 with (fail)
        repeat (go_quiet (fail); go_upto_region 6 with (fail))
        go_cut [29] (fun v29 wc => ∃ (kq : Nat) (x29_8 : Bool), v29 = .bool x29_8 ∧ Aside0 (spec_l07Port.j3 kq t967 x5_3 x6_1 x7_3 x29_8 a0_0 l0_1 = some (r1, r2)) ∧ Aside0 (kq ≤ k3) ∧ Aside0 (Kd.R (Kd.int .i64) 2 wc w.heap.size (fun _ => True) v968 t967) ∧ Aside0 (wc.heap[g0]? = some (.cells #[.int .i64 a0_0, (.slice A0_1 l0_1.length c0_1)] 31 (0, 0))) ∧ Aside0 (Below w.heap.size w wc))
        case first =>
         have H := HC9.out
         clear HC9
         by_cases c10 : x7_3 < x6_1
         ·rw [if_pos c10] at H
          have c10b0 : decide (x7_3 < x6_1) = true := decide_eq_true c10
          clear c10
          (first | rw [c10b0] | (simp only [i64_w, i32_w]; rw [c10b0]) | skip)
          have H' := Aside0.mk H
          clear H
          go_wp2
          repeat (go_quiet (fail); try go_wp2)
          go_meet
          case rel => exact ⟨_, (x5_3), zt, H', ⟨by have := HK1.out; have := HJ3.out; have := HK3.out; first | omega | exact Nat.le_refl _⟩, ⟨zr HO_4.out⟩, ⟨zk BK966.out⟩, ⟨zb0 HB.out⟩⟩
         ·rw [if_neg c10] at H
          have c10b0 : decide (x7_3 < x6_1) = false := decide_eq_false c10
          clear c10
          (first | rw [c10b0] | (simp only [i64_w, i32_w]; rw [c10b0]) | skip)
          have H' := Aside0.mk H
          clear H
          go_wp2
          repeat (go_quiet (fail); try go_wp2)
          go_meet
          case rel => exact ⟨_, (false), zt, H', ⟨by have := HK1.out; have := HJ3.out; have := HK3.out; first | omega | exact Nat.le_refl _⟩, ⟨zr HO_4.out⟩, ⟨zk BK966.out⟩, ⟨zb0 HB.out⟩⟩
        case rest =>
         clear HC9
         obtain ⟨kq, x29_8, rfl, HA, HJ8, HO_4, BK966, HB⟩ := hcut
         cases kq with
         | zero => exact absurd HA.out (by simp [spec_l07Port.j3])
         | succ kj8 =>
          have H := HA.out
          clear HA
          simp only [spec_l07Port.j3] at H
          by_cases c11 : x29_8 = true
          ·subst c11
           rw [if_pos rfl] at H
           have H' := Aside0.mk H
           clear H
           go_wp2
           repeat (go_quiet (fail); try go_wp2)
           go_loopg [5, 8] kj8 (fun kq v5 v8 w' => ∃ (x5_5 : Bool) (x8_5 : Int), v5 = .bool x5_5 ∧ v8 = .int .i64 x8_5 ∧ Aside0 (spec_l07Port.l2 kq t967 x5_5 x6_1 x7_3 x8_5 a0_0 l0_1 = some (r1, r2)) ∧ Aside0 (kq ≤ kj8) ∧ Aside0 (Kd.R (Kd.int .i64) 2 w' w.heap.size (fun _ => True) v968 t967) ∧ Aside0 (w'.heap[g0]? = some (.cells #[.int .i64 a0_0, (.slice A0_1 l0_1.length c0_1)] 31 (0, 0))) ∧ Aside0 (Below w.heap.size w w'))
           case atStart => exact ⟨(x5_3), (0), zt, zt, H', ⟨Nat.le_refl _⟩, ⟨zr HO_4.out⟩, ⟨zk BK966.out⟩, ⟨zb0 HB.out⟩⟩
           case round =>
            clear H'
            obtain ⟨x5_5, x8_5, rfl, rfl, HA, HK5, HO_4, BK966, HB⟩ := hrel
            cases gk with
            | zero => exact absurd HA.out (by simp [spec_l07Port.l2])
            | succ k5 =>
             have H := HA.out
             clear HA
             simp only [spec_l07Port.l2] at H
             have HC12 := Aside0.mk H
             clear H
             go_upto_region 9 with (fail)
             repeat (go_quiet (fail); go_upto_region 9 with (fail))
             go_cut [40] (fun v40 wc => ∃ (kq : Nat) (x40_11 : Bool), v40 = .bool x40_11 ∧ Aside0 (spec_l07Port.j5 kq t967 x5_5 x6_1 x7_3 x8_5 x40_11 a0_0 l0_1 = some (r1, r2)) ∧ Aside0 (kq ≤ k5) ∧ Aside0 (Kd.R (Kd.int .i64) 2 wc w.heap.size (fun _ => True) v968 t967) ∧ Aside0 (wc.heap[g0]? = some (.cells #[.int .i64 a0_0, (.slice A0_1 l0_1.length c0_1)] 31 (0, 0))) ∧ Aside0 (Below w.heap.size w wc))
             case first =>
              have H := HC12.out
              clear HC12
              by_cases c13 : x8_5 ≤ a0_0
              ·rw [if_pos c13] at H
               have c13b0 : decide (x8_5 ≤ a0_0) = true := decide_eq_true c13
               clear c13
               (first | rw [c13b0] | (simp only [i64_w, i32_w]; rw [c13b0]) | skip)
               have H' := Aside0.mk H
               clear H
               have hcz14_0 : wr.cell? ⟨g0, 0, none⟩ = some (.int .i64 a0_0) := (blk_cell BK966.out 0).trans rfl
               have hcz14_1 : wr.cell? ⟨g0, 1, none⟩ = some (.slice A0_1 l0_1.length c0_1) := (blk_cell BK966.out 1).trans rfl
               have hfz14_0 := blk_frozen BK966.out 0
               have hfz14_1 := blk_frozen BK966.out 1
               go_wp2
               repeat (go_quiet (fail); try go_wp2)
               go_meet
               case rel => exact ⟨_, (x5_5), zt, H', ⟨by have := HK1.out; have := HJ3.out; have := HK3.out; have := HJ8.out; have := HK5.out; first | omega | exact Nat.le_refl _⟩, ⟨zr HO_4.out⟩, ⟨zk BK966.out⟩, ⟨zb0 HB.out⟩⟩
              ·rw [if_neg c13] at H
               have c13b0 : decide (x8_5 ≤ a0_0) = false := decide_eq_false c13
               clear c13
               (first | rw [c13b0] | (simp only [i64_w, i32_w]; rw [c13b0]) | skip)
               have H' := Aside0.mk H
               clear H
               have hcz15_0 : wr.cell? ⟨g0, 0, none⟩ = some (.int .i64 a0_0) := (blk_cell BK966.out 0).trans rfl
               have hcz15_1 : wr.cell? ⟨g0, 1, none⟩ = some (.slice A0_1 l0_1.length c0_1) := (blk_cell BK966.out 1).trans rfl
               have hfz15_0 := blk_frozen BK966.out 0
               have hfz15_1 := blk_frozen BK966.out 1
               go_wp2
               repeat (go_quiet (fail); try go_wp2)
               go_meet
               case rel => exact ⟨_, (false), zt, H', ⟨by have := HK1.out; have := HJ3.out; have := HK3.out; have := HJ8.out; have := HK5.out; first | omega | exact Nat.le_refl _⟩, ⟨zr HO_4.out⟩, ⟨zk BK966.out⟩, ⟨zb0 HB.out⟩⟩
             case rest =>
              clear HC12
              obtain ⟨kq, x40_11, rfl, HA, HJ11, HO_4, BK966, HB⟩ := hcut
              cases kq with
              | zero => exact absurd HA.out (by simp [spec_l07Port.j5])
              | succ kj11 =>
               have H := HA.out
               clear HA
               simp only [spec_l07Port.j5] at H
               by_cases c16 : x40_11 = true
               ·subst c16
                rw [if_pos rfl] at H
                obtain ⟨ji17, hji17⟩ : ∃ j_ : Int, (IntKind.u64.wrap (x8_5)) = j_ := ⟨_, rfl⟩
                replace H : (if 0 ≤ (ji17) then (if 0 ≤ x6_1 then (if x6_1 < (t967.length : Int) then (if 0 ≤ x7_3 then (if x7_3 < (t967.length : Int) then (if (Go.bits .and .i64 (Go.bits .and .i64 (rd t967 x6_1) (rd t967 x7_3)) (shl .i64 1 (ji17))) = 0 then (spec_l07Port.l2 kj11 t967 x5_5 x6_1 x7_3 (wrap64 (x8_5 + 1)) a0_0 l0_1) else ((spec_l07Within.f kj11 t967 (Go.bits .andNot .i64 (Go.bits .or .i64 (rd t967 x6_1) (rd t967 x7_3)) (shl .i64 1 (ji17)))).bind fun t975 => (spec_l07Port.l2 kj11 t967 t975 x6_1 x7_3 (wrap64 (x8_5 + 1)) a0_0 l0_1))) else (none)) else (none)) else (none)) else (none)) else (none)) = some (r1, r2) := by first | (rw [hji17] at H; exact H) | (simp only [hji17] at H ⊢; exact H)
                by_cases c18 : 0 ≤ (ji17)
                ·rw [if_pos c18] at H
                 have c18b0 := eq_true c18
                 have c18b1 : decide (0 ≤ (ji17)) = true := decide_eq_true c18
                 clear c18
                 obtain ⟨ji19, hji19⟩ : ∃ j_ : Int, (shl .i64 1 (ji17)) = j_ := ⟨_, rfl⟩
                 replace H : (if 0 ≤ x6_1 then (if x6_1 < (t967.length : Int) then (if 0 ≤ x7_3 then (if x7_3 < (t967.length : Int) then (if (Go.bits .and .i64 (Go.bits .and .i64 (rd t967 x6_1) (rd t967 x7_3)) (ji19)) = 0 then (spec_l07Port.l2 kj11 t967 x5_5 x6_1 x7_3 (wrap64 (x8_5 + 1)) a0_0 l0_1) else ((spec_l07Within.f kj11 t967 (Go.bits .andNot .i64 (Go.bits .or .i64 (rd t967 x6_1) (rd t967 x7_3)) (ji19))).bind fun t975 => (spec_l07Port.l2 kj11 t967 t975 x6_1 x7_3 (wrap64 (x8_5 + 1)) a0_0 l0_1))) else (none)) else (none)) else (none)) else (none)) = some (r1, r2) := by first | (rw [hji19] at H; exact H) | (simp only [hji19] at H ⊢; exact H)
                 have hji19_ : (IntKind.i64.wrap (1 * 2 ^ min (ji17).toNat 64)) = ji19 := hji19
                 have hji19z : (ji17) ≤ 64 → (IntKind.i64.wrap (1 * 2 ^ (ji17).toNat)) = ji19 := shl_small hji19
                 have hji19u : (IntKind.i64.wrap (2 ^ min (ji17).toNat 64)) = ji19 := by have h_ := hji19_; rw [Int.one_mul] at h_; exact h_
                 have hji19v : (ji17) ≤ 64 → (IntKind.i64.wrap (2 ^ (ji17).toNat)) = ji19 := fun hle_ => by have h_ := hji19z hle_; rw [Int.one_mul] at h_; exact h_
                 have hji19y : (wrap64 (1 * 2 ^ min (ji17).toNat 64)) = ji19 := (i64_w _).symm.trans hji19_
                 have hji19x : (ji17) ≤ 64 → (wrap64 (1 * 2 ^ (ji17).toNat)) = ji19 := fun h_ => (i64_w _).symm.trans (hji19z h_)
                 by_cases c20 : 0 ≤ x6_1
                 ·rw [if_pos c20] at H
                  have c20b0 : decide (0 ≤ x6_1) = true := decide_eq_true c20
                  clear c20
                  by_cases c21 : x6_1 < (t967.length : Int)
                  ·rw [if_pos c21] at H
                   have c21b0 : decide (x6_1 < (t967.length : Int)) = true := decide_eq_true c21
                   clear c21
                   by_cases c22 : 0 ≤ x7_3
                   ·rw [if_pos c22] at H
                    have c22b0 : decide (0 ≤ x7_3) = true := decide_eq_true c22
                    clear c22
                    by_cases c23 : x7_3 < (t967.length : Int)
                    ·rw [if_pos c23] at H
                     have c23b0 : decide (x7_3 < (t967.length : Int)) = true := decide_eq_true c23
                     clear c23
                     by_cases c24 : (Go.bits .and .i64 (Go.bits .and .i64 (rd t967 x6_1) (rd t967 x7_3)) (ji19)) = 0
                     ·rw [if_pos c24] at H
                      have c24b0 : ((Go.bits .and .i64 (Go.bits .and .i64 (rd t967 x6_1) (rd t967 x7_3)) (ji19)) == 0) = true := beq_iff_eq.mpr c24
                      have c24b1 : ((Go.bits .and .i64 (Go.bits .and .i64 (rd t967 x6_1) (rd t967 x7_3)) (ji19)) != 0) = false := bne_eq_false_iff_eq.mpr c24
                      clear c24
                      have H' := Aside0.mk H
                      clear H
                      obtain ⟨Ao25, co25, eo25⟩ := Kd.R_slice HO_4.out
                      subst eo25
                      have p971 : 0 ≤ (x6_1 : Int) := of_decide_eq_true zq
                      have q971 : x6_1 < (t967.length : Int) := of_decide_eq_true zq
                      obtain ⟨ad971, e971, hx971_0⟩ := Kd.at_int (Kd.R_reads' HO_4.out).2.2 x6_1 p971 q971
                      cases e971
                      replace p971 := eq_true p971
                      replace q971 := eq_true q971
                      have p972 : 0 ≤ (x7_3 : Int) := of_decide_eq_true zq
                      have q972 : x7_3 < (t967.length : Int) := of_decide_eq_true zq
                      obtain ⟨ad972, e972, hx972_0⟩ := Kd.at_int (Kd.R_reads' HO_4.out).2.2 x7_3 p972 q972
                      obtain rfl : ad971 = ad972 := (by injection e972)
                      replace p972 := eq_true p972
                      replace q972 := eq_true q972
                      go_wp2
                      repeat (go_quiet (fail); try go_wp2)
                      go_roundg kj11
                      case measure => have := HK1.out; have := HJ3.out; have := HK3.out; have := HJ8.out; have := HK5.out; have := HJ11.out; omega
                      case rel => exact ⟨(x5_5), (wrap64 (x8_5 + 1)), zt, zt, H', ⟨by have := HK1.out; have := HJ3.out; have := HK3.out; have := HJ8.out; have := HK5.out; have := HJ11.out; omega⟩, ⟨zr HO_4.out⟩, ⟨zk BK966.out⟩, ⟨zb0 HB.out⟩⟩
                     ·rw [if_neg c24] at H
                      have c24b0 : ((Go.bits .and .i64 (Go.bits .and .i64 (rd t967 x6_1) (rd t967 x7_3)) (ji19)) == 0) = false := beq_eq_false_iff_ne.mpr c24
                      have c24b1 : ((Go.bits .and .i64 (Go.bits .and .i64 (rd t967 x6_1) (rd t967 x7_3)) (ji19)) != 0) = true := bne_iff_ne.mpr c24
                      replace H := Option.bind_eq_some_iff.mp H
                      obtain ⟨t975, A260, H⟩ := H
                      replace H : (spec_l07Port.l2 kj11 t967 t975 x6_1 x7_3 (wrap64 (x8_5 + 1)) a0_0 l0_1) = some (r1, r2) := H
                      have A26 := Aside0.mk A260
                      clear A260
                      have H' := Aside0.mk H
                      clear H
                      obtain ⟨Ao27, co27, eo27⟩ := Kd.R_slice HO_4.out
                      subst eo27
                      have p971 : 0 ≤ (x6_1 : Int) := of_decide_eq_true zq
                      have q971 : x6_1 < (t967.length : Int) := of_decide_eq_true zq
                      obtain ⟨ad971, e971, hx971_0⟩ := Kd.at_int (Kd.R_reads' HO_4.out).2.2 x6_1 p971 q971
                      cases e971
                      replace p971 := eq_true p971
                      replace q971 := eq_true q971
                      have p972 : 0 ≤ (x7_3 : Int) := of_decide_eq_true zq
                      have q972 : x7_3 < (t967.length : Int) := of_decide_eq_true zq
                      obtain ⟨ad972, e972, hx972_0⟩ := Kd.at_int (Kd.R_reads' HO_4.out).2.2 x7_3 p972 q972
                      obtain rfl : ad971 = ad972 := (by injection e972)
                      replace p972 := eq_true p972
                      replace q972 := eq_true q972
                      have p973 : 0 ≤ (x6_1 : Int) := of_decide_eq_true zq
                      have q973 : x6_1 < (t967.length : Int) := of_decide_eq_true zq
                      obtain ⟨ad973, e973, hx973_0⟩ := Kd.at_int (Kd.R_reads' HO_4.out).2.2 x6_1 p973 q973
                      obtain rfl : ad971 = ad973 := (by injection e973)
                      replace p973 := eq_true p973
                      replace q973 := eq_true q973
                      have p974 : 0 ≤ (x7_3 : Int) := of_decide_eq_true zq
                      have q974 : x7_3 < (t967.length : Int) := of_decide_eq_true zq
                      obtain ⟨ad974, e974, hx974_0⟩ := Kd.at_int (Kd.R_reads' HO_4.out).2.2 x7_3 p974 q974
                      obtain rfl : ad971 = ad974 := (by injection e974)
                      replace p974 := eq_true p974
                      replace q974 := eq_true q974
                      go_wp2_with (first | (go_at_call 114; (with_reducible refine (spec_l07Within.calls kj11 _ _ t967 (Go.bits .andNot .i64 (Go.bits .or .i64 (rd t967 x6_1) (rd t967 x7_3)) (ji19)) t975 _ ?side1 ?side2 A26.out).mono ?_); (case side1 => repeat (first | exact (Kd.R_reads' HO_4.out).2.2 | (with_reducible refine Kd.C_alloc ?_ _) | (with_reducible refine Kd.C_drewN ?_ _) | (with_reducible refine Kd.C_drew ?_))); (case side2 => exact (Kd.R_reads' HO_4.out).2.1); rintro e w' ⟨rfl, ⟨nd, rfl⟩⟩; (try exact zd)))
                      repeat (go_quiet (first | (go_at_call 114; (with_reducible refine (spec_l07Within.calls kj11 _ _ t967 (Go.bits .andNot .i64 (Go.bits .or .i64 (rd t967 x6_1) (rd t967 x7_3)) (ji19)) t975 _ ?side1 ?side2 A26.out).mono ?_); (case side1 => repeat (first | exact (Kd.R_reads' HO_4.out).2.2 | (with_reducible refine Kd.C_alloc ?_ _) | (with_reducible refine Kd.C_drewN ?_ _) | (with_reducible refine Kd.C_drew ?_))); (case side2 => exact (Kd.R_reads' HO_4.out).2.1); rintro e w' ⟨rfl, ⟨nd, rfl⟩⟩; (try exact zd))); try go_wp2_with (first | (go_at_call 114; (with_reducible refine (spec_l07Within.calls kj11 _ _ t967 (Go.bits .andNot .i64 (Go.bits .or .i64 (rd t967 x6_1) (rd t967 x7_3)) (ji19)) t975 _ ?side1 ?side2 A26.out).mono ?_); (case side1 => repeat (first | exact (Kd.R_reads' HO_4.out).2.2 | (with_reducible refine Kd.C_alloc ?_ _) | (with_reducible refine Kd.C_drewN ?_ _) | (with_reducible refine Kd.C_drew ?_))); (case side2 => exact (Kd.R_reads' HO_4.out).2.1); rintro e w' ⟨rfl, ⟨nd, rfl⟩⟩; (try exact zd))))
                      go_roundg kj11
                      case measure => have := HK1.out; have := HJ3.out; have := HK3.out; have := HJ8.out; have := HK5.out; have := HJ11.out; omega
                      case rel => exact ⟨(t975), (wrap64 (x8_5 + 1)), zt, zt, H', ⟨by have := HK1.out; have := HJ3.out; have := HK3.out; have := HJ8.out; have := HK5.out; have := HJ11.out; omega⟩, ⟨zr HO_4.out⟩, ⟨zk BK966.out⟩, ⟨zb0 HB.out⟩⟩
                    ·rw [if_neg c23] at H
                     exact absurd H (by simp)
                   ·rw [if_neg c22] at H
                    exact absurd H (by simp)
                  ·rw [if_neg c21] at H
                   exact absurd H (by simp)
                 ·rw [if_neg c20] at H
                  exact absurd H (by simp)
                ·rw [if_neg c18] at H
                 exact absurd H (by simp)
               ·replace c16 := Bool.eq_false_iff.mpr c16
                subst c16
                rw [if_neg (show ¬ (false = true) by decide)] at H
                have H' := Aside0.mk H
                clear H
                go_wp2
                repeat (go_quiet (fail); try go_wp2)
                go_roundg kj11
                case measure => have := HK1.out; have := HJ3.out; have := HK3.out; have := HJ8.out; have := HK5.out; have := HJ11.out; omega
                case rel => exact ⟨(x5_5), (wrap64 (x7_3 + 1)), zt, zt, H', ⟨by have := HK1.out; have := HJ3.out; have := HK3.out; have := HJ8.out; have := HK5.out; have := HJ11.out; omega⟩, ⟨zr HO_4.out⟩, ⟨zk BK966.out⟩, ⟨zb0 HB.out⟩⟩
          ·replace c11 := Bool.eq_false_iff.mpr c11
           subst c11
           rw [if_neg (show ¬ (false = true) by decide)] at H
           have H' := Aside0.mk H
           clear H
           go_wp2
           repeat (go_quiet (fail); try go_wp2)
           go_roundg kj8
           case measure => have := HK1.out; have := HJ3.out; have := HK3.out; have := HJ8.out; omega
           case rel => exact ⟨(x5_3), (wrap64 (x6_1 + 1)), zt, zt, H', ⟨by have := HK1.out; have := HJ3.out; have := HK3.out; have := HJ8.out; omega⟩, ⟨zr HO_4.out⟩, ⟨zk BK966.out⟩, ⟨zb0 HB.out⟩⟩
     ·replace c8 := Bool.eq_false_iff.mpr c8
      subst c8
      rw [if_neg (show ¬ (false = true) by decide)] at H
      simp only [Option.some.injEq, Prod.mk.injEq] at H
      obtain ⟨rfl, rfl⟩ := H
      go_wp2
      repeat (go_quiet (fail); try go_wp2)
      go_ret2
      exact ⟨_, ze, by (with_reducible repeat (first | apply Kd.R_alloc | apply Kd.R_drewN | apply Kd.R_drew)); exact HO_4.out, zb0 HB.out⟩
end Go.Proofs.Ytmbeijjkfmgkpaa.Q
namespace Go.Proofs.Ytmbeijjkfmgkpaa.Pure
set_option linter.unusedVariables false
open Go.RowKit Go.Proofs.Ytmbeijjkfmgkpaa.Q Go.Proofs.YtmbeijjkfmgkpaaW.PrintWords Go.Proofs.YtmbeijjkfmgkpaaW.PrintLast
namespace Ex
def grp (c : Int) : List Int := (impl_crowd_group.f 20 c).getD []
abbrev bit (x : Int) : Int := shl .u64 1 x
def hasBit (c : Int) (x : Nat) : Bool := Go.bits .and .i64 c (shl .i64 1 (IntKind.u64.wrap (x : Int))) != 0
theorem grpAll : (List.range 128).all (fun c => impl_crowd_group.f 20 ((c : Nat) : Int) == some (grp ((c : Nat) : Int)) && decide ((grp ((c : Nat) : Int)).length ≤ 7) && (grp ((c : Nat) : Int)).all (fun x => decide (0 ≤ x) && decide (x < 7)) && (List.range 7).all fun x => (grp ((c : Nat) : Int)).contains ((x : Nat) : Int) == hasBit ((c : Nat) : Int) x) = true := by decide +kernel
theorem bitAll : (List.range 7).all (fun x => decide (0 ≤ bit ((x : Nat) : Int)) && decide (bit ((x : Nat) : Int) < 128) && bit ((x : Nat) : Int) == shl .i64 1 (IntKind.u64.wrap ((x : Nat) : Int)) && decide (0 ≤ IntKind.u64.wrap ((x : Nat) : Int))) = true := by decide +kernel
theorem bit7 (x : Nat) (hx : x < 7) : R7 (bit (x : Int)) ∧ bit (x : Int) = shl .i64 1 (IntKind.u64.wrap (x : Int)) ∧ 0 ≤ IntKind.u64.wrap (x : Int) := by
  have h := List.all_eq_true.1 bitAll x (List.mem_range.2 hx)
  simp only [Bool.and_eq_true, decide_eq_true_eq, beq_iff_eq] at h
  exact ⟨⟨h.1.1.1, h.1.1.2⟩, h.1.2, h.2⟩
theorem grp7s (c : Int) (hc : R7 c) (k : Nat) (hk : 20 ≤ k) : impl_crowd_group.f k c = some (grp c) ∧ (grp c).length ≤ 7 ∧ (∀ y ∈ grp c, ∃ x : Nat, x < 7 ∧ y = (x : Int)) ∧ ∀ x : Nat, x < 7 → ((x : Int) ∈ grp c ↔ hasBit c x = true) := by
  obtain ⟨a, rfl⟩ := Int.eq_ofNat_of_zero_le hc.1
  have ha := hc.2
  have h := List.all_eq_true.1 grpAll a (List.mem_range.2 (by omega))
  simp only [Bool.and_eq_true, decide_eq_true_eq, beq_iff_eq, List.all_eq_true] at h
  obtain ⟨⟨⟨h1, h2⟩, h3⟩, h4⟩ := h
  refine ⟨leO_le (f := fun k => impl_crowd_group.f k (a : Int)) (fun k => impl_crowd_group.mono _ k) hk h1, h2, fun y hy => ?_, fun x hx => ?_⟩
  · have := h3 y hy
    exact ⟨y.toNat, by omega, by omega⟩
  · have := h4 x (List.mem_range.2 hx)
    rw [← this]
    simp
def Sub (C : List Int) (a : Int) : Bool := C.any fun d => Go.bits .and .u64 a d == d
theorem p_l3 (C : List Int) (a b : Int) (x32 : List Int) (x33 x34 : Int) (x41 : List Int) (x42 : Int) (j : Nat) (hj : j < 1000000) (L : List Int) (hL : L.length ≤ 7) (h7 : ∀ y ∈ L, ∃ x : Nat, x < 7 ∧ y = (x : Int)) (R : Nat) : ∀ (d t : Nat), t + d = L.length → ∀ k, d + R + 2 < k →
  ((∀ y ∈ L.drop t, Sub C (bn (bo a b) (bit y)) = true) ∧ ∃ k', R ≤ k' ∧ impl_Family_isPort.l3 k C a b x32 x33 x34 x41 x42 j L (L.length : Int) t = impl_Family_isPort.l2 k' C a x32 x33 x34 x41 x42 ((j + 1 : Nat) : Int)) ∨
  ((∃ y ∈ L.drop t, Sub C (bn (bo a b) (bit y)) = false) ∧ impl_Family_isPort.l3 k C a b x32 x33 x34 x41 x42 j L (L.length : Int) t = some false) := by
 intro d
 induction d with
 | zero =>
  intro t ht k hk
  obtain ⟨k, rfl⟩ : ∃ m, k = m + 1 := ⟨k - 1, by omega⟩
  refine .inl ⟨fun y hy => by rw [List.drop_eq_nil_of_le (by omega)] at hy; simp at hy, k, by omega, ?_⟩
  conv => lhs; unfold impl_Family_isPort.l3
  rw [if_neg (by omega), wr j (by omega)]
 | succ d ih =>
  intro t ht k hk
  obtain ⟨k, rfl⟩ : ∃ m, k = m + 1 := ⟨k - 1, by omega⟩
  have htl : t < L.length := by omega
  obtain ⟨x, hx, ex⟩ := h7 L[t] (List.getElem_mem _)
  have step : impl_Family_isPort.l3 (k + 1) C a b x32 x33 x34 x41 x42 j L (L.length : Int) t = if Sub C (bn (bo a b) (bit L[t])) = true then impl_Family_isPort.l3 k C a b x32 x33 x34 x41 x42 j L (L.length : Int) ((t + 1 : Nat) : Int) else some false := by
   conv => lhs; unfold impl_Family_isPort.l3
   rw [if_pos (by omega), if_pos (by omega), if_pos (by omega), rd_at htl, if_pos (by omega), wr t (by omega)]
   rfl
  rw [step, List.drop_eq_getElem_cons htl]
  by_cases c : Sub C (bn (bo a b) (bit L[t])) = true
  ·rw [if_pos c]
   rcases ih (t + 1) (by omega) k (by omega) with ⟨h, k', hk', e⟩ | ⟨⟨y, hy, h⟩, e⟩
   ·refine .inl ⟨fun y hy => ?_, k', hk', e⟩
    rcases List.mem_cons.1 hy with rfl | hy
    ·exact c
    ·exact h y hy
   ·exact .inr ⟨⟨y, List.mem_cons_of_mem _ hy, h⟩, e⟩
  ·rw [if_neg c]
   exact .inr ⟨⟨_, List.mem_cons_self .., by simpa using c⟩, rfl⟩
def Cnd (C : List Int) (a b : Int) : Prop := ∀ x : Nat, x < 7 → hasBit (ba a b) x = true → Sub C (bn (bo a b) (bit (x : Int))) = true
theorem p_l2 (C : List Int) (hl : C.length < 1000000) (hC : ∀ c ∈ C, R7 c) (i : Nat) (hi : i < C.length) (R : Nat) : ∀ (d j : Nat), j + d = i → ∃ K, ∀ k, K ≤ k →
  ((∀ t, j ≤ t → t < i → Cnd C (rd C (i : Int)) (rd C (t : Int))) ∧ ∃ k', R ≤ k' ∧ impl_Family_isPort.l2 k C (rd C (i : Int)) C (C.length : Int) i (C.take i) ((C.take i).length : Int) j = impl_Family_isPort.l1 k' C C (C.length : Int) ((i + 1 : Nat) : Int)) ∨
  ((∃ t, t < i ∧ ¬ Cnd C (rd C (i : Int)) (rd C (t : Int))) ∧ impl_Family_isPort.l2 k C (rd C (i : Int)) C (C.length : Int) i (C.take i) ((C.take i).length : Int) j = some false) := by
 have hti : (C.take i).length = i := by rw [List.length_take]; omega
 intro d
 induction d with
 | zero =>
  intro j hj
  refine ⟨R + 1, fun k hk => ?_⟩
  obtain ⟨k, rfl⟩ : ∃ m, k = m + 1 := ⟨k - 1, by omega⟩
  refine .inl ⟨fun t h1 h2 => by omega, k, by omega, ?_⟩
  conv => lhs; unfold impl_Family_isPort.l2
  rw [if_neg (by rw [hti]; omega), wr i (by omega)]
 | succ d ih =>
  intro j hj
  obtain ⟨K, hK⟩ := ih (j + 1) (by omega)
  refine ⟨K + 40, fun k hk => ?_⟩
  obtain ⟨k, rfl⟩ : ∃ m, k = m + 1 := ⟨k - 1, by omega⟩
  have ha := hC _ (rd_mem hi)
  have hb := hC _ (rd_mem (show j < C.length by omega))
  obtain ⟨g1, g2, g3, g4⟩ := grp7s _ (rand ha hb) k (by omega)
  have step : impl_Family_isPort.l2 (k + 1) C (rd C (i : Int)) C (C.length : Int) i (C.take i) ((C.take i).length : Int) j = impl_Family_isPort.l3 k C (rd C (i : Int)) (rd C (j : Int)) C (C.length : Int) i (C.take i) ((C.take i).length : Int) j (grp (ba (rd C (i : Int)) (rd C (j : Int)))) ((grp (ba (rd C (i : Int)) (rd C (j : Int)))).length : Int) ((0 : Nat) : Int) := by
   conv => lhs; unfold impl_Family_isPort.l2
   rw [if_pos (by rw [hti]; omega), if_pos (by omega), if_pos (by rw [hti]; omega), rd_take C i j (by omega), g1]
   rfl
  rw [step]
  have cnd : Cnd C (rd C (i : Int)) (rd C (j : Int)) ↔ ∀ y ∈ (grp (ba (rd C (i : Int)) (rd C (j : Int)))).drop 0, Sub C (bn (bo (rd C (i : Int)) (rd C (j : Int))) (bit y)) = true := by
   rw [List.drop_zero]
   constructor
   ·intro h y hy
    obtain ⟨x, hx, rfl⟩ := g3 y hy
    exact h x hx ((g4 x hx).1 hy)
   ·intro h x hx hb'
    exact h _ ((g4 x hx).2 hb')
  rcases p_l3 C (rd C (i : Int)) (rd C (j : Int)) C (C.length : Int) i (C.take i) ((C.take i).length : Int) j (by omega) _ g2 g3 K _ 0 (Nat.zero_add _) k (by omega) with ⟨h, k2, hk2, e⟩ | ⟨⟨y, hy, h⟩, e⟩
  ·rw [e]
   rcases hK k2 hk2 with ⟨h2, k', hk', e2⟩ | ⟨h2, e2⟩
   ·refine .inl ⟨fun t h1 h3 => ?_, k', hk', e2⟩
    rcases Nat.lt_or_eq_of_le h1 with h4 | rfl
    ·exact h2 t h4 h3
    ·exact cnd.2 h
   ·exact .inr ⟨h2, e2⟩
  ·rw [e]
   exact .inr ⟨⟨j, by omega, fun f => by rw [cnd.1 f y hy] at h; exact absurd h (by decide)⟩, rfl⟩
theorem p_l1 (C : List Int) (hl : C.length < 1000000) (hC : ∀ c ∈ C, R7 c) : ∀ (d i : Nat), i + d = C.length → ∃ K, ∀ k, K ≤ k →
    ∃ b, impl_Family_isPort.l1 k C C (C.length : Int) i = some b ∧ (b = true ↔ ∀ s, i ≤ s → s < C.length → ∀ t, t < s → Cnd C (rd C (s : Int)) (rd C (t : Int))) := by
  intro d
  induction d with
  | zero =>
    intro i hi
    refine ⟨1, fun k hk => ?_⟩
    obtain ⟨k, rfl⟩ : ∃ m, k = m + 1 := ⟨k - 1, by omega⟩
    unfold impl_Family_isPort.l1
    rw [if_neg (by omega)]
    exact ⟨true, rfl, by simp; intro s h1 h2; omega⟩
  | succ d ih =>
    intro i hi
    have hil : i < C.length := by omega
    obtain ⟨K, hK⟩ := ih (i + 1) (by omega)
    obtain ⟨K2, hK2⟩ := p_l2 C hl hC i hil K i 0 (by omega)
    refine ⟨K2 + 1, fun k hk => ?_⟩
    obtain ⟨k, rfl⟩ : ∃ m, k = m + 1 := ⟨k - 1, by omega⟩
    have step : impl_Family_isPort.l1 (k + 1) C C (C.length : Int) i = impl_Family_isPort.l2 k C (rd C (i : Int)) C (C.length : Int) i (C.take i) ((C.take i).length : Int) ((0 : Nat) : Int) := by
      conv => lhs; unfold impl_Family_isPort.l1
      rw [if_pos (by omega), if_pos (by omega), if_pos (by omega), if_pos (by omega), Option.bind_some, Int.toNat_natCast]
      rfl
    rw [step, all_step hil]
    rcases hK2 k (by omega) with ⟨h, k', hk', e⟩ | ⟨⟨t, ht, h⟩, e⟩
    · obtain ⟨b, e2, hb⟩ := hK k' hk'
      refine ⟨b, by rw [e, e2], ?_⟩
      rw [hb]
      exact ⟨fun f => ⟨fun t ht => h t (by omega) ht, f⟩, fun f => f.2⟩
    · exact ⟨false, e, by simp only [Bool.false_eq_true, false_iff]; rintro ⟨f, _⟩; exact h (f t ht)⟩
theorem p_l0 (n : Int) (hn : 0 ≤ n) (gs : List (List Int)) (hg : gs.length < 10000000) (h7 : ∀ t, t < gs.length → G gs t ∈ lists 7) (C : List Int) (hl : C.length < 1000000) (hC : ∀ c ∈ C, R7 c) : ∀ (d i : Nat), i + d = gs.length → ∃ K, ∀ k, K ≤ k →
  ∃ b, impl_Family_isPort.l0 k C gs (gs.length : Int) i n gs = some b ∧ (b = true ↔ (∀ t, i ≤ t → t < gs.length → C.contains (bo (maskOf (G gs t)) (bit n)) = true) ∧ ∀ s, s < C.length → ∀ t, t < s → Cnd C (rd C (s : Int)) (rd C (t : Int))) := by
 intro d
 induction d with
 | zero =>
  intro i hi
  obtain ⟨K, hK⟩ := p_l1 C hl hC C.length 0 (by omega)
  refine ⟨K + 1, fun k hk => ?_⟩
  obtain ⟨k, rfl⟩ : ∃ m, k = m + 1 := ⟨k - 1, by omega⟩
  obtain ⟨b, e, hb⟩ := hK k (by omega)
  refine ⟨b, ?_, ?_⟩
  ·conv => lhs; unfold impl_Family_isPort.l0
   rw [if_neg (by omega)]
   exact e
  ·rw [hb]
   exact ⟨fun f => ⟨fun t h1 h2 => by omega, fun s hs => f s (by omega) hs⟩, fun f s _ hs => f.2 s hs⟩
 | succ d ih =>
  intro i hi
  have hil : i < gs.length := by omega
  obtain ⟨K, hK⟩ := ih (i + 1) (by omega)
  refine ⟨K + C.length + 30, fun k hk => ?_⟩
  obtain ⟨k, rfl⟩ : ∃ m, k = m + 1 := ⟨k - 1, by omega⟩
  obtain ⟨b, e, hb⟩ := hK k (by omega)
  have e1 := (crowd7 (G gs i) (h7 i hil) k (by omega)).1
  have step : impl_Family_isPort.l0 (k + 1) C gs (gs.length : Int) i n gs = if C.contains (bo (maskOf (G gs i)) (bit n)) = true then impl_Family_isPort.l0 k C gs (gs.length : Int) ((i + 1 : Nat) : Int) n gs else some false := by
   conv => lhs; unfold impl_Family_isPort.l0
   rw [if_pos (by omega), if_pos (by omega), if_pos (by omega), show rd_L1 gs (i : Int) = G gs i from rfl, e1, Option.bind_some, if_pos hn, has_f C (by omega) _ k (by omega), Option.bind_some, wr i (by omega)]
  rw [step, all_step hil]
  by_cases c : C.contains (bo (maskOf (G gs i)) (bit n)) = true
  ·rw [if_pos c]
   exact ⟨b, e, by rw [hb]; exact ⟨fun f => ⟨⟨c, f.1⟩, f.2⟩, fun f => ⟨f.1.2, f.2⟩⟩⟩
  ·rw [if_neg c]
   exact ⟨false, rfl, by simp only [Bool.false_eq_true, false_iff]; rintro ⟨⟨f, _⟩, _⟩; exact c f⟩
def Sub64 (C : List Int) (a : Int) : Bool := C.any fun d => Go.bits .and .i64 d a == d
theorem w_l0 (C : List Int) (hl : C.length < 1000000) (a : Int) : ∀ (d i : Nat), i + d = C.length → ∀ k, d < k → spec_l07Within.l0 k C a i = some ((C.drop i).any fun d => Go.bits .and .i64 d a == d) := by
  intro d
  induction d with
  | zero =>
    intro i hi k hk
    obtain ⟨k, rfl⟩ : ∃ m, k = m + 1 := ⟨k - 1, by omega⟩
    unfold spec_l07Within.l0
    rw [if_neg (by omega), List.drop_eq_nil_of_le (by omega)]
    rfl
  | succ d ih =>
    intro i hi k hk
    obtain ⟨k, rfl⟩ : ∃ m, k = m + 1 := ⟨k - 1, by omega⟩
    have hil : i < C.length := by omega
    unfold spec_l07Within.l0
    rw [if_pos (by omega), if_pos (by omega), rd_at hil, wr i (by omega), List.drop_eq_getElem_cons hil, List.any_cons]
    by_cases c : Go.bits .and .i64 C[i] a = C[i]
    · rw [if_pos c, beq_iff_eq.2 c]; rfl
    · rw [if_neg c, ih (i + 1) (by omega) k (by omega), beq_eq_false_iff_ne.2 c]; rfl
theorem w_f (C : List Int) (hl : C.length < 1000000) (a : Int) (k : Nat) (hk : C.length < k) : spec_l07Within.f k C a = some (Sub64 C a) := by
  unfold spec_l07Within.f
  have := w_l0 C hl a C.length 0 (by omega) k hk
  rw [show ((0 : Nat) : Int) = 0 from rfl, List.drop_zero] at this
  exact this
def Okp (L : List Int) (a b : Int) (e : Nat) : Prop := Go.bits .and .i64 (Go.bits .and .i64 a b) (shl .i64 1 (IntKind.u64.wrap (e : Int))) ≠ 0 → Sub64 L (Go.bits .andNot .i64 (Go.bits .or .i64 a b) (shl .i64 1 (IntKind.u64.wrap (e : Int)))) = true
theorem q_l2f (L : List Int) (hl : L.length < 1000000) (n : Nat) (gs : List (List Int)) (i j e : Nat) (hi : i < L.length) (hj : j < i) (k : Nat) : spec_l07Port.l2 (k + 2) L false i j e n gs = spec_l07Port.l1 k L false i ((j + 1 : Nat) : Int) n gs := by
  conv => lhs; unfold spec_l07Port.l2
  have : ∀ m, spec_l07Port.j5 (m + 1) L false (i : Int) (j : Int) (e : Int) false (n : Int) gs = spec_l07Port.l1 m L false i ((j + 1 : Nat) : Int) n gs := by
    intro m
    conv => lhs; unfold spec_l07Port.j5
    rw [if_neg (by simp), wr j (by omega)]
  by_cases c : (e : Int) ≤ (n : Int)
  · rw [if_pos c]; exact this k
  · rw [if_neg c]; exact this k
theorem q_l2 (L : List Int) (hl : L.length < 1000000) (n : Nat) (hn : n < 7) (gs : List (List Int)) (i j : Nat) (hi : i < L.length) (hj : j < i) (R : Nat) : ∀ (d e : Nat), e + d = n + 1 → ∀ k, 2 * d + L.length + R + 10 < k →
  ∃ k' b, R ≤ k' ∧ spec_l07Port.l2 k L true i j e n gs = spec_l07Port.l1 k' L b i ((j + 1 : Nat) : Int) n gs ∧ (b = true ↔ ∀ x, e ≤ x → x < n + 1 → Okp L (rd L (i : Int)) (rd L (j : Int)) x) := by
 intro d
 induction d with
 | zero =>
  intro e he k hk
  obtain ⟨k, rfl⟩ : ∃ m, k = m + 2 := ⟨k - 2, by omega⟩
  refine ⟨k, true, by omega, ?_, by simp; intro x h1 h2; omega⟩
  conv => lhs; unfold spec_l07Port.l2
  rw [if_neg (by omega)]
  conv => lhs; unfold spec_l07Port.j5
  rw [if_neg (by simp), wr j (by omega)]
 | succ d ih =>
  intro e he k hk
  obtain ⟨k, rfl⟩ : ∃ m, k = m + 2 := ⟨k - 2, by omega⟩
  have h0 := (bit7 e (by omega)).2.2
  have step : spec_l07Port.l2 (k + 2) L true i j e n gs = if Go.bits .and .i64 (Go.bits .and .i64 (rd L (i : Int)) (rd L (j : Int))) (shl .i64 1 (IntKind.u64.wrap (e : Int))) = 0 then spec_l07Port.l2 k L true i j ((e + 1 : Nat) : Int) n gs else spec_l07Port.l2 k L (Sub64 L (Go.bits .andNot .i64 (Go.bits .or .i64 (rd L (i : Int)) (rd L (j : Int))) (shl .i64 1 (IntKind.u64.wrap (e : Int))))) i j ((e + 1 : Nat) : Int) n gs := by
   conv => lhs; unfold spec_l07Port.l2
   rw [if_pos (by omega)]
   conv => lhs; unfold spec_l07Port.j5
   rw [if_pos rfl, if_pos h0, if_pos (by omega), if_pos (by omega), if_pos (by omega), if_pos (by omega), wr e (by omega), w_f L hl _ k (by omega), Option.bind_some]
  rw [step, all_step (show e < n + 1 by omega)]
  by_cases c : Go.bits .and .i64 (Go.bits .and .i64 (rd L (i : Int)) (rd L (j : Int))) (shl .i64 1 (IntKind.u64.wrap (e : Int))) = 0
  ·rw [if_pos c]
   obtain ⟨k', b, hk', e2, hb⟩ := ih (e + 1) (by omega) k (by omega)
   exact ⟨k', b, hk', e2, by rw [hb]; exact ⟨fun f => ⟨fun h => absurd c h, f⟩, fun f => f.2⟩⟩
  ·rw [if_neg c]
   by_cases c2 : Sub64 L (Go.bits .andNot .i64 (Go.bits .or .i64 (rd L (i : Int)) (rd L (j : Int))) (shl .i64 1 (IntKind.u64.wrap (e : Int)))) = true
   ·rw [c2]
    obtain ⟨k', b, hk', e2, hb⟩ := ih (e + 1) (by omega) k (by omega)
    exact ⟨k', b, hk', e2, by rw [hb]; exact ⟨fun f => ⟨fun _ => c2, f⟩, fun f => f.2⟩⟩
   ·have c3 : Sub64 L (Go.bits .andNot .i64 (Go.bits .or .i64 (rd L (i : Int)) (rd L (j : Int))) (shl .i64 1 (IntKind.u64.wrap (e : Int)))) = false := by simpa using c2
    rw [c3]
    obtain ⟨k, rfl⟩ : ∃ m, k = m + 2 := ⟨k - 2, by omega⟩
    exact ⟨k, false, by omega, q_l2f L hl n gs i j (e + 1) hi hj k, by simp only [Bool.false_eq_true, false_iff]; rintro ⟨f, _⟩; exact c2 (f c)⟩
theorem q_out (L : List Int) (n : Int) (gs : List (List Int)) (i : Nat) (k : Nat) : spec_l07Port.l0 (k + 2) L false i n gs = some (L, false) := by
  conv => lhs; unfold spec_l07Port.l0
  have : ∀ m, spec_l07Port.j1 (m + 1) L false (i : Int) false n gs = some (L, false) := by
    intro m
    conv => lhs; unfold spec_l07Port.j1
    rw [if_neg (by simp)]
  by_cases c : (i : Int) < (L.length : Int)
  · rw [if_pos c]; exact this k
  · rw [if_neg c]; exact this k
theorem q_l1f (L : List Int) (n : Int) (gs : List (List Int)) (i j : Nat) (hi : i < 1000000) (k : Nat) : spec_l07Port.l1 (k + 4) L false i j n gs = some (L, false) := by
  conv => lhs; unfold spec_l07Port.l1
  have : ∀ m, spec_l07Port.j3 (m + 3) L false (i : Int) (j : Int) false n gs = some (L, false) := by
    intro m
    conv => lhs; unfold spec_l07Port.j3
    rw [if_neg (by simp), wr i (by omega)]
    exact q_out L n gs (i + 1) m
  by_cases c : (j : Int) < (i : Int)
  · rw [if_pos c]; exact this k
  · rw [if_neg c]; exact this k
theorem q_l1 (L : List Int) (hl : L.length < 1000000) (n : Nat) (hn : n < 7) (gs : List (List Int)) (i : Nat) (hi : i < L.length) (R : Nat) : ∀ (d j : Nat), j + d = i → ∃ K, ∀ k, K ≤ k →
  ((∀ t, j ≤ t → t < i → ∀ x, x < n + 1 → Okp L (rd L (i : Int)) (rd L (t : Int)) x) ∧ ∃ k', R ≤ k' ∧ spec_l07Port.l1 k L true i j n gs = spec_l07Port.l0 k' L true ((i + 1 : Nat) : Int) n gs) ∨
  ((∃ t, t < i ∧ ¬ ∀ x, x < n + 1 → Okp L (rd L (i : Int)) (rd L (t : Int)) x) ∧ spec_l07Port.l1 k L true i j n gs = some (L, false)) := by
 intro d
 induction d with
 | zero =>
  intro j hj
  refine ⟨R + 2, fun k hk => ?_⟩
  obtain ⟨k, rfl⟩ : ∃ m, k = m + 2 := ⟨k - 2, by omega⟩
  refine .inl ⟨fun t h1 h2 => by omega, k, by omega, ?_⟩
  conv => lhs; unfold spec_l07Port.l1
  rw [if_neg (by omega)]
  conv => lhs; unfold spec_l07Port.j3
  rw [if_neg (by simp), wr i (by omega)]
 | succ d ih =>
  intro j hj
  obtain ⟨K, hK⟩ := ih (j + 1) (by omega)
  refine ⟨K + L.length + 60, fun k hk => ?_⟩
  obtain ⟨k, rfl⟩ : ∃ m, k = m + 2 := ⟨k - 2, by omega⟩
  have step : spec_l07Port.l1 (k + 2) L true i j n gs = spec_l07Port.l2 k L true i j ((0 : Nat) : Int) n gs := by
   conv => lhs; unfold spec_l07Port.l1
   rw [if_pos (by omega)]
   conv => lhs; unfold spec_l07Port.j3
   rw [if_pos rfl]
   rfl
  obtain ⟨k2, b, hk2, e, hb⟩ := q_l2 L hl n hn gs i j hi (by omega) (K + 4) (n + 1) 0 (by omega) k (by omega)
  rw [step, e]
  by_cases c : b = true
  ·rw [c]
   have hb' := hb.1 c
   rcases hK k2 (by omega) with ⟨h, k', hk', e2⟩ | ⟨h, e2⟩
   ·refine .inl ⟨fun t h1 h2 => ?_, k', hk', e2⟩
    rcases Nat.lt_or_eq_of_le h1 with h4 | rfl
    ·exact h t h4 h2
    ·exact fun x hx => hb' x (by omega) hx
   ·exact .inr ⟨h, e2⟩
  ·have cf : b = false := by simpa using c
   rw [cf]
   obtain ⟨k2, rfl⟩ : ∃ m, k2 = m + 4 := ⟨k2 - 4, by omega⟩
   exact .inr ⟨⟨j, by omega, fun f => c (hb.2 fun x _ hx => f x hx)⟩, q_l1f L n gs i (j + 1) (by omega) k2⟩
theorem q_l0 (L : List Int) (hl : L.length < 1000000) (n : Nat) (hn : n < 7) (gs : List (List Int)) : ∀ (d i : Nat), i + d = L.length → ∃ K, ∀ k, K ≤ k →
    ∃ b, spec_l07Port.l0 k L true i n gs = some (L, b) ∧ (b = true ↔ ∀ s, i ≤ s → s < L.length → ∀ t, t < s → ∀ x, x < n + 1 → Okp L (rd L (s : Int)) (rd L (t : Int)) x) := by
  intro d
  induction d with
  | zero =>
    intro i hi
    refine ⟨2, fun k hk => ?_⟩
    obtain ⟨k, rfl⟩ : ∃ m, k = m + 2 := ⟨k - 2, by omega⟩
    refine ⟨true, ?_, by simp; intro s h1 h2; omega⟩
    conv => lhs; unfold spec_l07Port.l0
    rw [if_neg (by omega)]
    conv => lhs; unfold spec_l07Port.j1
    rw [if_neg (by simp)]
  | succ d ih =>
    intro i hi
    have hil : i < L.length := by omega
    obtain ⟨K, hK⟩ := ih (i + 1) (by omega)
    obtain ⟨K2, hK2⟩ := q_l1 L hl n hn gs i hil K i 0 (by omega)
    refine ⟨K2 + 2, fun k hk => ?_⟩
    obtain ⟨k, rfl⟩ : ∃ m, k = m + 2 := ⟨k - 2, by omega⟩
    have step : spec_l07Port.l0 (k + 2) L true i n gs = spec_l07Port.l1 k L true i ((0 : Nat) : Int) n gs := by
      conv => lhs; unfold spec_l07Port.l0
      rw [if_pos (by omega)]
      conv => lhs; unfold spec_l07Port.j1
      rw [if_pos rfl]
      rfl
    rw [step, all_step hil]
    rcases hK2 k (by omega) with ⟨h, k', hk', e⟩ | ⟨⟨t, ht, h⟩, e⟩
    · obtain ⟨b, e2, hb⟩ := hK k' hk'
      refine ⟨b, by rw [e, e2], ?_⟩
      rw [hb]
      exact ⟨fun f => ⟨fun t ht => h t (by omega) ht, f⟩, fun f => f.2⟩
    · exact ⟨false, e, by simp only [Bool.false_eq_true, false_iff]; rintro ⟨f, _⟩; exact h (f t ht)⟩
end Ex
set_option linter.unusedVariables false
open Go.RowKit Go.Proofs.Ytmbeijjkfmgkpaa.Q Go.Proofs.YtmbeijjkfmgkpaaW.PrintWords Go.Proofs.YtmbeijjkfmgkpaaW.PrintLast
namespace Ex
theorem maskAll : [1, 2, 3, 4, 5].all (fun n => (lists n).all fun g => decide (0 ≤ maskOf g) && decide (maskOf g < ((2 ^ n : Nat) : Int))) = true := by decide +kernel
theorem nfAll : [1, 2, 3, 4, 5].all (fun n => (List.range (2 ^ n)).all fun u => bo ((u : Nat) : Int) (bit ((n : Nat) : Int)) != 0 && Go.bits .and .i64 (bo ((u : Nat) : Int) (bit ((n : Nat) : Int))) (bit ((n : Nat) : Int)) != 0 && decide (bo ((u : Nat) : Int) (bit ((n : Nat) : Int)) < ((2 ^ (n + 1) : Nat) : Int)) &&
    (List.range 128).all fun v => Go.bits .and .i64 (bn ((u : Nat) : Int) ((v : Nat) : Int)) (bit ((n : Nat) : Int)) == 0 && decide (bn ((u : Nat) : Int) ((v : Nat) : Int) < ((2 ^ (n + 1) : Nat) : Int))) = true := by decide +kernel
theorem hbAll : [1, 2, 3, 4, 5].all (fun n => (List.range (2 ^ (n + 1))).all fun c => (List.range 7).all fun x => decide (x ≤ n) || !hasBit ((c : Nat) : Int) x) = true := by decide +kernel
theorem five (n : Nat) (h : 1 ≤ n ∧ n ≤ 5) : n ∈ [1, 2, 3, 4, 5] := by
  match n, h with
  | 1, _ => simp
  | 2, _ => simp
  | 3, _ => simp
  | 4, _ => simp
  | 5, _ => simp
theorem pow5 (n : Nat) (h : 1 ≤ n ∧ n ≤ 5) : 2 ^ n ≤ 32 ∧ 2 ^ (n + 1) ≤ 64 := ⟨Nat.le_trans (Nat.pow_le_pow_right (by decide : 0 < 2) h.2) (by decide), Nat.le_trans (Nat.pow_le_pow_right (by decide : 0 < 2) (show n + 1 ≤ 6 by omega)) (by decide)⟩
theorem mask_lt (n : Nat) (h : 1 ≤ n ∧ n ≤ 5) (g : List Int) (hg : g ∈ lists n) : 0 ≤ maskOf g ∧ maskOf g < ((2 ^ n : Nat) : Int) := by
  have h := List.all_eq_true.1 (List.all_eq_true.1 maskAll n (five n h)) g hg
  simpa using h
structure NF (n : Nat) (u : Int) : Prop where
  ne : bo u (bit (n : Int)) ≠ 0
  has : Go.bits .and .i64 (bo u (bit (n : Int))) (bit (n : Int)) ≠ 0
  lt : bo u (bit (n : Int)) < ((2 ^ (n + 1) : Nat) : Int)
  no : ∀ v, R7 v → Go.bits .and .i64 (bn u v) (bit (n : Int)) = 0 ∧ bn u v < ((2 ^ (n + 1) : Nat) : Int)
theorem nf (n : Nat) (h : 1 ≤ n ∧ n ≤ 5) (u : Int) (h0 : 0 ≤ u) (h1 : u < ((2 ^ n : Nat) : Int)) : NF n u := by
  obtain ⟨a, rfl⟩ := Int.eq_ofNat_of_zero_le h0
  have h := List.all_eq_true.1 (List.all_eq_true.1 nfAll n (five n h)) a (List.mem_range.2 (by omega))
  simp only [Bool.and_eq_true, bne_iff_ne, decide_eq_true_eq, List.all_eq_true, beq_iff_eq] at h
  obtain ⟨⟨⟨h1, h2⟩, h3⟩, h4⟩ := h
  refine ⟨h1, h2, h3, fun v hv => ?_⟩
  obtain ⟨b, rfl⟩ := Int.eq_ofNat_of_zero_le hv.1
  exact h4 b (List.mem_range.2 (by have := hv.2; omega))
theorem hb_no (n : Nat) (h : 1 ≤ n ∧ n ≤ 5) (c : Int) (h0 : 0 ≤ c) (h1 : c < ((2 ^ (n + 1) : Nat) : Int)) (x : Nat) (hx : x < 7) (hxn : n < x) : hasBit c x = false := by
  obtain ⟨a, rfl⟩ := Int.eq_ofNat_of_zero_le h0
  have h := List.all_eq_true.1 (List.all_eq_true.1 (List.all_eq_true.1 hbAll n (five n h)) a (List.mem_range.2 (by omega))) x (List.mem_range.2 hx)
  rw [Bool.or_eq_true, decide_eq_true_eq, Bool.not_eq_true'] at h
  rcases h with h | h
  · omega
  · exact h
theorem allOf_one (M : List Int) (s : Int) : ∀ (d i t : Nat), i + d = M.length → i ≤ t → t < M.length → bo (rd M (t : Int)) s ∈ allOf M s i d := by
  intro d
  induction d with
  | zero => intro i t h1 h2 h3; omega
  | succ d ih =>
    intro i t h1 h2 h3
    simp only [allOf, List.mem_append, List.mem_cons]
    rcases Nat.lt_or_eq_of_le h2 with h | rfl
    · exact .inr (ih (i + 1) t (by omega) (by omega) h3)
    · exact .inl (.inl rfl)
theorem allOf_two (M : List Int) (s : Int) : ∀ (d i : Nat), i + d = M.length → ∀ y ∈ allOf M s i d, (∃ t, t < M.length ∧ y = bo (rd M (t : Int)) s) ∨ ∃ a ∈ M, ∃ b ∈ M, y = dif M a b := by
  intro d
  induction d with
  | zero => intro i h y hy; simp [allOf] at hy
  | succ d ih =>
    intro i h y hy
    simp only [allOf, List.mem_append, List.mem_cons, List.mem_map] at hy
    rcases hy with (hy | ⟨b, hb, hy⟩) | hy
    · exact .inl ⟨i, by omega, hy⟩
    · exact .inr ⟨_, rd_mem (show i < M.length by omega), b, List.mem_of_mem_take hb, hy.symm⟩
    · exact ih (i + 1) (by omega) y hy
theorem mem_filt (A : List Int) (c : Int) : ∀ (l out : List Int), c ∈ filt A out l ↔ c ∈ out ∨ (c ∈ l ∧ c ≠ 0 ∧ A.any (partOf c) = false) := by
  intro l
  induction l with
  | nil => intro out; simp [filt]
  | cons x l ih =>
    intro out
    unfold filt
    split
    · rename_i h
      rw [ih]
      constructor
      · rintro (h1 | ⟨h1, h2⟩)
        · exact .inl h1
        · exact .inr ⟨List.mem_cons_of_mem _ h1, h2⟩
      · rintro (h1 | ⟨h1, h2, h3⟩)
        · exact .inl h1
        · rcases List.mem_cons.1 h1 with rfl | h1
          · exact absurd h h2
          · exact .inr ⟨h1, h2, h3⟩
    · split
      · rename_i h0 h
        rw [ih]
        constructor
        · rintro (h1 | ⟨h1, h2⟩)
          · exact .inl h1
          · exact .inr ⟨List.mem_cons_of_mem _ h1, h2⟩
        · rintro (h1 | ⟨h1, h2, h3⟩)
          · exact .inl h1
          · rcases List.mem_cons.1 h1 with rfl | h1
            · exact .inl (by simpa using h)
            · exact .inr ⟨h1, h2, h3⟩
      · split
        · rename_i h0 h' h
          rw [ih]
          constructor
          · rintro (h1 | ⟨h1, h2⟩)
            · exact .inl h1
            · exact .inr ⟨List.mem_cons_of_mem _ h1, h2⟩
          · rintro (h1 | ⟨h1, h2, h3⟩)
            · exact .inl h1
            · rcases List.mem_cons.1 h1 with rfl | h1
              · rw [h] at h3; exact absurd h3 (by decide)
              · exact .inr ⟨h1, h2, h3⟩
        · rename_i h0 h' h
          rw [ih, List.mem_append, List.mem_singleton]
          constructor
          · rintro ((h1 | rfl) | ⟨h1, h2⟩)
            · exact .inl h1
            · exact .inr ⟨List.mem_cons_self .., h0, by simpa using h⟩
            · exact .inr ⟨List.mem_cons_of_mem _ h1, h2⟩
          · rintro (h1 | ⟨h1, h2, h3⟩)
            · exact .inl (.inl h1)
            · rcases List.mem_cons.1 h1 with rfl | h1
              · exact .inl (.inr rfl)
              · exact .inr ⟨h1, h2, h3⟩
theorem nodup_filt (A : List Int) : ∀ (l out : List Int), out.Nodup → (filt A out l).Nodup := by
  intro l
  induction l with
  | nil => intro out h; exact h
  | cons x l ih =>
    intro out h
    unfold filt
    split
    · exact ih _ h
    · split
      · exact ih _ h
      · split
        · exact ih _ h
        · rename_i h0 h1 h2
          refine ih _ (List.nodup_append.2 ⟨h, by simp, ?_⟩)
          intro a ha b hb
          rw [List.mem_singleton.1 hb]
          rintro rfl
          exact h1 (by simpa using ha)
theorem ins_len (x : Int) : ∀ l : List Int, x ∉ l → (ins x l).length = l.length + 1 := by
  intro l
  induction l with
  | nil => intro _; rfl
  | cons y l ih =>
    intro h
    rw [List.mem_cons, not_or] at h
    unfold ins
    split
    · split
      · rfl
      · exact absurd (by omega) h.1
    · rw [List.length_cons, ih h.2, List.length_cons]
theorem nodup_len (l : List Int) (hN : l.Nodup) (hR : ∀ x ∈ l, R7 x) : l.length ≤ 128 := by
  have : ∃ r, Srt r ∧ r.length = l.length ∧ ∀ y, y ∈ r ↔ y ∈ l := by
    induction l with
    | nil => exact ⟨[], ⟨List.Pairwise.nil, by simp⟩, rfl, by simp⟩
    | cons x l ih =>
      rw [List.nodup_cons] at hN
      obtain ⟨r, h1, h2, h3⟩ := ih hN.2 (fun y hy => hR y (by simp [hy]))
      exact ⟨ins x r, srt_ins (hR x (by simp)) h1, by rw [ins_len x r (by rw [h3]; exact hN.1), h2]; rfl, fun y => by rw [mem_ins, h3, List.mem_cons]⟩
  obtain ⟨r, h1, h2, _⟩ := this
  have := h1.len
  omega
theorem pairs_iff (C : List Int) (hN : C.Nodup) (Q : Int → Int → Prop) (sym : ∀ a ∈ C, ∀ b ∈ C, Q a b → Q b a) :
    (∀ s, s < C.length → ∀ t, t < s → Q (rd C ((s : Nat) : Int)) (rd C ((t : Nat) : Int))) ↔ ∀ a ∈ C, ∀ b ∈ C, a ≠ b → Q a b := by
  constructor
  · intro f a ha b hb hab
    obtain ⟨i, hi, rfl⟩ := List.getElem_of_mem ha
    obtain ⟨j, hj, rfl⟩ := List.getElem_of_mem hb
    have hij : i ≠ j := fun e => hab (by subst e; rfl)
    rcases Nat.lt_or_gt_of_ne hij with h | h
    · have := f j hj i h
      rw [rd_at hj, rd_at hi] at this
      exact sym _ (List.getElem_mem _) _ (List.getElem_mem _) this
    · have := f i hi j h
      rwa [rd_at hj, rd_at hi] at this
  · intro f s hs t ht
    rw [rd_at hs, rd_at (show t < C.length by omega)]
    refine f _ (List.getElem_mem _) _ (List.getElem_mem _) fun e => ?_
    have := (List.nodup_iff_pairwise_ne.1 hN)
    rw [List.pairwise_iff_getElem] at this
    exact this t s (by omega) hs ht e.symm
theorem bor_comm {x y : Int} (hx : R7 x) (hy : R7 y) : bo x y = bo y x := by
  rw [(op2 hx hy).or, (op2 hy hx).or, Nat.or_comm]
theorem band_le {x y : Int} (hx : R7 x) (hy : R7 y) : ba x y ≤ x := by
  rw [(op2 hx hy).and]
  have : x.toNat &&& y.toNat ≤ x.toNat := Nat.and_le_left
  have := hx.1
  omega
theorem sub_eq (C L : List Int) (hm : ∀ y, y ∈ C ↔ y ∈ L) (hC : ∀ c ∈ C, R7 c) (z : Int) (hz : R7 z) : Sub64 L z = Sub C z := by
  rw [Bool.eq_iff_iff]
  unfold Sub64 Sub
  simp only [List.any_eq_true, beq_iff_eq]
  constructor
  · rintro ⟨d, hd, e⟩
    have hd' := (hm d).2 hd
    exact ⟨d, hd', by show ba z d = d; rw [← band_comm (hC d hd') hz, ← (op2 (hC d hd') hz).and64]; exact e⟩
  · rintro ⟨d, hd, e⟩
    exact ⟨d, (hm d).1 hd, by show Go.bits .and .i64 d z = d; rw [(op2 (hC d hd) hz).and64, band_comm (hC d hd) hz]; exact e⟩
theorem cnd_iff (n : Nat) (h : 1 ≤ n ∧ n ≤ 5) (C L : List Int) (hm : ∀ y, y ∈ C ↔ y ∈ L) (hC : ∀ c ∈ C, R7 c) (a b : Int) (ha : R7 a) (hb : R7 b) (hlt : a < ((2 ^ (n + 1) : Nat) : Int)) :
    Cnd C a b ↔ ∀ x, x < n + 1 → Okp L a b x := by
  have hab := rand ha hb
  have hob := ror ha hb
  have one : ∀ x, x < 7 → (Okp L a b x ↔ (hasBit (ba a b) x = true → Sub C (bn (bo a b) (bit (x : Int))) = true)) := by
    intro x hx
    obtain ⟨b1, b2, b3⟩ := bit7 x hx
    unfold Okp hasBit
    rw [(op2 ha hb).and64, (op2 ha hb).or64, ← b2, (op2 hob b1).not64, sub_eq C L hm hC _ (op2 hob b1).rn, bne_iff_ne]
  constructor
  · intro f x hx
    exact (one x (by omega)).2 (f x (by omega))
  · intro f x hx hb'
    by_cases c : x < n + 1
    · exact (one x hx).1 (f x c) hb'
    · have := band_le ha hb
      rw [hb_no n h (ba a b) hab.1 (by omega) x hx (by omega)] at hb'
      exact absurd hb' (by decide)
theorem cnd_sym (C : List Int) (a b : Int) (ha : R7 a) (hb : R7 b) (h : Cnd C a b) : Cnd C b a := by
  unfold Cnd at *
  rw [← band_comm ha hb, ← bor_comm ha hb]
  exact h
theorem srt_unique : ∀ (X Y : List Int), X.Pairwise (· < ·) → Y.Pairwise (· < ·) → (∀ y, y ∈ X ↔ y ∈ Y) → X = Y := by
  intro X
  induction X with
  | nil =>
    intro Y _ _ h
    cases Y with
    | nil => rfl
    | cons y Y => have := (h y).2 (by simp); simp at this
  | cons x X ih =>
    intro Y hX hY h
    cases Y with
    | nil => have := (h x).1 (by simp); simp at this
    | cons y Y =>
      rw [List.pairwise_cons] at hX hY
      have e : x = y := by
        rcases List.mem_cons.1 ((h x).1 (by simp)) with e | e
        · exact e
        · rcases List.mem_cons.1 ((h y).2 (by simp)) with e2 | e2
          · exact e2.symm
          · have := hY.1 x e; have := hX.1 y e2; omega
      subst e
      rw [ih Y hX.2 hY.2 fun z => ?_]
      constructor
      · intro hz
        rcases List.mem_cons.1 ((h z).1 (List.mem_cons_of_mem _ hz)) with e | e
        · have := hX.1 z hz; omega
        · exact e
      · intro hz
        rcases List.mem_cons.1 ((h z).2 (List.mem_cons_of_mem _ hz)) with e | e
        · have := hY.1 z hz; omega
        · exact e
theorem port_both (n : Nat) (hn : 1 ≤ n ∧ n ≤ 5) (gs : List (List Int)) (hl : gs.length < 2000000) (hg : ∀ t, t < gs.length → G gs t ∈ lists n) :
  ∃ K, ∀ k, K ≤ k → ∃ b L, impl_Family_isPort.f k n gs = some b ∧ spec_l07Port.f k n gs = some (L, b) := by
 have hp := pow5 n hn
 obtain ⟨hs, hs2, hs3⟩ := bit7 n (by omega)
 have h7 : ∀ t, t < gs.length → G gs t ∈ lists 7 := fun t ht => by
  have := lists_mono n (7 - n) _ (hg t ht)
  rwa [show n + (7 - n) = 7 by omega] at this
 have hM0 : ∀ c ∈ gs.map maskOf, 0 ≤ c ∧ c < ((2 ^ n : Nat) : Int) := fun c hc => by
  obtain ⟨g, hg1, rfl⟩ := List.mem_map.1 hc
  obtain ⟨t, ht, rfl⟩ := List.getElem_of_mem hg1
  have := hg t ht
  rw [G, rdL_at ht] at this
  exact mask_lt n hn _ this
 have hM : ∀ c ∈ gs.map maskOf, R7 c := fun c hc => ⟨(hM0 c hc).1, by have := (hM0 c hc).2; omega⟩
 have hlM : (gs.map maskOf).length = gs.length := List.length_map _
 have hrd : ∀ t, t < gs.length → rd (gs.map maskOf) ((t : Nat) : Int) = maskOf (G gs t) := fun t ht => by
  rw [rd_at (by rw [hlM]; exact ht), List.getElem_map, G, rdL_at ht]
 have hAm : ∀ y ∈ allA n gs, R7 y ∧ y < ((2 ^ (n + 1) : Nat) : Int) ∧ (Go.bits .and .i64 y (bit (n : Int)) ≠ 0 → ∃ t, t < gs.length ∧ y = bo (maskOf (G gs t)) (bit (n : Int))) := by
  intro y hy
  rcases allOf_two _ _ _ 0 (by omega) y hy with ⟨t, ht, rfl⟩ | ⟨a, ha, b, hb, rfl⟩
  ·rw [hlM] at ht
   rw [hrd t ht]
   have hm := mask_lt n hn _ (hg t ht)
   exact ⟨ror ⟨hm.1, by omega⟩ hs, (nf n hn _ hm.1 hm.2).lt, fun _ => ⟨t, ht, rfl⟩⟩
  ·have h1 := hM0 a ha
   have h2 := hM0 b hb
   have hu := ror (hM a ha) (hM b hb)
   have hult : bo a b < ((2 ^ n : Nat) : Int) := by
    rw [(op2 (hM a ha) (hM b hb)).or]
    have : a.toNat ||| b.toNat < 2 ^ n := Nat.or_lt_two_pow (by omega) (by omega)
    omega
   have hcom := com_ok _ hM _ hu _ hu (band_self hu)
   have hf := (nf n hn _ hu.1 hult).no _ hcom.1
   exact ⟨(op2 hu hcom.1).rn, hf.2, fun h => absurd hf.1 h⟩
 have hAR : ∀ x ∈ allA n gs, R7 x := fun x hx => (hAm x hx).1
 obtain ⟨K1, hK1⟩ := circuits_f n (by omega) gs hl h7 hAR
 have hFN : (filt (allA n gs) [] (allA n gs)).Nodup := nodup_filt _ _ [] List.nodup_nil
 have hCp := sortBy_perm setLt (filt (allA n gs) [] (allA n gs))
 have hCN : (sortBy setLt (filt (allA n gs) [] (allA n gs))).Nodup := hCp.nodup_iff.2 hFN
 have hCm : ∀ c, c ∈ sortBy setLt (filt (allA n gs) [] (allA n gs)) ↔ c ∈ allA n gs ∧ c ≠ 0 ∧ (allA n gs).any (partOf c) = false := fun c => by
  rw [hCp.mem_iff, mem_filt]; simp
 generalize sortBy setLt (filt (allA n gs) [] (allA n gs)) = C at hK1 hCN hCm
 have hCR : ∀ c ∈ C, R7 c := fun c hc => hAR c ((hCm c).1 hc).1
 have hCl := nodup_len C hCN hCR
 obtain ⟨K2, hK2⟩ := p_l0 n (by omega) gs (by omega) h7 C (by omega) hCR gs.length 0 (by omega)
 have hb0 : ∀ c ∈ gs.map maskOf, bo c (bit (n : Int)) ≠ 0 := fun c hc => (nf n hn c (hM0 c hc).1 (hM0 c hc).2).ne
 have hx0 : ∃ X, Srt X ∧ (∀ y, y ∈ X ↔ y ≠ 0 ∧ y ∈ allA n gs) ∧ ∃ K, ∀ k, K ≤ k → spec_l07Circuits.f k n gs = some (X.filter (MX X), X.all fun c => MX X c || (Go.bits .and .i64 c (bit (n : Int)) == 0)) := by
  obtain ⟨K3, hK3⟩ := s_l0 (bit (n : Int)) hs (gs.map maskOf) (by omega) hM hb0 0 (gs.map maskOf).length 0 (by omega)
  obtain ⟨k3, X, _, hX, hXm, e3⟩ := hK3 [] ⟨List.Pairwise.nil, by simp⟩ K3 (Nat.le_refl _)
  refine ⟨X, hX, fun y => by rw [hXm]; simp [allA], ?_⟩
  obtain ⟨K4, hK4⟩ := s_l3 (bit (n : Int)) X hX X.length 0 (by omega)
  obtain ⟨K5, hK5⟩ := s_l0 (bit (n : Int)) hs (gs.map maskOf) (by omega) hM hb0 K4 (gs.map maskOf).length 0 (by omega)
  refine ⟨K5 + gs.length + 30, fun k hk => ?_⟩
  obtain ⟨k5, X5, hk5, hX5, hXm5, e5⟩ := hK5 [] ⟨List.Pairwise.nil, by simp⟩ k (by omega)
  obtain rfl : X5 = X := srt_unique _ _ hX5.1 hX.1 fun y => by rw [hXm5, hXm]
  unfold spec_l07Circuits.f
  rw [if_pos hs3, numbers_f gs (by omega) h7 k (by omega), Option.bind_some, ← hs2]
  rw [show ((0 : Nat) : Int) = 0 from rfl] at e5
  rw [e5]
  have := hK4 [] true (by simp) k5 hk5
  rw [show ((0 : Nat) : Int) = 0 from rfl, List.drop_zero, List.nil_append, Bool.true_and] at this
  exact this
 obtain ⟨X, hX, hXm, K6, hK6⟩ := hx0
 have hLN : (X.filter (MX X)).Nodup := by
  refine List.Nodup.sublist List.filter_sublist ?_
  rw [List.nodup_iff_pairwise_ne]
  exact hX.1.imp fun h => by omega
 have hLm : ∀ c, c ∈ C ↔ c ∈ X.filter (MX X) := fun c => by
  rw [hCm, List.mem_filter, hXm]
  constructor
  ·rintro ⟨h1, h2, h3⟩
   refine ⟨⟨h2, h1⟩, ?_⟩
   unfold MX
   rw [List.all_eq_true]
   intro d hd
   have hd' := (hXm d).1 hd
   rw [List.any_eq_false] at h3
   have := h3 d hd'.2
   unfold partOf at this
   have hdR := hAR d hd'.2
   have hcR := hAR c h1
   have e : Go.bits .and .i64 d c = Go.bits .and .u64 c d := by rw [(op2 hdR hcR).and64]; exact band_comm hdR hcR
   rw [e]
   by_cases c1 : d = c
   ·rw [beq_iff_eq.2 c1]; rfl
   ·simp only [bne_iff_ne.2 hd'.1, bne_iff_ne.2 c1, Bool.true_and] at this
    simp only [Bool.or_eq_true, bne_iff_ne, beq_iff_eq]
    exact .inr fun h => this (beq_iff_eq.2 h)
  ·rintro ⟨⟨h2, h1⟩, h3⟩
   refine ⟨h1, h2, ?_⟩
   rw [List.any_eq_false]
   intro d hd
   unfold partOf
   unfold MX at h3
   rw [List.all_eq_true] at h3
   by_cases c0 : d = 0
   ·subst c0; simp
   ·have := h3 d ((hXm d).2 ⟨c0, hd⟩)
    have hdR := hAR d hd
    have hcR := hAR c h1
    have e : Go.bits .and .i64 d c = Go.bits .and .u64 c d := by rw [(op2 hdR hcR).and64]; exact band_comm hdR hcR
    rw [e] at this
    simp only [Bool.or_eq_true, bne_iff_ne, beq_iff_eq] at this
    rcases this with h | h
    ·subst h; simp
    ·rw [beq_eq_false_iff_ne.2 h]; simp
 have hLl : (X.filter (MX X)).length ≤ 128 := Nat.le_trans (List.length_filter_le _ _) hX.len
 obtain ⟨K7, hK7⟩ := q_l0 (X.filter (MX X)) (by omega) n (by omega) gs (X.filter (MX X)).length 0 (by omega)
 have whole : (X.all fun c => MX X c || (Go.bits .and .i64 c (bit (n : Int)) == 0)) = true ↔ ∀ t, t < gs.length → C.contains (bo (maskOf (G gs t)) (bit (n : Int))) = true := by
  rw [List.all_eq_true]
  constructor
  ·intro f t ht
   have hm := mask_lt n hn _ (hg t ht)
   have hin : bo (maskOf (G gs t)) (bit (n : Int)) ∈ allA n gs := by
    have := allOf_one (gs.map maskOf) (bit (n : Int)) (gs.map maskOf).length 0 t (by omega) (by omega) (by omega)
    rwa [hrd t ht] at this
   have h2 := nf n hn _ hm.1 hm.2
   have hX' := (hXm _).2 ⟨h2.ne, hin⟩
   have := f _ hX'
   rw [beq_eq_false_iff_ne.2 h2.has, Bool.or_false] at this
   simp only [List.contains_iff_mem]
   rw [hLm, List.mem_filter]
   exact ⟨hX', this⟩
  ·intro f c hc
   have hc' := (hXm c).1 hc
   by_cases c0 : Go.bits .and .i64 c (bit (n : Int)) = 0
   ·rw [beq_iff_eq.2 c0, Bool.or_true]
   ·obtain ⟨t, ht, rfl⟩ := (hAm c hc'.2).2.2 c0
    have := f t ht
    simp only [List.contains_iff_mem] at this
    rw [hLm, List.mem_filter] at this
    rw [this.2, Bool.true_or]
 have hClt : ∀ c ∈ C, c < ((2 ^ (n + 1) : Nat) : Int) := fun c hc => (hAm c ((hCm c).1 hc).1).2.1
 have pairs : (∀ s, s < C.length → ∀ t, t < s → Cnd C (rd C ((s : Nat) : Int)) (rd C ((t : Nat) : Int))) ↔ ∀ s, s < (X.filter (MX X)).length → ∀ t, t < s → ∀ x, x < n + 1 → Okp (X.filter (MX X)) (rd (X.filter (MX X)) ((s : Nat) : Int)) (rd (X.filter (MX X)) ((t : Nat) : Int)) x := by
  rw [pairs_iff C hCN (Cnd C) (fun a ha b hb h => cnd_sym C a b (hCR a ha) (hCR b hb) h)]
  rw [pairs_iff (X.filter (MX X)) hLN (fun a b => ∀ x, x < n + 1 → Okp (X.filter (MX X)) a b x) (fun a ha b hb h => ?_)]
  ·constructor
   ·intro f a ha b hb hab
    have ha' := (hLm a).2 ha
    have hb' := (hLm b).2 hb
    exact (cnd_iff n hn C _ hLm hCR a b (hCR a ha') (hCR b hb') (hClt a ha')).1 (f a ha' b hb' hab)
   ·intro f a ha b hb hab
    exact (cnd_iff n hn C _ hLm hCR a b (hCR a ha) (hCR b hb) (hClt a ha)).2 (f a ((hLm a).1 ha) b ((hLm b).1 hb) hab)
  ·have ha' := (hLm a).2 ha
   have hb' := (hLm b).2 hb
   have h1 := (cnd_iff n hn C _ hLm hCR a b (hCR a ha') (hCR b hb') (hClt a ha')).2 h
   exact (cnd_iff n hn C _ hLm hCR b a (hCR b hb') (hCR a ha') (hClt b hb')).1 (cnd_sym C a b (hCR a ha') (hCR b hb') h1)
 refine ⟨K1 + K2 + K6 + K7 + 2, fun k hk => ?_⟩
 obtain ⟨b, e1, hb⟩ := hK2 k (by omega)
 obtain ⟨b2, e2, hb2⟩ := hK7 k (by omega)
 refine ⟨b, X.filter (MX X), ?_, ?_⟩
 ·unfold impl_Family_isPort.f
  rw [hK1 k (by omega), Option.bind_some]
  exact e1
 ·unfold spec_l07Port.f
  rw [hK6 k (by omega), Option.bind_some]
  rw [show ((0 : Nat) : Int) = 0 from rfl] at e2
  have hbw : b = ((X.all fun c => MX X c || (Go.bits .and .i64 c (bit (n : Int)) == 0)) && b2) := by
   rw [Bool.eq_iff_iff, hb, Bool.and_eq_true, whole, hb2, pairs]
   exact ⟨fun f => ⟨fun t ht => f.1 t (by omega) ht, fun s _ hs => f.2 s hs⟩, fun f => ⟨fun t _ ht => f.1 t ht, fun s hs => f.2 s (by omega) hs⟩⟩
  rw [hbw]
  by_cases c : (X.all fun c => MX X c || (Go.bits .and .i64 c (bit (n : Int)) == 0)) = true
  ·rw [c, Bool.true_and]
   exact e2
  ·have cf : (X.all fun c => MX X c || (Go.bits .and .i64 c (bit (n : Int)) == 0)) = false := by simpa using c
   rw [cf, Bool.false_and]
   obtain ⟨k, rfl⟩ : ∃ m, k = m + 2 := ⟨k - 2, by omega⟩
   exact q_out _ n gs 0 k
end Ex
end Go.Proofs.Ytmbeijjkfmgkpaa.Pure
namespace Go.Proofs.Ytmbeijjkfmgkpaa.Q
open Go.RowKit Go.Proofs.YtmbeijjkfmgkpaaW.PrintWords Go.Proofs.YtmbeijjkfmgkpaaW.PrintLast Go.Proofs.YtmbeijjkfmgkpaaW.PrintMore
attribute [local go_sem] max2_int min2_int max_two min_two max_three min_three max_four min_four
set_option linter.unusedVariables false
set_option linter.unusedSimpArgs false
def spec_IsPort.f (k : Nat) (a0_0 : Int) (l0_1 : List (List Int)) : Option (Bool × Int) := (spec_l07Family.f k a0_0 l0_1).bind fun t977 => (if t977 = 0 then ((spec_l07Port.f k a0_0 l0_1).bind fun bt978 => (some (bt978.2, 0))) else (some (false, t977)))
set_option maxHeartbeats 8000000 in
set_option maxRecDepth 100000 in
theorem spec_IsPort.calls (k : Nat) (a0_0 : Int) (A0_1 : Option Addr) (c0_1 : Nat) (l0_1 : List (List Int)) (r1 : Bool) (r2 : Int) (w : World) (hr0_1 : Kd.C (Kd.slice 2 (Kd.int .i64)) w A0_1 l0_1.length l0_1) (hc0_1 : l0_1.length ≤ c0_1) (h : spec_IsPort.f k a0_0 l0_1 = some (r1, r2)) :
  Calls Try.prog 45 #[.agg #[.int .i64 a0_0, .slice A0_1 l0_1.length c0_1]] w fun e w' => e = .returned (.tuple #[.bool r1, .int .i64 r2]) ∧ Below w.heap.size w w' := by
 have hu31 := Try.underlying31
 have HR0_1 := Aside0.mk hr0_1
 have HC0_1 := Aside0.mk hc0_1
 clear hr0_1 hc0_1
 have HB := Aside0.mk (Below.refl w.heap.size w)
 have H : ((spec_l07Family.f k a0_0 l0_1).bind fun t977 => (if t977 = 0 then ((spec_l07Port.f k a0_0 l0_1).bind fun bt978 => (some (bt978.2, 0))) else (some (false, t977)))) = some (r1, r2) := h
 clear h
 replace H := Option.bind_eq_some_iff.mp H
 obtain ⟨t977, A20, H⟩ := H
 replace H : (if t977 = 0 then ((spec_l07Port.f k a0_0 l0_1).bind fun bt978 => (some (bt978.2, 0))) else (some (false, t977))) = some (r1, r2) := H
 have A2 := Aside0.mk A20
 clear A20
 by_cases c3 : t977 = 0
 ·rw [if_pos c3] at H
  have c3b0 : (t977 == 0) = true := beq_iff_eq.mpr c3
  have c3b1 : (t977 != 0) = false := bne_eq_false_iff_eq.mpr c3
  clear c3
  replace H := Option.bind_eq_some_iff.mp H
  obtain ⟨⟨t978, t981⟩, A40, H⟩ := H
  replace H : (some (t981, 0)) = some (r1, r2) := H
  have A4 := Aside0.mk A40
  clear A40
  simp only [Option.some.injEq, Prod.mk.injEq] at H
  obtain ⟨rfl, rfl⟩ := H
  go_enter Try.func45, Try.ntmps45
  go_wp2_with (first | ((with_reducible refine gate_dst (N := 1) rfl ?_); refine box_event ?hg (N := 1) ?hd (cs := #[.int .i64 a0_0, .slice A0_1 l0_1.length c0_1]) (t := 31) ?hr ?_; (case hd => rfl); (case hg => rfl); (case hr => first | (go_simp; done) | (go_simp; rfl)); intro gb976 hg w5 hbox hb; have n0_ := Aside0.mk (below_step (zb0 HB.out) hb); have n1_ := Aside0.mk (hbox); have n2_ := Aside0.mk ((by rw [hg]; exact (below_size (zb0 HB.out)) : w.heap.size ≤ gb976)); have n3_ := Aside0.mk ((by rw [hg]; exact (below_size (zb0 HB.out)) : w.heap.size ≤ gb976)); clear HB; have HB := n0_; have BK976 := n1_; have GW976 := n2_; have GE976 := n3_; clear n0_ n1_ n2_ n3_; clear hb hbox hg) | ((with_reducible refine gate_callee (f := 66) rfl ?_); refine goesL_ (some 7) rfl rfl Try.func66 (by kernel_rfl) rfl #[.pointer (some ⟨gb976, 0, none⟩)] rfl zl ?_; (with_reducible refine (spec_l07Family.calls k gb976 a0_0 A0_1 c0_1 l0_1 t977 _ ?side1 ?side2 ?side3 A2.out).mono ?_); (case side1 => (with_reducible repeat (first | refine blk_drewN ?_ _ | refine blk_drew ?_ | refine blk_alloc ?_ _)); exact BK976.out); (case side2 => exact zc (Kd.C_below HR0_1.out HB.out)); (case side3 => exact HC0_1.out); rintro e w6 ⟨rfl, hb⟩; refine ⟨_, rfl, ?_⟩; have n0_ := Aside0.mk (blk_below (g := gb976) (o := .cells #[.int .i64 a0_0, .slice A0_1 l0_1.length c0_1] 31 (0, 0)) (zk BK976.out) hb); have n1_ := Aside0.mk (below_step (zb1 HB.out GE976.out) hb); clear BK976; clear HB; have BK976 := n0_; have HB := n1_; clear n0_ n1_; (try clear hb); (try clear hb2); (try clear hk); (try clear hi)) | ((with_reducible refine gate_callee (f := 111) rfl ?_); refine goesL_ (some 12) rfl rfl Try.func111 (by kernel_rfl) rfl #[.pointer (some ⟨gb976, 0, none⟩)] rfl zl ?_; (with_reducible refine (spec_l07Port.calls k gb976 a0_0 A0_1 c0_1 l0_1 t978 t981 _ ?side1 ?side2 ?side3 A4.out).mono ?_); (case side1 => (with_reducible repeat (first | refine blk_drewN ?_ _ | refine blk_drew ?_ | refine blk_alloc ?_ _)); exact BK976.out); (case side2 => exact zc (Kd.C_below HR0_1.out HB.out)); (case side3 => exact HC0_1.out); rintro e w7 ⟨v979, rfl, ho0, hb⟩; refine ⟨_, rfl, ?_⟩; have n0_ := Aside0.mk (Kd.R_lower ho0 (below_size (zb1 HB.out GE976.out))); have n1_ := Aside0.mk (blk_below (g := gb976) (o := .cells #[.int .i64 a0_0, .slice A0_1 l0_1.length c0_1] 31 (0, 0)) (zk BK976.out) hb); have n2_ := Aside0.mk (below_step (zb1 HB.out GE976.out) hb); clear BK976; clear HB; have HO980 := n0_; have BK976 := n1_; have HB := n2_; clear n0_ n1_ n2_; (try clear hb); (try clear hb2); (try clear hk); (try clear hi); (try clear ho0)))
  go_ret2
  exact ⟨ze, zb1 HB.out GE976.out⟩
 ·rw [if_neg c3] at H
  have c3b0 : (t977 == 0) = false := beq_eq_false_iff_ne.mpr c3
  have c3b1 : (t977 != 0) = true := bne_iff_ne.mpr c3
  simp only [Option.some.injEq, Prod.mk.injEq] at H
  obtain ⟨rfl, rfl⟩ := H
  go_enter Try.func45, Try.ntmps45
  go_wp2_with (first | ((with_reducible refine gate_dst (N := 1) rfl ?_); refine box_event ?hg (N := 1) ?hd (cs := #[.int .i64 a0_0, .slice A0_1 l0_1.length c0_1]) (t := 31) ?hr ?_; (case hd => rfl); (case hg => rfl); (case hr => first | (go_simp; done) | (go_simp; rfl)); intro gb976 hg w8 hbox hb; have n0_ := Aside0.mk (below_step (zb0 HB.out) hb); have n1_ := Aside0.mk (hbox); have n2_ := Aside0.mk ((by rw [hg]; exact (below_size (zb0 HB.out)) : w.heap.size ≤ gb976)); have n3_ := Aside0.mk ((by rw [hg]; exact (below_size (zb0 HB.out)) : w.heap.size ≤ gb976)); clear HB; have HB := n0_; have BK976 := n1_; have GW976 := n2_; have GE976 := n3_; clear n0_ n1_ n2_ n3_; clear hb hbox hg) | ((with_reducible refine gate_callee (f := 66) rfl ?_); refine goesL_ (some 7) rfl rfl Try.func66 (by kernel_rfl) rfl #[.pointer (some ⟨gb976, 0, none⟩)] rfl zl ?_; (with_reducible refine (spec_l07Family.calls k gb976 a0_0 A0_1 c0_1 l0_1 t977 _ ?side1 ?side2 ?side3 A2.out).mono ?_); (case side1 => (with_reducible repeat (first | refine blk_drewN ?_ _ | refine blk_drew ?_ | refine blk_alloc ?_ _)); exact BK976.out); (case side2 => exact zc (Kd.C_below HR0_1.out HB.out)); (case side3 => exact HC0_1.out); rintro e w9 ⟨rfl, hb⟩; refine ⟨_, rfl, ?_⟩; have n0_ := Aside0.mk (blk_below (g := gb976) (o := .cells #[.int .i64 a0_0, .slice A0_1 l0_1.length c0_1] 31 (0, 0)) (zk BK976.out) hb); have n1_ := Aside0.mk (below_step (zb1 HB.out GE976.out) hb); clear BK976; clear HB; have BK976 := n0_; have HB := n1_; clear n0_ n1_; (try clear hb); (try clear hb2); (try clear hk); (try clear hi)))
  go_ret2
  exact ⟨ze, zb1 HB.out GE976.out⟩
def impl_IsPort.f (k : Nat) (a0_0 : Int) (l0_1 : List (List Int)) : Option (Bool × Int) := (impl_rankedCode.f k a0_0 l0_1).bind fun t983 => (if t983 = 0 then ((impl_Family_isPort.f k a0_0 l0_1).bind fun t984 => (some (t984, 0))) else (some (false, t983)))
set_option maxHeartbeats 8000000 in
set_option maxRecDepth 100000 in
theorem impl_IsPort.calls (k : Nat) (a0_0 : Int) (A0_1 : Option Addr) (c0_1 : Nat) (l0_1 : List (List Int)) (r1 : Bool) (r2 : Int) (w : World) (hr0_1 : Kd.C (Kd.slice 2 (Kd.int .i64)) w A0_1 l0_1.length l0_1) (hc0_1 : l0_1.length ≤ c0_1) (h : impl_IsPort.f k a0_0 l0_1 = some (r1, r2)) :
  Calls Try.prog 46 #[.agg #[.int .i64 a0_0, .slice A0_1 l0_1.length c0_1]] w fun e w' => e = .returned (.tuple #[.bool r1, .int .i64 r2]) ∧ Below w.heap.size w w' := by
 have hu31 := Try.underlying31
 have HR0_1 := Aside0.mk hr0_1
 have HC0_1 := Aside0.mk hc0_1
 clear hr0_1 hc0_1
 have HB := Aside0.mk (Below.refl w.heap.size w)
 have H : ((impl_rankedCode.f k a0_0 l0_1).bind fun t983 => (if t983 = 0 then ((impl_Family_isPort.f k a0_0 l0_1).bind fun t984 => (some (t984, 0))) else (some (false, t983)))) = some (r1, r2) := h
 clear h
 replace H := Option.bind_eq_some_iff.mp H
 obtain ⟨t983, A20, H⟩ := H
 replace H : (if t983 = 0 then ((impl_Family_isPort.f k a0_0 l0_1).bind fun t984 => (some (t984, 0))) else (some (false, t983))) = some (r1, r2) := H
 have A2 := Aside0.mk A20
 clear A20
 by_cases c3 : t983 = 0
 ·rw [if_pos c3] at H
  have c3b0 : (t983 == 0) = true := beq_iff_eq.mpr c3
  have c3b1 : (t983 != 0) = false := bne_eq_false_iff_eq.mpr c3
  clear c3
  replace H := Option.bind_eq_some_iff.mp H
  obtain ⟨t984, A40, H⟩ := H
  replace H : (some (t984, 0)) = some (r1, r2) := H
  have A4 := Aside0.mk A40
  clear A40
  simp only [Option.some.injEq, Prod.mk.injEq] at H
  obtain ⟨rfl, rfl⟩ := H
  go_enter Try.func46, Try.ntmps46
  go_wp2_with (first | ((with_reducible refine gate_dst (N := 1) rfl ?_); refine box_event ?hg (N := 1) ?hd (cs := #[.int .i64 a0_0, .slice A0_1 l0_1.length c0_1]) (t := 31) ?hr ?_; (case hd => rfl); (case hg => rfl); (case hr => first | (go_simp; done) | (go_simp; rfl)); intro gb982 hg w5 hbox hb; have n0_ := Aside0.mk (below_step (zb0 HB.out) hb); have n1_ := Aside0.mk (hbox); have n2_ := Aside0.mk ((by rw [hg]; exact (below_size (zb0 HB.out)) : w.heap.size ≤ gb982)); have n3_ := Aside0.mk ((by rw [hg]; exact (below_size (zb0 HB.out)) : w.heap.size ≤ gb982)); clear HB; have HB := n0_; have BK982 := n1_; have GW982 := n2_; have GE982 := n3_; clear n0_ n1_ n2_ n3_; clear hb hbox hg; have hcz6_0 : w5.cell? ⟨gb982, 0, none⟩ = some (.int .i64 a0_0) := (blk_cell BK982.out 0).trans rfl; have hcz6_1 : w5.cell? ⟨gb982, 1, none⟩ = some (.slice A0_1 l0_1.length c0_1) := (blk_cell BK982.out 1).trans rfl; have hfz6_0 := blk_frozen BK982.out 0; have hfz6_1 := blk_frozen BK982.out 1) | ((with_reducible refine gate_callee (f := 73) rfl ?_); refine goesL_ (some 6) rfl rfl Try.func73 (by kernel_rfl) rfl #[.agg #[.int .i64 a0_0, .slice A0_1 l0_1.length c0_1]] rfl zl ?_; (with_reducible refine (impl_rankedCode.calls k a0_0 _ _ l0_1 t983 _ ?side1 ?side2 A2.out).mono ?_); (case side1 => exact zc (Kd.C_below HR0_1.out HB.out)); (case side2 => exact HC0_1.out); rintro e w7 ⟨rfl, hb⟩; refine ⟨_, rfl, ?_⟩; have n0_ := Aside0.mk (blk_below (g := gb982) (o := .cells #[.int .i64 a0_0, .slice A0_1 l0_1.length c0_1] 31 (0, 0)) (zk BK982.out) hb); have n1_ := Aside0.mk (below_step (zb1 HB.out GE982.out) hb); clear BK982; clear HB; have BK982 := n0_; have HB := n1_; clear n0_ n1_; (try clear hb); (try clear hb2); (try clear hk); (try clear hi); have hcz8_0 : w7.cell? ⟨gb982, 0, none⟩ = some (.int .i64 a0_0) := (blk_cell BK982.out 0).trans rfl; have hcz8_1 : w7.cell? ⟨gb982, 1, none⟩ = some (.slice A0_1 l0_1.length c0_1) := (blk_cell BK982.out 1).trans rfl; have hfz8_0 := blk_frozen BK982.out 0; have hfz8_1 := blk_frozen BK982.out 1) | ((with_reducible refine gate_callee (f := 101) rfl ?_); refine goesL_ (some 11) rfl rfl Try.func101 (by kernel_rfl) rfl #[.agg #[.int .i64 a0_0, .slice A0_1 l0_1.length c0_1]] rfl zl ?_; (with_reducible refine (impl_Family_isPort.calls k a0_0 _ _ l0_1 t984 _ ?side1 ?side2 A4.out).mono ?_); (case side1 => exact zc (Kd.C_below HR0_1.out HB.out)); (case side2 => exact HC0_1.out); rintro e w9 ⟨rfl, hb⟩; refine ⟨_, rfl, ?_⟩; have n0_ := Aside0.mk (blk_below (g := gb982) (o := .cells #[.int .i64 a0_0, .slice A0_1 l0_1.length c0_1] 31 (0, 0)) (zk BK982.out) hb); have n1_ := Aside0.mk (below_step (zb1 HB.out GE982.out) hb); clear BK982; clear HB; have BK982 := n0_; have HB := n1_; clear n0_ n1_; (try clear hb); (try clear hb2); (try clear hk); (try clear hi)))
  go_ret2
  exact ⟨ze, zb1 HB.out GE982.out⟩
 ·rw [if_neg c3] at H
  have c3b0 : (t983 == 0) = false := beq_eq_false_iff_ne.mpr c3
  have c3b1 : (t983 != 0) = true := bne_iff_ne.mpr c3
  simp only [Option.some.injEq, Prod.mk.injEq] at H
  obtain ⟨rfl, rfl⟩ := H
  go_enter Try.func46, Try.ntmps46
  go_wp2_with (first | ((with_reducible refine gate_dst (N := 1) rfl ?_); refine box_event ?hg (N := 1) ?hd (cs := #[.int .i64 a0_0, .slice A0_1 l0_1.length c0_1]) (t := 31) ?hr ?_; (case hd => rfl); (case hg => rfl); (case hr => first | (go_simp; done) | (go_simp; rfl)); intro gb982 hg w10 hbox hb; have n0_ := Aside0.mk (below_step (zb0 HB.out) hb); have n1_ := Aside0.mk (hbox); have n2_ := Aside0.mk ((by rw [hg]; exact (below_size (zb0 HB.out)) : w.heap.size ≤ gb982)); have n3_ := Aside0.mk ((by rw [hg]; exact (below_size (zb0 HB.out)) : w.heap.size ≤ gb982)); clear HB; have HB := n0_; have BK982 := n1_; have GW982 := n2_; have GE982 := n3_; clear n0_ n1_ n2_ n3_; clear hb hbox hg; have hcz11_0 : w10.cell? ⟨gb982, 0, none⟩ = some (.int .i64 a0_0) := (blk_cell BK982.out 0).trans rfl; have hcz11_1 : w10.cell? ⟨gb982, 1, none⟩ = some (.slice A0_1 l0_1.length c0_1) := (blk_cell BK982.out 1).trans rfl; have hfz11_0 := blk_frozen BK982.out 0; have hfz11_1 := blk_frozen BK982.out 1) | ((with_reducible refine gate_callee (f := 73) rfl ?_); refine goesL_ (some 6) rfl rfl Try.func73 (by kernel_rfl) rfl #[.agg #[.int .i64 a0_0, .slice A0_1 l0_1.length c0_1]] rfl zl ?_; (with_reducible refine (impl_rankedCode.calls k a0_0 _ _ l0_1 t983 _ ?side1 ?side2 A2.out).mono ?_); (case side1 => exact zc (Kd.C_below HR0_1.out HB.out)); (case side2 => exact HC0_1.out); rintro e w12 ⟨rfl, hb⟩; refine ⟨_, rfl, ?_⟩; have n0_ := Aside0.mk (blk_below (g := gb982) (o := .cells #[.int .i64 a0_0, .slice A0_1 l0_1.length c0_1] 31 (0, 0)) (zk BK982.out) hb); have n1_ := Aside0.mk (below_step (zb1 HB.out GE982.out) hb); clear BK982; clear HB; have BK982 := n0_; have HB := n1_; clear n0_ n1_; (try clear hb); (try clear hb2); (try clear hk); (try clear hi)))
  go_ret2
  exact ⟨ze, zb1 HB.out GE982.out⟩
def laws_FnExactIsPort.j0 : Nat → Bool → Int → List (List Int) → Int → List (List Int) → Option (Bool)
  | 0, _, _, _, _, _ => none
  | k + 1, x34, x986000, x986001, x998000, x998001 => if x34 = true then (some false) else ((laws_toFamily.f k x986000 x986001).bind fun bt1000 => ((laws_eqFamily.f k x998000 x998001 bt1000.1 bt1000.2).bind fun t1004 => (if t1004 = true then (some true) else (some false))))
def laws_FnExactIsPort.f (k : Nat) (a0_0 : Int) (l0_1 : List (List Int)) : Option (Bool) := (laws_szFamily.f k a0_0 l0_1 1048576).bind fun t986 => (if t986 < 0 then (some true) else ((laws_toFamily.f k a0_0 l0_1).bind fun bt987 => ((spec_IsPort.f k bt987.1 bt987.2).bind fun bt991 => ((laws_toFamily.f k a0_0 l0_1).bind fun bt993 => ((impl_IsPort.f k bt993.1 bt993.2).bind fun bt998 => (if (bt998.1 != bt991.1) = true then (laws_FnExactIsPort.j0 k true a0_0 l0_1 bt993.1 bt993.2) else (laws_FnExactIsPort.j0 k (bt998.2 != bt991.2) a0_0 l0_1 bt993.1 bt993.2)))))))
set_option maxHeartbeats 8000000 in
set_option maxRecDepth 100000 in
theorem laws_FnExactIsPort.calls (k : Nat) (a0_0 : Int) (A0_1 : Option Addr) (c0_1 : Nat) (l0_1 : List (List Int)) (r : Bool) (w : World) (hr0_1 : Kd.C (Kd.slice 2 (Kd.int .i64)) w A0_1 l0_1.length l0_1) (hc0_1 : l0_1.length ≤ c0_1) (h : laws_FnExactIsPort.f k a0_0 l0_1 = some r) :
  Calls Try.prog 7 #[.agg #[.int .i64 a0_0, .slice A0_1 l0_1.length c0_1]] w fun e w' => e = .returned (.bool r) ∧ Below w.heap.size w w' := by
 have hu24 := Try.underlying24
 have hu31 := Try.underlying31
 have HR0_1 := Aside0.mk hr0_1
 have HC0_1 := Aside0.mk hc0_1
 clear hr0_1 hc0_1
 have HB := Aside0.mk (Below.refl w.heap.size w)
 have H : ((laws_szFamily.f k a0_0 l0_1 1048576).bind fun t986 => (if t986 < 0 then (some true) else ((laws_toFamily.f k a0_0 l0_1).bind fun bt987 => ((spec_IsPort.f k bt987.1 bt987.2).bind fun bt991 => ((laws_toFamily.f k a0_0 l0_1).bind fun bt993 => ((impl_IsPort.f k bt993.1 bt993.2).bind fun bt998 => (if (bt998.1 != bt991.1) = true then (laws_FnExactIsPort.j0 k true a0_0 l0_1 bt993.1 bt993.2) else (laws_FnExactIsPort.j0 k (bt998.2 != bt991.2) a0_0 l0_1 bt993.1 bt993.2)))))))) = some r := h
 clear h
 replace H := Option.bind_eq_some_iff.mp H
 obtain ⟨t986, A20, H⟩ := H
 replace H : (if t986 < 0 then (some true) else ((laws_toFamily.f k a0_0 l0_1).bind fun bt987 => ((spec_IsPort.f k bt987.1 bt987.2).bind fun bt991 => ((laws_toFamily.f k a0_0 l0_1).bind fun bt993 => ((impl_IsPort.f k bt993.1 bt993.2).bind fun bt998 => (if (bt998.1 != bt991.1) = true then (laws_FnExactIsPort.j0 k true a0_0 l0_1 bt993.1 bt993.2) else (laws_FnExactIsPort.j0 k (bt998.2 != bt991.2) a0_0 l0_1 bt993.1 bt993.2))))))) = some r := H
 have A2 := Aside0.mk A20
 clear A20
 by_cases c3 : t986 < 0
 ·rw [if_pos c3] at H
  have c3b0 : decide (t986 < 0) = true := decide_eq_true c3
  clear c3
  obtain rfl := Option.some.inj H
  go_enter Try.func7, Try.ntmps7
  go_wp2_with (first | ((with_reducible refine gate_dst (N := 1) rfl ?_); refine box_event ?hg (N := 1) ?hd (cs := #[.int .i64 a0_0, .slice A0_1 l0_1.length c0_1]) (t := 24) ?hr ?_; (case hd => rfl); (case hg => rfl); (case hr => first | (go_simp; done) | (go_simp; rfl)); intro gb985 hg w4 hbox hb; have n0_ := Aside0.mk (below_step (zb0 HB.out) hb); have n1_ := Aside0.mk (hbox); have n2_ := Aside0.mk ((by rw [hg]; exact (below_size (zb0 HB.out)) : w.heap.size ≤ gb985)); have n3_ := Aside0.mk ((by rw [hg]; exact (below_size (zb0 HB.out)) : w.heap.size ≤ gb985)); clear HB; have HB := n0_; have BK985 := n1_; have GW985 := n2_; have GE985 := n3_; clear n0_ n1_ n2_ n3_; clear hb hbox hg; have hcz5_0 : w4.cell? ⟨gb985, 0, none⟩ = some (.int .i64 a0_0) := (blk_cell BK985.out 0).trans rfl; have hcz5_1 : w4.cell? ⟨gb985, 1, none⟩ = some (.slice A0_1 l0_1.length c0_1) := (blk_cell BK985.out 1).trans rfl; have hfz5_0 := blk_frozen BK985.out 0; have hfz5_1 := blk_frozen BK985.out 1) | ((with_reducible refine gate_callee (f := 12) rfl ?_); refine goesL_ (some 11) rfl rfl Try.func12 (by kernel_rfl) rfl #[.agg #[.int .i64 a0_0, .slice A0_1 l0_1.length c0_1], .int .i64 1048576] rfl zl ?_; (with_reducible refine (laws_szFamily.calls k a0_0 _ _ l0_1 1048576 t986 _ ?side1 ?side2 A2.out).mono ?_); (case side1 => exact zc (Kd.C_below HR0_1.out HB.out)); (case side2 => exact HC0_1.out); rintro e w6 ⟨rfl, hb⟩; refine ⟨_, rfl, ?_⟩; have n0_ := Aside0.mk (blk_below (g := gb985) (o := .cells #[.int .i64 a0_0, .slice A0_1 l0_1.length c0_1] 24 (0, 0)) (zk BK985.out) hb); have n1_ := Aside0.mk (below_step (zb1 HB.out GE985.out) hb); clear BK985; clear HB; have BK985 := n0_; have HB := n1_; clear n0_ n1_; (try clear hb); (try clear hb2); (try clear hk); (try clear hi)))
  go_ret
  exact ⟨ze, zb1 HB.out GE985.out⟩
 ·rw [if_neg c3] at H
  have c3b0 : decide (t986 < 0) = false := decide_eq_false c3
  clear c3
  replace H := Option.bind_eq_some_iff.mp H
  obtain ⟨⟨t987, t988⟩, A70, H⟩ := H
  replace H : ((spec_IsPort.f k t987 t988).bind fun bt991 => ((laws_toFamily.f k a0_0 l0_1).bind fun bt993 => ((impl_IsPort.f k bt993.1 bt993.2).bind fun bt998 => (if (bt998.1 != bt991.1) = true then (laws_FnExactIsPort.j0 k true a0_0 l0_1 bt993.1 bt993.2) else (laws_FnExactIsPort.j0 k (bt998.2 != bt991.2) a0_0 l0_1 bt993.1 bt993.2))))) = some r := H
  have A7 := Aside0.mk A70
  clear A70
  replace H := Option.bind_eq_some_iff.mp H
  obtain ⟨⟨t991, t992⟩, A80, H⟩ := H
  replace H : ((laws_toFamily.f k a0_0 l0_1).bind fun bt993 => ((impl_IsPort.f k bt993.1 bt993.2).bind fun bt998 => (if (bt998.1 != t991) = true then (laws_FnExactIsPort.j0 k true a0_0 l0_1 bt993.1 bt993.2) else (laws_FnExactIsPort.j0 k (bt998.2 != t992) a0_0 l0_1 bt993.1 bt993.2)))) = some r := H
  have A8 := Aside0.mk A80
  clear A80
  replace H := Option.bind_eq_some_iff.mp H
  obtain ⟨⟨t993, t994⟩, A90, H⟩ := H
  replace H : ((impl_IsPort.f k t993 t994).bind fun bt998 => (if (bt998.1 != t991) = true then (laws_FnExactIsPort.j0 k true a0_0 l0_1 t993 t994) else (laws_FnExactIsPort.j0 k (bt998.2 != t992) a0_0 l0_1 t993 t994))) = some r := H
  have A9 := Aside0.mk A90
  clear A90
  replace H := Option.bind_eq_some_iff.mp H
  obtain ⟨⟨t998, t999⟩, A100, H⟩ := H
  replace H : (if (t998 != t991) = true then (laws_FnExactIsPort.j0 k true a0_0 l0_1 t993 t994) else (laws_FnExactIsPort.j0 k (t999 != t992) a0_0 l0_1 t993 t994)) = some r := H
  have A10 := Aside0.mk A100
  clear A100
  have HC11 := Aside0.mk H
  clear H
  go_enter Try.func7, Try.ntmps7
  go_upto_region 8 with (first | ((with_reducible refine gate_dst (N := 1) rfl ?_); refine box_event ?hg (N := 1) ?hd (cs := #[.int .i64 a0_0, .slice A0_1 l0_1.length c0_1]) (t := 24) ?hr ?_; (case hd => rfl); (case hg => rfl); (case hr => first | (go_simp; done) | (go_simp; rfl)); intro gb985 hg w12 hbox hb; have n0_ := Aside0.mk (below_step (zb0 HB.out) hb); have n1_ := Aside0.mk (hbox); have n2_ := Aside0.mk ((by rw [hg]; exact (below_size (zb0 HB.out)) : w.heap.size ≤ gb985)); have n3_ := Aside0.mk ((by rw [hg]; exact (below_size (zb0 HB.out)) : w.heap.size ≤ gb985)); clear HB; have HB := n0_; have BK985 := n1_; have GW985 := n2_; have GE985 := n3_; clear n0_ n1_ n2_ n3_; clear hb hbox hg; have hcz13_0 : w12.cell? ⟨gb985, 0, none⟩ = some (.int .i64 a0_0) := (blk_cell BK985.out 0).trans rfl; have hcz13_1 : w12.cell? ⟨gb985, 1, none⟩ = some (.slice A0_1 l0_1.length c0_1) := (blk_cell BK985.out 1).trans rfl; have hfz13_0 := blk_frozen BK985.out 0; have hfz13_1 := blk_frozen BK985.out 1) | ((with_reducible refine gate_callee (f := 12) rfl ?_); refine goesL_ (some 11) rfl rfl Try.func12 (by kernel_rfl) rfl #[.agg #[.int .i64 a0_0, .slice A0_1 l0_1.length c0_1], .int .i64 1048576] rfl zl ?_; (with_reducible refine (laws_szFamily.calls k a0_0 _ _ l0_1 1048576 t986 _ ?side1 ?side2 A2.out).mono ?_); (case side1 => exact zc (Kd.C_below HR0_1.out HB.out)); (case side2 => exact HC0_1.out); rintro e w14 ⟨rfl, hb⟩; refine ⟨_, rfl, ?_⟩; have n0_ := Aside0.mk (blk_below (g := gb985) (o := .cells #[.int .i64 a0_0, .slice A0_1 l0_1.length c0_1] 24 (0, 0)) (zk BK985.out) hb); have n1_ := Aside0.mk (below_step (zb1 HB.out GE985.out) hb); clear BK985; clear HB; have BK985 := n0_; have HB := n1_; clear n0_ n1_; (try clear hb); (try clear hb2); (try clear hk); (try clear hi); have hcz15_0 : w14.cell? ⟨gb985, 0, none⟩ = some (.int .i64 a0_0) := (blk_cell BK985.out 0).trans rfl; have hcz15_1 : w14.cell? ⟨gb985, 1, none⟩ = some (.slice A0_1 l0_1.length c0_1) := (blk_cell BK985.out 1).trans rfl; have hfz15_0 := blk_frozen BK985.out 0; have hfz15_1 := blk_frozen BK985.out 1) | ((with_reducible refine gate_callee (f := 14) rfl ?_); refine goesL_ (some 16) rfl rfl Try.func14 (by kernel_rfl) rfl #[.agg #[.int .i64 a0_0, .slice A0_1 l0_1.length c0_1]] rfl zl ?_; (with_reducible refine (laws_toFamily.calls k a0_0 _ _ l0_1 t987 t988 _ ?side1 ?side2 A7.out).mono ?_); (case side1 => exact zc (Kd.C_below HR0_1.out HB.out)); (case side2 => exact HC0_1.out); rintro e w16 ⟨v989, rfl, ho0, hb⟩; refine ⟨_, rfl, ?_⟩; have n0_ := Aside0.mk (Kd.S_lower ho0 (below_size (zb1 HB.out GE985.out))); have n1_ := Aside0.mk (blk_below (g := gb985) (o := .cells #[.int .i64 a0_0, .slice A0_1 l0_1.length c0_1] 24 (0, 0)) (zk BK985.out) hb); have n2_ := Aside0.mk (below_step (zb1 HB.out GE985.out) hb); clear BK985; clear HB; have HO990 := n0_; have BK985 := n1_; have HB := n2_; clear n0_ n1_ n2_; (try clear hb); (try clear hb2); (try clear hk); (try clear hi); (try clear ho0); obtain ⟨Ao17, co17, eo17⟩ := Kd.S_slice HO990.out; subst eo17) | ((with_reducible refine gate_callee (f := 45) rfl ?_); refine goesL_ (some 17) rfl rfl Try.func45 (by kernel_rfl) rfl #[.agg #[.int .i64 t987, .slice Ao17 t988.length co17]] rfl zl ?_; (with_reducible refine (spec_IsPort.calls k t987 _ _ t988 t991 t992 _ ?side1 ?side2 A8.out).mono ?_); (case side1 => repeat (first | exact (Kd.S_reads' HO990.out).2.2 | (with_reducible refine Kd.C_alloc ?_ _) | (with_reducible refine Kd.C_drewN ?_ _) | (with_reducible refine Kd.C_drew ?_))); (case side2 => exact (Kd.S_reads' HO990.out).2.1); rintro e w18 ⟨rfl, hb⟩; refine ⟨_, rfl, ?_⟩; have n0_ := Aside0.mk (Kd.S_below (zs HO990.out) hb); have n1_ := Aside0.mk (blk_below (g := gb985) (o := .cells #[.int .i64 a0_0, .slice A0_1 l0_1.length c0_1] 24 (0, 0)) (zk BK985.out) hb); have n2_ := Aside0.mk (below_step (zb1 HB.out GE985.out) hb); clear HO990; clear BK985; clear HB; have HO990 := n0_; have BK985 := n1_; have HB := n2_; clear n0_ n1_ n2_; (try clear hb); (try clear hb2); (try clear hk); (try clear hi); have hcz19_0 : w18.cell? ⟨gb985, 0, none⟩ = some (.int .i64 a0_0) := (blk_cell BK985.out 0).trans rfl; have hcz19_1 : w18.cell? ⟨gb985, 1, none⟩ = some (.slice A0_1 l0_1.length c0_1) := (blk_cell BK985.out 1).trans rfl; have hfz19_0 := blk_frozen BK985.out 0; have hfz19_1 := blk_frozen BK985.out 1) | ((with_reducible refine gate_callee (f := 14) rfl ?_); refine goesL_ (some 21) rfl rfl Try.func14 (by kernel_rfl) rfl #[.agg #[.int .i64 a0_0, .slice A0_1 l0_1.length c0_1]] rfl zl ?_; (with_reducible refine (laws_toFamily.calls k a0_0 _ _ l0_1 t993 t994 _ ?side1 ?side2 A9.out).mono ?_); (case side1 => exact zc (Kd.C_below HR0_1.out HB.out)); (case side2 => exact HC0_1.out); rintro e w20 ⟨v995, rfl, ho0, hb⟩; refine ⟨_, rfl, ?_⟩; have n0_ := Aside0.mk (Kd.S_elder' (zs HO990.out) (Kd.S_base ho0) hb); have n1_ := Aside0.mk (Kd.S_lower (Kd.S_new' ho0 (Kd.S_lt (zs HO990.out))) (below_size (zb1 HB.out GE985.out))); have n2_ := Aside0.mk (blk_below (g := gb985) (o := .cells #[.int .i64 a0_0, .slice A0_1 l0_1.length c0_1] 24 (0, 0)) (zk BK985.out) hb); have n3_ := Aside0.mk (below_step (zb1 HB.out GE985.out) hb); clear HO990; clear BK985; clear HB; have HO990 := n0_; have HO996 := n1_; have BK985 := n2_; have HB := n3_; clear n0_ n1_ n2_ n3_; (try clear hb); (try clear hb2); (try clear hk); (try clear hi); (try clear ho0)) | ((with_reducible refine gate_dst (N := 6) rfl ?_); refine box_event ?hg (N := 6) ?hd (cs := #[.int .i64 0, .slice none 0 0]) (t := 31) ?hr ?_; (case hd => rfl); (case hg => rfl); (case hr => first | (go_simp; done) | (go_simp; rfl)); intro gb997 hg w21 hbox hb; have n0_ := Aside0.mk (Kd.S_below (zs HO990.out) hb); have n1_ := Aside0.mk (Kd.S_below (zs HO996.out) hb); have n2_ := Aside0.mk (blk_below (g := gb985) (o := .cells #[.int .i64 a0_0, .slice A0_1 l0_1.length c0_1] 24 (0, 0)) (zk BK985.out) hb); have n3_ := Aside0.mk (below_step (zb1 HB.out GE985.out) hb); have n4_ := Aside0.mk (hbox); have n5_ := Aside0.mk ((by rw [hg]; exact (below_size (zb1 HB.out GE985.out)) : w.heap.size ≤ gb997)); have n6_ := Aside0.mk ((by rw [hg]; exact (below_size (zb1 HB.out GE985.out)) : w.heap.size ≤ gb997)); have n7_ := Aside0.mk ((by rw [hg]; exact Nat.ne_of_lt (blk_lt (g := gb985) (o := .cells #[.int .i64 a0_0, .slice A0_1 l0_1.length c0_1] 24 (0, 0)) (zk BK985.out)) : gb985 ≠ gb997)); have n8_ := Aside0.mk ((by rw [hg]; exact Nat.ne_of_gt (blk_lt (g := gb985) (o := .cells #[.int .i64 a0_0, .slice A0_1 l0_1.length c0_1] 24 (0, 0)) (zk BK985.out)) : gb997 ≠ gb985)); clear HO990; clear HO996; clear BK985; clear HB; have HO990 := n0_; have HO996 := n1_; have BK985 := n2_; have HB := n3_; have BK997 := n4_; have GW997 := n5_; have GE997 := n6_; have NB985_997 := n7_; have NB997_985 := n8_; clear n0_ n1_ n2_ n3_ n4_ n5_ n6_ n7_ n8_; clear hb hbox hg; have hnb22 := NB997_985.out; have hnc22 := NB985_997.out; have hcz23_0 : w21.cell? ⟨gb997, 0, none⟩ = some (.int .i64 0) := (blk_cell BK997.out 0).trans rfl; have hcz23_1 : w21.cell? ⟨gb997, 1, none⟩ = some (.slice none 0 0) := (blk_cell BK997.out 1).trans rfl; have hfz23_0 := blk_frozen BK997.out 0; have hfz23_1 := blk_frozen BK997.out 1; obtain ⟨Ao24, co24, eo24⟩ := Kd.S_slice HO996.out; subst eo24) | ((with_reducible refine gate_callee (f := 46) rfl ?_); refine goesL_ (some 24) rfl rfl Try.func46 (by kernel_rfl) rfl #[.agg #[.int .i64 t993, .slice Ao24 t994.length co24]] rfl zl ?_; (with_reducible refine (impl_IsPort.calls k t993 _ _ t994 t998 t999 _ ?side1 ?side2 A10.out).mono ?_); (case side1 => refine (Kd.S_reads' (e := 26) (base := w.heap.size) (ok := fun k_ => (True ∧ some k_ ≠ (.slice Ao17 t988.length co17 : Value).ownBlock)) (n := t994.length) (c := co24) ?_).2.2; exact (by (with_reducible repeat (first | apply Kd.S_alloc | apply Kd.S_drewN | apply Kd.S_drew)); exact (Kd.S_mono (Kd.S_far (p := ⟨gb997, 1, none⟩) (Kd.S_far (p := ⟨gb997, 0, none⟩) (Kd.S_types HO996.out BK997.out (by decide)) (fun _ hk => hk.2) (.int .i64 t993)) (fun _ hk => hk.2) (.slice Ao24 t994.length co24)) (fun _ h_ => h_.1)))); (case side2 => exact (Kd.S_reads' HO996.out).2.1); rintro e w25 ⟨rfl, hb⟩; refine ⟨_, rfl, ?_⟩; have n0_ := Aside0.mk (Kd.S_below (by (with_reducible repeat (first | apply Kd.S_alloc | apply Kd.S_drewN | apply Kd.S_drew)); exact (Kd.S_mono (Kd.S_far (p := ⟨gb997, 1, none⟩) (Kd.S_far (p := ⟨gb997, 0, none⟩) (Kd.S_types HO990.out BK997.out (by decide)) (fun _ hk => hk.2) (.int .i64 t993)) (fun _ hk => hk.2) (.slice Ao24 t994.length co24)) (fun _ h_ => h_.1))) hb); have n1_ := Aside0.mk (Kd.S_below (by (with_reducible repeat (first | apply Kd.S_alloc | apply Kd.S_drewN | apply Kd.S_drew)); exact (Kd.S_mono (Kd.S_far (p := ⟨gb997, 1, none⟩) (Kd.S_far (p := ⟨gb997, 0, none⟩) (Kd.S_types HO996.out BK997.out (by decide)) (fun _ hk => hk.2) (.int .i64 t993)) (fun _ hk => hk.2) (.slice Ao24 t994.length co24)) (fun _ h_ => h_.1))) hb); have n2_ := Aside0.mk (blk_below (g := gb985) (o := .cells #[.int .i64 a0_0, .slice A0_1 l0_1.length c0_1] 24 (0, 0)) (by (with_reducible repeat (first | refine blk_drewN ?_ _ | refine blk_drew ?_ | refine blk_alloc ?_ _)); refine blk_far ?_ NB985_997.out _; (with_reducible repeat (first | refine blk_drewN ?_ _ | refine blk_drew ?_ | refine blk_alloc ?_ _)); refine blk_far ?_ NB985_997.out _; (with_reducible repeat (first | refine blk_drewN ?_ _ | refine blk_drew ?_ | refine blk_alloc ?_ _)); exact BK985.out) hb); have n3_ := Aside0.mk (blk_below (g := gb997) (o := .cells #[.int .i64 t993, .slice Ao24 t994.length co24] 31 (0, 0)) (by (with_reducible repeat (first | refine blk_drewN ?_ _ | refine blk_drew ?_ | refine blk_alloc ?_ _)); refine blk_put (cs := #[.int .i64 t993, .slice none 0 0]) ?_ 1 _ rfl; (with_reducible repeat (first | refine blk_drewN ?_ _ | refine blk_drew ?_ | refine blk_alloc ?_ _)); refine blk_put (cs := #[.int .i64 0, .slice none 0 0]) ?_ 0 _ rfl; (with_reducible repeat (first | refine blk_drewN ?_ _ | refine blk_drew ?_ | refine blk_alloc ?_ _)); exact BK997.out) hb); have n4_ := Aside0.mk (below_step (zb2 HB.out GE985.out GE997.out) hb); clear HO990; clear HO996; clear BK985; clear BK997; clear HB; have HO990 := n0_; have HO996 := n1_; have BK985 := n2_; have BK997 := n3_; have HB := n4_; clear n0_ n1_ n2_ n3_ n4_; (try clear hb); (try clear hb2); (try clear hk); (try clear hi)))
  (try simp only [Act.put, List.setIfInBounds_toArray, List.set_cons_zero, List.set_cons_succ])
  go_cut [34] (fun v34 wc => ∃ (kq : Nat) (x34_10 : Bool), v34 = .bool x34_10 ∧ Aside0 (laws_FnExactIsPort.j0 kq x34_10 a0_0 l0_1 t993 t994 = some r) ∧ Aside0 (kq ≤ k) ∧ Aside0 (Kd.S (Kd.slice 2 (Kd.int .i64)) 26 wc w.heap.size (fun _ => True) (.slice Ao24 t994.length co24) t994) ∧ Aside0 (wc.heap[gb985]? = some (.cells #[.int .i64 a0_0, (.slice A0_1 l0_1.length c0_1)] 24 (0, 0))) ∧ Aside0 (wc.heap[gb997]? = some (.cells #[.int .i64 t993, (.slice Ao24 t994.length co24)] 31 (0, 0))) ∧ Aside0 (Below w.heap.size w wc))
  case first =>
   have H := HC11.out
   clear HC11
   by_cases c26 : (t998 != t991) = true
   ·rw [if_pos c26] at H
    have c26b0 : (t998 != t991) = true := c26
    (try (have c26b1 : decide (t998 = t991) = false := by simpa using c26))
    (try (have c26b2 : (t998 == t991) = false := by simpa using c26))
    (try (have c26b3 : ¬ (t998 = t991) := by simpa using c26))
    clear c26
    (first | rw [c26b0] | (simp only [i64_w, i32_w]; rw [c26b0]) | skip)
    have H' := Aside0.mk H
    clear H
    go_wp2
    go_meet
    case rel => exact ⟨_, (true), zt, H', ⟨by first | omega | exact Nat.le_refl _⟩, ⟨by (with_reducible repeat (first | apply Kd.S_alloc | apply Kd.S_drewN | apply Kd.S_drew)); exact Kd.S_mono HO996.out (fun _ hk => trivial)⟩, ⟨zk BK985.out⟩, ⟨zk BK997.out⟩, ⟨zb2 HB.out GE985.out GE997.out⟩⟩
   ·rw [if_neg c26] at H
    have c26b0 : (t998 != t991) = false := by simpa using c26
    (try (have c26b1 : decide (t998 = t991) = true := by simpa using c26))
    (try (have c26b2 : (t998 == t991) = true := by simpa using c26))
    clear c26
    (first | rw [c26b0] | (simp only [i64_w, i32_w]; rw [c26b0]) | skip)
    have H' := Aside0.mk H
    clear H
    go_wp2
    go_meet
    case rel => exact ⟨_, ((t999 != t992)), zt, H', ⟨by first | omega | exact Nat.le_refl _⟩, ⟨by (with_reducible repeat (first | apply Kd.S_alloc | apply Kd.S_drewN | apply Kd.S_drew)); exact Kd.S_mono HO996.out (fun _ hk => trivial)⟩, ⟨zk BK985.out⟩, ⟨zk BK997.out⟩, ⟨zb2 HB.out GE985.out GE997.out⟩⟩
  case rest =>
   clear HC11
   obtain ⟨kq, x34_10, rfl, HA, HJ10, HO_998001, BK985, BK997, HB⟩ := hcut
   cases kq with
   | zero => exact absurd HA.out (by simp [laws_FnExactIsPort.j0])
   | succ kj10 =>
    have H := HA.out
    clear HA
    simp only [laws_FnExactIsPort.j0] at H
    by_cases c27 : x34_10 = true
    ·subst c27
     rw [if_pos rfl] at H
     obtain rfl := Option.some.inj H
     go_wp2
     go_ret
     exact ⟨ze, zb2 HB.out GE985.out GE997.out⟩
    ·replace c27 := Bool.eq_false_iff.mpr c27
     subst c27
     rw [if_neg (show ¬ (false = true) by decide)] at H
     replace H := Option.bind_eq_some_iff.mp H
     obtain ⟨⟨t1000, t1001⟩, A280, H⟩ := H
     replace H : ((laws_eqFamily.f kj10 t993 t994 t1000 t1001).bind fun t1004 => (if t1004 = true then (some true) else (some false))) = some r := H
     have A28 := Aside0.mk A280
     clear A280
     replace H := Option.bind_eq_some_iff.mp H
     obtain ⟨t1004, A290, H⟩ := H
     replace H : (if t1004 = true then (some true) else (some false)) = some r := H
     have A29 := Aside0.mk A290
     clear A290
     by_cases c30 : t1004 = true
     ·subst c30
      rw [if_pos rfl] at H
      obtain rfl := Option.some.inj H
      try go_wp2
      have n0_ := Aside0.mk (Kd.S_drew HO_998001.out)
      have n1_ := Aside0.mk (blk_drew BK985.out)
      have n2_ := Aside0.mk (blk_drew BK997.out)
      have n3_ := Aside0.mk (below_drew1 HB.out)
      clear HO_998001
      clear BK985
      clear BK997
      clear HB
      have HO_998001 := n0_
      have BK985 := n1_
      have BK997 := n2_
      have HB := n3_
      clear n0_ n1_ n2_ n3_
      refine start_ (n := 5) (S := fun w' => w'.cell? ⟨gb997, 0, none⟩ = some (.int .i64 t993) ∧ w'.cell? ⟨gb997, 1, none⟩ = some (.slice Ao24 t994.length co24) ∧ w'.cell? ⟨gb985, 0, none⟩ = some (.int .i64 a0_0) ∧ w'.cell? ⟨gb985, 1, none⟩ = some (.slice A0_1 l0_1.length c0_1)) (ds := []) #[false,false,false,false,false] (by kernel_rfl) rfl rfl ⟨(blk_cell BK997.out 0).trans rfl, (blk_cell BK997.out 1).trans rfl, (blk_cell BK985.out 0).trans rfl, (blk_cell BK985.out 1).trans rfl⟩ (fun hHeld => ?_)
      generalize wc.drew = w31 at HO_998001 BK985 BK997 HB hHeld ⊢
      refine take_ (i := 0) (N := some 35) (v := ?_) (a' := ?_) #[true,false,false,false,false] rfl rfl (by kernel_rfl) (fun _ _ _ h => h) (Or.inl ⟨by rfl, ?_⟩) hHeld ?_ ?_
      rotate_left
      ·rintro w' ⟨s0, s1, s2, s3⟩
       go_simp
       with_reducible rfl
      rotate_left
      ·exact zp
      refine take_ (i := 1) (N := some 36) (v := ?_) (a' := ?_) #[true,true,false,false,false] rfl rfl (by kernel_rfl) (fun _ _ _ h => h) (Or.inl ⟨by rfl, ?_⟩) hHeld ?_ ?_
      rotate_left
      ·rintro w' ⟨s0, s1, s2, s3⟩
       go_simp
       with_reducible rfl
      rotate_left
      ·exact zp
      refine one_ (i := 2) (N := some 37) #[true,true,true,false,false] rfl rfl (by kernel_rfl) (by decide) (fun K hK => ?_)
      refine goes_ Try.func14 (by kernel_rfl) rfl #[.agg #[.int .i64 a0_0, .slice A0_1 l0_1.length c0_1]] (by rfl) rfl rfl zl ?_
      with_reducible refine (laws_toFamily.calls kj10 a0_0 _ _ l0_1 t1000 t1001 _ ?side1 ?side2 A28.out).mono ?_
      (case side1 => exact zc (Kd.C_below HR0_1.out HB.out))
      (case side2 => exact HC0_1.out)
      rintro e w32 ⟨v1002, rfl, ho0, hb⟩
      refine ⟨_, rfl, ?_⟩
      have n0_ := Aside0.mk (Kd.S_elder' (zs HO_998001.out) (Kd.S_base ho0) hb)
      have n1_ := Aside0.mk (Kd.S_lower (Kd.S_new' ho0 (Kd.S_lt (zs HO_998001.out))) (below_size (zb2 HB.out GE985.out GE997.out)))
      have n2_ := Aside0.mk (blk_below (g := gb985) (o := .cells #[.int .i64 a0_0, .slice A0_1 l0_1.length c0_1] 24 (0, 0)) (zk BK985.out) hb)
      have n3_ := Aside0.mk (blk_below (g := gb997) (o := .cells #[.int .i64 t993, .slice Ao24 t994.length co24] 31 (0, 0)) (zk BK997.out) hb)
      have n4_ := Aside0.mk (below_step (zb2 HB.out GE985.out GE997.out) hb)
      clear HO_998001
      clear BK985
      clear BK997
      clear HB
      have HO_998001 := n0_
      have HO1003 := n1_
      have BK985 := n2_
      have BK997 := n3_
      have HB := n4_
      clear n0_ n1_ n2_ n3_ n4_
      (try clear hb)
      (try clear hb2)
      (try clear hk)
      (try clear hi)
      (try clear ho0)
      obtain ⟨Ao33, co33, eo33⟩ := Kd.S_slice HO1003.out
      (first | subst eo33 | (injection eo33 with f1_ f2_ f3_; have f4_ := f1_.symm; have f5_ := f3_.symm; clear f1_ f2_ f3_; subst f4_; subst f5_))
      refine hK.out _ _ ⟨(blk_cell BK997.out 0).trans rfl, (blk_cell BK997.out 1).trans rfl, (blk_cell BK985.out 0).trans rfl, (blk_cell BK985.out 1).trans rfl⟩ (fun hHeld => ?_)
      clear hK K
      refine norm_ (a' := ?_) ?_ ?_
      rotate_left
      ·show Act.put _ (some 37) _ = _
       simp only [Act.put, List.setIfInBounds_toArray, List.set_cons_zero, List.set_cons_succ, i64_w, i32_w]
       rfl
      refine one_ (i := 3) (N := some 38) #[true,true,true,true,false] rfl rfl (by kernel_rfl) (by decide) (fun K hK => ?_)
      refine goes_ Try.func17 (by kernel_rfl) rfl #[.agg #[.int .i64 t993, .slice Ao24 t994.length co24], .agg #[.int .i64 t1000, .slice Ao33 t1001.length co33]] (by rfl) rfl rfl zl ?_
      with_reducible refine (laws_eqFamily.calls kj10 t993 _ _ t994 t1000 _ _ t1001 true _ ?side1 ?side2 ?side3 ?side4 A29.out).mono ?_
      (case side1 => repeat (first | exact (Kd.S_reads' HO_998001.out).2.2 | (with_reducible refine Kd.C_alloc ?_ _) | (with_reducible refine Kd.C_drewN ?_ _) | (with_reducible refine Kd.C_drew ?_)))
      (case side2 => exact (Kd.S_reads' HO_998001.out).2.1)
      (case side3 => repeat (first | exact (Kd.S_reads' HO1003.out).2.2 | (with_reducible refine Kd.C_alloc ?_ _) | (with_reducible refine Kd.C_drewN ?_ _) | (with_reducible refine Kd.C_drew ?_)))
      (case side4 => exact (Kd.S_reads' HO1003.out).2.1)
      rintro e w34 ⟨rfl, hb⟩
      refine ⟨_, rfl, ?_⟩
      have n0_ := Aside0.mk (Kd.S_below (zs HO_998001.out) hb)
      have n1_ := Aside0.mk (Kd.S_below (zs HO1003.out) hb)
      have n2_ := Aside0.mk (blk_below (g := gb985) (o := .cells #[.int .i64 a0_0, .slice A0_1 l0_1.length c0_1] 24 (0, 0)) (zk BK985.out) hb)
      have n3_ := Aside0.mk (blk_below (g := gb997) (o := .cells #[.int .i64 t993, .slice Ao24 t994.length co24] 31 (0, 0)) (zk BK997.out) hb)
      have n4_ := Aside0.mk (below_step (zb2 HB.out GE985.out GE997.out) hb)
      clear HO_998001
      clear HO1003
      clear BK985
      clear BK997
      clear HB
      have HO_998001 := n0_
      have HO1003 := n1_
      have BK985 := n2_
      have BK997 := n3_
      have HB := n4_
      clear n0_ n1_ n2_ n3_ n4_
      (try clear hb)
      (try clear hb2)
      (try clear hk)
      (try clear hi)
      refine hK.out _ _ ⟨(blk_cell BK997.out 0).trans rfl, (blk_cell BK997.out 1).trans rfl, (blk_cell BK985.out 0).trans rfl, (blk_cell BK985.out 1).trans rfl⟩ (fun hHeld => ?_)
      clear hK K
      refine norm_ (a' := ?_) ?_ ?_
      rotate_left
      ·show Act.put _ (some 38) _ = _
       simp only [Act.put, List.setIfInBounds_toArray, List.set_cons_zero, List.set_cons_succ, i64_w, i32_w]
       rfl
      refine pure_ (i := 4) (N := some 39) (v := ?_) (a' := ?_) #[true,true,true,true,true] rfl rfl (by kernel_rfl) (fun _ _ _ h => h) (Or.inl ⟨by rfl, ?_⟩) ?_ ?_
      rotate_left
      ·exact zw
      rotate_left
      ·exact zp
      refine done_ (by kernel_rfl) ?_
      try go_wp2
      go_ret
      exact ⟨ze, zb2 HB.out GE985.out GE997.out⟩
     ·replace c30 := Bool.eq_false_iff.mpr c30
      subst c30
      rw [if_neg (show ¬ (false = true) by decide)] at H
      obtain rfl := Option.some.inj H
      try go_wp2
      have n0_ := Aside0.mk (Kd.S_drew HO_998001.out)
      have n1_ := Aside0.mk (blk_drew BK985.out)
      have n2_ := Aside0.mk (blk_drew BK997.out)
      have n3_ := Aside0.mk (below_drew1 HB.out)
      clear HO_998001
      clear BK985
      clear BK997
      clear HB
      have HO_998001 := n0_
      have BK985 := n1_
      have BK997 := n2_
      have HB := n3_
      clear n0_ n1_ n2_ n3_
      refine start_ (n := 5) (S := fun w' => w'.cell? ⟨gb997, 0, none⟩ = some (.int .i64 t993) ∧ w'.cell? ⟨gb997, 1, none⟩ = some (.slice Ao24 t994.length co24) ∧ w'.cell? ⟨gb985, 0, none⟩ = some (.int .i64 a0_0) ∧ w'.cell? ⟨gb985, 1, none⟩ = some (.slice A0_1 l0_1.length c0_1)) (ds := []) #[false,false,false,false,false] (by kernel_rfl) rfl rfl ⟨(blk_cell BK997.out 0).trans rfl, (blk_cell BK997.out 1).trans rfl, (blk_cell BK985.out 0).trans rfl, (blk_cell BK985.out 1).trans rfl⟩ (fun hHeld => ?_)
      generalize wc.drew = w35 at HO_998001 BK985 BK997 HB hHeld ⊢
      refine take_ (i := 0) (N := some 35) (v := ?_) (a' := ?_) #[true,false,false,false,false] rfl rfl (by kernel_rfl) (fun _ _ _ h => h) (Or.inl ⟨by rfl, ?_⟩) hHeld ?_ ?_
      rotate_left
      ·rintro w' ⟨s0, s1, s2, s3⟩
       go_simp
       with_reducible rfl
      rotate_left
      ·exact zp
      refine take_ (i := 1) (N := some 36) (v := ?_) (a' := ?_) #[true,true,false,false,false] rfl rfl (by kernel_rfl) (fun _ _ _ h => h) (Or.inl ⟨by rfl, ?_⟩) hHeld ?_ ?_
      rotate_left
      ·rintro w' ⟨s0, s1, s2, s3⟩
       go_simp
       with_reducible rfl
      rotate_left
      ·exact zp
      refine one_ (i := 2) (N := some 37) #[true,true,true,false,false] rfl rfl (by kernel_rfl) (by decide) (fun K hK => ?_)
      refine goes_ Try.func14 (by kernel_rfl) rfl #[.agg #[.int .i64 a0_0, .slice A0_1 l0_1.length c0_1]] (by rfl) rfl rfl zl ?_
      with_reducible refine (laws_toFamily.calls kj10 a0_0 _ _ l0_1 t1000 t1001 _ ?side1 ?side2 A28.out).mono ?_
      (case side1 => exact zc (Kd.C_below HR0_1.out HB.out))
      (case side2 => exact HC0_1.out)
      rintro e w36 ⟨v1002, rfl, ho0, hb⟩
      refine ⟨_, rfl, ?_⟩
      have n0_ := Aside0.mk (Kd.S_elder' (zs HO_998001.out) (Kd.S_base ho0) hb)
      have n1_ := Aside0.mk (Kd.S_lower (Kd.S_new' ho0 (Kd.S_lt (zs HO_998001.out))) (below_size (zb2 HB.out GE985.out GE997.out)))
      have n2_ := Aside0.mk (blk_below (g := gb985) (o := .cells #[.int .i64 a0_0, .slice A0_1 l0_1.length c0_1] 24 (0, 0)) (zk BK985.out) hb)
      have n3_ := Aside0.mk (blk_below (g := gb997) (o := .cells #[.int .i64 t993, .slice Ao24 t994.length co24] 31 (0, 0)) (zk BK997.out) hb)
      have n4_ := Aside0.mk (below_step (zb2 HB.out GE985.out GE997.out) hb)
      clear HO_998001
      clear BK985
      clear BK997
      clear HB
      have HO_998001 := n0_
      have HO1003 := n1_
      have BK985 := n2_
      have BK997 := n3_
      have HB := n4_
      clear n0_ n1_ n2_ n3_ n4_
      (try clear hb)
      (try clear hb2)
      (try clear hk)
      (try clear hi)
      (try clear ho0)
      obtain ⟨Ao37, co37, eo37⟩ := Kd.S_slice HO1003.out
      (first | subst eo37 | (injection eo37 with f1_ f2_ f3_; have f4_ := f1_.symm; have f5_ := f3_.symm; clear f1_ f2_ f3_; subst f4_; subst f5_))
      refine hK.out _ _ ⟨(blk_cell BK997.out 0).trans rfl, (blk_cell BK997.out 1).trans rfl, (blk_cell BK985.out 0).trans rfl, (blk_cell BK985.out 1).trans rfl⟩ (fun hHeld => ?_)
      clear hK K
      refine norm_ (a' := ?_) ?_ ?_
      rotate_left
      ·show Act.put _ (some 37) _ = _
       simp only [Act.put, List.setIfInBounds_toArray, List.set_cons_zero, List.set_cons_succ, i64_w, i32_w]
       rfl
      refine one_ (i := 3) (N := some 38) #[true,true,true,true,false] rfl rfl (by kernel_rfl) (by decide) (fun K hK => ?_)
      refine goes_ Try.func17 (by kernel_rfl) rfl #[.agg #[.int .i64 t993, .slice Ao24 t994.length co24], .agg #[.int .i64 t1000, .slice Ao37 t1001.length co37]] (by rfl) rfl rfl zl ?_
      with_reducible refine (laws_eqFamily.calls kj10 t993 _ _ t994 t1000 _ _ t1001 false _ ?side1 ?side2 ?side3 ?side4 A29.out).mono ?_
      (case side1 => repeat (first | exact (Kd.S_reads' HO_998001.out).2.2 | (with_reducible refine Kd.C_alloc ?_ _) | (with_reducible refine Kd.C_drewN ?_ _) | (with_reducible refine Kd.C_drew ?_)))
      (case side2 => exact (Kd.S_reads' HO_998001.out).2.1)
      (case side3 => repeat (first | exact (Kd.S_reads' HO1003.out).2.2 | (with_reducible refine Kd.C_alloc ?_ _) | (with_reducible refine Kd.C_drewN ?_ _) | (with_reducible refine Kd.C_drew ?_)))
      (case side4 => exact (Kd.S_reads' HO1003.out).2.1)
      rintro e w38 ⟨rfl, hb⟩
      refine ⟨_, rfl, ?_⟩
      have n0_ := Aside0.mk (Kd.S_below (zs HO_998001.out) hb)
      have n1_ := Aside0.mk (Kd.S_below (zs HO1003.out) hb)
      have n2_ := Aside0.mk (blk_below (g := gb985) (o := .cells #[.int .i64 a0_0, .slice A0_1 l0_1.length c0_1] 24 (0, 0)) (zk BK985.out) hb)
      have n3_ := Aside0.mk (blk_below (g := gb997) (o := .cells #[.int .i64 t993, .slice Ao24 t994.length co24] 31 (0, 0)) (zk BK997.out) hb)
      have n4_ := Aside0.mk (below_step (zb2 HB.out GE985.out GE997.out) hb)
      clear HO_998001
      clear HO1003
      clear BK985
      clear BK997
      clear HB
      have HO_998001 := n0_
      have HO1003 := n1_
      have BK985 := n2_
      have BK997 := n3_
      have HB := n4_
      clear n0_ n1_ n2_ n3_ n4_
      (try clear hb)
      (try clear hb2)
      (try clear hk)
      (try clear hi)
      refine hK.out _ _ ⟨(blk_cell BK997.out 0).trans rfl, (blk_cell BK997.out 1).trans rfl, (blk_cell BK985.out 0).trans rfl, (blk_cell BK985.out 1).trans rfl⟩ (fun hHeld => ?_)
      clear hK K
      refine norm_ (a' := ?_) ?_ ?_
      rotate_left
      ·show Act.put _ (some 38) _ = _
       simp only [Act.put, List.setIfInBounds_toArray, List.set_cons_zero, List.set_cons_succ, i64_w, i32_w]
       rfl
      refine pure_ (i := 4) (N := some 39) (v := ?_) (a' := ?_) #[true,true,true,true,true] rfl rfl (by kernel_rfl) (fun _ _ _ h => h) (Or.inl ⟨by rfl, ?_⟩) ?_ ?_
      rotate_left
      ·exact zw
      rotate_left
      ·exact zp
      refine done_ (by kernel_rfl) ?_
      try go_wp2
      go_ret
      exact ⟨ze, zb2 HB.out GE985.out GE997.out⟩
end Go.Proofs.Ytmbeijjkfmgkpaa.Q
namespace Go.Proofs.Ytmbeijjkfmgkpaa.Pure
set_option linter.unusedVariables false
open Go.RowKit Go.Proofs.Ytmbeijjkfmgkpaa.Q Go.Proofs.YtmbeijjkfmgkpaaW.PrintWords Go.Proofs.YtmbeijjkfmgkpaaW.PrintLast
namespace Ex
theorem isPort_both (n : Int) (gs : List (List Int)) (hl : gs.length ≤ 1048576) (hr : ∀ g ∈ gs, g.length ≤ 1048576) : ∃ K, ∀ k, K ≤ k → ∃ r, impl_IsPort.f k n gs = some r ∧ spec_IsPort.f k n gs = some r := by
  obtain ⟨k0, hk0⟩ : ∃ k0, gs.length * (gs.length + 4) + gs.length + 1048576 + 70 ≤ k0 := ⟨_, Nat.le_refl _⟩
  obtain ⟨c, h1, h2, h3⟩ := code_both n gs 1048576 (by omega) (by omega) hr k0 hk0
  have g1 : ∀ k, k0 ≤ k → impl_rankedCode.f k n gs = some c := fun k hk => leO_le (f := fun k => impl_rankedCode.f k n gs) (fun k => impl_rankedCode.mono _ _ k) hk h1
  have g2 : ∀ k, k0 ≤ k → spec_l07Family.f k n gs = some c := fun k hk => leO_le (f := fun k => spec_l07Family.f k n gs) (fun k => spec_l07Family.mono _ _ k) hk h2
  clear hk0 h1 h2
  by_cases c0 : c = 0
  · subst c0
    obtain ⟨hV, h5, hpos, _⟩ := h3 rfl
    obtain ⟨m, rfl⟩ : ∃ m : Nat, n = m := ⟨n.toNat, by have := hV.1; omega⟩
    have hn := hV.1
    obtain ⟨K, hK⟩ := port_both m (by omega) gs (by omega) (fun t ht => grp_lists _ _ rfl m (hV.2 t ht).1)
    refine ⟨K + k0, fun k hk => ?_⟩
    obtain ⟨b, L, e1, e2⟩ := hK k (by omega)
    refine ⟨(b, 0), ?_, ?_⟩
    · unfold impl_IsPort.f
      rw [g1 k (by omega), Option.bind_some, if_pos rfl, e1]
      rfl
    · unfold spec_IsPort.f
      rw [g2 k (by omega), Option.bind_some, if_pos rfl, e2]
      rfl
  · refine ⟨k0, fun k hk => ⟨(false, c), ?_, ?_⟩⟩
    · unfold impl_IsPort.f
      rw [g1 k hk, Option.bind_some, if_neg c0]
    · unfold spec_IsPort.f
      rw [g2 k hk, Option.bind_some, if_neg c0]
theorem exactIsPort (n : Int) (gs : List (List Int)) (hl : gs.length ≤ 9223372036854775807) (hr : ∀ g ∈ gs, g.length ≤ 9223372036854775807) : ∃ k, laws_FnExactIsPort.f k n gs = some true := by
  obtain ⟨k0, hk0⟩ : ∃ k0, 1048577 < k0 := ⟨1048578, by omega⟩
  obtain ⟨t, e0, ht⟩ := szFam n gs hl hr k0 hk0
  by_cases c : t < 0
  · refine ⟨k0, ?_⟩
    unfold laws_FnExactIsPort.f
    rw [e0, Option.bind_some, if_pos c]
  · obtain ⟨h1, h2⟩ := ht (by omega)
    obtain ⟨K, hK⟩ := isPort_both n gs h1 h2
    obtain ⟨m, hm⟩ : ∃ m, K + gs.length + k0 + 1048576 + 10 ≤ m := ⟨_, Nat.le_refl _⟩
    have es : laws_szFamily.f (m + 1) n gs 1048576 = some t := leO_le (f := fun k => laws_szFamily.f k n gs 1048576) (fun k => laws_szFamily.mono _ _ _ k) (show k0 ≤ m + 1 by omega) e0
    obtain ⟨r, er1, er2⟩ := hK (m + 1) (by omega)
    have ef : ∀ k, gs.length + 1048576 + 1 < k → laws_toFamily.f k n gs = some (n, gs) := fun k hk => toFam n gs 1048576 (by omega) (by omega) h2 k hk
    have ef1 := ef (m + 1) (by omega)
    have ef0 := ef m (by omega)
    have ee := eqFam n gs 1048576 (by omega) (by omega) h2 m (by omega)
    refine ⟨m + 1, ?_⟩
    clear hk0 e0 hK ef hm
    unfold laws_FnExactIsPort.f
    rw [es, Option.bind_some, if_neg c, ef1, Option.bind_some]
    simp only []
    rw [er2, Option.bind_some, Option.bind_some]
    simp only []
    rw [er1, Option.bind_some]
    rw [if_neg (by simp), show (r.2 != r.2) = false by simp]
    unfold laws_FnExactIsPort.j0
    simp only [Bool.false_eq_true, if_false]
    rw [ef0, Option.bind_some]
    simp only []
    rw [ee, Option.bind_some, if_pos rfl]
end Ex
end Go.Proofs.Ytmbeijjkfmgkpaa.Pure
namespace Go.Proofs.Ytmbeijjkfmgkpaa.fnExactIsPort
open Go.ChangeShapes Go.WideShapes Go.ChangeAt Go.RowKit Go.Joins Go.Deep
open Go.Proofs.Ytmbeijjkfmgkpaa.Q Go.Proofs.YtmbeijjkfmgkpaaW.PrintWords
set_option linter.unusedVariables false
theorem own : ownKnob Try.prog.godebug = none := by kernel_rfl
theorem laidOut : laidOutB Try.prog = true := by kernel_rfl
theorem cells24 : Try.prog.cellsOf 24 = 2 := by kernel_rfl
theorem cells26 : Try.prog.cellsOf 26 = 1 := by kernel_rfl
theorem cells2 : Try.prog.cellsOf 2 = 1 := by kernel_rfl
set_option maxRecDepth 100000 in
theorem lifted (os : Os) (started : os.Started) (H : Type) (enc : TypeId × Value → H) :
  ReturnsInHanded {} Try.checked os 7 .any (Rows.fnExactIsPortSpec.pre6 enc Try.prog Try.f7 Rows.fnExactIsPortRow.domain false) (Rows.fnExactIsPortSpec.post enc Try.prog Try.f7 false true false false) := by
 refine returnsInHanded_of_change_sized (C := Try.checked) own started (by kernel_rfl) Try.func7
  (ChangeSpec.witness6 (enc := enc) (C := Try.checked) false ⟨#[], #[.agg #[.int .i64 0, .slice none 0 0]], []⟩ 8 (by kernel_rfl) (by kernel_rfl) (by kernel_rfl) (by kernel_rfl)) ?_
 intro W base args ds gs before hval0 hW hcnd hsz0 _
 have hval : ∀ (j : Nat) t v, Try.f7.params[j]? = some t → args[j]? = some v → Value.okWide Try.prog W .any base t v := hval0
 have hW' := hW
 obtain ⟨p, q, hA0, hV, rfl, hfz, hnd⟩ := hW
 have hA : DataW.TrodAll enc Try.prog W 0 (fun _ => true) true Try.f7.params.toList args.toList ds p := hA0
 rw [Try.params7] at hA hval
 obtain ⟨v0, vs0, d0, ds0, p0, q0, hargs, rfl, rfl, h0, r0⟩ := trodAll_cons hA
 obtain ⟨rfl, rfl, rfl⟩ := trodAll_nil r0
 obtain rfl : args = #[v0] := by cases args; simp_all
 obtain ⟨rfl, rfl⟩ := trodVars_none hV
 have k0 := h0
 have lt0 : ∀ x ∈ p0, x.block < W.heap.size := by obtain ⟨m, hm⟩ := k0; exact DataW.trod_lt m _ _ _ hm
 obtain ⟨u0, u1, y0, y1, nf, rfl, e1, e2, t0, t1⟩ := open_agg2 Try.underlying24 (by kernel_rfl) cells24 (hval 0 24 v0 rfl rfl) h0
 obtain ⟨n, hn, _, _⟩ := DataW.trod_int Try.underlying2 t0
 obtain rfl : u0 = .int .i64 n := by simpa using hn
 obtain ⟨A, c, l, rfl, hlc, hl9, hC, hrow⟩ : ∃ (A : Option Addr) (c : Nat) (l : List (List Int)), u1 = .slice A l.length c ∧ l.length ≤ c ∧ l.length ≤ 9223372036854775807 ∧ Kd.C (Kd.slice 2 (Kd.int .i64)) W A l.length l ∧ ∀ g ∈ l, g.length ≤ 9223372036854775807 := by
  rcases open_int_rows Try.underlying22 Try.underlying26 Try.underlying2 cells26 cells2 t1 with ⟨hcs, _⟩ | ⟨a, len, cap, AA, L, C, Z, hcs, _, hle, hm, _, hr⟩
  ·obtain rfl : u1 = .slice none 0 0 := by simpa using hcs
   exact ⟨none, 0, [], rfl, Nat.le_refl _, by simp, ⟨rfl, by simp, fun h => absurd h (by simp)⟩, by simp⟩
  ·obtain rfl : u1 = .slice (some a) len cap := by simpa using hcs
   unfold maxLen at hm
   have hlen : ((List.range len).map fun r => (Z r).take (L r)).length = len := by simp
   have hz : ∀ r, r < len → ((Z r).take (L r)).length = L r := fun r hr' => by
    obtain ⟨_, h1, _, h2, _⟩ := hr r (by omega)
    rw [List.length_take, h2]; omega
   refine ⟨some a, cap, (List.range len).map fun r => (Z r).take (L r), by rw [hlen], by rw [hlen]; exact hle, by rw [hlen]; omega, ?_, ?_⟩
   ·refine ⟨rfl, by rw [hlen]; omega, fun _ => ⟨a, rfl, fun j p hj => ?_⟩⟩
    obtain ⟨hj1, hj2⟩ := List.getElem?_eq_some_iff.1 hj
    have hjl : j < len := by rw [hlen] at hj1; exact hj1
    obtain rfl : (Z j).take (L j) = p := by rw [← hj2]; simp
    obtain ⟨h1, h2, h3, h4, h5, h6, h7⟩ := hr j (by omega)
    unfold maxLen at h3
    refine ⟨[.slice (AA j) (L j) (C j)], rfl, ⟨AA j, C j, by rw [hz j hjl], by rw [hz j hjl]; exact h2, ?_⟩, fun i u hu => ?_⟩
    ·refine Kd.C_of_reads (d := (0 : Int)) (h1 := fun _ => rfl) ⟨rfl, by rw [hz j hjl]; omega, fun hpos => ?_⟩
     rw [hz j hjl] at hpos
     cases hA : AA j with
     | none => have := h6 hA; omega
     | some a' =>
      refine ⟨a', rfl, fun i hi => ?_⟩
      rw [hz j hjl] at hi
      rw [(h7 a' hA).2 i (by omega)]
      congr 2
      rw [List.getD_eq_getElem?_getD, List.getD_eq_getElem?_getD, List.getElem?_take_of_lt hi]
    ·cases i with
     | zero =>
      have : Value.slice (AA j) (L j) (C j) = u := by simpa using hu
      subst this
      have e : (Kd.slice 2 (Kd.int .i64)).sz = 1 := rfl
      rw [e, Nat.mul_one, Nat.add_zero]
      exact h1
     | succ i => simp at hu
   ·intro g hg
    obtain ⟨r, hr1, rfl⟩ := List.mem_map.1 hg
    have hr2 := List.mem_range.1 hr1
    obtain ⟨_, h2, h3, _⟩ := hr r (by omega)
    unfold maxLen at h3
    rw [hz r hr2]; omega
 obtain ⟨k, hk⟩ := Pure.Ex.exactIsPort n l hl9 hrow
 refine (Q.laws_FnExactIsPort.calls k n A c l true W hC hlc hk).mono fun e W' ⟨he, bel⟩ => ?_
 subst he
 exact ⟨_, rfl, _, _, _, [], _, [], hW', trodAll_mk1 (shut_bool Try.underlying4 _), (trodAll_cons_mk (Below.trod laidOut (by kernel_rfl) (of_decide_eq_true (by kernel_rfl)) k0 bel lt0) trodAll_mk0), rfl, bel.frame _, fun h => by cases h⟩
theorem over : Rows.fnExactIsPortRow.holds Try.pinned (OpenSpec.ofChange Rows.fnExactIsPortSpec) :=
  OpenClaim.holds_of_wide 7 Try.f7 rfl rfl rfl rfl rfl rfl rfl ⟨rfl, rfl, rfl, rfl, rfl⟩ rfl rfl rfl rfl rfl (by kernel_rfl) Try.func7 (by kernel_rfl)
    (of_decide_eq_true (by kernel_rfl)) (by unfold Func.isWrapper; first | (rw [if_pos (by decide +kernel)]; kernel_rfl) | (rw [if_neg (by decide +kernel)]; exact ⟨rfl, rfl⟩))
    (fun os started H enc _ => lifted os started H enc)
theorem proved : Rows.FnExactIsPortSaid := over
end Go.Proofs.Ytmbeijjkfmgkpaa.fnExactIsPort
#print axioms Go.Proofs.Ytmbeijjkfmgkpaa.fnExactIsPort.proved
