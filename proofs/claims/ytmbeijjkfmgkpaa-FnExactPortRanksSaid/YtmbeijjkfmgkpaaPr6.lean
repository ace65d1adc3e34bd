/- For every family the law FnExactPortRanks returns true: the program's ranks of ports are the reference's, its argument stays as it was, and what it returns leads to no memory that the caller wrote; no condition. (6 of 6) Put together by a program of mine from texts of mine, from texts that the kit's print wrote for this claim and from the print's words; what is not reached is left out. -/
import Derived.ChangeOld
import Derived.Deep.Matrix
import Derived.Lib.SmallJoins
import Derived.OpenShut
import Derived.ProofKit
import Derived.SizedLaws
import Derived.Test.YtmbeijjkfmgkpaaPr5
import Derived.Test.YtmbeijjkfmgkpaaRows
set_option linter.unusedVariables false
set_option linter.unusedSimpArgs false
namespace Go.Proofs.Ytmbeijjkfmgkpaa.Q
open Go.RowKit Go.Proofs.YtmbeijjkfmgkpaaW.PrintWords Go.Proofs.YtmbeijjkfmgkpaaW.PrintLast Go.Proofs.YtmbeijjkfmgkpaaW.PrintMore
attribute [local go_sem] max2_int min2_int max_two min_two max_three min_three max_four min_four
set_option linter.unusedVariables false
set_option linter.unusedSimpArgs false
def laws_heldInt64SS.l0 : Nat → List (List Int) → Int → Int → Option (Int)
  | 0, _, _, _ => none
  | k + 1, x0, x1, x5 => if x5 < (x0.length : Int) then (if 0 ≤ x5 then ((laws_heldInt64S.f k (rd_L1 x0 x5) x1).bind fun t362 => (if t362 < 0 then (some (-1)) else (laws_heldInt64SS.l0 k x0 t362 (wrap64 (x5 + 1))))) else (none)) else (some x1)
def laws_heldInt64SS.f (k : Nat) (l0 : List (List Int)) (a1 : Int) : Option (Int) := laws_heldInt64SS.l0 k l0 a1 0
def laws_markInt64SS.l0 : Nat → List (List Int) → Int → Int → Option (Int × List (List Int))
  | 0, _, _, _ => none
  | k + 1, x0, x1, x5 => if x5 < (x0.length : Int) then (if 0 ≤ x5 then ((laws_markInt64S.f k (rd_L1 x0 x5) x1).bind fun bt => laws_markInt64SS.l0 k (x0.set x5.toNat bt.2) bt.1 (wrap64 (x5 + 1))) else none) else (some (x1, x0))
def laws_markInt64SS.f (k : Nat) (l0 : List (List Int)) (a1 : Int) : Option (Int × List (List Int)) := laws_markInt64SS.l0 k l0 a1 0
set_option maxHeartbeats 8000000 in
set_option maxRecDepth 100000 in
theorem laws_markInt64SS.calls (k : Nat) (P0_ : Nat → Prop) (u : Value) (l0 : List (List Int)) (a1 : Int) (r1 : Int) (r2 : List (List Int)) (w0 w : World) (hB : Below w0.heap.size w0 w) (ho0 : Kd.S (Kd.slice 2 (Kd.int .i64)) 26 w w0.heap.size P0_ u l0) (h : laws_markInt64SS.f k l0 a1 = some (r1, r2)) :
  Calls Try.prog 50 #[u, .int .i64 a1] w fun e w' => e = .returned (.int .i64 r1) ∧ Kd.S (Kd.slice 2 (Kd.int .i64)) 26 w' w0.heap.size P0_ u r2 ∧ Below w0.heap.size w0 w' ∧ Kept w w' (fun k_ => P0_ k_) := by
 obtain ⟨A, c, rfl⟩ := Kd.S_slice ho0
 have HN : l0.length ≤ 9223372036854775807 := (Kd.S_reads' ho0).2.2.2.1
 have HS := Aside0.mk ho0
 have HB := Aside0.mk hB
 clear ho0 hB
 have H' := Aside0.mk (show laws_markInt64SS.l0 k l0 a1 0 = some (r1, r2) from h)
 clear h
 go_enter Try.func50, Try.ntmps50
 go_wp2
 go_loopg [1, 5] k (fun kq v1 v5 w' => ∃ (xs : List (List Int)) (x1_1 : Int) (x5_1 : Int), v1 = .int .i64 x1_1 ∧ v5 = .int .i64 x5_1 ∧ Aside0 (laws_markInt64SS.l0 kq xs x1_1 x5_1 = some (r1, r2)) ∧ Aside0 (kq ≤ k) ∧ Aside0 (xs.length = l0.length) ∧ Aside0 (Kd.S (Kd.slice 2 (Kd.int .i64)) 26 w' w0.heap.size P0_ (.slice A l0.length c) xs) ∧ Aside0 (Below w0.heap.size w0 w') ∧ Aside0 (Kept w w' (fun k_ => P0_ k_)))
 case atStart => exact ⟨l0, a1, 0, rfl, rfl, H', ⟨Nat.le_refl _⟩, ⟨rfl⟩, HS, HB, ⟨Kept.refl _ _⟩⟩
 case round =>
  clear H' HS HB
  obtain ⟨xs, x1_1, x5_1, rfl, rfl, HA, HK1, HL, HS, HB, HKp⟩ := hrel
  cases gk with
  | zero => exact absurd HA.out (by simp [laws_markInt64SS.l0])
  | succ k1 =>
   have H := HA.out
   clear HA
   simp only [laws_markInt64SS.l0] at H
   by_cases c3 : x5_1 < (xs.length : Int)
   ·rw [if_pos c3] at H
    by_cases c4 : 0 ≤ x5_1
    ·rw [if_pos c4] at H
     have hpos : 0 < xs.length := by omega
     have hlx : xs.length = l0.length := HL.out
     obtain ⟨g, cap, hf, hg0, hg1, _⟩ := Kd.S_form HS.out hpos
     injection hf with hf1 hf2 hf3
     subst hf1
     clear hf2 hf3 cap hg0 hg1
     obtain ⟨oki, cs, hcl, hM, hcell, hoki, hH⟩ := Kd.S_lend HS.out ([] : List Int) x5_1 c4 (by omega)
     obtain ⟨vr, rfl, hR⟩ := hM
     have hx : wr.cell? ((⟨g, 0, none⟩ : Addr).add x5_1.toNat) = some vr := by
      have := hcell 0 vr rfl
      have e : (Kd.slice 2 (Kd.int .i64)).sz = 1 := rfl
      rw [e, Nat.mul_one, Nat.add_zero] at this
      rw [add_plain]; exact this
     have hx2 : wr.cell? ⟨g, x5_1.toNat, none⟩ = some vr := by
      have := hcell 0 vr rfl
      have e : (Kd.slice 2 (Kd.int .i64)).sz = 1 := rfl
      rw [e, Nat.mul_one, Nat.add_zero] at this
      exact this
     replace H := Option.bind_eq_some_iff.mp H
     obtain ⟨⟨t1, t2⟩, A50, H⟩ := H
     have A5 := Aside0.mk A50
     have H' := Aside0.mk H
     have HR := Aside0.mk hR
     have HH := Aside0.mk hH
     have HO := Aside0.mk hoki
     have c3b0 : decide (x5_1 < (l0.length : Int)) = true := decide_eq_true (by omega)
     have c4b0 : decide (0 ≤ x5_1) = true := decide_eq_true c4
     have p3 : (x5_1 < (l0.length : Int)) = True := eq_true (by omega)
     have p4 : (0 ≤ x5_1) = True := eq_true c4
     clear A50 H hR hH hoki hcell hcl c3 c4 hlx hpos
     go_wp2_with (first | ((with_reducible refine gate_callee (f := 43) rfl ?_); refine goesL_ (some 17) rfl rfl Try.func43 (by kernel_rfl) rfl #[vr, .int .i64 x1_1] rfl (by (try simp only [List.map_toArray, List.map_cons, List.map_nil]); first | done | rfl | (simp only [List.length_drop, List.length_take]; rfl)) ?_; (with_reducible refine (laws_markInt64S.calls k1 oki vr (rd_L1 xs x5_1) x1_1 t1 t2 w0 _ ?side1 ?side2 A5.out).mono ?_); (case side1 => exact HB.out); (case side2 => exact HR.out); rintro e w2 ⟨rfl, hR2, hb2, hk2⟩; refine ⟨_, rfl, ?_⟩))
     have hS2 := Kd.H_back (x' := t2) (okp := fun k => some k = vr.ownBlock) (Kd.H_kept HH.out hk2 (fun k _ hn hs => hn hs)) ⟨vr, rfl, Kd.R_tight rfl hR2⟩ (fun k hk => HR.out.1 k hk.symm)
     have hK2 := HKp.out.then_ hk2 (fun k hk => .inl (HO.out k hk).1)
     go_roundg k1
     case measure => have := HK1.out; omega
     case rel => exact ⟨xs.set x5_1.toNat t2, t1, wrap64 (x5_1 + 1), rfl, rfl, H', ⟨by have := HK1.out; omega⟩, ⟨by rw [List.length_set]; exact HL.out⟩, ⟨hS2⟩, ⟨hb2⟩, ⟨hK2⟩⟩
    ·rw [if_neg c4] at H
     exact absurd H (by simp)
   ·rw [if_neg c3] at H
    have c3' : ¬ x5_1 < (l0.length : Int) := by rw [← HL.out]; exact c3
    have c3b0 : decide (x5_1 < (l0.length : Int)) = false := decide_eq_false c3'
    clear c3 c3'
    simp only [Option.some.injEq, Prod.mk.injEq] at H
    obtain ⟨rfl, rfl⟩ := H
    go_wp2
    go_ret
    exact ⟨rfl, HS.out, HB.out, HKp.out⟩
set_option maxHeartbeats 8000000 in
set_option maxRecDepth 100000 in
theorem laws_markFamily.calls (k : Nat) (n : Int) (P0_ : Nat → Prop) (u : Value) (l0 : List (List Int)) (a1 : Int) (r1 : Int) (r2 : List (List Int)) (w0 w : World) (hB : Below w0.heap.size w0 w) (ho0 : Kd.S (Kd.slice 2 (Kd.int .i64)) 26 w w0.heap.size P0_ u l0) (h : laws_markInt64SS.f k l0 a1 = some (r1, r2)) :
  Calls Try.prog 18 #[.agg #[.int .i64 n, u], .int .i64 a1] w fun e w' => e = .returned (.int .i64 r1) ∧ Kd.S (Kd.slice 2 (Kd.int .i64)) 26 w' w0.heap.size P0_ u r2 ∧ Below w0.heap.size w0 w' ∧ Kept w w' (fun k_ => P0_ k_) := by
 have hu31 := Try.underlying31
 obtain ⟨A, c, rfl⟩ := Kd.S_slice ho0
 have HS := Aside0.mk ho0
 have HB := Aside0.mk hB
 have HH := Aside0.mk h
 clear ho0 hB h
 go_enter Try.func18, Try.ntmps18
 go_wp2_with (first | ((with_reducible refine gate_dst (N := 2) rfl ?_); refine box_event ?hg (N := 2) ?hd (cs := #[.int .i64 n, .slice A l0.length c]) (t := 31) ?hr ?_; (case hd => rfl); (case hg => rfl); (case hr => first | (go_simp; done) | (go_simp; rfl)); intro gb hg w5 hbox hb; have HS5 := Aside0.mk (Kd.S_below HS.out hb); have HB5 := Aside0.mk (below_step HB.out hb); have HK5 := Aside0.mk ((Kept.refl w (fun k_ => P0_ k_)).below hb); have BK := Aside0.mk hbox; clear hb hbox hg; have hcz1 : w5.cell? ⟨gb, 1, none⟩ = some (.slice A l0.length c) := (blk_cell BK.out 1).trans rfl) | ((with_reducible refine gate_callee (f := 50) rfl ?_); refine goesL_ (some 8) rfl rfl Try.func50 (by kernel_rfl) rfl #[.slice A l0.length c, .int .i64 a1] rfl (by (try simp only [List.map_toArray, List.map_cons, List.map_nil]); first | done | rfl) ?_; (with_reducible refine (laws_markInt64SS.calls k P0_ (.slice A l0.length c) l0 a1 r1 r2 w0 _ ?side1 ?side2 HH.out).mono ?_); (case side1 => exact HB5.out); (case side2 => exact HS5.out); rintro e w7 ⟨rfl, hs7, hb7, hk7⟩; refine ⟨_, rfl, ?_⟩; have HS7 := Aside0.mk hs7; have HB7 := Aside0.mk hb7; have HK7 := Aside0.mk (HK5.out.then_ hk7 (fun k hk => .inl hk)); clear hs7 hb7 hk7))
 go_ret
 exact ⟨rfl, HS7.out, HB7.out, HK7.out⟩
def laws_eqRanks.f (k : Nat) (a0_0 : Int) (a0_1 : Int) (l0_2 : List Int) (a1_0 : Int) (a1_1 : Int) (l1_2 : List Int) : Option (Bool) := if a0_0 = a1_0 then (if a0_1 = a1_1 then ((laws_eqInt64S.f k l0_2 l1_2).bind fun t858 => (if t858 = true then (some true) else (some false))) else (some false)) else (some false)
set_option maxHeartbeats 8000000 in
set_option maxRecDepth 100000 in
theorem laws_eqRanks.calls (k : Nat) (a0_0 : Int) (a0_1 : Int) (A0_2 : Option Addr) (c0_2 : Nat) (l0_2 : List Int) (a1_0 : Int) (a1_1 : Int) (A1_2 : Option Addr) (c1_2 : Nat) (l1_2 : List Int) (r : Bool) (w : World) (hr0_2 : Kd.C (Kd.int .i64) w A0_2 l0_2.length l0_2) (hc0_2 : l0_2.length ≤ c0_2) (hr1_2 : Kd.C (Kd.int .i64) w A1_2 l1_2.length l1_2) (hc1_2 : l1_2.length ≤ c1_2) (h : laws_eqRanks.f k a0_0 a0_1 l0_2 a1_0 a1_1 l1_2 = some r) :
  Calls Try.prog 40 #[.agg #[.int .i64 a0_0, .int .i64 a0_1, .slice A0_2 l0_2.length c0_2], .agg #[.int .i64 a1_0, .int .i64 a1_1, .slice A1_2 l1_2.length c1_2]] w fun e w' => e = .returned (.bool r) ∧ Below w.heap.size w w' := by
 have hu54 := Try.underlying54
 have HR0_2 := Aside0.mk hr0_2
 have HC0_2 := Aside0.mk hc0_2
 clear hr0_2 hc0_2
 have HR1_2 := Aside0.mk hr1_2
 have HC1_2 := Aside0.mk hc1_2
 clear hr1_2 hc1_2
 have HB := Aside0.mk (Below.refl w.heap.size w)
 have H : (if a0_0 = a1_0 then (if a0_1 = a1_1 then ((laws_eqInt64S.f k l0_2 l1_2).bind fun t858 => (if t858 = true then (some true) else (some false))) else (some false)) else (some false)) = some r := h
 clear h
 by_cases c3 : a0_0 = a1_0
 ·rw [if_pos c3] at H
  have c3b0 : (a0_0 == a1_0) = true := beq_iff_eq.mpr c3
  have c3b1 : (a0_0 != a1_0) = false := bne_eq_false_iff_eq.mpr c3
  clear c3
  by_cases c4 : a0_1 = a1_1
  ·rw [if_pos c4] at H
   have c4b0 : (a0_1 == a1_1) = true := beq_iff_eq.mpr c4
   have c4b1 : (a0_1 != a1_1) = false := bne_eq_false_iff_eq.mpr c4
   clear c4
   replace H := Option.bind_eq_some_iff.mp H
   obtain ⟨t858, A50, H⟩ := H
   replace H : (if t858 = true then (some true) else (some false)) = some r := H
   have A5 := Aside0.mk A50
   clear A50
   by_cases c6 : t858 = true
   ·subst c6
    rw [if_pos rfl] at H
    obtain rfl := Option.some.inj H
    go_enter Try.func40, Try.ntmps40
    go_wp2_with (first | ((with_reducible refine gate_dst (N := 2) rfl ?_); refine box_event ?hg (N := 2) ?hd (cs := #[.int .i64 a0_0, .int .i64 a0_1, .slice A0_2 l0_2.length c0_2]) (t := 54) ?hr ?_; (case hd => rfl); (case hg => rfl); (case hr => first | (go_simp; done) | (go_simp; rfl)); intro gb856 hg w7 hbox hb; have n0_ := Aside0.mk (below_step (zb0 HB.out) hb); have n1_ := Aside0.mk (hbox); have n2_ := Aside0.mk ((by rw [hg]; exact (below_size (zb0 HB.out)) : w.heap.size ≤ gb856)); have n3_ := Aside0.mk ((by rw [hg]; exact (below_size (zb0 HB.out)) : w.heap.size ≤ gb856)); clear HB; have HB := n0_; have BK856 := n1_; have GW856 := n2_; have GE856 := n3_; clear n0_ n1_ n2_ n3_; clear hb hbox hg) | ((with_reducible refine gate_dst (N := 3) rfl ?_); refine box_event ?hg (N := 3) ?hd (cs := #[.int .i64 a1_0, .int .i64 a1_1, .slice A1_2 l1_2.length c1_2]) (t := 54) ?hr ?_; (case hd => rfl); (case hg => rfl); (case hr => first | (go_simp; done) | (go_simp; rfl)); intro gb857 hg w8 hbox hb; have n0_ := Aside0.mk (blk_below (g := gb856) (o := .cells #[.int .i64 a0_0, .int .i64 a0_1, .slice A0_2 l0_2.length c0_2] 54 (0, 0)) (zk BK856.out) hb); have n1_ := Aside0.mk (below_step (zb1 HB.out GE856.out) hb); have n2_ := Aside0.mk (hbox); have n3_ := Aside0.mk ((by rw [hg]; exact (below_size (zb1 HB.out GE856.out)) : w.heap.size ≤ gb857)); have n4_ := Aside0.mk ((by rw [hg]; exact (below_size (zb1 HB.out GE856.out)) : w.heap.size ≤ gb857)); have n5_ := Aside0.mk ((by rw [hg]; exact Nat.ne_of_lt (blk_lt (g := gb856) (o := .cells #[.int .i64 a0_0, .int .i64 a0_1, .slice A0_2 l0_2.length c0_2] 54 (0, 0)) (zk BK856.out)) : gb856 ≠ gb857)); have n6_ := Aside0.mk ((by rw [hg]; exact Nat.ne_of_gt (blk_lt (g := gb856) (o := .cells #[.int .i64 a0_0, .int .i64 a0_1, .slice A0_2 l0_2.length c0_2] 54 (0, 0)) (zk BK856.out)) : gb857 ≠ gb856)); clear BK856; clear HB; have BK856 := n0_; have HB := n1_; have BK857 := n2_; have GW857 := n3_; have GE857 := n4_; have NB856_857 := n5_; have NB857_856 := n6_; clear n0_ n1_ n2_ n3_ n4_ n5_ n6_; clear hb hbox hg; have hnb9 := NB856_857.out; have hnc9 := NB857_856.out; have hcz10_0 : w8.cell? ⟨gb856, 0, none⟩ = some (.int .i64 a0_0) := (blk_cell BK856.out 0).trans rfl; have hcz10_1 : w8.cell? ⟨gb856, 1, none⟩ = some (.int .i64 a0_1) := (blk_cell BK856.out 1).trans rfl; have hcz10_2 : w8.cell? ⟨gb856, 2, none⟩ = some (.slice A0_2 l0_2.length c0_2) := (blk_cell BK856.out 2).trans rfl; have hfz10_0 := blk_frozen BK856.out 0; have hfz10_1 := blk_frozen BK856.out 1; have hfz10_2 := blk_frozen BK856.out 2; have hcz11_0 : w8.cell? ⟨gb857, 0, none⟩ = some (.int .i64 a1_0) := (blk_cell BK857.out 0).trans rfl; have hcz11_1 : w8.cell? ⟨gb857, 1, none⟩ = some (.int .i64 a1_1) := (blk_cell BK857.out 1).trans rfl; have hcz11_2 : w8.cell? ⟨gb857, 2, none⟩ = some (.slice A1_2 l1_2.length c1_2) := (blk_cell BK857.out 2).trans rfl; have hfz11_0 := blk_frozen BK857.out 0; have hfz11_1 := blk_frozen BK857.out 1; have hfz11_2 := blk_frozen BK857.out 2) | ((with_reducible refine gate_callee (f := 41) rfl ?_); refine goesL_ (some 19) rfl rfl Try.func41 (by kernel_rfl) rfl #[.slice A0_2 l0_2.length c0_2, .slice A1_2 l1_2.length c1_2] rfl zl ?_; (with_reducible refine (laws_eqInt64S.calls k _ _ l0_2 _ _ l1_2 true _ ?side1 ?side2 ?side3 ?side4 A5.out).mono ?_); (case side1 => exact zc (Kd.C_below HR0_2.out HB.out)); (case side2 => exact HC0_2.out); (case side3 => exact zc (Kd.C_below HR1_2.out HB.out)); (case side4 => exact HC1_2.out); rintro e w' ⟨rfl, ⟨nd, rfl⟩⟩; refine ⟨_, rfl, ?_⟩))
    go_ret
    exact ⟨ze, zb2 HB.out GE856.out GE857.out⟩
   ·replace c6 := Bool.eq_false_iff.mpr c6
    subst c6
    rw [if_neg (show ¬ (false = true) by decide)] at H
    obtain rfl := Option.some.inj H
    go_enter Try.func40, Try.ntmps40
    go_wp2_with (first | ((with_reducible refine gate_dst (N := 2) rfl ?_); refine box_event ?hg (N := 2) ?hd (cs := #[.int .i64 a0_0, .int .i64 a0_1, .slice A0_2 l0_2.length c0_2]) (t := 54) ?hr ?_; (case hd => rfl); (case hg => rfl); (case hr => first | (go_simp; done) | (go_simp; rfl)); intro gb856 hg w12 hbox hb; have n0_ := Aside0.mk (below_step (zb0 HB.out) hb); have n1_ := Aside0.mk (hbox); have n2_ := Aside0.mk ((by rw [hg]; exact (below_size (zb0 HB.out)) : w.heap.size ≤ gb856)); have n3_ := Aside0.mk ((by rw [hg]; exact (below_size (zb0 HB.out)) : w.heap.size ≤ gb856)); clear HB; have HB := n0_; have BK856 := n1_; have GW856 := n2_; have GE856 := n3_; clear n0_ n1_ n2_ n3_; clear hb hbox hg) | ((with_reducible refine gate_dst (N := 3) rfl ?_); refine box_event ?hg (N := 3) ?hd (cs := #[.int .i64 a1_0, .int .i64 a1_1, .slice A1_2 l1_2.length c1_2]) (t := 54) ?hr ?_; (case hd => rfl); (case hg => rfl); (case hr => first | (go_simp; done) | (go_simp; rfl)); intro gb857 hg w13 hbox hb; have n0_ := Aside0.mk (blk_below (g := gb856) (o := .cells #[.int .i64 a0_0, .int .i64 a0_1, .slice A0_2 l0_2.length c0_2] 54 (0, 0)) (zk BK856.out) hb); have n1_ := Aside0.mk (below_step (zb1 HB.out GE856.out) hb); have n2_ := Aside0.mk (hbox); have n3_ := Aside0.mk ((by rw [hg]; exact (below_size (zb1 HB.out GE856.out)) : w.heap.size ≤ gb857)); have n4_ := Aside0.mk ((by rw [hg]; exact (below_size (zb1 HB.out GE856.out)) : w.heap.size ≤ gb857)); have n5_ := Aside0.mk ((by rw [hg]; exact Nat.ne_of_lt (blk_lt (g := gb856) (o := .cells #[.int .i64 a0_0, .int .i64 a0_1, .slice A0_2 l0_2.length c0_2] 54 (0, 0)) (zk BK856.out)) : gb856 ≠ gb857)); have n6_ := Aside0.mk ((by rw [hg]; exact Nat.ne_of_gt (blk_lt (g := gb856) (o := .cells #[.int .i64 a0_0, .int .i64 a0_1, .slice A0_2 l0_2.length c0_2] 54 (0, 0)) (zk BK856.out)) : gb857 ≠ gb856)); clear BK856; clear HB; have BK856 := n0_; have HB := n1_; have BK857 := n2_; have GW857 := n3_; have GE857 := n4_; have NB856_857 := n5_; have NB857_856 := n6_; clear n0_ n1_ n2_ n3_ n4_ n5_ n6_; clear hb hbox hg; have hnb14 := NB856_857.out; have hnc14 := NB857_856.out; have hcz15_0 : w13.cell? ⟨gb856, 0, none⟩ = some (.int .i64 a0_0) := (blk_cell BK856.out 0).trans rfl; have hcz15_1 : w13.cell? ⟨gb856, 1, none⟩ = some (.int .i64 a0_1) := (blk_cell BK856.out 1).trans rfl; have hcz15_2 : w13.cell? ⟨gb856, 2, none⟩ = some (.slice A0_2 l0_2.length c0_2) := (blk_cell BK856.out 2).trans rfl; have hfz15_0 := blk_frozen BK856.out 0; have hfz15_1 := blk_frozen BK856.out 1; have hfz15_2 := blk_frozen BK856.out 2; have hcz16_0 : w13.cell? ⟨gb857, 0, none⟩ = some (.int .i64 a1_0) := (blk_cell BK857.out 0).trans rfl; have hcz16_1 : w13.cell? ⟨gb857, 1, none⟩ = some (.int .i64 a1_1) := (blk_cell BK857.out 1).trans rfl; have hcz16_2 : w13.cell? ⟨gb857, 2, none⟩ = some (.slice A1_2 l1_2.length c1_2) := (blk_cell BK857.out 2).trans rfl; have hfz16_0 := blk_frozen BK857.out 0; have hfz16_1 := blk_frozen BK857.out 1; have hfz16_2 := blk_frozen BK857.out 2) | ((with_reducible refine gate_callee (f := 41) rfl ?_); refine goesL_ (some 19) rfl rfl Try.func41 (by kernel_rfl) rfl #[.slice A0_2 l0_2.length c0_2, .slice A1_2 l1_2.length c1_2] rfl zl ?_; (with_reducible refine (laws_eqInt64S.calls k _ _ l0_2 _ _ l1_2 false _ ?side1 ?side2 ?side3 ?side4 A5.out).mono ?_); (case side1 => exact zc (Kd.C_below HR0_2.out HB.out)); (case side2 => exact HC0_2.out); (case side3 => exact zc (Kd.C_below HR1_2.out HB.out)); (case side4 => exact HC1_2.out); rintro e w' ⟨rfl, ⟨nd, rfl⟩⟩; refine ⟨_, rfl, ?_⟩))
    go_ret
    exact ⟨ze, zb2 HB.out GE856.out GE857.out⟩
  ·rw [if_neg c4] at H
   have c4b0 : (a0_1 == a1_1) = false := beq_eq_false_iff_ne.mpr c4
   have c4b1 : (a0_1 != a1_1) = true := bne_iff_ne.mpr c4
   obtain rfl := Option.some.inj H
   go_enter Try.func40, Try.ntmps40
   go_wp2_with (first | ((with_reducible refine gate_dst (N := 2) rfl ?_); refine box_event ?hg (N := 2) ?hd (cs := #[.int .i64 a0_0, .int .i64 a0_1, .slice A0_2 l0_2.length c0_2]) (t := 54) ?hr ?_; (case hd => rfl); (case hg => rfl); (case hr => first | (go_simp; done) | (go_simp; rfl)); intro gb856 hg w17 hbox hb; have n0_ := Aside0.mk (below_step (zb0 HB.out) hb); have n1_ := Aside0.mk (hbox); have n2_ := Aside0.mk ((by rw [hg]; exact (below_size (zb0 HB.out)) : w.heap.size ≤ gb856)); have n3_ := Aside0.mk ((by rw [hg]; exact (below_size (zb0 HB.out)) : w.heap.size ≤ gb856)); clear HB; have HB := n0_; have BK856 := n1_; have GW856 := n2_; have GE856 := n3_; clear n0_ n1_ n2_ n3_; clear hb hbox hg) | ((with_reducible refine gate_dst (N := 3) rfl ?_); refine box_event ?hg (N := 3) ?hd (cs := #[.int .i64 a1_0, .int .i64 a1_1, .slice A1_2 l1_2.length c1_2]) (t := 54) ?hr ?_; (case hd => rfl); (case hg => rfl); (case hr => first | (go_simp; done) | (go_simp; rfl)); intro gb857 hg w18 hbox hb; have n0_ := Aside0.mk (blk_below (g := gb856) (o := .cells #[.int .i64 a0_0, .int .i64 a0_1, .slice A0_2 l0_2.length c0_2] 54 (0, 0)) (zk BK856.out) hb); have n1_ := Aside0.mk (below_step (zb1 HB.out GE856.out) hb); have n2_ := Aside0.mk (hbox); have n3_ := Aside0.mk ((by rw [hg]; exact (below_size (zb1 HB.out GE856.out)) : w.heap.size ≤ gb857)); have n4_ := Aside0.mk ((by rw [hg]; exact (below_size (zb1 HB.out GE856.out)) : w.heap.size ≤ gb857)); have n5_ := Aside0.mk ((by rw [hg]; exact Nat.ne_of_lt (blk_lt (g := gb856) (o := .cells #[.int .i64 a0_0, .int .i64 a0_1, .slice A0_2 l0_2.length c0_2] 54 (0, 0)) (zk BK856.out)) : gb856 ≠ gb857)); have n6_ := Aside0.mk ((by rw [hg]; exact Nat.ne_of_gt (blk_lt (g := gb856) (o := .cells #[.int .i64 a0_0, .int .i64 a0_1, .slice A0_2 l0_2.length c0_2] 54 (0, 0)) (zk BK856.out)) : gb857 ≠ gb856)); clear BK856; clear HB; have BK856 := n0_; have HB := n1_; have BK857 := n2_; have GW857 := n3_; have GE857 := n4_; have NB856_857 := n5_; have NB857_856 := n6_; clear n0_ n1_ n2_ n3_ n4_ n5_ n6_; clear hb hbox hg; have hnb19 := NB856_857.out; have hnc19 := NB857_856.out; have hcz20_0 : w18.cell? ⟨gb856, 0, none⟩ = some (.int .i64 a0_0) := (blk_cell BK856.out 0).trans rfl; have hcz20_1 : w18.cell? ⟨gb856, 1, none⟩ = some (.int .i64 a0_1) := (blk_cell BK856.out 1).trans rfl; have hcz20_2 : w18.cell? ⟨gb856, 2, none⟩ = some (.slice A0_2 l0_2.length c0_2) := (blk_cell BK856.out 2).trans rfl; have hfz20_0 := blk_frozen BK856.out 0; have hfz20_1 := blk_frozen BK856.out 1; have hfz20_2 := blk_frozen BK856.out 2; have hcz21_0 : w18.cell? ⟨gb857, 0, none⟩ = some (.int .i64 a1_0) := (blk_cell BK857.out 0).trans rfl; have hcz21_1 : w18.cell? ⟨gb857, 1, none⟩ = some (.int .i64 a1_1) := (blk_cell BK857.out 1).trans rfl; have hcz21_2 : w18.cell? ⟨gb857, 2, none⟩ = some (.slice A1_2 l1_2.length c1_2) := (blk_cell BK857.out 2).trans rfl; have hfz21_0 := blk_frozen BK857.out 0; have hfz21_1 := blk_frozen BK857.out 1; have hfz21_2 := blk_frozen BK857.out 2))
   go_ret
   exact ⟨ze, zb2 HB.out GE856.out GE857.out⟩
 ·rw [if_neg c3] at H
  have c3b0 : (a0_0 == a1_0) = false := beq_eq_false_iff_ne.mpr c3
  have c3b1 : (a0_0 != a1_0) = true := bne_iff_ne.mpr c3
  obtain rfl := Option.some.inj H
  go_enter Try.func40, Try.ntmps40
  go_wp2_with (first | ((with_reducible refine gate_dst (N := 2) rfl ?_); refine box_event ?hg (N := 2) ?hd (cs := #[.int .i64 a0_0, .int .i64 a0_1, .slice A0_2 l0_2.length c0_2]) (t := 54) ?hr ?_; (case hd => rfl); (case hg => rfl); (case hr => first | (go_simp; done) | (go_simp; rfl)); intro gb856 hg w22 hbox hb; have n0_ := Aside0.mk (below_step (zb0 HB.out) hb); have n1_ := Aside0.mk (hbox); have n2_ := Aside0.mk ((by rw [hg]; exact (below_size (zb0 HB.out)) : w.heap.size ≤ gb856)); have n3_ := Aside0.mk ((by rw [hg]; exact (below_size (zb0 HB.out)) : w.heap.size ≤ gb856)); clear HB; have HB := n0_; have BK856 := n1_; have GW856 := n2_; have GE856 := n3_; clear n0_ n1_ n2_ n3_; clear hb hbox hg) | ((with_reducible refine gate_dst (N := 3) rfl ?_); refine box_event ?hg (N := 3) ?hd (cs := #[.int .i64 a1_0, .int .i64 a1_1, .slice A1_2 l1_2.length c1_2]) (t := 54) ?hr ?_; (case hd => rfl); (case hg => rfl); (case hr => first | (go_simp; done) | (go_simp; rfl)); intro gb857 hg w23 hbox hb; have n0_ := Aside0.mk (blk_below (g := gb856) (o := .cells #[.int .i64 a0_0, .int .i64 a0_1, .slice A0_2 l0_2.length c0_2] 54 (0, 0)) (zk BK856.out) hb); have n1_ := Aside0.mk (below_step (zb1 HB.out GE856.out) hb); have n2_ := Aside0.mk (hbox); have n3_ := Aside0.mk ((by rw [hg]; exact (below_size (zb1 HB.out GE856.out)) : w.heap.size ≤ gb857)); have n4_ := Aside0.mk ((by rw [hg]; exact (below_size (zb1 HB.out GE856.out)) : w.heap.size ≤ gb857)); have n5_ := Aside0.mk ((by rw [hg]; exact Nat.ne_of_lt (blk_lt (g := gb856) (o := .cells #[.int .i64 a0_0, .int .i64 a0_1, .slice A0_2 l0_2.length c0_2] 54 (0, 0)) (zk BK856.out)) : gb856 ≠ gb857)); have n6_ := Aside0.mk ((by rw [hg]; exact Nat.ne_of_gt (blk_lt (g := gb856) (o := .cells #[.int .i64 a0_0, .int .i64 a0_1, .slice A0_2 l0_2.length c0_2] 54 (0, 0)) (zk BK856.out)) : gb857 ≠ gb856)); clear BK856; clear HB; have BK856 := n0_; have HB := n1_; have BK857 := n2_; have GW857 := n3_; have GE857 := n4_; have NB856_857 := n5_; have NB857_856 := n6_; clear n0_ n1_ n2_ n3_ n4_ n5_ n6_; clear hb hbox hg; have hnb24 := NB856_857.out; have hnc24 := NB857_856.out; have hcz25_0 : w23.cell? ⟨gb856, 0, none⟩ = some (.int .i64 a0_0) := (blk_cell BK856.out 0).trans rfl; have hcz25_1 : w23.cell? ⟨gb856, 1, none⟩ = some (.int .i64 a0_1) := (blk_cell BK856.out 1).trans rfl; have hcz25_2 : w23.cell? ⟨gb856, 2, none⟩ = some (.slice A0_2 l0_2.length c0_2) := (blk_cell BK856.out 2).trans rfl; have hfz25_0 := blk_frozen BK856.out 0; have hfz25_1 := blk_frozen BK856.out 1; have hfz25_2 := blk_frozen BK856.out 2; have hcz26_0 : w23.cell? ⟨gb857, 0, none⟩ = some (.int .i64 a1_0) := (blk_cell BK857.out 0).trans rfl; have hcz26_1 : w23.cell? ⟨gb857, 1, none⟩ = some (.int .i64 a1_1) := (blk_cell BK857.out 1).trans rfl; have hcz26_2 : w23.cell? ⟨gb857, 2, none⟩ = some (.slice A1_2 l1_2.length c1_2) := (blk_cell BK857.out 2).trans rfl; have hfz26_0 := blk_frozen BK857.out 0; have hfz26_1 := blk_frozen BK857.out 1; have hfz26_2 := blk_frozen BK857.out 2))
  go_ret
  exact ⟨ze, zb2 HB.out GE856.out GE857.out⟩
def laws_markRanks.f (k : Nat) (a0_0 : Int) (a0_1 : Int) (l0_2 : List Int) (a1 : Int) : Option (Int × List Int) := (laws_markInt64S.f k l0_2 a1).bind fun bt860 => (some (bt860.1, bt860.2))
set_option maxHeartbeats 8000000 in
set_option maxRecDepth 100000 in
theorem laws_markRanks.calls (k : Nat) (a0_0 : Int) (a0_1 : Int) (P0_2_ : Nat → Prop) (u9000_ : Value) (l0_2 : List Int) (a1 : Int) (r1 : Int) (r2 : List Int) (w0 w : World) (hB : Below w0.heap.size w0 w) (ho0_2 : Kd.R (Kd.int .i64) 2 w w0.heap.size P0_2_ u9000_ l0_2) (h : laws_markRanks.f k a0_0 a0_1 l0_2 a1 = some (r1, r2)) :
  Calls Try.prog 42 #[.agg #[.int .i64 a0_0, .int .i64 a0_1, u9000_], .int .i64 a1] w fun e w' => e = .returned (.int .i64 r1) ∧ Kd.R (Kd.int .i64) 2 w' w0.heap.size (fun k_ => (P0_2_ k_ ∨ w.heap.size ≤ k_)) u9000_ r2 ∧ Below w0.heap.size w0 w' ∧ Kept w w' (fun k_ => P0_2_ k_) := by
 have hu54 := Try.underlying54
 have HO0_2 := Aside0.mk (show Kd.R (Kd.int .i64) 2 w w0.heap.size (fun k_ => (P0_2_ k_ ∨ w.heap.size ≤ k_)) u9000_ l0_2 from Kd.R_mono ho0_2 (fun k_ hk => (.inl hk)))
 have HK := Aside0.mk (Kept.refl w (fun k_ => P0_2_ k_))
 have HW0 := Aside0.mk hB.size
 have HB := Aside0.mk hB
 clear hB
 have H : ((laws_markInt64S.f k l0_2 a1).bind fun bt860 => (some (bt860.1, bt860.2))) = some (r1, r2) := h
 clear h
 replace H := Option.bind_eq_some_iff.mp H
 obtain ⟨⟨t860, t861⟩, A30, H⟩ := H
 replace H : (some (t860, t861)) = some (r1, r2) := H
 have A3 := Aside0.mk A30
 clear A30
 simp only [Option.some.injEq, Prod.mk.injEq] at H
 obtain ⟨rfl, rfl⟩ := H
 obtain ⟨Ao4, co4, eo4⟩ := Kd.R_slice HO0_2.out
 subst eo4
 go_enter Try.func42, Try.ntmps42
 go_wp2_with (first | ((with_reducible refine gate_dst (N := 2) rfl ?_); refine box_event ?hg (N := 2) ?hd (cs := #[.int .i64 a0_0, .int .i64 a0_1, .slice Ao4 l0_2.length co4]) (t := 54) ?hr ?_; (case hd => rfl); (case hg => rfl); (case hr => first | (go_simp; done) | (go_simp; rfl)); intro gb859 hg w5 hbox hb; have n0_ := Aside0.mk (Kd.R_below (zr HO0_2.out) hb); have n1_ := Aside0.mk (Kept.below (S := (fun k_ => P0_2_ k_)) (by repeat (first | (with_reducible first | exact HK.out | apply Kept.alloc | apply Kept.drewN | apply Kept.drew) | exact HK.out)) hb); have n2_ := Aside0.mk (below_step (zb0 HB.out) hb); have n3_ := Aside0.mk (hbox); have n4_ := Aside0.mk ((by rw [hg]; exact (by first | exact HK.out.1 | exact (show Kept w _ (fun k_ => P0_2_ k_) from by repeat (first | (with_reducible first | exact HK.out | apply Kept.alloc | apply Kept.drewN | apply Kept.drew) | exact HK.out)).1) : w.heap.size ≤ gb859)); have n5_ := Aside0.mk ((by rw [hg]; exact (below_size (zb0 HB.out)) : w0.heap.size ≤ gb859)); clear HO0_2; clear HK; clear HB; have HO0_2 := n0_; have HK := n1_; have HB := n2_; have BK859 := n3_; have GW859 := n4_; have GE859 := n5_; clear n0_ n1_ n2_ n3_ n4_ n5_; clear hb hbox hg; have hcz6_0 : w5.cell? ⟨gb859, 0, none⟩ = some (.int .i64 a0_0) := (blk_cell BK859.out 0).trans rfl; have hcz6_1 : w5.cell? ⟨gb859, 1, none⟩ = some (.int .i64 a0_1) := (blk_cell BK859.out 1).trans rfl; have hcz6_2 : w5.cell? ⟨gb859, 2, none⟩ = some (.slice Ao4 l0_2.length co4) := (blk_cell BK859.out 2).trans rfl; have hfz6_0 := blk_frozen BK859.out 0; have hfz6_1 := blk_frozen BK859.out 1; have hfz6_2 := blk_frozen BK859.out 2) | ((with_reducible refine gate_callee (f := 43) rfl ?_); refine goesL_ (some 8) rfl rfl Try.func43 (by kernel_rfl) rfl #[.slice Ao4 l0_2.length co4, .int .i64 a1] rfl zl ?_; (with_reducible refine (laws_markInt64S.calls k (fun k_ => some k_ = (.slice Ao4 l0_2.length co4 : Value).ownBlock) (.slice Ao4 l0_2.length co4) l0_2 a1 t860 t861 w0 _ ?side1 ?side2 A3.out).mono ?_); (case side1 => repeat (first | (with_reducible first | exact HB.out | apply below_alloc | apply pw_below_drewN | apply below_drew1 | refine below_set ?_ GE859.out) | exact HB.out)); (case side2 => exact Kd.R_tight rfl HO0_2.out); rintro e w7 ⟨rfl, hy0, hb, hkp⟩; refine ⟨_, rfl, ?_⟩; have n0_ := Aside0.mk (Kd.R_reok rfl hy0 (fun k_ e_ => HO0_2.out.1 k_ e_)); have n1_ := Aside0.mk (blk_kept (zk BK859.out) hkp (fun hs_ => (fun e_ => (Kd.R_ne HO0_2.out BK859.out (by decide)) e_) hs_)); have n2_ := Aside0.mk (Kept.then_ (S := (fun k_ => P0_2_ k_)) (by repeat (first | (with_reducible first | exact HK.out | apply Kept.alloc | apply Kept.drewN | apply Kept.drew | refine Kept.setCell ?_ (.inr GW859.out) _) | exact HK.out)) hkp (fun k_ hs_ => (fun e_ => (HO0_2.out.1 k_ e_.symm)) hs_)); have n3_ := Aside0.mk (hb); clear HO0_2; clear BK859; clear HK; clear HB; have HO0_2 := n0_; have BK859 := n1_; have HK := n2_; have HB := n3_; clear n0_ n1_ n2_ n3_; (try clear hb); (try clear hkp); (try clear hy0)))
 go_ret
 exact ⟨ze, by (with_reducible repeat (first | apply Kd.R_alloc | apply Kd.R_drewN | apply Kd.R_drew)); exact HO0_2.out, zb1 HB.out GE859.out, by repeat (first | (with_reducible first | exact HK.out | apply Kept.alloc | apply Kept.drewN | apply Kept.drew | refine Kept.setCell ?_ (.inr GW859.out) _) | exact HK.out)⟩
def laws_heldRanks.f (k : Nat) (a0_0 : Int) (a0_1 : Int) (l0_2 : List Int) (a1 : Int) : Option (Int) := (laws_heldInt64S.f k l0_2 a1).bind fun t1132 => (if t1132 < 0 then (some (-1)) else (some t1132))
set_option maxHeartbeats 8000000 in
set_option maxRecDepth 100000 in
theorem laws_heldRanks.calls (k : Nat) (a0_0 : Int) (a0_1 : Int) (A0_2 : Option Addr) (c0_2 : Nat) (l0_2 : List Int) (a1 : Int) (r : Int) (w : World) (hr0_2 : Kd.C (Kd.int .i64) w A0_2 l0_2.length l0_2) (hc0_2 : l0_2.length ≤ c0_2) (h : laws_heldRanks.f k a0_0 a0_1 l0_2 a1 = some r) :
  Calls Try.prog 53 #[.agg #[.int .i64 a0_0, .int .i64 a0_1, .slice A0_2 l0_2.length c0_2], .int .i64 a1] w fun e w' => e = .returned (.int .i64 r) ∧ Below w.heap.size w w' := by
 have hu54 := Try.underlying54
 have HR0_2 := Aside0.mk hr0_2
 have HC0_2 := Aside0.mk hc0_2
 clear hr0_2 hc0_2
 have HB := Aside0.mk (Below.refl w.heap.size w)
 have H : ((laws_heldInt64S.f k l0_2 a1).bind fun t1132 => (if t1132 < 0 then (some (-1)) else (some t1132))) = some r := h
 clear h
 replace H := Option.bind_eq_some_iff.mp H
 obtain ⟨t1132, A30, H⟩ := H
 replace H : (if t1132 < 0 then (some (-1)) else (some t1132)) = some r := H
 have A3 := Aside0.mk A30
 clear A30
 by_cases c4 : t1132 < 0
 ·rw [if_pos c4] at H
  have c4b0 : decide (t1132 < 0) = true := decide_eq_true c4
  clear c4
  obtain rfl := Option.some.inj H
  go_enter Try.func53, Try.ntmps53
  go_wp2_with (first | ((with_reducible refine gate_dst (N := 2) rfl ?_); refine box_event ?hg (N := 2) ?hd (cs := #[.int .i64 a0_0, .int .i64 a0_1, .slice A0_2 l0_2.length c0_2]) (t := 54) ?hr ?_; (case hd => rfl); (case hg => rfl); (case hr => first | (go_simp; done) | (go_simp; rfl)); intro gb1131 hg w5 hbox hb; have n0_ := Aside0.mk (below_step (zb0 HB.out) hb); have n1_ := Aside0.mk (hbox); have n2_ := Aside0.mk ((by rw [hg]; exact (below_size (zb0 HB.out)) : w.heap.size ≤ gb1131)); have n3_ := Aside0.mk ((by rw [hg]; exact (below_size (zb0 HB.out)) : w.heap.size ≤ gb1131)); clear HB; have HB := n0_; have BK1131 := n1_; have GW1131 := n2_; have GE1131 := n3_; clear n0_ n1_ n2_ n3_; clear hb hbox hg; have hcz6_0 : w5.cell? ⟨gb1131, 0, none⟩ = some (.int .i64 a0_0) := (blk_cell BK1131.out 0).trans rfl; have hcz6_1 : w5.cell? ⟨gb1131, 1, none⟩ = some (.int .i64 a0_1) := (blk_cell BK1131.out 1).trans rfl; have hcz6_2 : w5.cell? ⟨gb1131, 2, none⟩ = some (.slice A0_2 l0_2.length c0_2) := (blk_cell BK1131.out 2).trans rfl; have hfz6_0 := blk_frozen BK1131.out 0; have hfz6_1 := blk_frozen BK1131.out 1; have hfz6_2 := blk_frozen BK1131.out 2) | ((with_reducible refine gate_callee (f := 79) rfl ?_); refine goesL_ (some 8) rfl rfl Try.func79 (by kernel_rfl) rfl #[.slice A0_2 l0_2.length c0_2, .int .i64 a1] rfl zl ?_; (with_reducible refine (laws_heldInt64S.calls k _ _ l0_2 a1 t1132 _ ?side1 ?side2 A3.out).mono ?_); (case side1 => exact zc (Kd.C_below HR0_2.out HB.out)); (case side2 => exact HC0_2.out); rintro e w' ⟨rfl, ⟨nd, rfl⟩⟩; refine ⟨_, rfl, ?_⟩))
  go_ret
  exact ⟨ze, zb1 HB.out GE1131.out⟩
 ·rw [if_neg c4] at H
  have c4b0 : decide (t1132 < 0) = false := decide_eq_false c4
  clear c4
  obtain rfl := Option.some.inj H
  go_enter Try.func53, Try.ntmps53
  go_wp2_with (first | ((with_reducible refine gate_dst (N := 2) rfl ?_); refine box_event ?hg (N := 2) ?hd (cs := #[.int .i64 a0_0, .int .i64 a0_1, .slice A0_2 l0_2.length c0_2]) (t := 54) ?hr ?_; (case hd => rfl); (case hg => rfl); (case hr => first | (go_simp; done) | (go_simp; rfl)); intro gb1131 hg w7 hbox hb; have n0_ := Aside0.mk (below_step (zb0 HB.out) hb); have n1_ := Aside0.mk (hbox); have n2_ := Aside0.mk ((by rw [hg]; exact (below_size (zb0 HB.out)) : w.heap.size ≤ gb1131)); have n3_ := Aside0.mk ((by rw [hg]; exact (below_size (zb0 HB.out)) : w.heap.size ≤ gb1131)); clear HB; have HB := n0_; have BK1131 := n1_; have GW1131 := n2_; have GE1131 := n3_; clear n0_ n1_ n2_ n3_; clear hb hbox hg; have hcz8_0 : w7.cell? ⟨gb1131, 0, none⟩ = some (.int .i64 a0_0) := (blk_cell BK1131.out 0).trans rfl; have hcz8_1 : w7.cell? ⟨gb1131, 1, none⟩ = some (.int .i64 a0_1) := (blk_cell BK1131.out 1).trans rfl; have hcz8_2 : w7.cell? ⟨gb1131, 2, none⟩ = some (.slice A0_2 l0_2.length c0_2) := (blk_cell BK1131.out 2).trans rfl; have hfz8_0 := blk_frozen BK1131.out 0; have hfz8_1 := blk_frozen BK1131.out 1; have hfz8_2 := blk_frozen BK1131.out 2) | ((with_reducible refine gate_callee (f := 79) rfl ?_); refine goesL_ (some 8) rfl rfl Try.func79 (by kernel_rfl) rfl #[.slice A0_2 l0_2.length c0_2, .int .i64 a1] rfl zl ?_; (with_reducible refine (laws_heldInt64S.calls k _ _ l0_2 a1 t1132 _ ?side1 ?side2 A3.out).mono ?_); (case side1 => exact zc (Kd.C_below HR0_2.out HB.out)); (case side2 => exact HC0_2.out); rintro e w' ⟨rfl, ⟨nd, rfl⟩⟩; refine ⟨_, rfl, ?_⟩))
  go_ret
  exact ⟨ze, zb1 HB.out GE1131.out⟩
end Go.Proofs.Ytmbeijjkfmgkpaa.Q
namespace Go.Proofs.Ytmbeijjkfmgkpaa.Pure
set_option linter.unusedVariables false
open Go.RowKit Go.Proofs.Ytmbeijjkfmgkpaa.Q Go.Proofs.YtmbeijjkfmgkpaaW.PrintWords Go.Proofs.YtmbeijjkfmgkpaaW.PrintLast Go.Proofs.YtmbeijjkfmgkpaaW.PrintMore
namespace Ex
theorem markS_l0 : ∀ (d i : Nat) (ys : List Int) (a : Int), i + d = ys.length → ys.length < 100000000 → 0 ≤ a → a + d ≤ 1000000000000000 → ∀ k, d < k →
    ∃ zs, laws_markInt64S.l0 k ys a i = some (a + d, zs) ∧ zs.length = ys.length ∧ (∀ j, j < i → zs[j]? = ys[j]?) ∧ (∀ j, j < d → zs[i + j]? = some (a + j)) := by
  intro d
  induction d with
  | zero =>
    intro i ys a hi hl h0 h1 k hk
    obtain ⟨k, rfl⟩ : ∃ m, k = m + 1 := ⟨k - 1, by omega⟩
    unfold laws_markInt64S.l0
    rw [if_neg (by omega)]
    exact ⟨ys, by simp, rfl, fun _ _ => rfl, fun j h => by omega⟩
  | succ d ih =>
    intro i ys a hi hl h0 h1 k hk
    obtain ⟨k, rfl⟩ : ∃ m, k = m + 1 := ⟨k - 1, by omega⟩
    unfold laws_markInt64S.l0
    have hw : wrap64 (a + 1) = a + 1 := by unfold wrap64; omega
    rw [if_pos (by omega), if_pos (by omega), wr i (by omega), hw, Int.toNat_natCast]
    · obtain ⟨zs, e, hz, hz1, hz2⟩ := ih (i + 1) (ys.set i a) (a + 1) (by rw [List.length_set]; omega) (by rw [List.length_set]; omega) (by omega) (by omega) k (by omega)
      rw [List.length_set] at hz
      refine ⟨zs, by rw [e]; congr 2; omega, hz, fun j hj => ?_, fun j hj => ?_⟩
      · rw [hz1 j (by omega), List.getElem?_set_ne (by omega)]
      · cases j with
        | zero => rw [Nat.add_zero, hz1 i (by omega), List.getElem?_set_self (by omega)]; simp
        | succ j => rw [show i + (j + 1) = i + 1 + j by omega, hz2 j (by omega)]; congr 1; omega
theorem heldS_l0 : ∀ (d i : Nat) (zs : List Int) (a : Int), i + d = zs.length → zs.length < 100000000 → 0 ≤ a → a + d ≤ 1000000000000000 → (∀ j, j < d → zs[i + j]? = some (a + j)) → ∀ k, d < k → laws_heldInt64S.l0 k zs a i = some (a + d) := by
  intro d
  induction d with
  | zero =>
    intro i zs a hi hl h0 h1 h k hk
    obtain ⟨k, rfl⟩ : ∃ m, k = m + 1 := ⟨k - 1, by omega⟩
    unfold laws_heldInt64S.l0
    rw [if_neg (by omega)]
    simp
  | succ d ih =>
    intro i zs a hi hl h0 h1 h k hk
    obtain ⟨k, rfl⟩ : ∃ m, k = m + 1 := ⟨k - 1, by omega⟩
    unfold laws_heldInt64S.l0
    have hw : wrap64 (a + 1) = a + 1 := by unfold wrap64; omega
    have e0 := h 0 (by omega)
    rw [Nat.add_zero, List.getElem?_eq_getElem (by omega)] at e0
    have e1 : zs[i]'(by omega) = a := by have := Option.some.inj e0; omega
    rw [if_pos (by omega), if_pos (by omega), rd_at (show i < zs.length by omega), e1, if_pos rfl, wr i (by omega), hw]
    · rw [ih (i + 1) zs (a + 1) (by omega) hl (by omega) (by omega) (fun j hj => by rw [show i + 1 + j = i + (j + 1) by omega, h (j + 1) (by omega)]; congr 1; omega) k (by omega)]
      congr 1; omega
theorem markS (ys : List Int) (a : Int) (hl : ys.length < 100000000) (h0 : 0 ≤ a) (h1 : a + ys.length ≤ 1000000000000000) (k : Nat) (hk : ys.length < k) :
    ∃ zs, laws_markInt64S.f k ys a = some (a + ys.length, zs) ∧ zs.length = ys.length ∧ ∀ k, ys.length < k → laws_heldInt64S.f k zs a = some (a + ys.length) := by
  obtain ⟨zs, e, hz, _, h⟩ := markS_l0 ys.length 0 ys a (by omega) hl h0 h1 k hk
  exact ⟨zs, e, hz, fun k hk => heldS_l0 ys.length 0 zs a (by omega) (by omega) h0 h1 h k hk⟩
theorem markSS_l0 (B : Nat) (hB : B < 100000000) : ∀ (d i : Nat) (ys : List (List Int)) (a : Int), i + d = ys.length → ys.length < 100000000 → 0 ≤ a → a + d * B ≤ 1000000000000000 → (∀ j, ∀ h : j < ys.length, i ≤ j → ys[j].length ≤ B) → ∀ k, d + B + 1 < k →
  ∃ t zs, laws_markInt64SS.l0 k ys a i = some (t, zs) ∧ a ≤ t ∧ t ≤ a + d * B ∧ zs.length = ys.length ∧ (∀ j, j < i → zs[j]? = ys[j]?) ∧ ∀ k, d + B + 1 < k → laws_heldInt64SS.l0 k zs a i = some t := by
 intro d
 induction d with
 | zero =>
  intro i ys a hi hl h0 h1 hr k hk
  obtain ⟨k, rfl⟩ : ∃ m, k = m + 1 := ⟨k - 1, by omega⟩
  unfold laws_markInt64SS.l0
  rw [if_neg (by omega)]
  refine ⟨a, ys, rfl, Int.le_refl _, by omega, rfl, fun _ _ => rfl, fun k hk => ?_⟩
  obtain ⟨k, rfl⟩ : ∃ m, k = m + 1 := ⟨k - 1, by omega⟩
  unfold laws_heldInt64SS.l0
  rw [if_neg (by omega)]
 | succ d ih =>
  intro i ys a hi hl h0 h1 hr k hk
  obtain ⟨k, rfl⟩ : ∃ m, k = m + 1 := ⟨k - 1, by omega⟩
  have hx := hr i (by omega) (Nat.le_refl _)
  have hm : ((d + 1 : Nat) : Int) * (B : Int) = (d : Int) * B + B := by rw [show ((d + 1 : Nat) : Int) = (d : Int) + 1 by omega, Int.add_mul, Int.one_mul]
  have hp : 0 ≤ (d : Int) * B := Int.mul_nonneg (by omega) (by omega)
  rw [hm] at h1 ⊢
  obtain ⟨z, e, hz, hh⟩ := markS (ys[i]'(by omega)) a (by omega) h0 (by omega) k (by omega)
  obtain ⟨t, zs, e2, ht0, ht1, hl2, hq, hh2⟩ := ih (i + 1) (ys.set i z) (a + (ys[i]'(by omega)).length) (by rw [List.length_set]; omega) (by rw [List.length_set]; omega) (by omega) (by omega) (fun j hj hij => by
   rw [List.getElem_set_ne (by omega)]
   exact hr j (by rw [List.length_set] at hj; exact hj) (by omega)) k (by omega)
  rw [List.length_set] at hl2
  unfold laws_markInt64SS.l0
  rw [if_pos (by omega), if_pos (by omega), rdL_at (show i < ys.length by omega), e, Option.bind_some, wr i (by omega), Int.toNat_natCast]
  refine ⟨t, zs, e2, by omega, by omega, hl2, fun j hj => by rw [hq j (by omega), List.getElem?_set_ne (by omega)], fun k hk => ?_⟩
  obtain ⟨k, rfl⟩ : ∃ m, k = m + 1 := ⟨k - 1, by omega⟩
  have e3 := hq i (by omega)
  rw [List.getElem?_set_self (by omega), List.getElem?_eq_getElem (by omega)] at e3
  have e4 : zs[i]'(by omega) = z := Option.some.inj e3
  unfold laws_heldInt64SS.l0
  rw [if_pos (by omega), if_pos (by omega), rdL_at (show i < zs.length by omega), e4, hh k (by omega), Option.bind_some, if_neg (by omega), wr i (by omega)]
  exact hh2 k (by omega)
theorem markSS (ys : List (List Int)) (B : Nat) (hB : B ≤ 1048576) (hl : ys.length ≤ 1048576) (hr : ∀ y ∈ ys, y.length ≤ B) (k : Nat) (hk : ys.length + B + 1 < k) :
    ∃ t zs, laws_markInt64SS.f k ys 1 = some (t, zs) ∧ 1 ≤ t ∧ zs.length = ys.length ∧ ∀ k, ys.length + B + 1 < k → laws_heldInt64SS.f k zs 1 = some t := by
  have hmul : (ys.length : Int) * (B : Int) ≤ 1048576 * 1048576 := Int.mul_le_mul (by omega) (by omega) (by omega) (by omega)
  obtain ⟨t, zs, e, h0, h1, h2, _, h3⟩ := markSS_l0 B (by omega) ys.length 0 ys 1 (by omega) (by omega) (by omega) (by omega) (fun j h _ => hr _ (List.getElem_mem h)) k hk
  exact ⟨t, zs, e, h0, h2, h3⟩
theorem markFam (n : Int) (gs : List (List Int)) (hl : gs.length ≤ 1048576) (hr : ∀ g ∈ gs, g.length ≤ 1048576) : ∃ km mr1 mr2, laws_markInt64SS.f km gs 1 = some (mr1, mr2) ∧ ¬ mr1 < 0 := by
  obtain ⟨k, hk⟩ : ∃ k, gs.length + 1048576 + 1 < k := ⟨_, Nat.lt_succ_self _⟩
  obtain ⟨t, zs, e, h, _⟩ := markSS gs 1048576 (by omega) hl hr k hk
  exact ⟨k, t, zs, e, by omega⟩
theorem markRanks (a b : Int) (l : List Int) (hl : l.length ≤ 1048576) (k : Nat) (hk : l.length < k) :
    ∃ zs, laws_markRanks.f k a b l 1 = some (1 + (l.length : Int), zs) ∧ zs.length = l.length ∧ ∀ k, l.length < k → laws_heldRanks.f k a b zs 1 = some (1 + (l.length : Int)) := by
  obtain ⟨zs, e, hz, hh⟩ := markS l 1 (by omega) (by omega) (by omega) k hk
  refine ⟨zs, ?_, hz, fun k hk => ?_⟩
  · unfold laws_markRanks.f
    rw [e]; rfl
  · unfold laws_heldRanks.f
    rw [hh k hk, Option.bind_some, if_neg (by omega)]
theorem eqRanks (a b : Int) (l : List Int) (hl : l.length ≤ 1048576) (k : Nat) (hk : l.length < k) : laws_eqRanks.f k a b l a b l = some true := by
  unfold laws_eqRanks.f
  rw [if_pos rfl, if_pos rfl, eqS l (by omega) k hk, Option.bind_some, if_pos rfl]
end Ex
end Go.Proofs.Ytmbeijjkfmgkpaa.Pure
namespace Go.Proofs.Ytmbeijjkfmgkpaa.Q
open Go.RowKit Go.Proofs.YtmbeijjkfmgkpaaW.PrintWords Go.Proofs.YtmbeijjkfmgkpaaW.PrintLast Go.Proofs.YtmbeijjkfmgkpaaW.PrintMore
attribute [local go_sem] max2_int min2_int max_two min_two max_three min_three max_four min_four
set_option linter.unusedVariables false
set_option linter.unusedSimpArgs false
mutual
def laws_FnExactPortRanks.j0 : Nat → Int → Int → Bool → Int → List (List Int) → Int → Int → List Int → Int → List (List Int) → Int → Int → List Int → Option (Bool)
 | 0, _, _, _, _, _, _, _, _, _, _, _, _, _ => none
 | k + 1, x5, x8, x40, x1134000, x1134001, x1146000, x1146001, x1146002, x1151000, x1151001, x1158000, x1158001, x1158002 => if x40 = true then (some false) else ((laws_toFamily.f k x1134000 x1134001).bind fun bt1159 => ((laws_eqFamily.f k x1151000 x1151001 bt1159.1 bt1159.2).bind fun t1163 => (if t1163 = true then (if 1 < 0 then (laws_FnExactPortRanks.j1 k x5 true x1134000 x1134001 x1146000 x1146001 x1146002 x1158000 x1158001 x1158002) else ((laws_eqRanks.f k x1158000 x1158001 x1158002 x1146000 x1146001 x1146002).bind fun t1164 => (if t1164 = true then (laws_FnExactPortRanks.j1 k x5 (x8 != x5) x1134000 x1134001 x1146000 x1146001 x1146002 x1158000 x1158001 x1158002) else (laws_FnExactPortRanks.j1 k x5 true x1134000 x1134001 x1146000 x1146001 x1146002 x1158000 x1158001 x1158002)))) else (some false))))
def laws_FnExactPortRanks.j1 : Nat → Int → Bool → Int → List (List Int) → Int → Int → List Int → Int → Int → List Int → Option (Bool)
 | 0, _, _, _, _, _, _, _, _, _, _ => none
 | k + 1, x5, x61, x1134000, x1134001, x1146000, x1146001, x1146002, x1158000, x1158001, x1158002 => if x61 = true then (some false) else ((laws_markRanks.f k x1158000 x1158001 x1158002 1).bind fun bt1165 => ((laws_heldRanks.f k x1158000 x1158001 bt1165.2 1).bind fun t1167 => (if t1167 < 0 then (some false) else (if t1167 = bt1165.1 then ((laws_toFamily.f k x1134000 x1134001).bind fun bt1168 => ((impl_PortRanks.f k bt1168.1 bt1168.2).bind fun bt1172 => ((laws_eqRanks.f k bt1172.1 bt1172.2.1 bt1172.2.2.1 x1146000 x1146001 x1146002).bind fun t1179 => (if t1179 = true then (laws_FnExactPortRanks.j2 k bt1165.1 (bt1172.2.2.2 != x5) x1158000 x1158001 bt1165.2) else (laws_FnExactPortRanks.j2 k bt1165.1 true x1158000 x1158001 bt1165.2))))) else (some false)))))
def laws_FnExactPortRanks.j2 : Nat → Int → Bool → Int → Int → List Int → Option (Bool)
 | 0, _, _, _, _, _ => none
 | k + 1, x10, x87, x1158000, x1158001, x1158002 => if x87 = true then (some false) else ((laws_heldRanks.f k x1158000 x1158001 x1158002 1).bind fun t1180 => (if t1180 < 0 then (some false) else (if t1180 = x10 then (some true) else (some false))))
end
def laws_FnExactPortRanks.f (k : Nat) (a0_0 : Int) (l0_1 : List (List Int)) : Option (Bool) := (laws_szFamily.f k a0_0 l0_1 1048576).bind fun t1134 => (if t1134 < 0 then (some true) else ((laws_toFamily.f k a0_0 l0_1).bind fun bt1135 => ((spec_PortRanks.f k bt1135.1 bt1135.2).bind fun bt1139 => ((laws_toFamily.f k a0_0 l0_1).bind fun bt1146 => ((impl_PortRanks.f k bt1146.1 bt1146.2).bind fun bt1151 => ((laws_eqRanks.f k bt1151.1 bt1151.2.1 bt1151.2.2.1 bt1139.1 bt1139.2.1 bt1139.2.2.1).bind fun t1158 => (if t1158 = true then (laws_FnExactPortRanks.j0 k bt1139.2.2.2 bt1151.2.2.2 (bt1151.2.2.2 != bt1139.2.2.2) a0_0 l0_1 bt1139.1 bt1139.2.1 bt1139.2.2.1 bt1146.1 bt1146.2 bt1151.1 bt1151.2.1 bt1151.2.2.1) else (laws_FnExactPortRanks.j0 k bt1139.2.2.2 bt1151.2.2.2 true a0_0 l0_1 bt1139.1 bt1139.2.1 bt1139.2.2.1 bt1146.1 bt1146.2 bt1151.1 bt1151.2.1 bt1151.2.2.1))))))))
set_option maxHeartbeats 8000000 in
set_option maxRecDepth 100000 in
theorem laws_FnExactPortRanks.calls (k : Nat) (a0_0 : Int) (A0_1 : Option Addr) (c0_1 : Nat) (l0_1 : List (List Int)) (r : Bool) (w : World) (hr0_1 : Kd.C (Kd.slice 2 (Kd.int .i64)) w A0_1 l0_1.length l0_1) (hc0_1 : l0_1.length ≤ c0_1) (hMk : ∀ t a b, laws_szFamily.f k a0_0 l0_1 1048576 = some t → ¬ t < 0 → laws_toFamily.f k a0_0 l0_1 = some (a, b) → ∃ km mr1 mr2, laws_markInt64SS.f km b 1 = some (mr1, mr2) ∧ ¬ mr1 < 0) (h : laws_FnExactPortRanks.f k a0_0 l0_1 = some r) :
  Calls Try.prog 9 #[.agg #[.int .i64 a0_0, .slice A0_1 l0_1.length c0_1]] w fun e w' => e = .returned (.bool r) ∧ Below w.heap.size w w' := by
 have hu24 := Try.underlying24
 have hu54 := Try.underlying54
 have hu31 := Try.underlying31
 have HR0_1 := Aside0.mk hr0_1
 have HC0_1 := Aside0.mk hc0_1
 clear hr0_1 hc0_1
 have HB := Aside0.mk (Below.refl w.heap.size w)
 have H : ((laws_szFamily.f k a0_0 l0_1 1048576).bind fun t1134 => (if t1134 < 0 then (some true) else ((laws_toFamily.f k a0_0 l0_1).bind fun bt1135 => ((spec_PortRanks.f k bt1135.1 bt1135.2).bind fun bt1139 => ((laws_toFamily.f k a0_0 l0_1).bind fun bt1146 => ((impl_PortRanks.f k bt1146.1 bt1146.2).bind fun bt1151 => ((laws_eqRanks.f k bt1151.1 bt1151.2.1 bt1151.2.2.1 bt1139.1 bt1139.2.1 bt1139.2.2.1).bind fun t1158 => (if t1158 = true then (laws_FnExactPortRanks.j0 k bt1139.2.2.2 bt1151.2.2.2 (bt1151.2.2.2 != bt1139.2.2.2) a0_0 l0_1 bt1139.1 bt1139.2.1 bt1139.2.2.1 bt1146.1 bt1146.2 bt1151.1 bt1151.2.1 bt1151.2.2.1) else (laws_FnExactPortRanks.j0 k bt1139.2.2.2 bt1151.2.2.2 true a0_0 l0_1 bt1139.1 bt1139.2.1 bt1139.2.2.1 bt1146.1 bt1146.2 bt1151.1 bt1151.2.1 bt1151.2.2.1))))))))) = some r := h
 clear h
 replace H := Option.bind_eq_some_iff.mp H
 obtain ⟨t1134, A20, H⟩ := H
 replace H : (if t1134 < 0 then (some true) else ((laws_toFamily.f k a0_0 l0_1).bind fun bt1135 => ((spec_PortRanks.f k bt1135.1 bt1135.2).bind fun bt1139 => ((laws_toFamily.f k a0_0 l0_1).bind fun bt1146 => ((impl_PortRanks.f k bt1146.1 bt1146.2).bind fun bt1151 => ((laws_eqRanks.f k bt1151.1 bt1151.2.1 bt1151.2.2.1 bt1139.1 bt1139.2.1 bt1139.2.2.1).bind fun t1158 => (if t1158 = true then (laws_FnExactPortRanks.j0 k bt1139.2.2.2 bt1151.2.2.2 (bt1151.2.2.2 != bt1139.2.2.2) a0_0 l0_1 bt1139.1 bt1139.2.1 bt1139.2.2.1 bt1146.1 bt1146.2 bt1151.1 bt1151.2.1 bt1151.2.2.1) else (laws_FnExactPortRanks.j0 k bt1139.2.2.2 bt1151.2.2.2 true a0_0 l0_1 bt1139.1 bt1139.2.1 bt1139.2.2.1 bt1146.1 bt1146.2 bt1151.1 bt1151.2.1 bt1151.2.2.1)))))))) = some r := H
 have A2 := Aside0.mk A20
 clear A20
 by_cases c3 : t1134 < 0
 ·rw [if_pos c3] at H
  have c3b0 : decide (t1134 < 0) = true := decide_eq_true c3
  clear c3
  obtain rfl := Option.some.inj H
  go_enter Try.func9, Try.ntmps9
  go_wp2_with (first | ((with_reducible refine gate_dst (N := 1) rfl ?_); refine box_event ?hg (N := 1) ?hd (cs := #[.int .i64 a0_0, .slice A0_1 l0_1.length c0_1]) (t := 24) ?hr ?_; (case hd => rfl); (case hg => rfl); (case hr => first | (go_simp; done) | (go_simp; rfl)); intro gb1133 hg w4 hbox hb; have n0_ := Aside0.mk (below_step (zb0 HB.out) hb); have n1_ := Aside0.mk (hbox); have n2_ := Aside0.mk ((by rw [hg]; exact (below_size (zb0 HB.out)) : w.heap.size ≤ gb1133)); have n3_ := Aside0.mk ((by rw [hg]; exact (below_size (zb0 HB.out)) : w.heap.size ≤ gb1133)); clear HB; have HB := n0_; have BK1133 := n1_; have GW1133 := n2_; have GE1133 := n3_; clear n0_ n1_ n2_ n3_; clear hb hbox hg; have hcz5_0 : w4.cell? ⟨gb1133, 0, none⟩ = some (.int .i64 a0_0) := (blk_cell BK1133.out 0).trans rfl; have hcz5_1 : w4.cell? ⟨gb1133, 1, none⟩ = some (.slice A0_1 l0_1.length c0_1) := (blk_cell BK1133.out 1).trans rfl; have hfz5_0 := blk_frozen BK1133.out 0; have hfz5_1 := blk_frozen BK1133.out 1) | ((with_reducible refine gate_callee (f := 12) rfl ?_); refine goesL_ (some 16) rfl rfl Try.func12 (by kernel_rfl) rfl #[.agg #[.int .i64 a0_0, .slice A0_1 l0_1.length c0_1], .int .i64 1048576] rfl zl ?_; (with_reducible refine (laws_szFamily.calls k a0_0 _ _ l0_1 1048576 t1134 _ ?side1 ?side2 A2.out).mono ?_); (case side1 => exact zc (Kd.C_below HR0_1.out HB.out)); (case side2 => exact HC0_1.out); rintro e w6 ⟨rfl, hb⟩; refine ⟨_, rfl, ?_⟩; have n0_ := Aside0.mk (blk_below (g := gb1133) (o := .cells #[.int .i64 a0_0, .slice A0_1 l0_1.length c0_1] 24 (0, 0)) (zk BK1133.out) hb); have n1_ := Aside0.mk (below_step (zb1 HB.out GE1133.out) hb); clear BK1133; clear HB; have BK1133 := n0_; have HB := n1_; clear n0_ n1_; (try clear hb); (try clear hb2); (try clear hk); (try clear hi)))
  go_ret
  exact ⟨ze, zb1 HB.out GE1133.out⟩
 ·rw [if_neg c3] at H
  have c3b0 : decide (t1134 < 0) = false := decide_eq_false c3
  have NG := Aside0.mk c3
  clear c3
  replace H := Option.bind_eq_some_iff.mp H
  obtain ⟨⟨t1135, t1136⟩, A70, H⟩ := H
  replace H : ((spec_PortRanks.f k t1135 t1136).bind fun bt1139 => ((laws_toFamily.f k a0_0 l0_1).bind fun bt1146 => ((impl_PortRanks.f k bt1146.1 bt1146.2).bind fun bt1151 => ((laws_eqRanks.f k bt1151.1 bt1151.2.1 bt1151.2.2.1 bt1139.1 bt1139.2.1 bt1139.2.2.1).bind fun t1158 => (if t1158 = true then (laws_FnExactPortRanks.j0 k bt1139.2.2.2 bt1151.2.2.2 (bt1151.2.2.2 != bt1139.2.2.2) a0_0 l0_1 bt1139.1 bt1139.2.1 bt1139.2.2.1 bt1146.1 bt1146.2 bt1151.1 bt1151.2.1 bt1151.2.2.1) else (laws_FnExactPortRanks.j0 k bt1139.2.2.2 bt1151.2.2.2 true a0_0 l0_1 bt1139.1 bt1139.2.1 bt1139.2.2.1 bt1146.1 bt1146.2 bt1151.1 bt1151.2.1 bt1151.2.2.1)))))) = some r := H
  have A7 := Aside0.mk A70
  clear A70
  replace H := Option.bind_eq_some_iff.mp H
  obtain ⟨⟨t1139, t1140, t1141, t1144⟩, A80, H⟩ := H
  replace H : ((laws_toFamily.f k a0_0 l0_1).bind fun bt1146 => ((impl_PortRanks.f k bt1146.1 bt1146.2).bind fun bt1151 => ((laws_eqRanks.f k bt1151.1 bt1151.2.1 bt1151.2.2.1 t1139 t1140 t1141).bind fun t1158 => (if t1158 = true then (laws_FnExactPortRanks.j0 k t1144 bt1151.2.2.2 (bt1151.2.2.2 != t1144) a0_0 l0_1 t1139 t1140 t1141 bt1146.1 bt1146.2 bt1151.1 bt1151.2.1 bt1151.2.2.1) else (laws_FnExactPortRanks.j0 k t1144 bt1151.2.2.2 true a0_0 l0_1 t1139 t1140 t1141 bt1146.1 bt1146.2 bt1151.1 bt1151.2.1 bt1151.2.2.1))))) = some r := H
  have A8 := Aside0.mk A80
  clear A80
  replace H := Option.bind_eq_some_iff.mp H
  obtain ⟨⟨t1146, t1147⟩, A90, H⟩ := H
  obtain ⟨km, mr1, mr2, hm1_, hm2_⟩ := hMk _ _ _ A2.out NG.out A90
  have HMk := Aside0.mk hm1_
  have HMn := Aside0.mk hm2_
  clear hm1_ hm2_ hMk
  replace H : ((impl_PortRanks.f k t1146 t1147).bind fun bt1151 => ((laws_eqRanks.f k bt1151.1 bt1151.2.1 bt1151.2.2.1 t1139 t1140 t1141).bind fun t1158 => (if t1158 = true then (laws_FnExactPortRanks.j0 k t1144 bt1151.2.2.2 (bt1151.2.2.2 != t1144) a0_0 l0_1 t1139 t1140 t1141 t1146 t1147 bt1151.1 bt1151.2.1 bt1151.2.2.1) else (laws_FnExactPortRanks.j0 k t1144 bt1151.2.2.2 true a0_0 l0_1 t1139 t1140 t1141 t1146 t1147 bt1151.1 bt1151.2.1 bt1151.2.2.1)))) = some r := H
  have A9 := Aside0.mk A90
  clear A90
  replace H := Option.bind_eq_some_iff.mp H
  obtain ⟨⟨t1151, t1152, t1153, t1156⟩, A100, H⟩ := H
  replace H : ((laws_eqRanks.f k t1151 t1152 t1153 t1139 t1140 t1141).bind fun t1158 => (if t1158 = true then (laws_FnExactPortRanks.j0 k t1144 t1156 (t1156 != t1144) a0_0 l0_1 t1139 t1140 t1141 t1146 t1147 t1151 t1152 t1153) else (laws_FnExactPortRanks.j0 k t1144 t1156 true a0_0 l0_1 t1139 t1140 t1141 t1146 t1147 t1151 t1152 t1153))) = some r := H
  have A10 := Aside0.mk A100
  clear A100
  have HC11 := Aside0.mk H
  clear H
  go_enter Try.func9, Try.ntmps9
  go_upto_region 8 with (first | ((with_reducible refine gate_dst (N := 1) rfl ?_); refine box_event ?hg (N := 1) ?hd (cs := #[.int .i64 a0_0, .slice A0_1 l0_1.length c0_1]) (t := 24) ?hr ?_; (case hd => rfl); (case hg => rfl); (case hr => first | (go_simp; done) | (go_simp; rfl)); intro gb1133 hg w12 hbox hb; have n0_ := Aside0.mk (below_step (zb0 HB.out) hb); have n1_ := Aside0.mk (hbox); have n2_ := Aside0.mk ((by rw [hg]; exact (below_size (zb0 HB.out)) : w.heap.size ≤ gb1133)); have n3_ := Aside0.mk ((by rw [hg]; exact (below_size (zb0 HB.out)) : w.heap.size ≤ gb1133)); clear HB; have HB := n0_; have BK1133 := n1_; have GW1133 := n2_; have GE1133 := n3_; clear n0_ n1_ n2_ n3_; clear hb hbox hg; have hcz13_0 : w12.cell? ⟨gb1133, 0, none⟩ = some (.int .i64 a0_0) := (blk_cell BK1133.out 0).trans rfl; have hcz13_1 : w12.cell? ⟨gb1133, 1, none⟩ = some (.slice A0_1 l0_1.length c0_1) := (blk_cell BK1133.out 1).trans rfl; have hfz13_0 := blk_frozen BK1133.out 0; have hfz13_1 := blk_frozen BK1133.out 1) | ((with_reducible refine gate_callee (f := 12) rfl ?_); refine goesL_ (some 16) rfl rfl Try.func12 (by kernel_rfl) rfl #[.agg #[.int .i64 a0_0, .slice A0_1 l0_1.length c0_1], .int .i64 1048576] rfl zl ?_; (with_reducible refine (laws_szFamily.calls k a0_0 _ _ l0_1 1048576 t1134 _ ?side1 ?side2 A2.out).mono ?_); (case side1 => exact zc (Kd.C_below HR0_1.out HB.out)); (case side2 => exact HC0_1.out); rintro e w14 ⟨rfl, hb⟩; refine ⟨_, rfl, ?_⟩; have n0_ := Aside0.mk (blk_below (g := gb1133) (o := .cells #[.int .i64 a0_0, .slice A0_1 l0_1.length c0_1] 24 (0, 0)) (zk BK1133.out) hb); have n1_ := Aside0.mk (below_step (zb1 HB.out GE1133.out) hb); clear BK1133; clear HB; have BK1133 := n0_; have HB := n1_; clear n0_ n1_; (try clear hb); (try clear hb2); (try clear hk); (try clear hi); have hcz15_0 : w14.cell? ⟨gb1133, 0, none⟩ = some (.int .i64 a0_0) := (blk_cell BK1133.out 0).trans rfl; have hcz15_1 : w14.cell? ⟨gb1133, 1, none⟩ = some (.slice A0_1 l0_1.length c0_1) := (blk_cell BK1133.out 1).trans rfl; have hfz15_0 := blk_frozen BK1133.out 0; have hfz15_1 := blk_frozen BK1133.out 1) | ((with_reducible refine gate_callee (f := 14) rfl ?_); refine goesL_ (some 21) rfl rfl Try.func14 (by kernel_rfl) rfl #[.agg #[.int .i64 a0_0, .slice A0_1 l0_1.length c0_1]] rfl zl ?_; (with_reducible refine (laws_toFamily.calls k a0_0 _ _ l0_1 t1135 t1136 _ ?side1 ?side2 A7.out).mono ?_); (case side1 => exact zc (Kd.C_below HR0_1.out HB.out)); (case side2 => exact HC0_1.out); rintro e w16 ⟨v1137, rfl, ho0, hb⟩; refine ⟨_, rfl, ?_⟩; have n0_ := Aside0.mk (Kd.S_lower ho0 (below_size (zb1 HB.out GE1133.out))); have n1_ := Aside0.mk (blk_below (g := gb1133) (o := .cells #[.int .i64 a0_0, .slice A0_1 l0_1.length c0_1] 24 (0, 0)) (zk BK1133.out) hb); have n2_ := Aside0.mk (below_step (zb1 HB.out GE1133.out) hb); clear BK1133; clear HB; have HO1138 := n0_; have BK1133 := n1_; have HB := n2_; clear n0_ n1_ n2_; (try clear hb); (try clear hb2); (try clear hk); (try clear hi); (try clear ho0); obtain ⟨Ao17, co17, eo17⟩ := Kd.S_slice HO1138.out; subst eo17) | ((with_reducible refine gate_callee (f := 52) rfl ?_); refine goesL_ (some 22) rfl rfl Try.func52 (by kernel_rfl) rfl #[.agg #[.int .i64 t1135, .slice Ao17 t1136.length co17]] rfl zl ?_; (with_reducible refine (spec_PortRanks.calls k t1135 _ _ t1136 t1139 t1140 t1141 t1144 _ ?side1 ?side2 A8.out).mono ?_); (case side1 => repeat (first | exact (Kd.S_reads' HO1138.out).2.2 | (with_reducible refine Kd.C_alloc ?_ _) | (with_reducible refine Kd.C_drewN ?_ _) | (with_reducible refine Kd.C_drew ?_))); (case side2 => exact (Kd.S_reads' HO1138.out).2.1); rintro e w18 ⟨v1142, rfl, ho0, hb⟩; refine ⟨_, rfl, ?_⟩; have n0_ := Aside0.mk (Kd.S_elder' (zs HO1138.out) (Kd.R_base ho0) hb); have n1_ := Aside0.mk (Kd.R_lower ho0 (below_size (zb1 HB.out GE1133.out))); have n2_ := Aside0.mk (blk_below (g := gb1133) (o := .cells #[.int .i64 a0_0, .slice A0_1 l0_1.length c0_1] 24 (0, 0)) (zk BK1133.out) hb); have n3_ := Aside0.mk (below_step (zb1 HB.out GE1133.out) hb); clear HO1138; clear BK1133; clear HB; have HO1138 := n0_; have HO1143 := n1_; have BK1133 := n2_; have HB := n3_; clear n0_ n1_ n2_ n3_; (try clear hb); (try clear hb2); (try clear hk); (try clear hi); (try clear ho0)) | ((with_reducible refine gate_dst (N := 4) rfl ?_); refine box_event ?hg (N := 4) ?hd (cs := #[.int .i64 0, .int .i64 0, .slice none 0 0]) (t := 54) ?hr ?_; (case hd => rfl); (case hg => rfl); (case hr => first | (go_simp; done) | (go_simp; rfl)); intro gb1145 hg w19 hbox hb; have n0_ := Aside0.mk (Kd.S_below (zs HO1138.out) hb); have n1_ := Aside0.mk (Kd.R_below (zr HO1143.out) hb); have n2_ := Aside0.mk (blk_below (g := gb1133) (o := .cells #[.int .i64 a0_0, .slice A0_1 l0_1.length c0_1] 24 (0, 0)) (zk BK1133.out) hb); have n3_ := Aside0.mk (below_step (zb1 HB.out GE1133.out) hb); have n4_ := Aside0.mk (hbox); have n5_ := Aside0.mk ((by rw [hg]; exact (below_size (zb1 HB.out GE1133.out)) : w.heap.size ≤ gb1145)); have n6_ := Aside0.mk ((by rw [hg]; exact (below_size (zb1 HB.out GE1133.out)) : w.heap.size ≤ gb1145)); have n7_ := Aside0.mk ((by rw [hg]; exact Nat.ne_of_lt (blk_lt (g := gb1133) (o := .cells #[.int .i64 a0_0, .slice A0_1 l0_1.length c0_1] 24 (0, 0)) (zk BK1133.out)) : gb1133 ≠ gb1145)); have n8_ := Aside0.mk ((by rw [hg]; exact Nat.ne_of_gt (blk_lt (g := gb1133) (o := .cells #[.int .i64 a0_0, .slice A0_1 l0_1.length c0_1] 24 (0, 0)) (zk BK1133.out)) : gb1145 ≠ gb1133)); clear HO1138; clear HO1143; clear BK1133; clear HB; have HO1138 := n0_; have HO1143 := n1_; have BK1133 := n2_; have HB := n3_; have BK1145 := n4_; have GW1145 := n5_; have GE1145 := n6_; have NB1133_1145 := n7_; have NB1145_1133 := n8_; clear n0_ n1_ n2_ n3_ n4_ n5_ n6_ n7_ n8_; clear hb hbox hg; have hnb20 := NB1145_1133.out; have hnc20 := NB1133_1145.out; have hcz21_0 : w19.cell? ⟨gb1145, 0, none⟩ = some (.int .i64 0) := (blk_cell BK1145.out 0).trans rfl; have hcz21_1 : w19.cell? ⟨gb1145, 1, none⟩ = some (.int .i64 0) := (blk_cell BK1145.out 1).trans rfl; have hcz21_2 : w19.cell? ⟨gb1145, 2, none⟩ = some (.slice none 0 0) := (blk_cell BK1145.out 2).trans rfl; have hfz21_0 := blk_frozen BK1145.out 0; have hfz21_1 := blk_frozen BK1145.out 1; have hfz21_2 := blk_frozen BK1145.out 2; obtain ⟨Ao22, co22, eo22⟩ := Kd.R_slice HO1143.out; subst eo22; have hcz23_0 : w19.cell? ⟨gb1133, 0, none⟩ = some (.int .i64 a0_0) := (blk_cell BK1133.out 0).trans rfl; have hcz23_1 : w19.cell? ⟨gb1133, 1, none⟩ = some (.slice A0_1 l0_1.length c0_1) := (blk_cell BK1133.out 1).trans rfl; have hfz23_0 := blk_frozen BK1133.out 0; have hfz23_1 := blk_frozen BK1133.out 1) | ((with_reducible refine gate_callee (f := 14) rfl ?_); refine goesL_ (some 26) rfl rfl Try.func14 (by kernel_rfl) rfl #[.agg #[.int .i64 a0_0, .slice A0_1 l0_1.length c0_1]] rfl zl ?_; (with_reducible refine (laws_toFamily.calls k a0_0 _ _ l0_1 t1146 t1147 _ ?side1 ?side2 A9.out).mono ?_); (case side1 => exact Kd.C_below HR0_1.out (zb2 HB.out GE1133.out GE1145.out)); (case side2 => exact HC0_1.out); rintro e w24 ⟨v1148, rfl, ho0, hb⟩; refine ⟨_, rfl, ?_⟩; have n0_ := Aside0.mk (Kd.S_elder' (by (with_reducible repeat (first | apply Kd.S_alloc | apply Kd.S_drewN | apply Kd.S_drew)); exact (Kd.S_mono (Kd.S_far (p := ⟨gb1145, 2, none⟩) (Kd.S_far (p := ⟨gb1145, 1, none⟩) (Kd.S_far (p := ⟨gb1145, 0, none⟩) (Kd.S_types HO1138.out BK1145.out (by decide)) (fun _ hk => hk.2) (.int .i64 t1139)) (fun _ hk => hk.2) (.int .i64 t1140)) (fun _ hk => hk.2) (.slice Ao22 t1141.length co22)) (fun _ h_ => h_.1))) (Kd.S_base ho0) hb); have n1_ := Aside0.mk (Kd.R_below (by (with_reducible repeat (first | apply Kd.R_alloc | apply Kd.R_drewN | apply Kd.R_drew)); exact (Kd.R_mono (Kd.R_far (p := ⟨gb1145, 2, none⟩) (Kd.R_far (p := ⟨gb1145, 1, none⟩) (Kd.R_far (p := ⟨gb1145, 0, none⟩) (Kd.R_types HO1143.out BK1145.out (by decide)) (fun _ hk => hk.2) (.int .i64 t1139)) (fun _ hk => hk.2) (.int .i64 t1140)) (fun _ hk => hk.2) (.slice Ao22 t1141.length co22)) (fun _ h_ => h_.1))) hb); have n2_ := Aside0.mk (Kd.S_lower (Kd.S_new' (Kd.S_new' ho0 (Kd.S_lt (by (with_reducible repeat (first | apply Kd.S_alloc | apply Kd.S_drewN | apply Kd.S_drew)); exact (Kd.S_mono (Kd.S_far (p := ⟨gb1145, 2, none⟩) (Kd.S_far (p := ⟨gb1145, 1, none⟩) (Kd.S_far (p := ⟨gb1145, 0, none⟩) (Kd.S_types HO1138.out BK1145.out (by decide)) (fun _ hk => hk.2) (.int .i64 t1139)) (fun _ hk => hk.2) (.int .i64 t1140)) (fun _ hk => hk.2) (.slice Ao22 t1141.length co22)) (fun _ h_ => h_.1))))) (Kd.R_lt (by (with_reducible repeat (first | apply Kd.R_alloc | apply Kd.R_drewN | apply Kd.R_drew)); exact (Kd.R_mono (Kd.R_far (p := ⟨gb1145, 2, none⟩) (Kd.R_far (p := ⟨gb1145, 1, none⟩) (Kd.R_far (p := ⟨gb1145, 0, none⟩) (Kd.R_types HO1143.out BK1145.out (by decide)) (fun _ hk => hk.2) (.int .i64 t1139)) (fun _ hk => hk.2) (.int .i64 t1140)) (fun _ hk => hk.2) (.slice Ao22 t1141.length co22)) (fun _ h_ => h_.1))))) (below_size (zb2 HB.out GE1133.out GE1145.out))); have n3_ := Aside0.mk (blk_below (g := gb1133) (o := .cells #[.int .i64 a0_0, .slice A0_1 l0_1.length c0_1] 24 (0, 0)) (by (with_reducible repeat (first | refine blk_drewN ?_ _ | refine blk_drew ?_ | refine blk_alloc ?_ _)); refine blk_far ?_ NB1133_1145.out _; (with_reducible repeat (first | refine blk_drewN ?_ _ | refine blk_drew ?_ | refine blk_alloc ?_ _)); refine blk_far ?_ NB1133_1145.out _; (with_reducible repeat (first | refine blk_drewN ?_ _ | refine blk_drew ?_ | refine blk_alloc ?_ _)); refine blk_far ?_ NB1133_1145.out _; (with_reducible repeat (first | refine blk_drewN ?_ _ | refine blk_drew ?_ | refine blk_alloc ?_ _)); exact BK1133.out) hb); have n4_ := Aside0.mk (blk_below (g := gb1145) (o := .cells #[.int .i64 t1139, .int .i64 t1140, .slice Ao22 t1141.length co22] 54 (0, 0)) (by (with_reducible repeat (first | refine blk_drewN ?_ _ | refine blk_drew ?_ | refine blk_alloc ?_ _)); refine blk_put (cs := #[.int .i64 t1139, .int .i64 t1140, .slice none 0 0]) ?_ 2 _ rfl; (with_reducible repeat (first | refine blk_drewN ?_ _ | refine blk_drew ?_ | refine blk_alloc ?_ _)); refine blk_put (cs := #[.int .i64 t1139, .int .i64 0, .slice none 0 0]) ?_ 1 _ rfl; (with_reducible repeat (first | refine blk_drewN ?_ _ | refine blk_drew ?_ | refine blk_alloc ?_ _)); refine blk_put (cs := #[.int .i64 0, .int .i64 0, .slice none 0 0]) ?_ 0 _ rfl; (with_reducible repeat (first | refine blk_drewN ?_ _ | refine blk_drew ?_ | refine blk_alloc ?_ _)); exact BK1145.out) hb); have n5_ := Aside0.mk (below_step (zb2 HB.out GE1133.out GE1145.out) hb); clear HO1138; clear HO1143; clear BK1133; clear BK1145; clear HB; have HO1138 := n0_; have HO1143 := n1_; have HO1149 := n2_; have BK1133 := n3_; have BK1145 := n4_; have HB := n5_; clear n0_ n1_ n2_ n3_ n4_ n5_; (try clear hb); (try clear hb2); (try clear hk); (try clear hi); (try clear ho0)) | ((with_reducible refine gate_dst (N := 6) rfl ?_); refine box_event ?hg (N := 6) ?hd (cs := #[.int .i64 0, .slice none 0 0]) (t := 31) ?hr ?_; (case hd => rfl); (case hg => rfl); (case hr => first | (go_simp; done) | (go_simp; rfl)); intro gb1150 hg w25 hbox hb; have n0_ := Aside0.mk (Kd.S_below (zs HO1138.out) hb); have n1_ := Aside0.mk (Kd.R_below (zr HO1143.out) hb); have n2_ := Aside0.mk (Kd.S_below (zs HO1149.out) hb); have n3_ := Aside0.mk (blk_below (g := gb1133) (o := .cells #[.int .i64 a0_0, .slice A0_1 l0_1.length c0_1] 24 (0, 0)) (zk BK1133.out) hb); have n4_ := Aside0.mk (blk_below (g := gb1145) (o := .cells #[.int .i64 t1139, .int .i64 t1140, .slice Ao22 t1141.length co22] 54 (0, 0)) (zk BK1145.out) hb); have n5_ := Aside0.mk (below_step (zb2 HB.out GE1133.out GE1145.out) hb); have n6_ := Aside0.mk (hbox); have n7_ := Aside0.mk ((by rw [hg]; exact (below_size (zb2 HB.out GE1133.out GE1145.out)) : w.heap.size ≤ gb1150)); have n8_ := Aside0.mk ((by rw [hg]; exact (below_size (zb2 HB.out GE1133.out GE1145.out)) : w.heap.size ≤ gb1150)); have n9_ := Aside0.mk ((by rw [hg]; exact Nat.ne_of_lt (blk_lt (g := gb1133) (o := .cells #[.int .i64 a0_0, .slice A0_1 l0_1.length c0_1] 24 (0, 0)) (zk BK1133.out)) : gb1133 ≠ gb1150)); have n10_ := Aside0.mk ((by rw [hg]; exact Nat.ne_of_gt (blk_lt (g := gb1133) (o := .cells #[.int .i64 a0_0, .slice A0_1 l0_1.length c0_1] 24 (0, 0)) (zk BK1133.out)) : gb1150 ≠ gb1133)); have n11_ := Aside0.mk ((by rw [hg]; exact Nat.ne_of_lt (blk_lt (g := gb1145) (o := .cells #[.int .i64 t1139, .int .i64 t1140, .slice Ao22 t1141.length co22] 54 (0, 0)) (zk BK1145.out)) : gb1145 ≠ gb1150)); have n12_ := Aside0.mk ((by rw [hg]; exact Nat.ne_of_gt (blk_lt (g := gb1145) (o := .cells #[.int .i64 t1139, .int .i64 t1140, .slice Ao22 t1141.length co22] 54 (0, 0)) (zk BK1145.out)) : gb1150 ≠ gb1145)); clear HO1138; clear HO1143; clear HO1149; clear BK1133; clear BK1145; clear HB; have HO1138 := n0_; have HO1143 := n1_; have HO1149 := n2_; have BK1133 := n3_; have BK1145 := n4_; have HB := n5_; have BK1150 := n6_; have GW1150 := n7_; have GE1150 := n8_; have NB1133_1150 := n9_; have NB1150_1133 := n10_; have NB1145_1150 := n11_; have NB1150_1145 := n12_; clear n0_ n1_ n2_ n3_ n4_ n5_ n6_ n7_ n8_ n9_ n10_ n11_ n12_; clear hb hbox hg; have hnb26 := NB1150_1133.out; have hnc26 := NB1133_1150.out; have hnb27 := NB1150_1145.out; have hnc27 := NB1145_1150.out; have hcz28_0 : w25.cell? ⟨gb1150, 0, none⟩ = some (.int .i64 0) := (blk_cell BK1150.out 0).trans rfl; have hcz28_1 : w25.cell? ⟨gb1150, 1, none⟩ = some (.slice none 0 0) := (blk_cell BK1150.out 1).trans rfl; have hfz28_0 := blk_frozen BK1150.out 0; have hfz28_1 := blk_frozen BK1150.out 1; obtain ⟨Ao29, co29, eo29⟩ := Kd.S_slice HO1149.out; subst eo29) | ((with_reducible refine gate_callee (f := 32) rfl ?_); refine goesL_ (some 29) rfl rfl Try.func32 (by kernel_rfl) rfl #[.agg #[.int .i64 t1146, .slice Ao29 t1147.length co29]] rfl zl ?_; (with_reducible refine (impl_PortRanks.calls k t1146 _ _ t1147 t1151 t1152 t1153 t1156 _ ?side1 ?side2 A10.out).mono ?_); (case side1 => refine (Kd.S_reads' (e := 26) (base := w.heap.size) (ok := fun k_ => ((True ∧ some k_ ≠ (.slice Ao17 t1136.length co17 : Value).ownBlock) ∧ some k_ ≠ (.slice Ao22 t1141.length co22 : Value).ownBlock)) (n := t1147.length) (c := co29) ?_).2.2; exact (by (with_reducible repeat (first | apply Kd.S_alloc | apply Kd.S_drewN | apply Kd.S_drew)); exact (Kd.S_mono (Kd.S_far (p := ⟨gb1150, 1, none⟩) (Kd.S_far (p := ⟨gb1150, 0, none⟩) (Kd.S_types HO1149.out BK1150.out (by decide)) (fun _ hk => hk.2) (.int .i64 t1146)) (fun _ hk => hk.2) (.slice Ao29 t1147.length co29)) (fun _ h_ => h_.1)))); (case side2 => exact (Kd.S_reads' HO1149.out).2.1); rintro e w30 ⟨v1154, rfl, ho0, hb⟩; refine ⟨_, rfl, ?_⟩; have n0_ := Aside0.mk (Kd.S_elder' (by (with_reducible repeat (first | apply Kd.S_alloc | apply Kd.S_drewN | apply Kd.S_drew)); exact (Kd.S_mono (Kd.S_far (p := ⟨gb1150, 1, none⟩) (Kd.S_far (p := ⟨gb1150, 0, none⟩) (Kd.S_types HO1138.out BK1150.out (by decide)) (fun _ hk => hk.2) (.int .i64 t1146)) (fun _ hk => hk.2) (.slice Ao29 t1147.length co29)) (fun _ h_ => h_.1))) (Kd.R_base ho0) hb); have n1_ := Aside0.mk (Kd.R_elder' (by (with_reducible repeat (first | apply Kd.R_alloc | apply Kd.R_drewN | apply Kd.R_drew)); exact (Kd.R_mono (Kd.R_far (p := ⟨gb1150, 1, none⟩) (Kd.R_far (p := ⟨gb1150, 0, none⟩) (Kd.R_types HO1143.out BK1150.out (by decide)) (fun _ hk => hk.2) (.int .i64 t1146)) (fun _ hk => hk.2) (.slice Ao29 t1147.length co29)) (fun _ h_ => h_.1))) (Kd.R_base ho0) hb); have n2_ := Aside0.mk (Kd.S_elder' (by (with_reducible repeat (first | apply Kd.S_alloc | apply Kd.S_drewN | apply Kd.S_drew)); exact (Kd.S_mono (Kd.S_far (p := ⟨gb1150, 1, none⟩) (Kd.S_far (p := ⟨gb1150, 0, none⟩) (Kd.S_types HO1149.out BK1150.out (by decide)) (fun _ hk => hk.2) (.int .i64 t1146)) (fun _ hk => hk.2) (.slice Ao29 t1147.length co29)) (fun _ h_ => h_.1))) (Kd.R_base ho0) hb); have n3_ := Aside0.mk (Kd.R_lower (Kd.R_new' ho0 (Kd.R_lt (by (with_reducible repeat (first | apply Kd.R_alloc | apply Kd.R_drewN | apply Kd.R_drew)); exact (Kd.R_mono (Kd.R_far (p := ⟨gb1150, 1, none⟩) (Kd.R_far (p := ⟨gb1150, 0, none⟩) (Kd.R_types HO1143.out BK1150.out (by decide)) (fun _ hk => hk.2) (.int .i64 t1146)) (fun _ hk => hk.2) (.slice Ao29 t1147.length co29)) (fun _ h_ => h_.1))))) (below_size (zb3 HB.out GE1133.out GE1145.out GE1150.out))); have n4_ := Aside0.mk (blk_below (g := gb1133) (o := .cells #[.int .i64 a0_0, .slice A0_1 l0_1.length c0_1] 24 (0, 0)) (by (with_reducible repeat (first | refine blk_drewN ?_ _ | refine blk_drew ?_ | refine blk_alloc ?_ _)); refine blk_far ?_ NB1133_1150.out _; (with_reducible repeat (first | refine blk_drewN ?_ _ | refine blk_drew ?_ | refine blk_alloc ?_ _)); refine blk_far ?_ NB1133_1150.out _; (with_reducible repeat (first | refine blk_drewN ?_ _ | refine blk_drew ?_ | refine blk_alloc ?_ _)); exact BK1133.out) hb); have n5_ := Aside0.mk (blk_below (g := gb1145) (o := .cells #[.int .i64 t1139, .int .i64 t1140, .slice Ao22 t1141.length co22] 54 (0, 0)) (by (with_reducible repeat (first | refine blk_drewN ?_ _ | refine blk_drew ?_ | refine blk_alloc ?_ _)); refine blk_far ?_ NB1145_1150.out _; (with_reducible repeat (first | refine blk_drewN ?_ _ | refine blk_drew ?_ | refine blk_alloc ?_ _)); refine blk_far ?_ NB1145_1150.out _; (with_reducible repeat (first | refine blk_drewN ?_ _ | refine blk_drew ?_ | refine blk_alloc ?_ _)); exact BK1145.out) hb); have n6_ := Aside0.mk (blk_below (g := gb1150) (o := .cells #[.int .i64 t1146, .slice Ao29 t1147.length co29] 31 (0, 0)) (by (with_reducible repeat (first | refine blk_drewN ?_ _ | refine blk_drew ?_ | refine blk_alloc ?_ _)); refine blk_put (cs := #[.int .i64 t1146, .slice none 0 0]) ?_ 1 _ rfl; (with_reducible repeat (first | refine blk_drewN ?_ _ | refine blk_drew ?_ | refine blk_alloc ?_ _)); refine blk_put (cs := #[.int .i64 0, .slice none 0 0]) ?_ 0 _ rfl; (with_reducible repeat (first | refine blk_drewN ?_ _ | refine blk_drew ?_ | refine blk_alloc ?_ _)); exact BK1150.out) hb); have n7_ := Aside0.mk (below_step (zb3 HB.out GE1133.out GE1145.out GE1150.out) hb); clear HO1138; clear HO1143; clear HO1149; clear BK1133; clear BK1145; clear BK1150; clear HB; have HO1138 := n0_; have HO1143 := n1_; have HO1149 := n2_; have HO1155 := n3_; have BK1133 := n4_; have BK1145 := n5_; have BK1150 := n6_; have HB := n7_; clear n0_ n1_ n2_ n3_ n4_ n5_ n6_ n7_; (try clear hb); (try clear hb2); (try clear hk); (try clear hi); (try clear ho0)) | ((with_reducible refine gate_dst (N := 7) rfl ?_); refine box_event ?hg (N := 7) ?hd (cs := #[.int .i64 0, .int .i64 0, .slice none 0 0]) (t := 54) ?hr ?_; (case hd => rfl); (case hg => rfl); (case hr => first | (go_simp; done) | (go_simp; rfl)); intro gb1157 hg w31 hbox hb; have n0_ := Aside0.mk (Kd.S_below (zs HO1138.out) hb); have n1_ := Aside0.mk (Kd.R_below (zr HO1143.out) hb); have n2_ := Aside0.mk (Kd.S_below (zs HO1149.out) hb); have n3_ := Aside0.mk (Kd.R_below (zr HO1155.out) hb); have n4_ := Aside0.mk (blk_below (g := gb1133) (o := .cells #[.int .i64 a0_0, .slice A0_1 l0_1.length c0_1] 24 (0, 0)) (zk BK1133.out) hb); have n5_ := Aside0.mk (blk_below (g := gb1145) (o := .cells #[.int .i64 t1139, .int .i64 t1140, .slice Ao22 t1141.length co22] 54 (0, 0)) (zk BK1145.out) hb); have n6_ := Aside0.mk (blk_below (g := gb1150) (o := .cells #[.int .i64 t1146, .slice Ao29 t1147.length co29] 31 (0, 0)) (zk BK1150.out) hb); have n7_ := Aside0.mk (below_step (zb3 HB.out GE1133.out GE1145.out GE1150.out) hb); have n8_ := Aside0.mk (hbox); have n9_ := Aside0.mk ((by rw [hg]; exact (below_size (zb3 HB.out GE1133.out GE1145.out GE1150.out)) : w.heap.size ≤ gb1157)); have n10_ := Aside0.mk ((by rw [hg]; exact (below_size (zb3 HB.out GE1133.out GE1145.out GE1150.out)) : w.heap.size ≤ gb1157)); have n11_ := Aside0.mk ((by rw [hg]; exact Nat.ne_of_lt (blk_lt (g := gb1133) (o := .cells #[.int .i64 a0_0, .slice A0_1 l0_1.length c0_1] 24 (0, 0)) (zk BK1133.out)) : gb1133 ≠ gb1157)); have n12_ := Aside0.mk ((by rw [hg]; exact Nat.ne_of_gt (blk_lt (g := gb1133) (o := .cells #[.int .i64 a0_0, .slice A0_1 l0_1.length c0_1] 24 (0, 0)) (zk BK1133.out)) : gb1157 ≠ gb1133)); have n13_ := Aside0.mk ((by rw [hg]; exact Nat.ne_of_lt (blk_lt (g := gb1145) (o := .cells #[.int .i64 t1139, .int .i64 t1140, .slice Ao22 t1141.length co22] 54 (0, 0)) (zk BK1145.out)) : gb1145 ≠ gb1157)); have n14_ := Aside0.mk ((by rw [hg]; exact Nat.ne_of_gt (blk_lt (g := gb1145) (o := .cells #[.int .i64 t1139, .int .i64 t1140, .slice Ao22 t1141.length co22] 54 (0, 0)) (zk BK1145.out)) : gb1157 ≠ gb1145)); have n15_ := Aside0.mk ((by rw [hg]; exact Nat.ne_of_lt (blk_lt (g := gb1150) (o := .cells #[.int .i64 t1146, .slice Ao29 t1147.length co29] 31 (0, 0)) (zk BK1150.out)) : gb1150 ≠ gb1157)); have n16_ := Aside0.mk ((by rw [hg]; exact Nat.ne_of_gt (blk_lt (g := gb1150) (o := .cells #[.int .i64 t1146, .slice Ao29 t1147.length co29] 31 (0, 0)) (zk BK1150.out)) : gb1157 ≠ gb1150)); clear HO1138; clear HO1143; clear HO1149; clear HO1155; clear BK1133; clear BK1145; clear BK1150; clear HB; have HO1138 := n0_; have HO1143 := n1_; have HO1149 := n2_; have HO1155 := n3_; have BK1133 := n4_; have BK1145 := n5_; have BK1150 := n6_; have HB := n7_; have BK1157 := n8_; have GW1157 := n9_; have GE1157 := n10_; have NB1133_1157 := n11_; have NB1157_1133 := n12_; have NB1145_1157 := n13_; have NB1157_1145 := n14_; have NB1150_1157 := n15_; have NB1157_1150 := n16_; clear n0_ n1_ n2_ n3_ n4_ n5_ n6_ n7_ n8_ n9_ n10_ n11_ n12_ n13_ n14_ n15_ n16_; clear hb hbox hg; have hnb32 := NB1157_1133.out; have hnc32 := NB1133_1157.out; have hnb33 := NB1157_1145.out; have hnc33 := NB1145_1157.out; have hnb34 := NB1157_1150.out; have hnc34 := NB1150_1157.out; have hcz35_0 : w31.cell? ⟨gb1157, 0, none⟩ = some (.int .i64 0) := (blk_cell BK1157.out 0).trans rfl; have hcz35_1 : w31.cell? ⟨gb1157, 1, none⟩ = some (.int .i64 0) := (blk_cell BK1157.out 1).trans rfl; have hcz35_2 : w31.cell? ⟨gb1157, 2, none⟩ = some (.slice none 0 0) := (blk_cell BK1157.out 2).trans rfl; have hfz35_0 := blk_frozen BK1157.out 0; have hfz35_1 := blk_frozen BK1157.out 1; have hfz35_2 := blk_frozen BK1157.out 2; obtain ⟨Ao36, co36, eo36⟩ := Kd.R_slice HO1155.out; subst eo36))
  (try simp only [Act.put, List.setIfInBounds_toArray, List.set_cons_zero, List.set_cons_succ])
  go_cut [40] (fun v40 wc => ∃ (kq : Nat) (x40_10 : Bool), v40 = .bool x40_10 ∧ Aside0 (laws_FnExactPortRanks.j0 kq t1144 t1156 x40_10 a0_0 l0_1 t1139 t1140 t1141 t1146 t1147 t1151 t1152 t1153 = some r) ∧ Aside0 (kq ≤ k) ∧ Aside0 (Kd.R (Kd.int .i64) 2 wc w.heap.size (fun k_ => some k_ ≠ ((.slice Ao36 t1153.length co36) : Value).ownBlock) (.slice Ao22 t1141.length co22) t1141) ∧ Aside0 (Kd.S (Kd.slice 2 (Kd.int .i64)) 26 wc w.heap.size (fun k_ => some k_ ≠ ((.slice Ao22 t1141.length co22) : Value).ownBlock ∧ some k_ ≠ ((.slice Ao36 t1153.length co36) : Value).ownBlock) (.slice Ao29 t1147.length co29) t1147) ∧ Aside0 (Kd.R (Kd.int .i64) 2 wc w.heap.size (fun k_ => some k_ ≠ ((.slice Ao22 t1141.length co22) : Value).ownBlock) (.slice Ao36 t1153.length co36) t1153) ∧ Aside0 (wc.heap[gb1133]? = some (.cells #[.int .i64 a0_0, (.slice A0_1 l0_1.length c0_1)] 24 (0, 0))) ∧ Aside0 (wc.heap[gb1145]? = some (.cells #[.int .i64 t1139, .int .i64 t1140, (.slice Ao22 t1141.length co22)] 54 (0, 0))) ∧ Aside0 (wc.heap[gb1150]? = some (.cells #[.int .i64 t1146, (.slice Ao29 t1147.length co29)] 31 (0, 0))) ∧ Aside0 (wc.heap[gb1157]? = some (.cells #[.int .i64 t1151, .int .i64 t1152, (.slice Ao36 t1153.length co36)] 54 (0, 0))) ∧ Aside0 (Below w.heap.size w wc))
  case first =>
   have H := HC11.out
   clear HC11
   replace H := Option.bind_eq_some_iff.mp H
   obtain ⟨t1158, A370, H⟩ := H
   replace H : (if t1158 = true then (laws_FnExactPortRanks.j0 k t1144 t1156 (t1156 != t1144) a0_0 l0_1 t1139 t1140 t1141 t1146 t1147 t1151 t1152 t1153) else (laws_FnExactPortRanks.j0 k t1144 t1156 true a0_0 l0_1 t1139 t1140 t1141 t1146 t1147 t1151 t1152 t1153)) = some r := H
   have A37 := Aside0.mk A370
   clear A370
   by_cases c38 : t1158 = true
   ·subst c38
    rw [if_pos rfl] at H
    have H' := Aside0.mk H
    clear H
    have hnb39 := NB1157_1133.out
    have hnc39 := NB1133_1157.out
    have hnb40 := NB1157_1145.out
    have hnc40 := NB1145_1157.out
    have hnb41 := NB1157_1150.out
    have hnc41 := NB1150_1157.out
    have hcz42_0 : w31.cell? ⟨gb1157, 0, none⟩ = some (.int .i64 0) := (blk_cell BK1157.out 0).trans rfl
    have hcz42_1 : w31.cell? ⟨gb1157, 1, none⟩ = some (.int .i64 0) := (blk_cell BK1157.out 1).trans rfl
    have hcz42_2 : w31.cell? ⟨gb1157, 2, none⟩ = some (.slice none 0 0) := (blk_cell BK1157.out 2).trans rfl
    have hfz42_0 := blk_frozen BK1157.out 0
    have hfz42_1 := blk_frozen BK1157.out 1
    have hfz42_2 := blk_frozen BK1157.out 2
    have hnb43 := NB1145_1133.out
    have hnc43 := NB1133_1145.out
    have hnb44 := NB1145_1150.out
    have hnc44 := NB1150_1145.out
    have hcz45_0 : w31.cell? ⟨gb1145, 0, none⟩ = some (.int .i64 t1139) := (blk_cell BK1145.out 0).trans rfl
    have hcz45_1 : w31.cell? ⟨gb1145, 1, none⟩ = some (.int .i64 t1140) := (blk_cell BK1145.out 1).trans rfl
    have hcz45_2 : w31.cell? ⟨gb1145, 2, none⟩ = some (.slice Ao22 t1141.length co22) := (blk_cell BK1145.out 2).trans rfl
    have hfz45_0 := blk_frozen BK1145.out 0
    have hfz45_1 := blk_frozen BK1145.out 1
    have hfz45_2 := blk_frozen BK1145.out 2
    go_wp2_with (first | ((with_reducible refine gate_callee (f := 40) rfl ?_); refine goesL_ (some 34) rfl rfl Try.func40 (by kernel_rfl) rfl #[.agg #[.int .i64 t1151, .int .i64 t1152, .slice Ao36 t1153.length co36], .agg #[.int .i64 t1139, .int .i64 t1140, .slice Ao22 t1141.length co22]] rfl zl ?_; (with_reducible refine (laws_eqRanks.calls k t1151 t1152 _ _ t1153 t1139 t1140 _ _ t1141 true _ ?side1 ?side2 ?side3 ?side4 A37.out).mono ?_); (case side1 => refine (Kd.R_reads' (e := 2) (base := w.heap.size) (ok := fun k_ => (True ∧ some k_ ≠ (.slice Ao22 t1141.length co22 : Value).ownBlock)) (n := t1153.length) (c := co36) ?_).2.2; exact (by (with_reducible repeat (first | apply Kd.R_alloc | apply Kd.R_drewN | apply Kd.R_drew)); exact (Kd.R_mono (Kd.R_far (p := ⟨gb1157, 2, none⟩) (Kd.R_far (p := ⟨gb1157, 1, none⟩) (Kd.R_far (p := ⟨gb1157, 0, none⟩) (Kd.R_types HO1155.out BK1157.out (by decide)) (fun _ hk => hk.2) (.int .i64 t1151)) (fun _ hk => hk.2) (.int .i64 t1152)) (fun _ hk => hk.2) (.slice Ao36 t1153.length co36)) (fun _ h_ => h_.1)))); (case side2 => exact (Kd.R_reads' HO1155.out).2.1); (case side3 => refine (Kd.R_reads' (e := 2) (base := w.heap.size) (ok := fun k_ => (True ∧ some k_ ≠ (.slice Ao36 t1153.length co36 : Value).ownBlock)) (n := t1141.length) (c := co22) ?_).2.2; exact (by (with_reducible repeat (first | apply Kd.R_alloc | apply Kd.R_drewN | apply Kd.R_drew)); exact (Kd.R_mono (Kd.R_far (p := ⟨gb1157, 2, none⟩) (Kd.R_far (p := ⟨gb1157, 1, none⟩) (Kd.R_far (p := ⟨gb1157, 0, none⟩) (Kd.R_types HO1143.out BK1157.out (by decide)) (fun _ hk => hk.2) (.int .i64 t1151)) (fun _ hk => hk.2) (.int .i64 t1152)) (fun _ hk => hk.2) (.slice Ao36 t1153.length co36)) (fun _ h_ => h_.1)))); (case side4 => exact (Kd.R_reads' HO1143.out).2.1); rintro e w46 ⟨rfl, hb⟩; refine ⟨_, rfl, ?_⟩; have n0_ := Aside0.mk (Kd.S_below (by (with_reducible repeat (first | apply Kd.S_alloc | apply Kd.S_drewN | apply Kd.S_drew)); exact (Kd.S_mono (Kd.S_far (p := ⟨gb1157, 2, none⟩) (Kd.S_far (p := ⟨gb1157, 1, none⟩) (Kd.S_far (p := ⟨gb1157, 0, none⟩) (Kd.S_types HO1138.out BK1157.out (by decide)) (fun _ hk => hk.2) (.int .i64 t1151)) (fun _ hk => hk.2) (.int .i64 t1152)) (fun _ hk => hk.2) (.slice Ao36 t1153.length co36)) (fun _ h_ => h_.1))) hb); have n1_ := Aside0.mk (Kd.R_below (by (with_reducible repeat (first | apply Kd.R_alloc | apply Kd.R_drewN | apply Kd.R_drew)); exact (Kd.R_mono (Kd.R_far (p := ⟨gb1157, 2, none⟩) (Kd.R_far (p := ⟨gb1157, 1, none⟩) (Kd.R_far (p := ⟨gb1157, 0, none⟩) (Kd.R_types HO1143.out BK1157.out (by decide)) (fun _ hk => hk.2) (.int .i64 t1151)) (fun _ hk => hk.2) (.int .i64 t1152)) (fun _ hk => hk.2) (.slice Ao36 t1153.length co36)) (fun _ h_ => h_.1))) hb); have n2_ := Aside0.mk (Kd.S_below (by (with_reducible repeat (first | apply Kd.S_alloc | apply Kd.S_drewN | apply Kd.S_drew)); exact (Kd.S_mono (Kd.S_far (p := ⟨gb1157, 2, none⟩) (Kd.S_far (p := ⟨gb1157, 1, none⟩) (Kd.S_far (p := ⟨gb1157, 0, none⟩) (Kd.S_types HO1149.out BK1157.out (by decide)) (fun _ hk => hk.2) (.int .i64 t1151)) (fun _ hk => hk.2) (.int .i64 t1152)) (fun _ hk => hk.2) (.slice Ao36 t1153.length co36)) (fun _ h_ => h_.1))) hb); have n3_ := Aside0.mk (Kd.R_below (by (with_reducible repeat (first | apply Kd.R_alloc | apply Kd.R_drewN | apply Kd.R_drew)); exact (Kd.R_mono (Kd.R_far (p := ⟨gb1157, 2, none⟩) (Kd.R_far (p := ⟨gb1157, 1, none⟩) (Kd.R_far (p := ⟨gb1157, 0, none⟩) (Kd.R_types HO1155.out BK1157.out (by decide)) (fun _ hk => hk.2) (.int .i64 t1151)) (fun _ hk => hk.2) (.int .i64 t1152)) (fun _ hk => hk.2) (.slice Ao36 t1153.length co36)) (fun _ h_ => h_.1))) hb); have n4_ := Aside0.mk (blk_below (g := gb1133) (o := .cells #[.int .i64 a0_0, .slice A0_1 l0_1.length c0_1] 24 (0, 0)) (by (with_reducible repeat (first | refine blk_drewN ?_ _ | refine blk_drew ?_ | refine blk_alloc ?_ _)); refine blk_far ?_ NB1133_1157.out _; (with_reducible repeat (first | refine blk_drewN ?_ _ | refine blk_drew ?_ | refine blk_alloc ?_ _)); refine blk_far ?_ NB1133_1157.out _; (with_reducible repeat (first | refine blk_drewN ?_ _ | refine blk_drew ?_ | refine blk_alloc ?_ _)); refine blk_far ?_ NB1133_1157.out _; (with_reducible repeat (first | refine blk_drewN ?_ _ | refine blk_drew ?_ | refine blk_alloc ?_ _)); exact BK1133.out) hb); have n5_ := Aside0.mk (blk_below (g := gb1145) (o := .cells #[.int .i64 t1139, .int .i64 t1140, .slice Ao22 t1141.length co22] 54 (0, 0)) (by (with_reducible repeat (first | refine blk_drewN ?_ _ | refine blk_drew ?_ | refine blk_alloc ?_ _)); refine blk_far ?_ NB1145_1157.out _; (with_reducible repeat (first | refine blk_drewN ?_ _ | refine blk_drew ?_ | refine blk_alloc ?_ _)); refine blk_far ?_ NB1145_1157.out _; (with_reducible repeat (first | refine blk_drewN ?_ _ | refine blk_drew ?_ | refine blk_alloc ?_ _)); refine blk_far ?_ NB1145_1157.out _; (with_reducible repeat (first | refine blk_drewN ?_ _ | refine blk_drew ?_ | refine blk_alloc ?_ _)); exact BK1145.out) hb); have n6_ := Aside0.mk (blk_below (g := gb1150) (o := .cells #[.int .i64 t1146, .slice Ao29 t1147.length co29] 31 (0, 0)) (by (with_reducible repeat (first | refine blk_drewN ?_ _ | refine blk_drew ?_ | refine blk_alloc ?_ _)); refine blk_far ?_ NB1150_1157.out _; (with_reducible repeat (first | refine blk_drewN ?_ _ | refine blk_drew ?_ | refine blk_alloc ?_ _)); refine blk_far ?_ NB1150_1157.out _; (with_reducible repeat (first | refine blk_drewN ?_ _ | refine blk_drew ?_ | refine blk_alloc ?_ _)); refine blk_far ?_ NB1150_1157.out _; (with_reducible repeat (first | refine blk_drewN ?_ _ | refine blk_drew ?_ | refine blk_alloc ?_ _)); exact BK1150.out) hb); have n7_ := Aside0.mk (blk_below (g := gb1157) (o := .cells #[.int .i64 t1151, .int .i64 t1152, .slice Ao36 t1153.length co36] 54 (0, 0)) (by (with_reducible repeat (first | refine blk_drewN ?_ _ | refine blk_drew ?_ | refine blk_alloc ?_ _)); refine blk_put (cs := #[.int .i64 t1151, .int .i64 t1152, .slice none 0 0]) ?_ 2 _ rfl; (with_reducible repeat (first | refine blk_drewN ?_ _ | refine blk_drew ?_ | refine blk_alloc ?_ _)); refine blk_put (cs := #[.int .i64 t1151, .int .i64 0, .slice none 0 0]) ?_ 1 _ rfl; (with_reducible repeat (first | refine blk_drewN ?_ _ | refine blk_drew ?_ | refine blk_alloc ?_ _)); refine blk_put (cs := #[.int .i64 0, .int .i64 0, .slice none 0 0]) ?_ 0 _ rfl; (with_reducible repeat (first | refine blk_drewN ?_ _ | refine blk_drew ?_ | refine blk_alloc ?_ _)); exact BK1157.out) hb); have n8_ := Aside0.mk (below_step (zb4 HB.out GE1133.out GE1145.out GE1150.out GE1157.out) hb); clear HO1138; clear HO1143; clear HO1149; clear HO1155; clear BK1133; clear BK1145; clear BK1150; clear BK1157; clear HB; have HO1138 := n0_; have HO1143 := n1_; have HO1149 := n2_; have HO1155 := n3_; have BK1133 := n4_; have BK1145 := n5_; have BK1150 := n6_; have BK1157 := n7_; have HB := n8_; clear n0_ n1_ n2_ n3_ n4_ n5_ n6_ n7_ n8_; (try clear hb); (try clear hb2); (try clear hk); (try clear hi)))
    go_meet
    case rel => exact ⟨_, ((t1156 != t1144)), zt, H', ⟨by first | omega | exact Nat.le_refl _⟩, ⟨by (with_reducible repeat (first | apply Kd.R_alloc | apply Kd.R_drewN | apply Kd.R_drew)); exact Kd.R_mono HO1143.out (fun _ hk => hk.2)⟩, ⟨by (with_reducible repeat (first | apply Kd.S_alloc | apply Kd.S_drewN | apply Kd.S_drew)); exact Kd.S_mono HO1149.out (fun _ hk => ⟨hk.1.2, hk.2⟩)⟩, ⟨by (with_reducible repeat (first | apply Kd.R_alloc | apply Kd.R_drewN | apply Kd.R_drew)); exact Kd.R_mono HO1155.out (fun _ hk => hk.2)⟩, ⟨zk BK1133.out⟩, ⟨zk BK1145.out⟩, ⟨zk BK1150.out⟩, ⟨zk BK1157.out⟩, ⟨zb4 HB.out GE1133.out GE1145.out GE1150.out GE1157.out⟩⟩
   ·replace c38 := Bool.eq_false_iff.mpr c38
    subst c38
    rw [if_neg (show ¬ (false = true) by decide)] at H
    have H' := Aside0.mk H
    clear H
    have hnb47 := NB1157_1133.out
    have hnc47 := NB1133_1157.out
    have hnb48 := NB1157_1145.out
    have hnc48 := NB1145_1157.out
    have hnb49 := NB1157_1150.out
    have hnc49 := NB1150_1157.out
    have hcz50_0 : w31.cell? ⟨gb1157, 0, none⟩ = some (.int .i64 0) := (blk_cell BK1157.out 0).trans rfl
    have hcz50_1 : w31.cell? ⟨gb1157, 1, none⟩ = some (.int .i64 0) := (blk_cell BK1157.out 1).trans rfl
    have hcz50_2 : w31.cell? ⟨gb1157, 2, none⟩ = some (.slice none 0 0) := (blk_cell BK1157.out 2).trans rfl
    have hfz50_0 := blk_frozen BK1157.out 0
    have hfz50_1 := blk_frozen BK1157.out 1
    have hfz50_2 := blk_frozen BK1157.out 2
    have hnb51 := NB1145_1133.out
    have hnc51 := NB1133_1145.out
    have hnb52 := NB1145_1150.out
    have hnc52 := NB1150_1145.out
    have hcz53_0 : w31.cell? ⟨gb1145, 0, none⟩ = some (.int .i64 t1139) := (blk_cell BK1145.out 0).trans rfl
    have hcz53_1 : w31.cell? ⟨gb1145, 1, none⟩ = some (.int .i64 t1140) := (blk_cell BK1145.out 1).trans rfl
    have hcz53_2 : w31.cell? ⟨gb1145, 2, none⟩ = some (.slice Ao22 t1141.length co22) := (blk_cell BK1145.out 2).trans rfl
    have hfz53_0 := blk_frozen BK1145.out 0
    have hfz53_1 := blk_frozen BK1145.out 1
    have hfz53_2 := blk_frozen BK1145.out 2
    go_wp2_with (first | ((with_reducible refine gate_callee (f := 40) rfl ?_); refine goesL_ (some 34) rfl rfl Try.func40 (by kernel_rfl) rfl #[.agg #[.int .i64 t1151, .int .i64 t1152, .slice Ao36 t1153.length co36], .agg #[.int .i64 t1139, .int .i64 t1140, .slice Ao22 t1141.length co22]] rfl zl ?_; (with_reducible refine (laws_eqRanks.calls k t1151 t1152 _ _ t1153 t1139 t1140 _ _ t1141 false _ ?side1 ?side2 ?side3 ?side4 A37.out).mono ?_); (case side1 => refine (Kd.R_reads' (e := 2) (base := w.heap.size) (ok := fun k_ => (True ∧ some k_ ≠ (.slice Ao22 t1141.length co22 : Value).ownBlock)) (n := t1153.length) (c := co36) ?_).2.2; exact (by (with_reducible repeat (first | apply Kd.R_alloc | apply Kd.R_drewN | apply Kd.R_drew)); exact (Kd.R_mono (Kd.R_far (p := ⟨gb1157, 2, none⟩) (Kd.R_far (p := ⟨gb1157, 1, none⟩) (Kd.R_far (p := ⟨gb1157, 0, none⟩) (Kd.R_types HO1155.out BK1157.out (by decide)) (fun _ hk => hk.2) (.int .i64 t1151)) (fun _ hk => hk.2) (.int .i64 t1152)) (fun _ hk => hk.2) (.slice Ao36 t1153.length co36)) (fun _ h_ => h_.1)))); (case side2 => exact (Kd.R_reads' HO1155.out).2.1); (case side3 => refine (Kd.R_reads' (e := 2) (base := w.heap.size) (ok := fun k_ => (True ∧ some k_ ≠ (.slice Ao36 t1153.length co36 : Value).ownBlock)) (n := t1141.length) (c := co22) ?_).2.2; exact (by (with_reducible repeat (first | apply Kd.R_alloc | apply Kd.R_drewN | apply Kd.R_drew)); exact (Kd.R_mono (Kd.R_far (p := ⟨gb1157, 2, none⟩) (Kd.R_far (p := ⟨gb1157, 1, none⟩) (Kd.R_far (p := ⟨gb1157, 0, none⟩) (Kd.R_types HO1143.out BK1157.out (by decide)) (fun _ hk => hk.2) (.int .i64 t1151)) (fun _ hk => hk.2) (.int .i64 t1152)) (fun _ hk => hk.2) (.slice Ao36 t1153.length co36)) (fun _ h_ => h_.1)))); (case side4 => exact (Kd.R_reads' HO1143.out).2.1); rintro e w54 ⟨rfl, hb⟩; refine ⟨_, rfl, ?_⟩; have n0_ := Aside0.mk (Kd.S_below (by (with_reducible repeat (first | apply Kd.S_alloc | apply Kd.S_drewN | apply Kd.S_drew)); exact (Kd.S_mono (Kd.S_far (p := ⟨gb1157, 2, none⟩) (Kd.S_far (p := ⟨gb1157, 1, none⟩) (Kd.S_far (p := ⟨gb1157, 0, none⟩) (Kd.S_types HO1138.out BK1157.out (by decide)) (fun _ hk => hk.2) (.int .i64 t1151)) (fun _ hk => hk.2) (.int .i64 t1152)) (fun _ hk => hk.2) (.slice Ao36 t1153.length co36)) (fun _ h_ => h_.1))) hb); have n1_ := Aside0.mk (Kd.R_below (by (with_reducible repeat (first | apply Kd.R_alloc | apply Kd.R_drewN | apply Kd.R_drew)); exact (Kd.R_mono (Kd.R_far (p := ⟨gb1157, 2, none⟩) (Kd.R_far (p := ⟨gb1157, 1, none⟩) (Kd.R_far (p := ⟨gb1157, 0, none⟩) (Kd.R_types HO1143.out BK1157.out (by decide)) (fun _ hk => hk.2) (.int .i64 t1151)) (fun _ hk => hk.2) (.int .i64 t1152)) (fun _ hk => hk.2) (.slice Ao36 t1153.length co36)) (fun _ h_ => h_.1))) hb); have n2_ := Aside0.mk (Kd.S_below (by (with_reducible repeat (first | apply Kd.S_alloc | apply Kd.S_drewN | apply Kd.S_drew)); exact (Kd.S_mono (Kd.S_far (p := ⟨gb1157, 2, none⟩) (Kd.S_far (p := ⟨gb1157, 1, none⟩) (Kd.S_far (p := ⟨gb1157, 0, none⟩) (Kd.S_types HO1149.out BK1157.out (by decide)) (fun _ hk => hk.2) (.int .i64 t1151)) (fun _ hk => hk.2) (.int .i64 t1152)) (fun _ hk => hk.2) (.slice Ao36 t1153.length co36)) (fun _ h_ => h_.1))) hb); have n3_ := Aside0.mk (Kd.R_below (by (with_reducible repeat (first | apply Kd.R_alloc | apply Kd.R_drewN | apply Kd.R_drew)); exact (Kd.R_mono (Kd.R_far (p := ⟨gb1157, 2, none⟩) (Kd.R_far (p := ⟨gb1157, 1, none⟩) (Kd.R_far (p := ⟨gb1157, 0, none⟩) (Kd.R_types HO1155.out BK1157.out (by decide)) (fun _ hk => hk.2) (.int .i64 t1151)) (fun _ hk => hk.2) (.int .i64 t1152)) (fun _ hk => hk.2) (.slice Ao36 t1153.length co36)) (fun _ h_ => h_.1))) hb); have n4_ := Aside0.mk (blk_below (g := gb1133) (o := .cells #[.int .i64 a0_0, .slice A0_1 l0_1.length c0_1] 24 (0, 0)) (by (with_reducible repeat (first | refine blk_drewN ?_ _ | refine blk_drew ?_ | refine blk_alloc ?_ _)); refine blk_far ?_ NB1133_1157.out _; (with_reducible repeat (first | refine blk_drewN ?_ _ | refine blk_drew ?_ | refine blk_alloc ?_ _)); refine blk_far ?_ NB1133_1157.out _; (with_reducible repeat (first | refine blk_drewN ?_ _ | refine blk_drew ?_ | refine blk_alloc ?_ _)); refine blk_far ?_ NB1133_1157.out _; (with_reducible repeat (first | refine blk_drewN ?_ _ | refine blk_drew ?_ | refine blk_alloc ?_ _)); exact BK1133.out) hb); have n5_ := Aside0.mk (blk_below (g := gb1145) (o := .cells #[.int .i64 t1139, .int .i64 t1140, .slice Ao22 t1141.length co22] 54 (0, 0)) (by (with_reducible repeat (first | refine blk_drewN ?_ _ | refine blk_drew ?_ | refine blk_alloc ?_ _)); refine blk_far ?_ NB1145_1157.out _; (with_reducible repeat (first | refine blk_drewN ?_ _ | refine blk_drew ?_ | refine blk_alloc ?_ _)); refine blk_far ?_ NB1145_1157.out _; (with_reducible repeat (first | refine blk_drewN ?_ _ | refine blk_drew ?_ | refine blk_alloc ?_ _)); refine blk_far ?_ NB1145_1157.out _; (with_reducible repeat (first | refine blk_drewN ?_ _ | refine blk_drew ?_ | refine blk_alloc ?_ _)); exact BK1145.out) hb); have n6_ := Aside0.mk (blk_below (g := gb1150) (o := .cells #[.int .i64 t1146, .slice Ao29 t1147.length co29] 31 (0, 0)) (by (with_reducible repeat (first | refine blk_drewN ?_ _ | refine blk_drew ?_ | refine blk_alloc ?_ _)); refine blk_far ?_ NB1150_1157.out _; (with_reducible repeat (first | refine blk_drewN ?_ _ | refine blk_drew ?_ | refine blk_alloc ?_ _)); refine blk_far ?_ NB1150_1157.out _; (with_reducible repeat (first | refine blk_drewN ?_ _ | refine blk_drew ?_ | refine blk_alloc ?_ _)); refine blk_far ?_ NB1150_1157.out _; (with_reducible repeat (first | refine blk_drewN ?_ _ | refine blk_drew ?_ | refine blk_alloc ?_ _)); exact BK1150.out) hb); have n7_ := Aside0.mk (blk_below (g := gb1157) (o := .cells #[.int .i64 t1151, .int .i64 t1152, .slice Ao36 t1153.length co36] 54 (0, 0)) (by (with_reducible repeat (first | refine blk_drewN ?_ _ | refine blk_drew ?_ | refine blk_alloc ?_ _)); refine blk_put (cs := #[.int .i64 t1151, .int .i64 t1152, .slice none 0 0]) ?_ 2 _ rfl; (with_reducible repeat (first | refine blk_drewN ?_ _ | refine blk_drew ?_ | refine blk_alloc ?_ _)); refine blk_put (cs := #[.int .i64 t1151, .int .i64 0, .slice none 0 0]) ?_ 1 _ rfl; (with_reducible repeat (first | refine blk_drewN ?_ _ | refine blk_drew ?_ | refine blk_alloc ?_ _)); refine blk_put (cs := #[.int .i64 0, .int .i64 0, .slice none 0 0]) ?_ 0 _ rfl; (with_reducible repeat (first | refine blk_drewN ?_ _ | refine blk_drew ?_ | refine blk_alloc ?_ _)); exact BK1157.out) hb); have n8_ := Aside0.mk (below_step (zb4 HB.out GE1133.out GE1145.out GE1150.out GE1157.out) hb); clear HO1138; clear HO1143; clear HO1149; clear HO1155; clear BK1133; clear BK1145; clear BK1150; clear BK1157; clear HB; have HO1138 := n0_; have HO1143 := n1_; have HO1149 := n2_; have HO1155 := n3_; have BK1133 := n4_; have BK1145 := n5_; have BK1150 := n6_; have BK1157 := n7_; have HB := n8_; clear n0_ n1_ n2_ n3_ n4_ n5_ n6_ n7_ n8_; (try clear hb); (try clear hb2); (try clear hk); (try clear hi)))
    go_meet
    case rel => exact ⟨_, (true), zt, H', ⟨by first | omega | exact Nat.le_refl _⟩, ⟨by (with_reducible repeat (first | apply Kd.R_alloc | apply Kd.R_drewN | apply Kd.R_drew)); exact Kd.R_mono HO1143.out (fun _ hk => hk.2)⟩, ⟨by (with_reducible repeat (first | apply Kd.S_alloc | apply Kd.S_drewN | apply Kd.S_drew)); exact Kd.S_mono HO1149.out (fun _ hk => ⟨hk.1.2, hk.2⟩)⟩, ⟨by (with_reducible repeat (first | apply Kd.R_alloc | apply Kd.R_drewN | apply Kd.R_drew)); exact Kd.R_mono HO1155.out (fun _ hk => hk.2)⟩, ⟨zk BK1133.out⟩, ⟨zk BK1145.out⟩, ⟨zk BK1150.out⟩, ⟨zk BK1157.out⟩, ⟨zb4 HB.out GE1133.out GE1145.out GE1150.out GE1157.out⟩⟩
  case rest =>
   clear HC11
   obtain ⟨kq, x40_10, rfl, HA, HJ10, HO_1146002, HO_1151001, HO_1158002, BK1133, BK1145, BK1150, BK1157, HB⟩ := hcut
   cases kq with
   | zero => exact absurd HA.out (by simp [laws_FnExactPortRanks.j0])
   | succ kj10 =>
    have H := HA.out
    clear HA
    simp only [laws_FnExactPortRanks.j0] at H
    by_cases c55 : x40_10 = true
    ·subst c55
     rw [if_pos rfl] at H
     obtain rfl := Option.some.inj H
     go_wp2
     go_ret
     exact ⟨ze, zb4 HB.out GE1133.out GE1145.out GE1150.out GE1157.out⟩
    ·replace c55 := Bool.eq_false_iff.mpr c55
     subst c55
     rw [if_neg (show ¬ (false = true) by decide)] at H
     replace H := Option.bind_eq_some_iff.mp H
     obtain ⟨⟨t1159, t1160⟩, A560, H⟩ := H
     replace H : ((laws_eqFamily.f kj10 t1146 t1147 t1159 t1160).bind fun t1163 => (if t1163 = true then (if 1 < 0 then (laws_FnExactPortRanks.j1 kj10 t1144 true a0_0 l0_1 t1139 t1140 t1141 t1151 t1152 t1153) else ((laws_eqRanks.f kj10 t1151 t1152 t1153 t1139 t1140 t1141).bind fun t1164 => (if t1164 = true then (laws_FnExactPortRanks.j1 kj10 t1144 (t1156 != t1144) a0_0 l0_1 t1139 t1140 t1141 t1151 t1152 t1153) else (laws_FnExactPortRanks.j1 kj10 t1144 true a0_0 l0_1 t1139 t1140 t1141 t1151 t1152 t1153)))) else (some false))) = some r := H
     have A56 := Aside0.mk A560
     clear A560
     replace H := Option.bind_eq_some_iff.mp H
     obtain ⟨t1163, A570, H⟩ := H
     replace H : (if t1163 = true then (if 1 < 0 then (laws_FnExactPortRanks.j1 kj10 t1144 true a0_0 l0_1 t1139 t1140 t1141 t1151 t1152 t1153) else ((laws_eqRanks.f kj10 t1151 t1152 t1153 t1139 t1140 t1141).bind fun t1164 => (if t1164 = true then (laws_FnExactPortRanks.j1 kj10 t1144 (t1156 != t1144) a0_0 l0_1 t1139 t1140 t1141 t1151 t1152 t1153) else (laws_FnExactPortRanks.j1 kj10 t1144 true a0_0 l0_1 t1139 t1140 t1141 t1151 t1152 t1153)))) else (some false)) = some r := H
     have A57 := Aside0.mk A570
     clear A570
     by_cases c58 : t1163 = true
     ·subst c58
      rw [if_pos rfl] at H
      have HC59 := Aside0.mk H
      clear H
      try go_wp2
      have n0_ := Aside0.mk (Kd.R_drew HO_1146002.out)
      have n1_ := Aside0.mk (Kd.S_drew HO_1151001.out)
      have n2_ := Aside0.mk (Kd.R_drew HO_1158002.out)
      have n3_ := Aside0.mk (blk_drew BK1133.out)
      have n4_ := Aside0.mk (blk_drew BK1145.out)
      have n5_ := Aside0.mk (blk_drew BK1150.out)
      have n6_ := Aside0.mk (blk_drew BK1157.out)
      have n7_ := Aside0.mk (below_drew1 HB.out)
      clear HO_1146002
      clear HO_1151001
      clear HO_1158002
      clear BK1133
      clear BK1145
      clear BK1150
      clear BK1157
      clear HB
      have HO_1146002 := n0_
      have HO_1151001 := n1_
      have HO_1158002 := n2_
      have BK1133 := n3_
      have BK1145 := n4_
      have BK1150 := n5_
      have BK1157 := n6_
      have HB := n7_
      clear n0_ n1_ n2_ n3_ n4_ n5_ n6_ n7_
      refine start_ (n := 5) (S := fun w' => w'.cell? ⟨gb1150, 0, none⟩ = some (.int .i64 t1146) ∧ w'.cell? ⟨gb1150, 1, none⟩ = some (.slice Ao29 t1147.length co29) ∧ w'.cell? ⟨gb1133, 0, none⟩ = some (.int .i64 a0_0) ∧ w'.cell? ⟨gb1133, 1, none⟩ = some (.slice A0_1 l0_1.length c0_1)) (ds := []) #[false,false,false,false,false] (by kernel_rfl) rfl rfl ⟨(blk_cell BK1150.out 0).trans rfl, (blk_cell BK1150.out 1).trans rfl, (blk_cell BK1133.out 0).trans rfl, (blk_cell BK1133.out 1).trans rfl⟩ (fun hHeld => ?_)
      generalize wc.drew = w60 at HO_1146002 HO_1151001 HO_1158002 BK1133 BK1145 BK1150 BK1157 HB hHeld ⊢
      refine take_ (i := 0) (N := some 41) (v := ?_) (a' := ?_) #[true,false,false,false,false] rfl rfl (by kernel_rfl) (fun _ _ _ h => h) (Or.inl ⟨by rfl, ?_⟩) hHeld ?_ ?_
      rotate_left
      ·rintro w' ⟨s0, s1, s2, s3⟩
       go_simp
       with_reducible rfl
      rotate_left
      ·exact zp
      refine take_ (i := 1) (N := some 42) (v := ?_) (a' := ?_) #[true,true,false,false,false] rfl rfl (by kernel_rfl) (fun _ _ _ h => h) (Or.inl ⟨by rfl, ?_⟩) hHeld ?_ ?_
      rotate_left
      ·rintro w' ⟨s0, s1, s2, s3⟩
       go_simp
       with_reducible rfl
      rotate_left
      ·exact zp
      refine one_ (i := 2) (N := some 43) #[true,true,true,false,false] rfl rfl (by kernel_rfl) (by decide) (fun K hK => ?_)
      refine goes_ Try.func14 (by kernel_rfl) rfl #[.agg #[.int .i64 a0_0, .slice A0_1 l0_1.length c0_1]] (by rfl) rfl rfl zl ?_
      with_reducible refine (laws_toFamily.calls kj10 a0_0 _ _ l0_1 t1159 t1160 _ ?side1 ?side2 A56.out).mono ?_
      (case side1 => exact zc (Kd.C_below HR0_1.out HB.out))
      (case side2 => exact HC0_1.out)
      rintro e w61 ⟨v1161, rfl, ho0, hb⟩
      refine ⟨_, rfl, ?_⟩
      have n0_ := Aside0.mk (Kd.R_below (zr HO_1146002.out) hb)
      have n1_ := Aside0.mk (Kd.S_elder' (zs HO_1151001.out) (Kd.S_base ho0) hb)
      have n2_ := Aside0.mk (Kd.R_below (zr HO_1158002.out) hb)
      have n3_ := Aside0.mk (Kd.S_lower (Kd.S_new' (Kd.S_new' (Kd.S_new' ho0 (Kd.R_lt (zr HO_1146002.out))) (Kd.S_lt (zs HO_1151001.out))) (Kd.R_lt (zr HO_1158002.out))) (below_size (zb4 HB.out GE1133.out GE1145.out GE1150.out GE1157.out)))
      have n4_ := Aside0.mk (blk_below (g := gb1133) (o := .cells #[.int .i64 a0_0, .slice A0_1 l0_1.length c0_1] 24 (0, 0)) (zk BK1133.out) hb)
      have n5_ := Aside0.mk (blk_below (g := gb1145) (o := .cells #[.int .i64 t1139, .int .i64 t1140, .slice Ao22 t1141.length co22] 54 (0, 0)) (zk BK1145.out) hb)
      have n6_ := Aside0.mk (blk_below (g := gb1150) (o := .cells #[.int .i64 t1146, .slice Ao29 t1147.length co29] 31 (0, 0)) (zk BK1150.out) hb)
      have n7_ := Aside0.mk (blk_below (g := gb1157) (o := .cells #[.int .i64 t1151, .int .i64 t1152, .slice Ao36 t1153.length co36] 54 (0, 0)) (zk BK1157.out) hb)
      have n8_ := Aside0.mk (below_step (zb4 HB.out GE1133.out GE1145.out GE1150.out GE1157.out) hb)
      clear HO_1146002
      clear HO_1151001
      clear HO_1158002
      clear BK1133
      clear BK1145
      clear BK1150
      clear BK1157
      clear HB
      have HO_1146002 := n0_
      have HO_1151001 := n1_
      have HO_1158002 := n2_
      have HO1162 := n3_
      have BK1133 := n4_
      have BK1145 := n5_
      have BK1150 := n6_
      have BK1157 := n7_
      have HB := n8_
      clear n0_ n1_ n2_ n3_ n4_ n5_ n6_ n7_ n8_
      (try clear hb)
      (try clear hb2)
      (try clear hk)
      (try clear hi)
      (try clear ho0)
      obtain ⟨Ao62, co62, eo62⟩ := Kd.S_slice HO1162.out
      (first | subst eo62 | (injection eo62 with f1_ f2_ f3_; have f4_ := f1_.symm; have f5_ := f3_.symm; clear f1_ f2_ f3_; subst f4_; subst f5_))
      refine hK.out _ _ ⟨(blk_cell BK1150.out 0).trans rfl, (blk_cell BK1150.out 1).trans rfl, (blk_cell BK1133.out 0).trans rfl, (blk_cell BK1133.out 1).trans rfl⟩ (fun hHeld => ?_)
      clear hK K
      refine norm_ (a' := ?_) ?_ ?_
      rotate_left
      ·show Act.put _ (some 43) _ = _
       simp only [Act.put, List.setIfInBounds_toArray, List.set_cons_zero, List.set_cons_succ, i64_w, i32_w]
       rfl
      refine one_ (i := 3) (N := some 44) #[true,true,true,true,false] rfl rfl (by kernel_rfl) (by decide) (fun K hK => ?_)
      refine goes_ Try.func17 (by kernel_rfl) rfl #[.agg #[.int .i64 t1146, .slice Ao29 t1147.length co29], .agg #[.int .i64 t1159, .slice Ao62 t1160.length co62]] (by rfl) rfl rfl zl ?_
      with_reducible refine (laws_eqFamily.calls kj10 t1146 _ _ t1147 t1159 _ _ t1160 true _ ?side1 ?side2 ?side3 ?side4 A57.out).mono ?_
      (case side1 => repeat (first | exact (Kd.S_reads' HO_1151001.out).2.2 | (with_reducible refine Kd.C_alloc ?_ _) | (with_reducible refine Kd.C_drewN ?_ _) | (with_reducible refine Kd.C_drew ?_)))
      (case side2 => exact (Kd.S_reads' HO_1151001.out).2.1)
      (case side3 => repeat (first | exact (Kd.S_reads' HO1162.out).2.2 | (with_reducible refine Kd.C_alloc ?_ _) | (with_reducible refine Kd.C_drewN ?_ _) | (with_reducible refine Kd.C_drew ?_)))
      (case side4 => exact (Kd.S_reads' HO1162.out).2.1)
      rintro e w63 ⟨rfl, hb⟩
      refine ⟨_, rfl, ?_⟩
      have n0_ := Aside0.mk (Kd.R_below (zr HO_1146002.out) hb)
      have n1_ := Aside0.mk (Kd.S_below (zs HO_1151001.out) hb)
      have n2_ := Aside0.mk (Kd.R_below (zr HO_1158002.out) hb)
      have n3_ := Aside0.mk (Kd.S_below (zs HO1162.out) hb)
      have n4_ := Aside0.mk (blk_below (g := gb1133) (o := .cells #[.int .i64 a0_0, .slice A0_1 l0_1.length c0_1] 24 (0, 0)) (zk BK1133.out) hb)
      have n5_ := Aside0.mk (blk_below (g := gb1145) (o := .cells #[.int .i64 t1139, .int .i64 t1140, .slice Ao22 t1141.length co22] 54 (0, 0)) (zk BK1145.out) hb)
      have n6_ := Aside0.mk (blk_below (g := gb1150) (o := .cells #[.int .i64 t1146, .slice Ao29 t1147.length co29] 31 (0, 0)) (zk BK1150.out) hb)
      have n7_ := Aside0.mk (blk_below (g := gb1157) (o := .cells #[.int .i64 t1151, .int .i64 t1152, .slice Ao36 t1153.length co36] 54 (0, 0)) (zk BK1157.out) hb)
      have n8_ := Aside0.mk (below_step (zb4 HB.out GE1133.out GE1145.out GE1150.out GE1157.out) hb)
      clear HO_1146002
      clear HO_1151001
      clear HO_1158002
      clear HO1162
      clear BK1133
      clear BK1145
      clear BK1150
      clear BK1157
      clear HB
      have HO_1146002 := n0_
      have HO_1151001 := n1_
      have HO_1158002 := n2_
      have HO1162 := n3_
      have BK1133 := n4_
      have BK1145 := n5_
      have BK1150 := n6_
      have BK1157 := n7_
      have HB := n8_
      clear n0_ n1_ n2_ n3_ n4_ n5_ n6_ n7_ n8_
      (try clear hb)
      (try clear hb2)
      (try clear hk)
      (try clear hi)
      refine hK.out _ _ ⟨(blk_cell BK1150.out 0).trans rfl, (blk_cell BK1150.out 1).trans rfl, (blk_cell BK1133.out 0).trans rfl, (blk_cell BK1133.out 1).trans rfl⟩ (fun hHeld => ?_)
      clear hK K
      refine norm_ (a' := ?_) ?_ ?_
      rotate_left
      ·show Act.put _ (some 44) _ = _
       simp only [Act.put, List.setIfInBounds_toArray, List.set_cons_zero, List.set_cons_succ, i64_w, i32_w]
       rfl
      refine pure_ (i := 4) (N := some 45) (v := ?_) (a' := ?_) #[true,true,true,true,true] rfl rfl (by kernel_rfl) (fun _ _ _ h => h) (Or.inl ⟨by rfl, ?_⟩) ?_ ?_
      rotate_left
      ·exact zw
      rotate_left
      ·exact zp
      refine done_ (by kernel_rfl) ?_
      have hnb64 := NB1150_1133.out
      have hnc64 := NB1133_1150.out
      have hnb65 := NB1150_1145.out
      have hnc65 := NB1145_1150.out
      have hnb66 := NB1150_1157.out
      have hnc66 := NB1157_1150.out
      have hcz67_0 : w63.cell? ⟨gb1150, 0, none⟩ = some (.int .i64 t1146) := (blk_cell BK1150.out 0).trans rfl
      have hcz67_1 : w63.cell? ⟨gb1150, 1, none⟩ = some (.slice Ao29 t1147.length co29) := (blk_cell BK1150.out 1).trans rfl
      have hfz67_0 := blk_frozen BK1150.out 0
      have hfz67_1 := blk_frozen BK1150.out 1
      have HSX := Aside0.mk (Kd.S_types (Kd.S_types (Kd.S_types (Kd.S_types (Kd.S_mono (ok' := fun k_ => some k_ ≠ ((.slice Ao22 t1141.length co22) : Value).ownBlock ∧ some k_ ≠ ((.slice Ao36 t1153.length co36) : Value).ownBlock) HO_1151001.out (fun k_ hk_ => ⟨hk_.1.1, hk_.1.2⟩)) BK1133.out (by decide)) BK1145.out (by decide)) BK1150.out (by decide)) BK1157.out (by decide))
      go_upto_region 14 with (first | (go_at_call 18; (with_reducible refine (laws_markFamily.calls km t1146 (fun k_ => ((((some k_ ≠ ((.slice Ao22 t1141.length co22) : Value).ownBlock ∧ some k_ ≠ ((.slice Ao36 t1153.length co36) : Value).ownBlock) ∧ k_ ≠ gb1133) ∧ k_ ≠ gb1145) ∧ k_ ≠ gb1150) ∧ k_ ≠ gb1157) (.slice Ao29 t1147.length co29) t1147 1 mr1 mr2 w _ ?side1 ?side2 HMk.out).mono ?_); (case side1 => exact HB.out); (case side2 => exact HSX.out); rintro e w63 ⟨rfl, hy0, hb, hkp⟩; have z0_ := Aside0.mk (Kd.R_reok rfl (Kd.R_kept (Kd.R_tight rfl HO_1146002.out) hkp (fun k_ hk_ hs_ => hs_.1.1.1.1.1 hk_)) (fun k_ e_ => HO_1146002.out.1 k_ e_)); have z1_ : Aside0 (Kd.S (Kd.slice 2 (Kd.int .i64)) 26 w63 w.heap.size (fun k_ => (some k_ ≠ ((.slice Ao22 t1141.length co22) : Value).ownBlock ∧ some k_ ≠ ((.slice Ao36 t1153.length co36) : Value).ownBlock) ∧ True) (.slice none 0 0) []) := Aside0.mk (Kd.S_nil _ _ _ _ _); have z2_ := Aside0.mk (Kd.R_reok rfl (Kd.R_kept (Kd.R_tight rfl HO_1158002.out) hkp (fun k_ hk_ hs_ => hs_.1.1.1.1.2 hk_)) (fun k_ e_ => HO_1158002.out.1 k_ e_)); have z3_ : Aside0 (Kd.S (Kd.slice 2 (Kd.int .i64)) 26 w63 w.heap.size (fun _ => True) (.slice none 0 0) []) := Aside0.mk (Kd.S_nil _ _ _ _ _); have z4_ := Aside0.mk (blk_kept BK1133.out hkp (fun hs_ => hs_.1.1.1.2 rfl)); have z5_ := Aside0.mk (blk_kept BK1145.out hkp (fun hs_ => hs_.1.1.2 rfl)); have z6_ := Aside0.mk (blk_kept BK1150.out hkp (fun hs_ => hs_.1.2 rfl)); have z7_ := Aside0.mk (blk_kept BK1157.out hkp (fun hs_ => hs_.2 rfl)); have z8_ := Aside0.mk (hb); clear HO_1146002; clear HO_1151001 HSX; clear HO_1158002; clear HO1162; clear BK1133; clear BK1145; clear BK1150; clear BK1157; clear HB; have HO_1146002 := z0_; have HO_1151001 := z1_; have HO_1158002 := z2_; have HO1162 := z3_; have BK1133 := z4_; have BK1145 := z5_; have BK1150 := z6_; have BK1157 := z7_; have HB := z8_; clear z0_ z1_ z2_ z3_ z4_ z5_ z6_ z7_ z8_; (try clear hb); (try clear hkp); (try clear hy0)))
      go_cut [61] (fun v61 wc => ∃ (kq : Nat) (x61_58 : Bool), v61 = .bool x61_58 ∧ Aside0 (laws_FnExactPortRanks.j1 kq t1144 x61_58 a0_0 l0_1 t1139 t1140 t1141 t1151 t1152 t1153 = some r) ∧ Aside0 (kq ≤ kj10) ∧ Aside0 (Kd.R (Kd.int .i64) 2 wc w.heap.size (fun k_ => some k_ ≠ ((.slice Ao36 t1153.length co36) : Value).ownBlock) (.slice Ao22 t1141.length co22) t1141) ∧ Aside0 (Kd.S (Kd.slice 2 (Kd.int .i64)) 26 wc w.heap.size (fun k_ => some k_ ≠ ((.slice Ao22 t1141.length co22) : Value).ownBlock ∧ some k_ ≠ ((.slice Ao36 t1153.length co36) : Value).ownBlock) (.slice none 0 0) []) ∧ Aside0 (Kd.R (Kd.int .i64) 2 wc w.heap.size (fun k_ => some k_ ≠ ((.slice Ao22 t1141.length co22) : Value).ownBlock) (.slice Ao36 t1153.length co36) t1153) ∧ Aside0 (wc.heap[gb1133]? = some (.cells #[.int .i64 a0_0, (.slice A0_1 l0_1.length c0_1)] 24 (0, 0))) ∧ Aside0 (wc.heap[gb1145]? = some (.cells #[.int .i64 t1139, .int .i64 t1140, (.slice Ao22 t1141.length co22)] 54 (0, 0))) ∧ Aside0 (wc.heap[gb1150]? = some (.cells #[.int .i64 t1146, (.slice Ao29 t1147.length co29)] 31 (0, 0))) ∧ Aside0 (wc.heap[gb1157]? = some (.cells #[.int .i64 t1151, .int .i64 t1152, (.slice Ao36 t1153.length co36)] 54 (0, 0))) ∧ Aside0 (Below w.heap.size w wc))
      case first =>
       have H := HC59.out
       clear HC59
       by_cases c68 : 1 < 0
       ·exact absurd c68 (by decide)
       ·rw [if_neg c68] at H
        have c68b0 : decide (mr1 < 0) = false := decide_eq_false (by have := HMn.out; omega)
        clear c68
        (first | rw [c68b0] | (simp only [i64_w, i32_w]; rw [c68b0]) | skip)
        replace H := Option.bind_eq_some_iff.mp H
        obtain ⟨t1164, A690, H⟩ := H
        replace H : (if t1164 = true then (laws_FnExactPortRanks.j1 kj10 t1144 (t1156 != t1144) a0_0 l0_1 t1139 t1140 t1141 t1151 t1152 t1153) else (laws_FnExactPortRanks.j1 kj10 t1144 true a0_0 l0_1 t1139 t1140 t1141 t1151 t1152 t1153)) = some r := H
        have A69 := Aside0.mk A690
        clear A690
        by_cases c70 : t1164 = true
        ·subst c70
         rw [if_pos rfl] at H
         have H' := Aside0.mk H
         clear H
         have hnb71 := NB1157_1133.out
         have hnc71 := NB1133_1157.out
         have hnb72 := NB1157_1145.out
         have hnc72 := NB1145_1157.out
         have hnb73 := NB1157_1150.out
         have hnc73 := NB1150_1157.out
         have hcz74_0 : w63.cell? ⟨gb1157, 0, none⟩ = some (.int .i64 t1151) := (blk_cell BK1157.out 0).trans rfl
         have hcz74_1 : w63.cell? ⟨gb1157, 1, none⟩ = some (.int .i64 t1152) := (blk_cell BK1157.out 1).trans rfl
         have hcz74_2 : w63.cell? ⟨gb1157, 2, none⟩ = some (.slice Ao36 t1153.length co36) := (blk_cell BK1157.out 2).trans rfl
         have hfz74_0 := blk_frozen BK1157.out 0
         have hfz74_1 := blk_frozen BK1157.out 1
         have hfz74_2 := blk_frozen BK1157.out 2
         have hnb75 := NB1145_1133.out
         have hnc75 := NB1133_1145.out
         have hnb76 := NB1145_1150.out
         have hnc76 := NB1150_1145.out
         have hcz77_0 : w63.cell? ⟨gb1145, 0, none⟩ = some (.int .i64 t1139) := (blk_cell BK1145.out 0).trans rfl
         have hcz77_1 : w63.cell? ⟨gb1145, 1, none⟩ = some (.int .i64 t1140) := (blk_cell BK1145.out 1).trans rfl
         have hcz77_2 : w63.cell? ⟨gb1145, 2, none⟩ = some (.slice Ao22 t1141.length co22) := (blk_cell BK1145.out 2).trans rfl
         have hfz77_0 := blk_frozen BK1145.out 0
         have hfz77_1 := blk_frozen BK1145.out 1
         have hfz77_2 := blk_frozen BK1145.out 2
         go_wp2_with (first | (go_at_call 40; (with_reducible refine (laws_eqRanks.calls kj10 t1151 t1152 _ _ t1153 t1139 t1140 _ _ t1141 true _ ?side1 ?side2 ?side3 ?side4 A69.out).mono ?_); (case side1 => repeat (first | exact (Kd.R_reads' HO_1158002.out).2.2 | (with_reducible refine Kd.C_alloc ?_ _) | (with_reducible refine Kd.C_drewN ?_ _) | (with_reducible refine Kd.C_drew ?_))); (case side2 => exact (Kd.R_reads' HO_1158002.out).2.1); (case side3 => repeat (first | exact (Kd.R_reads' HO_1146002.out).2.2 | (with_reducible refine Kd.C_alloc ?_ _) | (with_reducible refine Kd.C_drewN ?_ _) | (with_reducible refine Kd.C_drew ?_))); (case side4 => exact (Kd.R_reads' HO_1146002.out).2.1); rintro e w78 ⟨rfl, hb⟩; have n0_ := Aside0.mk (Kd.R_below (zr HO_1146002.out) hb); have n1_ := Aside0.mk (Kd.S_below (zs HO_1151001.out) hb); have n2_ := Aside0.mk (Kd.R_below (zr HO_1158002.out) hb); have n3_ := Aside0.mk (Kd.S_below (zs HO1162.out) hb); have n4_ := Aside0.mk (blk_below (g := gb1133) (o := .cells #[.int .i64 a0_0, .slice A0_1 l0_1.length c0_1] 24 (0, 0)) (zk BK1133.out) hb); have n5_ := Aside0.mk (blk_below (g := gb1145) (o := .cells #[.int .i64 t1139, .int .i64 t1140, .slice Ao22 t1141.length co22] 54 (0, 0)) (zk BK1145.out) hb); have n6_ := Aside0.mk (blk_below (g := gb1150) (o := .cells #[.int .i64 t1146, .slice Ao29 t1147.length co29] 31 (0, 0)) (zk BK1150.out) hb); have n7_ := Aside0.mk (blk_below (g := gb1157) (o := .cells #[.int .i64 t1151, .int .i64 t1152, .slice Ao36 t1153.length co36] 54 (0, 0)) (zk BK1157.out) hb); have n8_ := Aside0.mk (below_step (zb4 HB.out GE1133.out GE1145.out GE1150.out GE1157.out) hb); clear HO_1146002; clear HO_1151001; clear HO_1158002; clear HO1162; clear BK1133; clear BK1145; clear BK1150; clear BK1157; clear HB; have HO_1146002 := n0_; have HO_1151001 := n1_; have HO_1158002 := n2_; have HO1162 := n3_; have BK1133 := n4_; have BK1145 := n5_; have BK1150 := n6_; have BK1157 := n7_; have HB := n8_; clear n0_ n1_ n2_ n3_ n4_ n5_ n6_ n7_ n8_; (try clear hb); (try clear hb2); (try clear hk); (try clear hi)))
         go_meet
         case rel => exact ⟨_, ((t1156 != t1144)), zt, H', ⟨by have := HJ10.out; first | omega | exact Nat.le_refl _⟩, ⟨zr HO_1146002.out⟩, ⟨by (with_reducible repeat (first | apply Kd.S_alloc | apply Kd.S_drewN | apply Kd.S_drew)); exact Kd.S_mono HO_1151001.out (fun _ hk => ⟨hk.1.1, hk.1.2⟩)⟩, ⟨zr HO_1158002.out⟩, ⟨zk BK1133.out⟩, ⟨zk BK1145.out⟩, ⟨zk BK1150.out⟩, ⟨zk BK1157.out⟩, ⟨zb4 HB.out GE1133.out GE1145.out GE1150.out GE1157.out⟩⟩
        ·replace c70 := Bool.eq_false_iff.mpr c70
         subst c70
         rw [if_neg (show ¬ (false = true) by decide)] at H
         have H' := Aside0.mk H
         clear H
         have hnb79 := NB1157_1133.out
         have hnc79 := NB1133_1157.out
         have hnb80 := NB1157_1145.out
         have hnc80 := NB1145_1157.out
         have hnb81 := NB1157_1150.out
         have hnc81 := NB1150_1157.out
         have hcz82_0 : w63.cell? ⟨gb1157, 0, none⟩ = some (.int .i64 t1151) := (blk_cell BK1157.out 0).trans rfl
         have hcz82_1 : w63.cell? ⟨gb1157, 1, none⟩ = some (.int .i64 t1152) := (blk_cell BK1157.out 1).trans rfl
         have hcz82_2 : w63.cell? ⟨gb1157, 2, none⟩ = some (.slice Ao36 t1153.length co36) := (blk_cell BK1157.out 2).trans rfl
         have hfz82_0 := blk_frozen BK1157.out 0
         have hfz82_1 := blk_frozen BK1157.out 1
         have hfz82_2 := blk_frozen BK1157.out 2
         have hnb83 := NB1145_1133.out
         have hnc83 := NB1133_1145.out
         have hnb84 := NB1145_1150.out
         have hnc84 := NB1150_1145.out
         have hcz85_0 : w63.cell? ⟨gb1145, 0, none⟩ = some (.int .i64 t1139) := (blk_cell BK1145.out 0).trans rfl
         have hcz85_1 : w63.cell? ⟨gb1145, 1, none⟩ = some (.int .i64 t1140) := (blk_cell BK1145.out 1).trans rfl
         have hcz85_2 : w63.cell? ⟨gb1145, 2, none⟩ = some (.slice Ao22 t1141.length co22) := (blk_cell BK1145.out 2).trans rfl
         have hfz85_0 := blk_frozen BK1145.out 0
         have hfz85_1 := blk_frozen BK1145.out 1
         have hfz85_2 := blk_frozen BK1145.out 2
         go_wp2_with (first | (go_at_call 40; (with_reducible refine (laws_eqRanks.calls kj10 t1151 t1152 _ _ t1153 t1139 t1140 _ _ t1141 false _ ?side1 ?side2 ?side3 ?side4 A69.out).mono ?_); (case side1 => repeat (first | exact (Kd.R_reads' HO_1158002.out).2.2 | (with_reducible refine Kd.C_alloc ?_ _) | (with_reducible refine Kd.C_drewN ?_ _) | (with_reducible refine Kd.C_drew ?_))); (case side2 => exact (Kd.R_reads' HO_1158002.out).2.1); (case side3 => repeat (first | exact (Kd.R_reads' HO_1146002.out).2.2 | (with_reducible refine Kd.C_alloc ?_ _) | (with_reducible refine Kd.C_drewN ?_ _) | (with_reducible refine Kd.C_drew ?_))); (case side4 => exact (Kd.R_reads' HO_1146002.out).2.1); rintro e w86 ⟨rfl, hb⟩; have n0_ := Aside0.mk (Kd.R_below (zr HO_1146002.out) hb); have n1_ := Aside0.mk (Kd.S_below (zs HO_1151001.out) hb); have n2_ := Aside0.mk (Kd.R_below (zr HO_1158002.out) hb); have n3_ := Aside0.mk (Kd.S_below (zs HO1162.out) hb); have n4_ := Aside0.mk (blk_below (g := gb1133) (o := .cells #[.int .i64 a0_0, .slice A0_1 l0_1.length c0_1] 24 (0, 0)) (zk BK1133.out) hb); have n5_ := Aside0.mk (blk_below (g := gb1145) (o := .cells #[.int .i64 t1139, .int .i64 t1140, .slice Ao22 t1141.length co22] 54 (0, 0)) (zk BK1145.out) hb); have n6_ := Aside0.mk (blk_below (g := gb1150) (o := .cells #[.int .i64 t1146, .slice Ao29 t1147.length co29] 31 (0, 0)) (zk BK1150.out) hb); have n7_ := Aside0.mk (blk_below (g := gb1157) (o := .cells #[.int .i64 t1151, .int .i64 t1152, .slice Ao36 t1153.length co36] 54 (0, 0)) (zk BK1157.out) hb); have n8_ := Aside0.mk (below_step (zb4 HB.out GE1133.out GE1145.out GE1150.out GE1157.out) hb); clear HO_1146002; clear HO_1151001; clear HO_1158002; clear HO1162; clear BK1133; clear BK1145; clear BK1150; clear BK1157; clear HB; have HO_1146002 := n0_; have HO_1151001 := n1_; have HO_1158002 := n2_; have HO1162 := n3_; have BK1133 := n4_; have BK1145 := n5_; have BK1150 := n6_; have BK1157 := n7_; have HB := n8_; clear n0_ n1_ n2_ n3_ n4_ n5_ n6_ n7_ n8_; (try clear hb); (try clear hb2); (try clear hk); (try clear hi)))
         go_meet
         case rel => exact ⟨_, (true), zt, H', ⟨by have := HJ10.out; first | omega | exact Nat.le_refl _⟩, ⟨zr HO_1146002.out⟩, ⟨by (with_reducible repeat (first | apply Kd.S_alloc | apply Kd.S_drewN | apply Kd.S_drew)); exact Kd.S_mono HO_1151001.out (fun _ hk => ⟨hk.1.1, hk.1.2⟩)⟩, ⟨zr HO_1158002.out⟩, ⟨zk BK1133.out⟩, ⟨zk BK1145.out⟩, ⟨zk BK1150.out⟩, ⟨zk BK1157.out⟩, ⟨zb4 HB.out GE1133.out GE1145.out GE1150.out GE1157.out⟩⟩
      case rest =>
       clear HC59
       obtain ⟨kq, x61_58, rfl, HA, HJ58, HO_1146002, HO_1151001, HO_1158002, BK1133, BK1145, BK1150, BK1157, HB⟩ := hcut
       cases kq with
       | zero => exact absurd HA.out (by simp [laws_FnExactPortRanks.j1])
       | succ kj58 =>
        have H := HA.out
        clear HA
        simp only [laws_FnExactPortRanks.j1] at H
        by_cases c87 : x61_58 = true
        ·subst c87
         rw [if_pos rfl] at H
         obtain rfl := Option.some.inj H
         go_wp2
         go_ret
         exact ⟨ze, zb4 HB.out GE1133.out GE1145.out GE1150.out GE1157.out⟩
        ·replace c87 := Bool.eq_false_iff.mpr c87
         subst c87
         rw [if_neg (show ¬ (false = true) by decide)] at H
         replace H := Option.bind_eq_some_iff.mp H
         obtain ⟨⟨t1165, t1166⟩, A880, H⟩ := H
         replace H : ((laws_heldRanks.f kj58 t1151 t1152 t1166 1).bind fun t1167 => (if t1167 < 0 then (some false) else (if t1167 = t1165 then ((laws_toFamily.f kj58 a0_0 l0_1).bind fun bt1168 => ((impl_PortRanks.f kj58 bt1168.1 bt1168.2).bind fun bt1172 => ((laws_eqRanks.f kj58 bt1172.1 bt1172.2.1 bt1172.2.2.1 t1139 t1140 t1141).bind fun t1179 => (if t1179 = true then (laws_FnExactPortRanks.j2 kj58 t1165 (bt1172.2.2.2 != t1144) t1151 t1152 t1166) else (laws_FnExactPortRanks.j2 kj58 t1165 true t1151 t1152 t1166))))) else (some false)))) = some r := H
         have A88 := Aside0.mk A880
         clear A880
         replace H := Option.bind_eq_some_iff.mp H
         obtain ⟨t1167, A890, H⟩ := H
         replace H : (if t1167 < 0 then (some false) else (if t1167 = t1165 then ((laws_toFamily.f kj58 a0_0 l0_1).bind fun bt1168 => ((impl_PortRanks.f kj58 bt1168.1 bt1168.2).bind fun bt1172 => ((laws_eqRanks.f kj58 bt1172.1 bt1172.2.1 bt1172.2.2.1 t1139 t1140 t1141).bind fun t1179 => (if t1179 = true then (laws_FnExactPortRanks.j2 kj58 t1165 (bt1172.2.2.2 != t1144) t1151 t1152 t1166) else (laws_FnExactPortRanks.j2 kj58 t1165 true t1151 t1152 t1166))))) else (some false))) = some r := H
         have A89 := Aside0.mk A890
         clear A890
         by_cases c90 : t1167 < 0
         ·rw [if_pos c90] at H
          have c90b0 : decide (t1167 < 0) = true := decide_eq_true c90
          clear c90
          obtain rfl := Option.some.inj H
          have hnb91 := NB1157_1133.out
          have hnc91 := NB1133_1157.out
          have hnb92 := NB1157_1145.out
          have hnc92 := NB1145_1157.out
          have hnb93 := NB1157_1150.out
          have hnc93 := NB1150_1157.out
          have hcz94_0 : wc.cell? ⟨gb1157, 0, none⟩ = some (.int .i64 t1151) := (blk_cell BK1157.out 0).trans rfl
          have hcz94_1 : wc.cell? ⟨gb1157, 1, none⟩ = some (.int .i64 t1152) := (blk_cell BK1157.out 1).trans rfl
          have hcz94_2 : wc.cell? ⟨gb1157, 2, none⟩ = some (.slice Ao36 t1153.length co36) := (blk_cell BK1157.out 2).trans rfl
          have hfz94_0 := blk_frozen BK1157.out 0
          have hfz94_1 := blk_frozen BK1157.out 1
          have hfz94_2 := blk_frozen BK1157.out 2
          go_wp2_with (first | ((with_reducible refine gate_callee (f := 42) rfl ?_); refine goesL_ (some 64) rfl rfl Try.func42 (by kernel_rfl) rfl #[.agg #[.int .i64 t1151, .int .i64 t1152, .slice Ao36 t1153.length co36], .int .i64 1] rfl zl ?_; (with_reducible refine (laws_markRanks.calls kj58 t1151 t1152 (fun k_ => some k_ = (.slice Ao36 t1153.length co36 : Value).ownBlock) (.slice Ao36 t1153.length co36) t1153 1 t1165 t1166 w _ ?side1 ?side2 A88.out).mono ?_); (case side1 => repeat (first | (with_reducible first | exact HB.out | apply below_alloc | apply pw_below_drewN | apply below_drew1 | refine below_set ?_ GE1133.out | refine below_set ?_ GE1145.out | refine below_set ?_ GE1150.out | refine below_set ?_ GE1157.out) | exact HB.out)); (case side2 => exact Kd.R_tight rfl HO_1158002.out); rintro e w95 ⟨rfl, hy0, hb, hkp⟩; refine ⟨_, rfl, ?_⟩; have n0_ := Aside0.mk (Kd.R_mono (ok' := fun k_ => some k_ ≠ (.slice Ao36 t1153.length co36 : Value).ownBlock) (Kd.R_keptB (HO_1146002.out) hkp (fun k_ hk_ hs_ => (hk_) hs_)) (fun k_ hk_ => hk_.1)); have n1_ := Aside0.mk (Kd.S_mono (ok' := fun k_ => some k_ ≠ (.slice Ao22 t1141.length co22 : Value).ownBlock ∧ some k_ ≠ (.slice Ao36 t1153.length co36 : Value).ownBlock) (Kd.S_keptB (HO_1151001.out) hkp (fun k_ hk_ hs_ => (hk_.2) hs_)) (fun k_ hk_ => ⟨hk_.1.1, hk_.1.2⟩)); have n2_ := Aside0.mk (Kd.R_reok rfl hy0 (fun k_ e_ => HO_1158002.out.1 k_ e_)); have n3_ := Aside0.mk (blk_kept (zk BK1133.out) hkp (fun hs_ => (fun e_ => (Kd.R_ne HO_1158002.out BK1133.out (by decide)) e_) hs_)); have n4_ := Aside0.mk (blk_kept (zk BK1145.out) hkp (fun hs_ => (fun e_ => (Kd.R_ne HO_1158002.out BK1145.out (by decide)) e_) hs_)); have n5_ := Aside0.mk (blk_kept (zk BK1150.out) hkp (fun hs_ => (fun e_ => (Kd.R_ne HO_1158002.out BK1150.out (by decide)) e_) hs_)); have n6_ := Aside0.mk (blk_kept (zk BK1157.out) hkp (fun hs_ => (fun e_ => (Kd.R_ne HO_1158002.out BK1157.out (by decide)) e_) hs_)); have n7_ := Aside0.mk (hb); clear HO_1146002; clear HO_1151001; clear HO_1158002; clear BK1133; clear BK1145; clear BK1150; clear BK1157; clear HB; have HO_1146002 := n0_; have HO_1151001 := n1_; have HO_1158002 := n2_; have BK1133 := n3_; have BK1145 := n4_; have BK1150 := n5_; have BK1157 := n6_; have HB := n7_; clear n0_ n1_ n2_ n3_ n4_ n5_ n6_ n7_; (try clear hb); (try clear hkp); (try clear hy0); have hcz96_0 : w95.cell? ⟨gb1157, 0, none⟩ = some (.int .i64 t1151) := (blk_cell BK1157.out 0).trans rfl; have hcz96_1 : w95.cell? ⟨gb1157, 1, none⟩ = some (.int .i64 t1152) := (blk_cell BK1157.out 1).trans rfl; have hcz96_2 : w95.cell? ⟨gb1157, 2, none⟩ = some (.slice Ao36 t1153.length co36) := (blk_cell BK1157.out 2).trans rfl; have hfz96_0 := blk_frozen BK1157.out 0; have hfz96_1 := blk_frozen BK1157.out 1; have hfz96_2 := blk_frozen BK1157.out 2) | ((with_reducible refine gate_callee (f := 53) rfl ?_); refine goesL_ (some 67) rfl rfl Try.func53 (by kernel_rfl) rfl #[.agg #[.int .i64 t1151, .int .i64 t1152, .slice Ao36 t1166.length co36], .int .i64 1] rfl (by (try simp only [List.map_toArray, List.map_cons, List.map_nil]); first | done | (rw [show t1166.length = t1153.length from (Kd.R_reads' HO_1158002.out).1.symm] <;> rfl) | rfl | (simp only [List.length_drop, List.length_take]; rfl)) ?_; (with_reducible refine (laws_heldRanks.calls kj58 t1151 t1152 _ _ t1166 1 t1167 _ ?side1 ?side2 A89.out).mono ?_); (case side1 => repeat (first | exact (Kd.R_reads' HO_1158002.out).2.2 | (with_reducible refine Kd.C_alloc ?_ _) | (with_reducible refine Kd.C_drewN ?_ _) | (with_reducible refine Kd.C_drew ?_))); (case side2 => rw [show t1166.length = t1153.length from (Kd.R_reads' HO_1158002.out).1.symm]; exact (Kd.R_reads' HO_1158002.out).2.1); rintro e w97 ⟨rfl, hb⟩; refine ⟨_, rfl, ?_⟩; have n0_ := Aside0.mk (Kd.R_below (zr HO_1146002.out) hb); have n1_ := Aside0.mk (Kd.S_below (zs HO_1151001.out) hb); have n2_ := Aside0.mk (Kd.R_below (zr HO_1158002.out) hb); have n3_ := Aside0.mk (blk_below (g := gb1133) (o := .cells #[.int .i64 a0_0, .slice A0_1 l0_1.length c0_1] 24 (0, 0)) (zk BK1133.out) hb); have n4_ := Aside0.mk (blk_below (g := gb1145) (o := .cells #[.int .i64 t1139, .int .i64 t1140, .slice Ao22 t1141.length co22] 54 (0, 0)) (zk BK1145.out) hb); have n5_ := Aside0.mk (blk_below (g := gb1150) (o := .cells #[.int .i64 t1146, .slice Ao29 t1147.length co29] 31 (0, 0)) (zk BK1150.out) hb); have n6_ := Aside0.mk (blk_below (g := gb1157) (o := .cells #[.int .i64 t1151, .int .i64 t1152, .slice Ao36 t1153.length co36] 54 (0, 0)) (zk BK1157.out) hb); have n7_ := Aside0.mk (below_step (zb4 HB.out GE1133.out GE1145.out GE1150.out GE1157.out) hb); clear HO_1146002; clear HO_1151001; clear HO_1158002; clear BK1133; clear BK1145; clear BK1150; clear BK1157; clear HB; have HO_1146002 := n0_; have HO_1151001 := n1_; have HO_1158002 := n2_; have BK1133 := n3_; have BK1145 := n4_; have BK1150 := n5_; have BK1157 := n6_; have HB := n7_; clear n0_ n1_ n2_ n3_ n4_ n5_ n6_ n7_; (try clear hb); (try clear hb2); (try clear hk); (try clear hi)))
          go_ret
          exact ⟨ze, zb4 HB.out GE1133.out GE1145.out GE1150.out GE1157.out⟩
         ·rw [if_neg c90] at H
          have c90b0 : decide (t1167 < 0) = false := decide_eq_false c90
          clear c90
          by_cases c98 : t1167 = t1165
          ·rw [if_pos c98] at H
           have c98b0 : (t1167 == t1165) = true := beq_iff_eq.mpr c98
           have c98b1 : (t1167 != t1165) = false := bne_eq_false_iff_eq.mpr c98
           clear c98
           replace H := Option.bind_eq_some_iff.mp H
           obtain ⟨⟨t1168, t1169⟩, A990, H⟩ := H
           replace H : ((impl_PortRanks.f kj58 t1168 t1169).bind fun bt1172 => ((laws_eqRanks.f kj58 bt1172.1 bt1172.2.1 bt1172.2.2.1 t1139 t1140 t1141).bind fun t1179 => (if t1179 = true then (laws_FnExactPortRanks.j2 kj58 t1165 (bt1172.2.2.2 != t1144) t1151 t1152 t1166) else (laws_FnExactPortRanks.j2 kj58 t1165 true t1151 t1152 t1166)))) = some r := H
           have A99 := Aside0.mk A990
           clear A990
           replace H := Option.bind_eq_some_iff.mp H
           obtain ⟨⟨t1172, t1173, t1174, t1177⟩, A1000, H⟩ := H
           replace H : ((laws_eqRanks.f kj58 t1172 t1173 t1174 t1139 t1140 t1141).bind fun t1179 => (if t1179 = true then (laws_FnExactPortRanks.j2 kj58 t1165 (t1177 != t1144) t1151 t1152 t1166) else (laws_FnExactPortRanks.j2 kj58 t1165 true t1151 t1152 t1166))) = some r := H
           have A100 := Aside0.mk A1000
           clear A1000
           have HC101 := Aside0.mk H
           clear H
           have hnb102 := NB1157_1133.out
           have hnc102 := NB1133_1157.out
           have hnb103 := NB1157_1145.out
           have hnc103 := NB1145_1157.out
           have hnb104 := NB1157_1150.out
           have hnc104 := NB1150_1157.out
           have hcz105_0 : wc.cell? ⟨gb1157, 0, none⟩ = some (.int .i64 t1151) := (blk_cell BK1157.out 0).trans rfl
           have hcz105_1 : wc.cell? ⟨gb1157, 1, none⟩ = some (.int .i64 t1152) := (blk_cell BK1157.out 1).trans rfl
           have hcz105_2 : wc.cell? ⟨gb1157, 2, none⟩ = some (.slice Ao36 t1153.length co36) := (blk_cell BK1157.out 2).trans rfl
           have hfz105_0 := blk_frozen BK1157.out 0
           have hfz105_1 := blk_frozen BK1157.out 1
           have hfz105_2 := blk_frozen BK1157.out 2
           go_upto_region 25 with (first | ((with_reducible refine gate_callee (f := 42) rfl ?_); refine goesL_ (some 64) rfl rfl Try.func42 (by kernel_rfl) rfl #[.agg #[.int .i64 t1151, .int .i64 t1152, .slice Ao36 t1153.length co36], .int .i64 1] rfl zl ?_; (with_reducible refine (laws_markRanks.calls kj58 t1151 t1152 (fun k_ => some k_ = (.slice Ao36 t1153.length co36 : Value).ownBlock) (.slice Ao36 t1153.length co36) t1153 1 t1165 t1166 w _ ?side1 ?side2 A88.out).mono ?_); (case side1 => repeat (first | (with_reducible first | exact HB.out | apply below_alloc | apply pw_below_drewN | apply below_drew1 | refine below_set ?_ GE1133.out | refine below_set ?_ GE1145.out | refine below_set ?_ GE1150.out | refine below_set ?_ GE1157.out) | exact HB.out)); (case side2 => exact Kd.R_tight rfl HO_1158002.out); rintro e w106 ⟨rfl, hy0, hb, hkp⟩; refine ⟨_, rfl, ?_⟩; have n0_ := Aside0.mk (Kd.R_mono (ok' := fun k_ => some k_ ≠ (.slice Ao36 t1153.length co36 : Value).ownBlock) (Kd.R_keptB (HO_1146002.out) hkp (fun k_ hk_ hs_ => (hk_) hs_)) (fun k_ hk_ => hk_.1)); have n1_ := Aside0.mk (Kd.S_mono (ok' := fun k_ => some k_ ≠ (.slice Ao22 t1141.length co22 : Value).ownBlock ∧ some k_ ≠ (.slice Ao36 t1153.length co36 : Value).ownBlock) (Kd.S_keptB (HO_1151001.out) hkp (fun k_ hk_ hs_ => (hk_.2) hs_)) (fun k_ hk_ => ⟨hk_.1.1, hk_.1.2⟩)); have n2_ := Aside0.mk (Kd.R_reok rfl hy0 (fun k_ e_ => HO_1158002.out.1 k_ e_)); have n3_ := Aside0.mk (blk_kept (zk BK1133.out) hkp (fun hs_ => (fun e_ => (Kd.R_ne HO_1158002.out BK1133.out (by decide)) e_) hs_)); have n4_ := Aside0.mk (blk_kept (zk BK1145.out) hkp (fun hs_ => (fun e_ => (Kd.R_ne HO_1158002.out BK1145.out (by decide)) e_) hs_)); have n5_ := Aside0.mk (blk_kept (zk BK1150.out) hkp (fun hs_ => (fun e_ => (Kd.R_ne HO_1158002.out BK1150.out (by decide)) e_) hs_)); have n6_ := Aside0.mk (blk_kept (zk BK1157.out) hkp (fun hs_ => (fun e_ => (Kd.R_ne HO_1158002.out BK1157.out (by decide)) e_) hs_)); have n7_ := Aside0.mk (hb); clear HO_1146002; clear HO_1151001; clear HO_1158002; clear BK1133; clear BK1145; clear BK1150; clear BK1157; clear HB; have HO_1146002 := n0_; have HO_1151001 := n1_; have HO_1158002 := n2_; have BK1133 := n3_; have BK1145 := n4_; have BK1150 := n5_; have BK1157 := n6_; have HB := n7_; clear n0_ n1_ n2_ n3_ n4_ n5_ n6_ n7_; (try clear hb); (try clear hkp); (try clear hy0); have hcz107_0 : w106.cell? ⟨gb1157, 0, none⟩ = some (.int .i64 t1151) := (blk_cell BK1157.out 0).trans rfl; have hcz107_1 : w106.cell? ⟨gb1157, 1, none⟩ = some (.int .i64 t1152) := (blk_cell BK1157.out 1).trans rfl; have hcz107_2 : w106.cell? ⟨gb1157, 2, none⟩ = some (.slice Ao36 t1153.length co36) := (blk_cell BK1157.out 2).trans rfl; have hfz107_0 := blk_frozen BK1157.out 0; have hfz107_1 := blk_frozen BK1157.out 1; have hfz107_2 := blk_frozen BK1157.out 2) | ((with_reducible refine gate_callee (f := 53) rfl ?_); refine goesL_ (some 67) rfl rfl Try.func53 (by kernel_rfl) rfl #[.agg #[.int .i64 t1151, .int .i64 t1152, .slice Ao36 t1166.length co36], .int .i64 1] rfl (by (try simp only [List.map_toArray, List.map_cons, List.map_nil]); first | done | (rw [show t1166.length = t1153.length from (Kd.R_reads' HO_1158002.out).1.symm] <;> rfl) | rfl | (simp only [List.length_drop, List.length_take]; rfl)) ?_; (with_reducible refine (laws_heldRanks.calls kj58 t1151 t1152 _ _ t1166 1 t1167 _ ?side1 ?side2 A89.out).mono ?_); (case side1 => repeat (first | exact (Kd.R_reads' HO_1158002.out).2.2 | (with_reducible refine Kd.C_alloc ?_ _) | (with_reducible refine Kd.C_drewN ?_ _) | (with_reducible refine Kd.C_drew ?_))); (case side2 => rw [show t1166.length = t1153.length from (Kd.R_reads' HO_1158002.out).1.symm]; exact (Kd.R_reads' HO_1158002.out).2.1); rintro e w108 ⟨rfl, hb⟩; refine ⟨_, rfl, ?_⟩; have n0_ := Aside0.mk (Kd.R_below (zr HO_1146002.out) hb); have n1_ := Aside0.mk (Kd.S_below (zs HO_1151001.out) hb); have n2_ := Aside0.mk (Kd.R_below (zr HO_1158002.out) hb); have n3_ := Aside0.mk (blk_below (g := gb1133) (o := .cells #[.int .i64 a0_0, .slice A0_1 l0_1.length c0_1] 24 (0, 0)) (zk BK1133.out) hb); have n4_ := Aside0.mk (blk_below (g := gb1145) (o := .cells #[.int .i64 t1139, .int .i64 t1140, .slice Ao22 t1141.length co22] 54 (0, 0)) (zk BK1145.out) hb); have n5_ := Aside0.mk (blk_below (g := gb1150) (o := .cells #[.int .i64 t1146, .slice Ao29 t1147.length co29] 31 (0, 0)) (zk BK1150.out) hb); have n6_ := Aside0.mk (blk_below (g := gb1157) (o := .cells #[.int .i64 t1151, .int .i64 t1152, .slice Ao36 t1153.length co36] 54 (0, 0)) (zk BK1157.out) hb); have n7_ := Aside0.mk (below_step (zb4 HB.out GE1133.out GE1145.out GE1150.out GE1157.out) hb); clear HO_1146002; clear HO_1151001; clear HO_1158002; clear BK1133; clear BK1145; clear BK1150; clear BK1157; clear HB; have HO_1146002 := n0_; have HO_1151001 := n1_; have HO_1158002 := n2_; have BK1133 := n3_; have BK1145 := n4_; have BK1150 := n5_; have BK1157 := n6_; have HB := n7_; clear n0_ n1_ n2_ n3_ n4_ n5_ n6_ n7_; (try clear hb); (try clear hb2); (try clear hk); (try clear hi); have hnb109 := NB1133_1145.out; have hnc109 := NB1145_1133.out; have hnb110 := NB1133_1150.out; have hnc110 := NB1150_1133.out; have hcz111_0 : w108.cell? ⟨gb1133, 0, none⟩ = some (.int .i64 a0_0) := (blk_cell BK1133.out 0).trans rfl; have hcz111_1 : w108.cell? ⟨gb1133, 1, none⟩ = some (.slice A0_1 l0_1.length c0_1) := (blk_cell BK1133.out 1).trans rfl; have hfz111_0 := blk_frozen BK1133.out 0; have hfz111_1 := blk_frozen BK1133.out 1) | ((with_reducible refine gate_callee (f := 14) rfl ?_); refine goesL_ (some 75) rfl rfl Try.func14 (by kernel_rfl) rfl #[.agg #[.int .i64 a0_0, .slice A0_1 l0_1.length c0_1]] rfl zl ?_; (with_reducible refine (laws_toFamily.calls kj58 a0_0 _ _ l0_1 t1168 t1169 _ ?side1 ?side2 A99.out).mono ?_); (case side1 => exact zc (Kd.C_below HR0_1.out HB.out)); (case side2 => exact HC0_1.out); rintro e w112 ⟨v1170, rfl, ho0, hb⟩; refine ⟨_, rfl, ?_⟩; have n0_ := Aside0.mk (Kd.R_below (zr HO_1146002.out) hb); have n1_ := Aside0.mk (Kd.S_elder' (zs HO_1151001.out) (Kd.S_base ho0) hb); have n2_ := Aside0.mk (Kd.R_below (zr HO_1158002.out) hb); have n3_ := Aside0.mk (Kd.S_lower (Kd.S_new' (Kd.S_new' (Kd.S_new' ho0 (Kd.R_lt (zr HO_1146002.out))) (Kd.S_lt (zs HO_1151001.out))) (Kd.R_lt (zr HO_1158002.out))) (below_size (zb4 HB.out GE1133.out GE1145.out GE1150.out GE1157.out))); have n4_ := Aside0.mk (blk_below (g := gb1133) (o := .cells #[.int .i64 a0_0, .slice A0_1 l0_1.length c0_1] 24 (0, 0)) (zk BK1133.out) hb); have n5_ := Aside0.mk (blk_below (g := gb1145) (o := .cells #[.int .i64 t1139, .int .i64 t1140, .slice Ao22 t1141.length co22] 54 (0, 0)) (zk BK1145.out) hb); have n6_ := Aside0.mk (blk_below (g := gb1150) (o := .cells #[.int .i64 t1146, .slice Ao29 t1147.length co29] 31 (0, 0)) (zk BK1150.out) hb); have n7_ := Aside0.mk (blk_below (g := gb1157) (o := .cells #[.int .i64 t1151, .int .i64 t1152, .slice Ao36 t1153.length co36] 54 (0, 0)) (zk BK1157.out) hb); have n8_ := Aside0.mk (below_step (zb4 HB.out GE1133.out GE1145.out GE1150.out GE1157.out) hb); clear HO_1146002; clear HO_1151001; clear HO_1158002; clear BK1133; clear BK1145; clear BK1150; clear BK1157; clear HB; have HO_1146002 := n0_; have HO_1151001 := n1_; have HO_1158002 := n2_; have HO1171 := n3_; have BK1133 := n4_; have BK1145 := n5_; have BK1150 := n6_; have BK1157 := n7_; have HB := n8_; clear n0_ n1_ n2_ n3_ n4_ n5_ n6_ n7_ n8_; (try clear hb); (try clear hb2); (try clear hk); (try clear hi); (try clear ho0); obtain ⟨Ao113, co113, eo113⟩ := Kd.S_slice HO1171.out; subst eo113) | ((with_reducible refine gate_callee (f := 32) rfl ?_); refine goesL_ (some 76) rfl rfl Try.func32 (by kernel_rfl) rfl #[.agg #[.int .i64 t1168, .slice Ao113 t1169.length co113]] rfl zl ?_; (with_reducible refine (impl_PortRanks.calls kj58 t1168 _ _ t1169 t1172 t1173 t1174 t1177 _ ?side1 ?side2 A100.out).mono ?_); (case side1 => repeat (first | exact (Kd.S_reads' HO1171.out).2.2 | (with_reducible refine Kd.C_alloc ?_ _) | (with_reducible refine Kd.C_drewN ?_ _) | (with_reducible refine Kd.C_drew ?_))); (case side2 => exact (Kd.S_reads' HO1171.out).2.1); rintro e w114 ⟨v1175, rfl, ho0, hb⟩; refine ⟨_, rfl, ?_⟩; have n0_ := Aside0.mk (Kd.R_elder' (zr HO_1146002.out) (Kd.R_base ho0) hb); have n1_ := Aside0.mk (Kd.S_elder' (zs HO_1151001.out) (Kd.R_base ho0) hb); have n2_ := Aside0.mk (Kd.R_elder' (zr HO_1158002.out) (Kd.R_base ho0) hb); have n3_ := Aside0.mk (Kd.S_elder' (zs HO1171.out) (Kd.R_base ho0) hb); have n4_ := Aside0.mk (Kd.R_lower (Kd.R_new' (Kd.R_new' ho0 (Kd.R_lt (zr HO_1146002.out))) (Kd.R_lt (zr HO_1158002.out))) (below_size (zb4 HB.out GE1133.out GE1145.out GE1150.out GE1157.out))); have n5_ := Aside0.mk (blk_below (g := gb1133) (o := .cells #[.int .i64 a0_0, .slice A0_1 l0_1.length c0_1] 24 (0, 0)) (zk BK1133.out) hb); have n6_ := Aside0.mk (blk_below (g := gb1145) (o := .cells #[.int .i64 t1139, .int .i64 t1140, .slice Ao22 t1141.length co22] 54 (0, 0)) (zk BK1145.out) hb); have n7_ := Aside0.mk (blk_below (g := gb1150) (o := .cells #[.int .i64 t1146, .slice Ao29 t1147.length co29] 31 (0, 0)) (zk BK1150.out) hb); have n8_ := Aside0.mk (blk_below (g := gb1157) (o := .cells #[.int .i64 t1151, .int .i64 t1152, .slice Ao36 t1153.length co36] 54 (0, 0)) (zk BK1157.out) hb); have n9_ := Aside0.mk (below_step (zb4 HB.out GE1133.out GE1145.out GE1150.out GE1157.out) hb); clear HO_1146002; clear HO_1151001; clear HO_1158002; clear HO1171; clear BK1133; clear BK1145; clear BK1150; clear BK1157; clear HB; have HO_1146002 := n0_; have HO_1151001 := n1_; have HO_1158002 := n2_; have HO1171 := n3_; have HO1176 := n4_; have BK1133 := n5_; have BK1145 := n6_; have BK1150 := n7_; have BK1157 := n8_; have HB := n9_; clear n0_ n1_ n2_ n3_ n4_ n5_ n6_ n7_ n8_ n9_; (try clear hb); (try clear hb2); (try clear hk); (try clear hi); (try clear ho0)) | ((with_reducible refine gate_dst (N := 12) rfl ?_); refine box_event ?hg (N := 12) ?hd (cs := #[.int .i64 0, .int .i64 0, .slice none 0 0]) (t := 54) ?hr ?_; (case hd => rfl); (case hg => rfl); (case hr => first | (go_simp; done) | (go_simp; rfl)); intro gb1178 hg w115 hbox hb; have n0_ := Aside0.mk (Kd.R_below (zr HO_1146002.out) hb); have n1_ := Aside0.mk (Kd.S_below (zs HO_1151001.out) hb); have n2_ := Aside0.mk (Kd.R_below (zr HO_1158002.out) hb); have n3_ := Aside0.mk (Kd.S_below (zs HO1171.out) hb); have n4_ := Aside0.mk (Kd.R_below (zr HO1176.out) hb); have n5_ := Aside0.mk (blk_below (g := gb1133) (o := .cells #[.int .i64 a0_0, .slice A0_1 l0_1.length c0_1] 24 (0, 0)) (zk BK1133.out) hb); have n6_ := Aside0.mk (blk_below (g := gb1145) (o := .cells #[.int .i64 t1139, .int .i64 t1140, .slice Ao22 t1141.length co22] 54 (0, 0)) (zk BK1145.out) hb); have n7_ := Aside0.mk (blk_below (g := gb1150) (o := .cells #[.int .i64 t1146, .slice Ao29 t1147.length co29] 31 (0, 0)) (zk BK1150.out) hb); have n8_ := Aside0.mk (blk_below (g := gb1157) (o := .cells #[.int .i64 t1151, .int .i64 t1152, .slice Ao36 t1153.length co36] 54 (0, 0)) (zk BK1157.out) hb); have n9_ := Aside0.mk (below_step (zb4 HB.out GE1133.out GE1145.out GE1150.out GE1157.out) hb); have n10_ := Aside0.mk (hbox); have n11_ := Aside0.mk ((by rw [hg]; exact (below_size (zb4 HB.out GE1133.out GE1145.out GE1150.out GE1157.out)) : w.heap.size ≤ gb1178)); have n12_ := Aside0.mk ((by rw [hg]; exact (below_size (zb4 HB.out GE1133.out GE1145.out GE1150.out GE1157.out)) : w.heap.size ≤ gb1178)); have n13_ := Aside0.mk ((by rw [hg]; exact Nat.ne_of_lt (blk_lt (g := gb1133) (o := .cells #[.int .i64 a0_0, .slice A0_1 l0_1.length c0_1] 24 (0, 0)) (zk BK1133.out)) : gb1133 ≠ gb1178)); have n14_ := Aside0.mk ((by rw [hg]; exact Nat.ne_of_gt (blk_lt (g := gb1133) (o := .cells #[.int .i64 a0_0, .slice A0_1 l0_1.length c0_1] 24 (0, 0)) (zk BK1133.out)) : gb1178 ≠ gb1133)); have n15_ := Aside0.mk ((by rw [hg]; exact Nat.ne_of_lt (blk_lt (g := gb1145) (o := .cells #[.int .i64 t1139, .int .i64 t1140, .slice Ao22 t1141.length co22] 54 (0, 0)) (zk BK1145.out)) : gb1145 ≠ gb1178)); have n16_ := Aside0.mk ((by rw [hg]; exact Nat.ne_of_gt (blk_lt (g := gb1145) (o := .cells #[.int .i64 t1139, .int .i64 t1140, .slice Ao22 t1141.length co22] 54 (0, 0)) (zk BK1145.out)) : gb1178 ≠ gb1145)); have n17_ := Aside0.mk ((by rw [hg]; exact Nat.ne_of_lt (blk_lt (g := gb1150) (o := .cells #[.int .i64 t1146, .slice Ao29 t1147.length co29] 31 (0, 0)) (zk BK1150.out)) : gb1150 ≠ gb1178)); have n18_ := Aside0.mk ((by rw [hg]; exact Nat.ne_of_gt (blk_lt (g := gb1150) (o := .cells #[.int .i64 t1146, .slice Ao29 t1147.length co29] 31 (0, 0)) (zk BK1150.out)) : gb1178 ≠ gb1150)); have n19_ := Aside0.mk ((by rw [hg]; exact Nat.ne_of_lt (blk_lt (g := gb1157) (o := .cells #[.int .i64 t1151, .int .i64 t1152, .slice Ao36 t1153.length co36] 54 (0, 0)) (zk BK1157.out)) : gb1157 ≠ gb1178)); have n20_ := Aside0.mk ((by rw [hg]; exact Nat.ne_of_gt (blk_lt (g := gb1157) (o := .cells #[.int .i64 t1151, .int .i64 t1152, .slice Ao36 t1153.length co36] 54 (0, 0)) (zk BK1157.out)) : gb1178 ≠ gb1157)); clear HO_1146002; clear HO_1151001; clear HO_1158002; clear HO1171; clear HO1176; clear BK1133; clear BK1145; clear BK1150; clear BK1157; clear HB; have HO_1146002 := n0_; have HO_1151001 := n1_; have HO_1158002 := n2_; have HO1171 := n3_; have HO1176 := n4_; have BK1133 := n5_; have BK1145 := n6_; have BK1150 := n7_; have BK1157 := n8_; have HB := n9_; have BK1178 := n10_; have GW1178 := n11_; have GE1178 := n12_; have NB1133_1178 := n13_; have NB1178_1133 := n14_; have NB1145_1178 := n15_; have NB1178_1145 := n16_; have NB1150_1178 := n17_; have NB1178_1150 := n18_; have NB1157_1178 := n19_; have NB1178_1157 := n20_; clear n0_ n1_ n2_ n3_ n4_ n5_ n6_ n7_ n8_ n9_ n10_ n11_ n12_ n13_ n14_ n15_ n16_ n17_ n18_ n19_ n20_; clear hb hbox hg; have hnb116 := NB1178_1133.out; have hnc116 := NB1133_1178.out; have hnb117 := NB1178_1145.out; have hnc117 := NB1145_1178.out; have hnb118 := NB1178_1150.out; have hnc118 := NB1150_1178.out; have hnb119 := NB1178_1157.out; have hnc119 := NB1157_1178.out; have hcz120_0 : w115.cell? ⟨gb1178, 0, none⟩ = some (.int .i64 0) := (blk_cell BK1178.out 0).trans rfl; have hcz120_1 : w115.cell? ⟨gb1178, 1, none⟩ = some (.int .i64 0) := (blk_cell BK1178.out 1).trans rfl; have hcz120_2 : w115.cell? ⟨gb1178, 2, none⟩ = some (.slice none 0 0) := (blk_cell BK1178.out 2).trans rfl; have hfz120_0 := blk_frozen BK1178.out 0; have hfz120_1 := blk_frozen BK1178.out 1; have hfz120_2 := blk_frozen BK1178.out 2; obtain ⟨Ao121, co121, eo121⟩ := Kd.R_slice HO1176.out; subst eo121))
           (try simp only [Act.put, List.setIfInBounds_toArray, List.set_cons_zero, List.set_cons_succ])
           go_cut [87] (fun v87 wc => ∃ (kq : Nat) (x87_100 : Bool), v87 = .bool x87_100 ∧ Aside0 (laws_FnExactPortRanks.j2 kq t1165 x87_100 t1151 t1152 t1166 = some r) ∧ Aside0 (kq ≤ kj58) ∧ Aside0 (Kd.R (Kd.int .i64) 2 wc w.heap.size (fun k_ => some k_ ≠ ((.slice Ao36 t1153.length co36) : Value).ownBlock ∧ some k_ ≠ ((.slice Ao121 t1174.length co121) : Value).ownBlock) (.slice Ao22 t1141.length co22) t1141) ∧ Aside0 (Kd.S (Kd.slice 2 (Kd.int .i64)) 26 wc w.heap.size (fun k_ => some k_ ≠ ((.slice Ao22 t1141.length co22) : Value).ownBlock ∧ some k_ ≠ ((.slice Ao36 t1153.length co36) : Value).ownBlock ∧ some k_ ≠ ((.slice Ao121 t1174.length co121) : Value).ownBlock) (.slice none 0 0) []) ∧ Aside0 (Kd.R (Kd.int .i64) 2 wc w.heap.size (fun k_ => some k_ ≠ ((.slice Ao22 t1141.length co22) : Value).ownBlock ∧ some k_ ≠ ((.slice Ao121 t1174.length co121) : Value).ownBlock) (.slice Ao36 t1153.length co36) t1166) ∧ Aside0 (Kd.R (Kd.int .i64) 2 wc w.heap.size (fun k_ => some k_ ≠ ((.slice Ao22 t1141.length co22) : Value).ownBlock ∧ some k_ ≠ ((.slice Ao36 t1153.length co36) : Value).ownBlock) (.slice Ao121 t1174.length co121) t1174) ∧ Aside0 (wc.heap[gb1133]? = some (.cells #[.int .i64 a0_0, (.slice A0_1 l0_1.length c0_1)] 24 (0, 0))) ∧ Aside0 (wc.heap[gb1145]? = some (.cells #[.int .i64 t1139, .int .i64 t1140, (.slice Ao22 t1141.length co22)] 54 (0, 0))) ∧ Aside0 (wc.heap[gb1150]? = some (.cells #[.int .i64 t1146, (.slice Ao29 t1147.length co29)] 31 (0, 0))) ∧ Aside0 (wc.heap[gb1157]? = some (.cells #[.int .i64 t1151, .int .i64 t1152, (.slice Ao36 t1153.length co36)] 54 (0, 0))) ∧ Aside0 (wc.heap[gb1178]? = some (.cells #[.int .i64 t1172, .int .i64 t1173, (.slice Ao121 t1174.length co121)] 54 (0, 0))) ∧ Aside0 (Below w.heap.size w wc))
           case first =>
            have H := HC101.out
            clear HC101
            replace H := Option.bind_eq_some_iff.mp H
            obtain ⟨t1179, A1220, H⟩ := H
            replace H : (if t1179 = true then (laws_FnExactPortRanks.j2 kj58 t1165 (t1177 != t1144) t1151 t1152 t1166) else (laws_FnExactPortRanks.j2 kj58 t1165 true t1151 t1152 t1166)) = some r := H
            have A122 := Aside0.mk A1220
            clear A1220
            by_cases c123 : t1179 = true
            ·subst c123
             rw [if_pos rfl] at H
             have H' := Aside0.mk H
             clear H
             have hnb124 := NB1178_1133.out
             have hnc124 := NB1133_1178.out
             have hnb125 := NB1178_1145.out
             have hnc125 := NB1145_1178.out
             have hnb126 := NB1178_1150.out
             have hnc126 := NB1150_1178.out
             have hnb127 := NB1178_1157.out
             have hnc127 := NB1157_1178.out
             have hcz128_0 : w115.cell? ⟨gb1178, 0, none⟩ = some (.int .i64 0) := (blk_cell BK1178.out 0).trans rfl
             have hcz128_1 : w115.cell? ⟨gb1178, 1, none⟩ = some (.int .i64 0) := (blk_cell BK1178.out 1).trans rfl
             have hcz128_2 : w115.cell? ⟨gb1178, 2, none⟩ = some (.slice none 0 0) := (blk_cell BK1178.out 2).trans rfl
             have hfz128_0 := blk_frozen BK1178.out 0
             have hfz128_1 := blk_frozen BK1178.out 1
             have hfz128_2 := blk_frozen BK1178.out 2
             have hnb129 := NB1145_1133.out
             have hnc129 := NB1133_1145.out
             have hnb130 := NB1145_1150.out
             have hnc130 := NB1150_1145.out
             have hnb131 := NB1145_1157.out
             have hnc131 := NB1157_1145.out
             have hcz132_0 : w115.cell? ⟨gb1145, 0, none⟩ = some (.int .i64 t1139) := (blk_cell BK1145.out 0).trans rfl
             have hcz132_1 : w115.cell? ⟨gb1145, 1, none⟩ = some (.int .i64 t1140) := (blk_cell BK1145.out 1).trans rfl
             have hcz132_2 : w115.cell? ⟨gb1145, 2, none⟩ = some (.slice Ao22 t1141.length co22) := (blk_cell BK1145.out 2).trans rfl
             have hfz132_0 := blk_frozen BK1145.out 0
             have hfz132_1 := blk_frozen BK1145.out 1
             have hfz132_2 := blk_frozen BK1145.out 2
             go_wp2_with (first | ((with_reducible refine gate_callee (f := 40) rfl ?_); refine goesL_ (some 81) rfl rfl Try.func40 (by kernel_rfl) rfl #[.agg #[.int .i64 t1172, .int .i64 t1173, .slice Ao121 t1174.length co121], .agg #[.int .i64 t1139, .int .i64 t1140, .slice Ao22 t1141.length co22]] rfl zl ?_; (with_reducible refine (laws_eqRanks.calls kj58 t1172 t1173 _ _ t1174 t1139 t1140 _ _ t1141 true _ ?side1 ?side2 ?side3 ?side4 A122.out).mono ?_); (case side1 => refine (Kd.R_reads' (e := 2) (base := w.heap.size) (ok := fun k_ => ((True ∧ some k_ ≠ (.slice Ao22 t1141.length co22 : Value).ownBlock) ∧ some k_ ≠ (.slice Ao36 t1153.length co36 : Value).ownBlock)) (n := t1174.length) (c := co121) ?_).2.2; exact (by (with_reducible repeat (first | apply Kd.R_alloc | apply Kd.R_drewN | apply Kd.R_drew)); exact (Kd.R_mono (Kd.R_far (p := ⟨gb1178, 2, none⟩) (Kd.R_far (p := ⟨gb1178, 1, none⟩) (Kd.R_far (p := ⟨gb1178, 0, none⟩) (Kd.R_types HO1176.out BK1178.out (by decide)) (fun _ hk => hk.2) (.int .i64 t1172)) (fun _ hk => hk.2) (.int .i64 t1173)) (fun _ hk => hk.2) (.slice Ao121 t1174.length co121)) (fun _ h_ => h_.1)))); (case side2 => exact (Kd.R_reads' HO1176.out).2.1); (case side3 => refine (Kd.R_reads' (e := 2) (base := w.heap.size) (ok := fun k_ => (some k_ ≠ (.slice Ao36 t1153.length co36 : Value).ownBlock ∧ some k_ ≠ (.slice Ao121 t1174.length co121 : Value).ownBlock)) (n := t1141.length) (c := co22) ?_).2.2; exact (by (with_reducible repeat (first | apply Kd.R_alloc | apply Kd.R_drewN | apply Kd.R_drew)); exact (Kd.R_mono (Kd.R_far (p := ⟨gb1178, 2, none⟩) (Kd.R_far (p := ⟨gb1178, 1, none⟩) (Kd.R_far (p := ⟨gb1178, 0, none⟩) (Kd.R_types HO_1146002.out BK1178.out (by decide)) (fun _ hk => hk.2) (.int .i64 t1172)) (fun _ hk => hk.2) (.int .i64 t1173)) (fun _ hk => hk.2) (.slice Ao121 t1174.length co121)) (fun _ h_ => h_.1)))); (case side4 => exact (Kd.R_reads' HO_1146002.out).2.1); rintro e w133 ⟨rfl, hb⟩; refine ⟨_, rfl, ?_⟩; have n0_ := Aside0.mk (Kd.R_below (by (with_reducible repeat (first | apply Kd.R_alloc | apply Kd.R_drewN | apply Kd.R_drew)); exact (Kd.R_mono (Kd.R_far (p := ⟨gb1178, 2, none⟩) (Kd.R_far (p := ⟨gb1178, 1, none⟩) (Kd.R_far (p := ⟨gb1178, 0, none⟩) (Kd.R_types HO_1146002.out BK1178.out (by decide)) (fun _ hk => hk.2) (.int .i64 t1172)) (fun _ hk => hk.2) (.int .i64 t1173)) (fun _ hk => hk.2) (.slice Ao121 t1174.length co121)) (fun _ h_ => h_.1))) hb); have n1_ := Aside0.mk (Kd.S_below (by (with_reducible repeat (first | apply Kd.S_alloc | apply Kd.S_drewN | apply Kd.S_drew)); exact (Kd.S_mono (Kd.S_far (p := ⟨gb1178, 2, none⟩) (Kd.S_far (p := ⟨gb1178, 1, none⟩) (Kd.S_far (p := ⟨gb1178, 0, none⟩) (Kd.S_types HO_1151001.out BK1178.out (by decide)) (fun _ hk => hk.2) (.int .i64 t1172)) (fun _ hk => hk.2) (.int .i64 t1173)) (fun _ hk => hk.2) (.slice Ao121 t1174.length co121)) (fun _ h_ => h_.1))) hb); have n2_ := Aside0.mk (Kd.R_below (by (with_reducible repeat (first | apply Kd.R_alloc | apply Kd.R_drewN | apply Kd.R_drew)); exact (Kd.R_mono (Kd.R_far (p := ⟨gb1178, 2, none⟩) (Kd.R_far (p := ⟨gb1178, 1, none⟩) (Kd.R_far (p := ⟨gb1178, 0, none⟩) (Kd.R_types HO_1158002.out BK1178.out (by decide)) (fun _ hk => hk.2) (.int .i64 t1172)) (fun _ hk => hk.2) (.int .i64 t1173)) (fun _ hk => hk.2) (.slice Ao121 t1174.length co121)) (fun _ h_ => h_.1))) hb); have n3_ := Aside0.mk (Kd.S_below (by (with_reducible repeat (first | apply Kd.S_alloc | apply Kd.S_drewN | apply Kd.S_drew)); exact (Kd.S_mono (Kd.S_far (p := ⟨gb1178, 2, none⟩) (Kd.S_far (p := ⟨gb1178, 1, none⟩) (Kd.S_far (p := ⟨gb1178, 0, none⟩) (Kd.S_types HO1171.out BK1178.out (by decide)) (fun _ hk => hk.2) (.int .i64 t1172)) (fun _ hk => hk.2) (.int .i64 t1173)) (fun _ hk => hk.2) (.slice Ao121 t1174.length co121)) (fun _ h_ => h_.1))) hb); have n4_ := Aside0.mk (Kd.R_below (by (with_reducible repeat (first | apply Kd.R_alloc | apply Kd.R_drewN | apply Kd.R_drew)); exact (Kd.R_mono (Kd.R_far (p := ⟨gb1178, 2, none⟩) (Kd.R_far (p := ⟨gb1178, 1, none⟩) (Kd.R_far (p := ⟨gb1178, 0, none⟩) (Kd.R_types HO1176.out BK1178.out (by decide)) (fun _ hk => hk.2) (.int .i64 t1172)) (fun _ hk => hk.2) (.int .i64 t1173)) (fun _ hk => hk.2) (.slice Ao121 t1174.length co121)) (fun _ h_ => h_.1))) hb); have n5_ := Aside0.mk (blk_below (g := gb1133) (o := .cells #[.int .i64 a0_0, .slice A0_1 l0_1.length c0_1] 24 (0, 0)) (by (with_reducible repeat (first | refine blk_drewN ?_ _ | refine blk_drew ?_ | refine blk_alloc ?_ _)); refine blk_far ?_ NB1133_1178.out _; (with_reducible repeat (first | refine blk_drewN ?_ _ | refine blk_drew ?_ | refine blk_alloc ?_ _)); refine blk_far ?_ NB1133_1178.out _; (with_reducible repeat (first | refine blk_drewN ?_ _ | refine blk_drew ?_ | refine blk_alloc ?_ _)); refine blk_far ?_ NB1133_1178.out _; (with_reducible repeat (first | refine blk_drewN ?_ _ | refine blk_drew ?_ | refine blk_alloc ?_ _)); exact BK1133.out) hb); have n6_ := Aside0.mk (blk_below (g := gb1145) (o := .cells #[.int .i64 t1139, .int .i64 t1140, .slice Ao22 t1141.length co22] 54 (0, 0)) (by (with_reducible repeat (first | refine blk_drewN ?_ _ | refine blk_drew ?_ | refine blk_alloc ?_ _)); refine blk_far ?_ NB1145_1178.out _; (with_reducible repeat (first | refine blk_drewN ?_ _ | refine blk_drew ?_ | refine blk_alloc ?_ _)); refine blk_far ?_ NB1145_1178.out _; (with_reducible repeat (first | refine blk_drewN ?_ _ | refine blk_drew ?_ | refine blk_alloc ?_ _)); refine blk_far ?_ NB1145_1178.out _; (with_reducible repeat (first | refine blk_drewN ?_ _ | refine blk_drew ?_ | refine blk_alloc ?_ _)); exact BK1145.out) hb); have n7_ := Aside0.mk (blk_below (g := gb1150) (o := .cells #[.int .i64 t1146, .slice Ao29 t1147.length co29] 31 (0, 0)) (by (with_reducible repeat (first | refine blk_drewN ?_ _ | refine blk_drew ?_ | refine blk_alloc ?_ _)); refine blk_far ?_ NB1150_1178.out _; (with_reducible repeat (first | refine blk_drewN ?_ _ | refine blk_drew ?_ | refine blk_alloc ?_ _)); refine blk_far ?_ NB1150_1178.out _; (with_reducible repeat (first | refine blk_drewN ?_ _ | refine blk_drew ?_ | refine blk_alloc ?_ _)); refine blk_far ?_ NB1150_1178.out _; (with_reducible repeat (first | refine blk_drewN ?_ _ | refine blk_drew ?_ | refine blk_alloc ?_ _)); exact BK1150.out) hb); have n8_ := Aside0.mk (blk_below (g := gb1157) (o := .cells #[.int .i64 t1151, .int .i64 t1152, .slice Ao36 t1153.length co36] 54 (0, 0)) (by (with_reducible repeat (first | refine blk_drewN ?_ _ | refine blk_drew ?_ | refine blk_alloc ?_ _)); refine blk_far ?_ NB1157_1178.out _; (with_reducible repeat (first | refine blk_drewN ?_ _ | refine blk_drew ?_ | refine blk_alloc ?_ _)); refine blk_far ?_ NB1157_1178.out _; (with_reducible repeat (first | refine blk_drewN ?_ _ | refine blk_drew ?_ | refine blk_alloc ?_ _)); refine blk_far ?_ NB1157_1178.out _; (with_reducible repeat (first | refine blk_drewN ?_ _ | refine blk_drew ?_ | refine blk_alloc ?_ _)); exact BK1157.out) hb); have n9_ := Aside0.mk (blk_below (g := gb1178) (o := .cells #[.int .i64 t1172, .int .i64 t1173, .slice Ao121 t1174.length co121] 54 (0, 0)) (by (with_reducible repeat (first | refine blk_drewN ?_ _ | refine blk_drew ?_ | refine blk_alloc ?_ _)); refine blk_put (cs := #[.int .i64 t1172, .int .i64 t1173, .slice none 0 0]) ?_ 2 _ rfl; (with_reducible repeat (first | refine blk_drewN ?_ _ | refine blk_drew ?_ | refine blk_alloc ?_ _)); refine blk_put (cs := #[.int .i64 t1172, .int .i64 0, .slice none 0 0]) ?_ 1 _ rfl; (with_reducible repeat (first | refine blk_drewN ?_ _ | refine blk_drew ?_ | refine blk_alloc ?_ _)); refine blk_put (cs := #[.int .i64 0, .int .i64 0, .slice none 0 0]) ?_ 0 _ rfl; (with_reducible repeat (first | refine blk_drewN ?_ _ | refine blk_drew ?_ | refine blk_alloc ?_ _)); exact BK1178.out) hb); have n10_ := Aside0.mk (below_step (by repeat (first | (with_reducible first | exact HB.out | apply below_alloc | apply pw_below_drewN | apply below_drew1 | refine below_set ?_ GE1133.out | refine below_set ?_ GE1145.out | refine below_set ?_ GE1150.out | refine below_set ?_ GE1157.out | refine below_set ?_ GE1178.out) | exact HB.out)) hb); clear HO_1146002; clear HO_1151001; clear HO_1158002; clear HO1171; clear HO1176; clear BK1133; clear BK1145; clear BK1150; clear BK1157; clear BK1178; clear HB; have HO_1146002 := n0_; have HO_1151001 := n1_; have HO_1158002 := n2_; have HO1171 := n3_; have HO1176 := n4_; have BK1133 := n5_; have BK1145 := n6_; have BK1150 := n7_; have BK1157 := n8_; have BK1178 := n9_; have HB := n10_; clear n0_ n1_ n2_ n3_ n4_ n5_ n6_ n7_ n8_ n9_ n10_; (try clear hb); (try clear hb2); (try clear hk); (try clear hi)))
             go_meet
             case rel => exact ⟨_, ((t1177 != t1144)), zt, H', ⟨by have := HJ10.out; have := HJ58.out; first | omega | exact Nat.le_refl _⟩, ⟨zr HO_1146002.out⟩, ⟨by (with_reducible repeat (first | apply Kd.S_alloc | apply Kd.S_drewN | apply Kd.S_drew)); exact Kd.S_mono HO_1151001.out (fun _ hk => ⟨hk.1.1.1, ⟨hk.1.1.2, hk.2⟩⟩)⟩, ⟨zr HO_1158002.out⟩, ⟨by (with_reducible repeat (first | apply Kd.R_alloc | apply Kd.R_drewN | apply Kd.R_drew)); exact Kd.R_mono HO1176.out (fun _ hk => ⟨hk.1.2, hk.2⟩)⟩, ⟨zk BK1133.out⟩, ⟨zk BK1145.out⟩, ⟨zk BK1150.out⟩, ⟨zk BK1157.out⟩, ⟨zk BK1178.out⟩, ⟨by repeat (first | (with_reducible first | exact HB.out | apply below_alloc | apply pw_below_drewN | apply below_drew1 | refine below_set ?_ GE1133.out | refine below_set ?_ GE1145.out | refine below_set ?_ GE1150.out | refine below_set ?_ GE1157.out | refine below_set ?_ GE1178.out) | exact HB.out)⟩⟩
            ·replace c123 := Bool.eq_false_iff.mpr c123
             subst c123
             rw [if_neg (show ¬ (false = true) by decide)] at H
             have H' := Aside0.mk H
             clear H
             have hnb134 := NB1178_1133.out
             have hnc134 := NB1133_1178.out
             have hnb135 := NB1178_1145.out
             have hnc135 := NB1145_1178.out
             have hnb136 := NB1178_1150.out
             have hnc136 := NB1150_1178.out
             have hnb137 := NB1178_1157.out
             have hnc137 := NB1157_1178.out
             have hcz138_0 : w115.cell? ⟨gb1178, 0, none⟩ = some (.int .i64 0) := (blk_cell BK1178.out 0).trans rfl
             have hcz138_1 : w115.cell? ⟨gb1178, 1, none⟩ = some (.int .i64 0) := (blk_cell BK1178.out 1).trans rfl
             have hcz138_2 : w115.cell? ⟨gb1178, 2, none⟩ = some (.slice none 0 0) := (blk_cell BK1178.out 2).trans rfl
             have hfz138_0 := blk_frozen BK1178.out 0
             have hfz138_1 := blk_frozen BK1178.out 1
             have hfz138_2 := blk_frozen BK1178.out 2
             have hnb139 := NB1145_1133.out
             have hnc139 := NB1133_1145.out
             have hnb140 := NB1145_1150.out
             have hnc140 := NB1150_1145.out
             have hnb141 := NB1145_1157.out
             have hnc141 := NB1157_1145.out
             have hcz142_0 : w115.cell? ⟨gb1145, 0, none⟩ = some (.int .i64 t1139) := (blk_cell BK1145.out 0).trans rfl
             have hcz142_1 : w115.cell? ⟨gb1145, 1, none⟩ = some (.int .i64 t1140) := (blk_cell BK1145.out 1).trans rfl
             have hcz142_2 : w115.cell? ⟨gb1145, 2, none⟩ = some (.slice Ao22 t1141.length co22) := (blk_cell BK1145.out 2).trans rfl
             have hfz142_0 := blk_frozen BK1145.out 0
             have hfz142_1 := blk_frozen BK1145.out 1
             have hfz142_2 := blk_frozen BK1145.out 2
             go_wp2_with (first | ((with_reducible refine gate_callee (f := 40) rfl ?_); refine goesL_ (some 81) rfl rfl Try.func40 (by kernel_rfl) rfl #[.agg #[.int .i64 t1172, .int .i64 t1173, .slice Ao121 t1174.length co121], .agg #[.int .i64 t1139, .int .i64 t1140, .slice Ao22 t1141.length co22]] rfl zl ?_; (with_reducible refine (laws_eqRanks.calls kj58 t1172 t1173 _ _ t1174 t1139 t1140 _ _ t1141 false _ ?side1 ?side2 ?side3 ?side4 A122.out).mono ?_); (case side1 => refine (Kd.R_reads' (e := 2) (base := w.heap.size) (ok := fun k_ => ((True ∧ some k_ ≠ (.slice Ao22 t1141.length co22 : Value).ownBlock) ∧ some k_ ≠ (.slice Ao36 t1153.length co36 : Value).ownBlock)) (n := t1174.length) (c := co121) ?_).2.2; exact (by (with_reducible repeat (first | apply Kd.R_alloc | apply Kd.R_drewN | apply Kd.R_drew)); exact (Kd.R_mono (Kd.R_far (p := ⟨gb1178, 2, none⟩) (Kd.R_far (p := ⟨gb1178, 1, none⟩) (Kd.R_far (p := ⟨gb1178, 0, none⟩) (Kd.R_types HO1176.out BK1178.out (by decide)) (fun _ hk => hk.2) (.int .i64 t1172)) (fun _ hk => hk.2) (.int .i64 t1173)) (fun _ hk => hk.2) (.slice Ao121 t1174.length co121)) (fun _ h_ => h_.1)))); (case side2 => exact (Kd.R_reads' HO1176.out).2.1); (case side3 => refine (Kd.R_reads' (e := 2) (base := w.heap.size) (ok := fun k_ => (some k_ ≠ (.slice Ao36 t1153.length co36 : Value).ownBlock ∧ some k_ ≠ (.slice Ao121 t1174.length co121 : Value).ownBlock)) (n := t1141.length) (c := co22) ?_).2.2; exact (by (with_reducible repeat (first | apply Kd.R_alloc | apply Kd.R_drewN | apply Kd.R_drew)); exact (Kd.R_mono (Kd.R_far (p := ⟨gb1178, 2, none⟩) (Kd.R_far (p := ⟨gb1178, 1, none⟩) (Kd.R_far (p := ⟨gb1178, 0, none⟩) (Kd.R_types HO_1146002.out BK1178.out (by decide)) (fun _ hk => hk.2) (.int .i64 t1172)) (fun _ hk => hk.2) (.int .i64 t1173)) (fun _ hk => hk.2) (.slice Ao121 t1174.length co121)) (fun _ h_ => h_.1)))); (case side4 => exact (Kd.R_reads' HO_1146002.out).2.1); rintro e w143 ⟨rfl, hb⟩; refine ⟨_, rfl, ?_⟩; have n0_ := Aside0.mk (Kd.R_below (by (with_reducible repeat (first | apply Kd.R_alloc | apply Kd.R_drewN | apply Kd.R_drew)); exact (Kd.R_mono (Kd.R_far (p := ⟨gb1178, 2, none⟩) (Kd.R_far (p := ⟨gb1178, 1, none⟩) (Kd.R_far (p := ⟨gb1178, 0, none⟩) (Kd.R_types HO_1146002.out BK1178.out (by decide)) (fun _ hk => hk.2) (.int .i64 t1172)) (fun _ hk => hk.2) (.int .i64 t1173)) (fun _ hk => hk.2) (.slice Ao121 t1174.length co121)) (fun _ h_ => h_.1))) hb); have n1_ := Aside0.mk (Kd.S_below (by (with_reducible repeat (first | apply Kd.S_alloc | apply Kd.S_drewN | apply Kd.S_drew)); exact (Kd.S_mono (Kd.S_far (p := ⟨gb1178, 2, none⟩) (Kd.S_far (p := ⟨gb1178, 1, none⟩) (Kd.S_far (p := ⟨gb1178, 0, none⟩) (Kd.S_types HO_1151001.out BK1178.out (by decide)) (fun _ hk => hk.2) (.int .i64 t1172)) (fun _ hk => hk.2) (.int .i64 t1173)) (fun _ hk => hk.2) (.slice Ao121 t1174.length co121)) (fun _ h_ => h_.1))) hb); have n2_ := Aside0.mk (Kd.R_below (by (with_reducible repeat (first | apply Kd.R_alloc | apply Kd.R_drewN | apply Kd.R_drew)); exact (Kd.R_mono (Kd.R_far (p := ⟨gb1178, 2, none⟩) (Kd.R_far (p := ⟨gb1178, 1, none⟩) (Kd.R_far (p := ⟨gb1178, 0, none⟩) (Kd.R_types HO_1158002.out BK1178.out (by decide)) (fun _ hk => hk.2) (.int .i64 t1172)) (fun _ hk => hk.2) (.int .i64 t1173)) (fun _ hk => hk.2) (.slice Ao121 t1174.length co121)) (fun _ h_ => h_.1))) hb); have n3_ := Aside0.mk (Kd.S_below (by (with_reducible repeat (first | apply Kd.S_alloc | apply Kd.S_drewN | apply Kd.S_drew)); exact (Kd.S_mono (Kd.S_far (p := ⟨gb1178, 2, none⟩) (Kd.S_far (p := ⟨gb1178, 1, none⟩) (Kd.S_far (p := ⟨gb1178, 0, none⟩) (Kd.S_types HO1171.out BK1178.out (by decide)) (fun _ hk => hk.2) (.int .i64 t1172)) (fun _ hk => hk.2) (.int .i64 t1173)) (fun _ hk => hk.2) (.slice Ao121 t1174.length co121)) (fun _ h_ => h_.1))) hb); have n4_ := Aside0.mk (Kd.R_below (by (with_reducible repeat (first | apply Kd.R_alloc | apply Kd.R_drewN | apply Kd.R_drew)); exact (Kd.R_mono (Kd.R_far (p := ⟨gb1178, 2, none⟩) (Kd.R_far (p := ⟨gb1178, 1, none⟩) (Kd.R_far (p := ⟨gb1178, 0, none⟩) (Kd.R_types HO1176.out BK1178.out (by decide)) (fun _ hk => hk.2) (.int .i64 t1172)) (fun _ hk => hk.2) (.int .i64 t1173)) (fun _ hk => hk.2) (.slice Ao121 t1174.length co121)) (fun _ h_ => h_.1))) hb); have n5_ := Aside0.mk (blk_below (g := gb1133) (o := .cells #[.int .i64 a0_0, .slice A0_1 l0_1.length c0_1] 24 (0, 0)) (by (with_reducible repeat (first | refine blk_drewN ?_ _ | refine blk_drew ?_ | refine blk_alloc ?_ _)); refine blk_far ?_ NB1133_1178.out _; (with_reducible repeat (first | refine blk_drewN ?_ _ | refine blk_drew ?_ | refine blk_alloc ?_ _)); refine blk_far ?_ NB1133_1178.out _; (with_reducible repeat (first | refine blk_drewN ?_ _ | refine blk_drew ?_ | refine blk_alloc ?_ _)); refine blk_far ?_ NB1133_1178.out _; (with_reducible repeat (first | refine blk_drewN ?_ _ | refine blk_drew ?_ | refine blk_alloc ?_ _)); exact BK1133.out) hb); have n6_ := Aside0.mk (blk_below (g := gb1145) (o := .cells #[.int .i64 t1139, .int .i64 t1140, .slice Ao22 t1141.length co22] 54 (0, 0)) (by (with_reducible repeat (first | refine blk_drewN ?_ _ | refine blk_drew ?_ | refine blk_alloc ?_ _)); refine blk_far ?_ NB1145_1178.out _; (with_reducible repeat (first | refine blk_drewN ?_ _ | refine blk_drew ?_ | refine blk_alloc ?_ _)); refine blk_far ?_ NB1145_1178.out _; (with_reducible repeat (first | refine blk_drewN ?_ _ | refine blk_drew ?_ | refine blk_alloc ?_ _)); refine blk_far ?_ NB1145_1178.out _; (with_reducible repeat (first | refine blk_drewN ?_ _ | refine blk_drew ?_ | refine blk_alloc ?_ _)); exact BK1145.out) hb); have n7_ := Aside0.mk (blk_below (g := gb1150) (o := .cells #[.int .i64 t1146, .slice Ao29 t1147.length co29] 31 (0, 0)) (by (with_reducible repeat (first | refine blk_drewN ?_ _ | refine blk_drew ?_ | refine blk_alloc ?_ _)); refine blk_far ?_ NB1150_1178.out _; (with_reducible repeat (first | refine blk_drewN ?_ _ | refine blk_drew ?_ | refine blk_alloc ?_ _)); refine blk_far ?_ NB1150_1178.out _; (with_reducible repeat (first | refine blk_drewN ?_ _ | refine blk_drew ?_ | refine blk_alloc ?_ _)); refine blk_far ?_ NB1150_1178.out _; (with_reducible repeat (first | refine blk_drewN ?_ _ | refine blk_drew ?_ | refine blk_alloc ?_ _)); exact BK1150.out) hb); have n8_ := Aside0.mk (blk_below (g := gb1157) (o := .cells #[.int .i64 t1151, .int .i64 t1152, .slice Ao36 t1153.length co36] 54 (0, 0)) (by (with_reducible repeat (first | refine blk_drewN ?_ _ | refine blk_drew ?_ | refine blk_alloc ?_ _)); refine blk_far ?_ NB1157_1178.out _; (with_reducible repeat (first | refine blk_drewN ?_ _ | refine blk_drew ?_ | refine blk_alloc ?_ _)); refine blk_far ?_ NB1157_1178.out _; (with_reducible repeat (first | refine blk_drewN ?_ _ | refine blk_drew ?_ | refine blk_alloc ?_ _)); refine blk_far ?_ NB1157_1178.out _; (with_reducible repeat (first | refine blk_drewN ?_ _ | refine blk_drew ?_ | refine blk_alloc ?_ _)); exact BK1157.out) hb); have n9_ := Aside0.mk (blk_below (g := gb1178) (o := .cells #[.int .i64 t1172, .int .i64 t1173, .slice Ao121 t1174.length co121] 54 (0, 0)) (by (with_reducible repeat (first | refine blk_drewN ?_ _ | refine blk_drew ?_ | refine blk_alloc ?_ _)); refine blk_put (cs := #[.int .i64 t1172, .int .i64 t1173, .slice none 0 0]) ?_ 2 _ rfl; (with_reducible repeat (first | refine blk_drewN ?_ _ | refine blk_drew ?_ | refine blk_alloc ?_ _)); refine blk_put (cs := #[.int .i64 t1172, .int .i64 0, .slice none 0 0]) ?_ 1 _ rfl; (with_reducible repeat (first | refine blk_drewN ?_ _ | refine blk_drew ?_ | refine blk_alloc ?_ _)); refine blk_put (cs := #[.int .i64 0, .int .i64 0, .slice none 0 0]) ?_ 0 _ rfl; (with_reducible repeat (first | refine blk_drewN ?_ _ | refine blk_drew ?_ | refine blk_alloc ?_ _)); exact BK1178.out) hb); have n10_ := Aside0.mk (below_step (by repeat (first | (with_reducible first | exact HB.out | apply below_alloc | apply pw_below_drewN | apply below_drew1 | refine below_set ?_ GE1133.out | refine below_set ?_ GE1145.out | refine below_set ?_ GE1150.out | refine below_set ?_ GE1157.out | refine below_set ?_ GE1178.out) | exact HB.out)) hb); clear HO_1146002; clear HO_1151001; clear HO_1158002; clear HO1171; clear HO1176; clear BK1133; clear BK1145; clear BK1150; clear BK1157; clear BK1178; clear HB; have HO_1146002 := n0_; have HO_1151001 := n1_; have HO_1158002 := n2_; have HO1171 := n3_; have HO1176 := n4_; have BK1133 := n5_; have BK1145 := n6_; have BK1150 := n7_; have BK1157 := n8_; have BK1178 := n9_; have HB := n10_; clear n0_ n1_ n2_ n3_ n4_ n5_ n6_ n7_ n8_ n9_ n10_; (try clear hb); (try clear hb2); (try clear hk); (try clear hi)))
             go_meet
             case rel => exact ⟨_, (true), zt, H', ⟨by have := HJ10.out; have := HJ58.out; first | omega | exact Nat.le_refl _⟩, ⟨zr HO_1146002.out⟩, ⟨by (with_reducible repeat (first | apply Kd.S_alloc | apply Kd.S_drewN | apply Kd.S_drew)); exact Kd.S_mono HO_1151001.out (fun _ hk => ⟨hk.1.1.1, ⟨hk.1.1.2, hk.2⟩⟩)⟩, ⟨zr HO_1158002.out⟩, ⟨by (with_reducible repeat (first | apply Kd.R_alloc | apply Kd.R_drewN | apply Kd.R_drew)); exact Kd.R_mono HO1176.out (fun _ hk => ⟨hk.1.2, hk.2⟩)⟩, ⟨zk BK1133.out⟩, ⟨zk BK1145.out⟩, ⟨zk BK1150.out⟩, ⟨zk BK1157.out⟩, ⟨zk BK1178.out⟩, ⟨by repeat (first | (with_reducible first | exact HB.out | apply below_alloc | apply pw_below_drewN | apply below_drew1 | refine below_set ?_ GE1133.out | refine below_set ?_ GE1145.out | refine below_set ?_ GE1150.out | refine below_set ?_ GE1157.out | refine below_set ?_ GE1178.out) | exact HB.out)⟩⟩
           case rest =>
            clear HC101
            obtain ⟨kq, x87_100, rfl, HA, HJ100, HO_1146002, HO_1151001, HO_1158002, HO_1179002, BK1133, BK1145, BK1150, BK1157, BK1178, HB⟩ := hcut
            have hl1158002_100 := (Kd.R_reads' HO_1158002.out).1
            rw [hl1158002_100] at HO_1158002
            (try simp only [hl1158002_100])
            (try simp only [hl1158002_100] at BK1133)
            (try simp only [hl1158002_100] at BK1145)
            (try simp only [hl1158002_100] at BK1150)
            (try simp only [hl1158002_100] at BK1157)
            (try simp only [hl1158002_100] at BK1178)
            (try simp only [hl1158002_100] at HO_1146002)
            (try simp only [hl1158002_100] at HO_1151001)
            (try simp only [hl1158002_100] at HO_1179002)
            cases kq with
            | zero => exact absurd HA.out (by simp [laws_FnExactPortRanks.j2])
            | succ kj100 =>
             have H := HA.out
             clear HA
             simp only [laws_FnExactPortRanks.j2] at H
             by_cases c144 : x87_100 = true
             ·subst c144
              rw [if_pos rfl] at H
              obtain rfl := Option.some.inj H
              go_wp2
              go_ret
              exact ⟨ze, by repeat (first | (with_reducible first | exact HB.out | apply below_alloc | apply pw_below_drewN | apply below_drew1 | refine below_set ?_ GE1133.out | refine below_set ?_ GE1145.out | refine below_set ?_ GE1150.out | refine below_set ?_ GE1157.out | refine below_set ?_ GE1178.out) | exact HB.out)⟩
             ·replace c144 := Bool.eq_false_iff.mpr c144
              subst c144
              rw [if_neg (show ¬ (false = true) by decide)] at H
              replace H := Option.bind_eq_some_iff.mp H
              obtain ⟨t1180, A1450, H⟩ := H
              replace H : (if t1180 < 0 then (some false) else (if t1180 = t1165 then (some true) else (some false))) = some r := H
              have A145 := Aside0.mk A1450
              clear A1450
              by_cases c146 : t1180 < 0
              ·rw [if_pos c146] at H
               have c146b0 : decide (t1180 < 0) = true := decide_eq_true c146
               clear c146
               obtain rfl := Option.some.inj H
               have hnb147 := NB1157_1133.out
               have hnc147 := NB1133_1157.out
               have hnb148 := NB1157_1145.out
               have hnc148 := NB1145_1157.out
               have hnb149 := NB1157_1150.out
               have hnc149 := NB1150_1157.out
               have hnb150 := NB1157_1178.out
               have hnc150 := NB1178_1157.out
               have hcz151_0 : wc.cell? ⟨gb1157, 0, none⟩ = some (.int .i64 t1151) := (blk_cell BK1157.out 0).trans rfl
               have hcz151_1 : wc.cell? ⟨gb1157, 1, none⟩ = some (.int .i64 t1152) := (blk_cell BK1157.out 1).trans rfl
               have hcz151_2 : wc.cell? ⟨gb1157, 2, none⟩ = some (.slice Ao36 t1166.length co36) := (blk_cell BK1157.out 2).trans rfl
               have hfz151_0 := blk_frozen BK1157.out 0
               have hfz151_1 := blk_frozen BK1157.out 1
               have hfz151_2 := blk_frozen BK1157.out 2
               go_wp2_with (first | ((with_reducible refine gate_callee (f := 53) rfl ?_); refine goesL_ (some 90) rfl rfl Try.func53 (by kernel_rfl) rfl #[.agg #[.int .i64 t1151, .int .i64 t1152, .slice Ao36 t1166.length co36], .int .i64 1] rfl zl ?_; (with_reducible refine (laws_heldRanks.calls kj100 t1151 t1152 _ _ t1166 1 t1180 _ ?side1 ?side2 A145.out).mono ?_); (case side1 => repeat (first | exact (Kd.R_reads' HO_1158002.out).2.2 | (with_reducible refine Kd.C_alloc ?_ _) | (with_reducible refine Kd.C_drewN ?_ _) | (with_reducible refine Kd.C_drew ?_))); (case side2 => exact (Kd.R_reads' HO_1158002.out).2.1); rintro e w152 ⟨rfl, hb⟩; refine ⟨_, rfl, ?_⟩; have n0_ := Aside0.mk (Kd.R_below (zr HO_1146002.out) hb); have n1_ := Aside0.mk (Kd.S_below (zs HO_1151001.out) hb); have n2_ := Aside0.mk (Kd.R_below (zr HO_1158002.out) hb); have n3_ := Aside0.mk (Kd.R_below (zr HO_1179002.out) hb); have n4_ := Aside0.mk (blk_below (g := gb1133) (o := .cells #[.int .i64 a0_0, .slice A0_1 l0_1.length c0_1] 24 (0, 0)) (zk BK1133.out) hb); have n5_ := Aside0.mk (blk_below (g := gb1145) (o := .cells #[.int .i64 t1139, .int .i64 t1140, .slice Ao22 t1141.length co22] 54 (0, 0)) (zk BK1145.out) hb); have n6_ := Aside0.mk (blk_below (g := gb1150) (o := .cells #[.int .i64 t1146, .slice Ao29 t1147.length co29] 31 (0, 0)) (zk BK1150.out) hb); have n7_ := Aside0.mk (blk_below (g := gb1157) (o := .cells #[.int .i64 t1151, .int .i64 t1152, .slice Ao36 t1166.length co36] 54 (0, 0)) (zk BK1157.out) hb); have n8_ := Aside0.mk (blk_below (g := gb1178) (o := .cells #[.int .i64 t1172, .int .i64 t1173, .slice Ao121 t1174.length co121] 54 (0, 0)) (zk BK1178.out) hb); have n9_ := Aside0.mk (below_step (by repeat (first | (with_reducible first | exact HB.out | apply below_alloc | apply pw_below_drewN | apply below_drew1 | refine below_set ?_ GE1133.out | refine below_set ?_ GE1145.out | refine below_set ?_ GE1150.out | refine below_set ?_ GE1157.out | refine below_set ?_ GE1178.out) | exact HB.out)) hb); clear HO_1146002; clear HO_1151001; clear HO_1158002; clear HO_1179002; clear BK1133; clear BK1145; clear BK1150; clear BK1157; clear BK1178; clear HB; have HO_1146002 := n0_; have HO_1151001 := n1_; have HO_1158002 := n2_; have HO_1179002 := n3_; have BK1133 := n4_; have BK1145 := n5_; have BK1150 := n6_; have BK1157 := n7_; have BK1178 := n8_; have HB := n9_; clear n0_ n1_ n2_ n3_ n4_ n5_ n6_ n7_ n8_ n9_; (try clear hb); (try clear hb2); (try clear hk); (try clear hi)))
               go_ret
               exact ⟨ze, by repeat (first | (with_reducible first | exact HB.out | apply below_alloc | apply pw_below_drewN | apply below_drew1 | refine below_set ?_ GE1133.out | refine below_set ?_ GE1145.out | refine below_set ?_ GE1150.out | refine below_set ?_ GE1157.out | refine below_set ?_ GE1178.out) | exact HB.out)⟩
              ·rw [if_neg c146] at H
               have c146b0 : decide (t1180 < 0) = false := decide_eq_false c146
               clear c146
               by_cases c153 : t1180 = t1165
               ·rw [if_pos c153] at H
                have c153b0 : (t1180 == t1165) = true := beq_iff_eq.mpr c153
                have c153b1 : (t1180 != t1165) = false := bne_eq_false_iff_eq.mpr c153
                clear c153
                obtain rfl := Option.some.inj H
                have hnb154 := NB1157_1133.out
                have hnc154 := NB1133_1157.out
                have hnb155 := NB1157_1145.out
                have hnc155 := NB1145_1157.out
                have hnb156 := NB1157_1150.out
                have hnc156 := NB1150_1157.out
                have hnb157 := NB1157_1178.out
                have hnc157 := NB1178_1157.out
                have hcz158_0 : wc.cell? ⟨gb1157, 0, none⟩ = some (.int .i64 t1151) := (blk_cell BK1157.out 0).trans rfl
                have hcz158_1 : wc.cell? ⟨gb1157, 1, none⟩ = some (.int .i64 t1152) := (blk_cell BK1157.out 1).trans rfl
                have hcz158_2 : wc.cell? ⟨gb1157, 2, none⟩ = some (.slice Ao36 t1166.length co36) := (blk_cell BK1157.out 2).trans rfl
                have hfz158_0 := blk_frozen BK1157.out 0
                have hfz158_1 := blk_frozen BK1157.out 1
                have hfz158_2 := blk_frozen BK1157.out 2
                go_wp2_with (first | ((with_reducible refine gate_callee (f := 53) rfl ?_); refine goesL_ (some 90) rfl rfl Try.func53 (by kernel_rfl) rfl #[.agg #[.int .i64 t1151, .int .i64 t1152, .slice Ao36 t1166.length co36], .int .i64 1] rfl zl ?_; (with_reducible refine (laws_heldRanks.calls kj100 t1151 t1152 _ _ t1166 1 t1180 _ ?side1 ?side2 A145.out).mono ?_); (case side1 => repeat (first | exact (Kd.R_reads' HO_1158002.out).2.2 | (with_reducible refine Kd.C_alloc ?_ _) | (with_reducible refine Kd.C_drewN ?_ _) | (with_reducible refine Kd.C_drew ?_))); (case side2 => exact (Kd.R_reads' HO_1158002.out).2.1); rintro e w159 ⟨rfl, hb⟩; refine ⟨_, rfl, ?_⟩; have n0_ := Aside0.mk (Kd.R_below (zr HO_1146002.out) hb); have n1_ := Aside0.mk (Kd.S_below (zs HO_1151001.out) hb); have n2_ := Aside0.mk (Kd.R_below (zr HO_1158002.out) hb); have n3_ := Aside0.mk (Kd.R_below (zr HO_1179002.out) hb); have n4_ := Aside0.mk (blk_below (g := gb1133) (o := .cells #[.int .i64 a0_0, .slice A0_1 l0_1.length c0_1] 24 (0, 0)) (zk BK1133.out) hb); have n5_ := Aside0.mk (blk_below (g := gb1145) (o := .cells #[.int .i64 t1139, .int .i64 t1140, .slice Ao22 t1141.length co22] 54 (0, 0)) (zk BK1145.out) hb); have n6_ := Aside0.mk (blk_below (g := gb1150) (o := .cells #[.int .i64 t1146, .slice Ao29 t1147.length co29] 31 (0, 0)) (zk BK1150.out) hb); have n7_ := Aside0.mk (blk_below (g := gb1157) (o := .cells #[.int .i64 t1151, .int .i64 t1152, .slice Ao36 t1166.length co36] 54 (0, 0)) (zk BK1157.out) hb); have n8_ := Aside0.mk (blk_below (g := gb1178) (o := .cells #[.int .i64 t1172, .int .i64 t1173, .slice Ao121 t1174.length co121] 54 (0, 0)) (zk BK1178.out) hb); have n9_ := Aside0.mk (below_step (by repeat (first | (with_reducible first | exact HB.out | apply below_alloc | apply pw_below_drewN | apply below_drew1 | refine below_set ?_ GE1133.out | refine below_set ?_ GE1145.out | refine below_set ?_ GE1150.out | refine below_set ?_ GE1157.out | refine below_set ?_ GE1178.out) | exact HB.out)) hb); clear HO_1146002; clear HO_1151001; clear HO_1158002; clear HO_1179002; clear BK1133; clear BK1145; clear BK1150; clear BK1157; clear BK1178; clear HB; have HO_1146002 := n0_; have HO_1151001 := n1_; have HO_1158002 := n2_; have HO_1179002 := n3_; have BK1133 := n4_; have BK1145 := n5_; have BK1150 := n6_; have BK1157 := n7_; have BK1178 := n8_; have HB := n9_; clear n0_ n1_ n2_ n3_ n4_ n5_ n6_ n7_ n8_ n9_; (try clear hb); (try clear hb2); (try clear hk); (try clear hi)))
                go_ret
                exact ⟨ze, by repeat (first | (with_reducible first | exact HB.out | apply below_alloc | apply pw_below_drewN | apply below_drew1 | refine below_set ?_ GE1133.out | refine below_set ?_ GE1145.out | refine below_set ?_ GE1150.out | refine below_set ?_ GE1157.out | refine below_set ?_ GE1178.out) | exact HB.out)⟩
               ·rw [if_neg c153] at H
                have c153b0 : (t1180 == t1165) = false := beq_eq_false_iff_ne.mpr c153
                have c153b1 : (t1180 != t1165) = true := bne_iff_ne.mpr c153
                obtain rfl := Option.some.inj H
                have hnb160 := NB1157_1133.out
                have hnc160 := NB1133_1157.out
                have hnb161 := NB1157_1145.out
                have hnc161 := NB1145_1157.out
                have hnb162 := NB1157_1150.out
                have hnc162 := NB1150_1157.out
                have hnb163 := NB1157_1178.out
                have hnc163 := NB1178_1157.out
                have hcz164_0 : wc.cell? ⟨gb1157, 0, none⟩ = some (.int .i64 t1151) := (blk_cell BK1157.out 0).trans rfl
                have hcz164_1 : wc.cell? ⟨gb1157, 1, none⟩ = some (.int .i64 t1152) := (blk_cell BK1157.out 1).trans rfl
                have hcz164_2 : wc.cell? ⟨gb1157, 2, none⟩ = some (.slice Ao36 t1166.length co36) := (blk_cell BK1157.out 2).trans rfl
                have hfz164_0 := blk_frozen BK1157.out 0
                have hfz164_1 := blk_frozen BK1157.out 1
                have hfz164_2 := blk_frozen BK1157.out 2
                go_wp2_with (first | ((with_reducible refine gate_callee (f := 53) rfl ?_); refine goesL_ (some 90) rfl rfl Try.func53 (by kernel_rfl) rfl #[.agg #[.int .i64 t1151, .int .i64 t1152, .slice Ao36 t1166.length co36], .int .i64 1] rfl zl ?_; (with_reducible refine (laws_heldRanks.calls kj100 t1151 t1152 _ _ t1166 1 t1180 _ ?side1 ?side2 A145.out).mono ?_); (case side1 => repeat (first | exact (Kd.R_reads' HO_1158002.out).2.2 | (with_reducible refine Kd.C_alloc ?_ _) | (with_reducible refine Kd.C_drewN ?_ _) | (with_reducible refine Kd.C_drew ?_))); (case side2 => exact (Kd.R_reads' HO_1158002.out).2.1); rintro e w165 ⟨rfl, hb⟩; refine ⟨_, rfl, ?_⟩; have n0_ := Aside0.mk (Kd.R_below (zr HO_1146002.out) hb); have n1_ := Aside0.mk (Kd.S_below (zs HO_1151001.out) hb); have n2_ := Aside0.mk (Kd.R_below (zr HO_1158002.out) hb); have n3_ := Aside0.mk (Kd.R_below (zr HO_1179002.out) hb); have n4_ := Aside0.mk (blk_below (g := gb1133) (o := .cells #[.int .i64 a0_0, .slice A0_1 l0_1.length c0_1] 24 (0, 0)) (zk BK1133.out) hb); have n5_ := Aside0.mk (blk_below (g := gb1145) (o := .cells #[.int .i64 t1139, .int .i64 t1140, .slice Ao22 t1141.length co22] 54 (0, 0)) (zk BK1145.out) hb); have n6_ := Aside0.mk (blk_below (g := gb1150) (o := .cells #[.int .i64 t1146, .slice Ao29 t1147.length co29] 31 (0, 0)) (zk BK1150.out) hb); have n7_ := Aside0.mk (blk_below (g := gb1157) (o := .cells #[.int .i64 t1151, .int .i64 t1152, .slice Ao36 t1166.length co36] 54 (0, 0)) (zk BK1157.out) hb); have n8_ := Aside0.mk (blk_below (g := gb1178) (o := .cells #[.int .i64 t1172, .int .i64 t1173, .slice Ao121 t1174.length co121] 54 (0, 0)) (zk BK1178.out) hb); have n9_ := Aside0.mk (below_step (by repeat (first | (with_reducible first | exact HB.out | apply below_alloc | apply pw_below_drewN | apply below_drew1 | refine below_set ?_ GE1133.out | refine below_set ?_ GE1145.out | refine below_set ?_ GE1150.out | refine below_set ?_ GE1157.out | refine below_set ?_ GE1178.out) | exact HB.out)) hb); clear HO_1146002; clear HO_1151001; clear HO_1158002; clear HO_1179002; clear BK1133; clear BK1145; clear BK1150; clear BK1157; clear BK1178; clear HB; have HO_1146002 := n0_; have HO_1151001 := n1_; have HO_1158002 := n2_; have HO_1179002 := n3_; have BK1133 := n4_; have BK1145 := n5_; have BK1150 := n6_; have BK1157 := n7_; have BK1178 := n8_; have HB := n9_; clear n0_ n1_ n2_ n3_ n4_ n5_ n6_ n7_ n8_ n9_; (try clear hb); (try clear hb2); (try clear hk); (try clear hi)))
                go_ret
                exact ⟨ze, by repeat (first | (with_reducible first | exact HB.out | apply below_alloc | apply pw_below_drewN | apply below_drew1 | refine below_set ?_ GE1133.out | refine below_set ?_ GE1145.out | refine below_set ?_ GE1150.out | refine below_set ?_ GE1157.out | refine below_set ?_ GE1178.out) | exact HB.out)⟩
          ·rw [if_neg c98] at H
           have c98b0 : (t1167 == t1165) = false := beq_eq_false_iff_ne.mpr c98
           have c98b1 : (t1167 != t1165) = true := bne_iff_ne.mpr c98
           obtain rfl := Option.some.inj H
           have hnb166 := NB1157_1133.out
           have hnc166 := NB1133_1157.out
           have hnb167 := NB1157_1145.out
           have hnc167 := NB1145_1157.out
           have hnb168 := NB1157_1150.out
           have hnc168 := NB1150_1157.out
           have hcz169_0 : wc.cell? ⟨gb1157, 0, none⟩ = some (.int .i64 t1151) := (blk_cell BK1157.out 0).trans rfl
           have hcz169_1 : wc.cell? ⟨gb1157, 1, none⟩ = some (.int .i64 t1152) := (blk_cell BK1157.out 1).trans rfl
           have hcz169_2 : wc.cell? ⟨gb1157, 2, none⟩ = some (.slice Ao36 t1153.length co36) := (blk_cell BK1157.out 2).trans rfl
           have hfz169_0 := blk_frozen BK1157.out 0
           have hfz169_1 := blk_frozen BK1157.out 1
           have hfz169_2 := blk_frozen BK1157.out 2
           go_wp2_with (first | ((with_reducible refine gate_callee (f := 42) rfl ?_); refine goesL_ (some 64) rfl rfl Try.func42 (by kernel_rfl) rfl #[.agg #[.int .i64 t1151, .int .i64 t1152, .slice Ao36 t1153.length co36], .int .i64 1] rfl zl ?_; (with_reducible refine (laws_markRanks.calls kj58 t1151 t1152 (fun k_ => some k_ = (.slice Ao36 t1153.length co36 : Value).ownBlock) (.slice Ao36 t1153.length co36) t1153 1 t1165 t1166 w _ ?side1 ?side2 A88.out).mono ?_); (case side1 => repeat (first | (with_reducible first | exact HB.out | apply below_alloc | apply pw_below_drewN | apply below_drew1 | refine below_set ?_ GE1133.out | refine below_set ?_ GE1145.out | refine below_set ?_ GE1150.out | refine below_set ?_ GE1157.out) | exact HB.out)); (case side2 => exact Kd.R_tight rfl HO_1158002.out); rintro e w170 ⟨rfl, hy0, hb, hkp⟩; refine ⟨_, rfl, ?_⟩; have n0_ := Aside0.mk (Kd.R_mono (ok' := fun k_ => some k_ ≠ (.slice Ao36 t1153.length co36 : Value).ownBlock) (Kd.R_keptB (HO_1146002.out) hkp (fun k_ hk_ hs_ => (hk_) hs_)) (fun k_ hk_ => hk_.1)); have n1_ := Aside0.mk (Kd.S_mono (ok' := fun k_ => some k_ ≠ (.slice Ao22 t1141.length co22 : Value).ownBlock ∧ some k_ ≠ (.slice Ao36 t1153.length co36 : Value).ownBlock) (Kd.S_keptB (HO_1151001.out) hkp (fun k_ hk_ hs_ => (hk_.2) hs_)) (fun k_ hk_ => ⟨hk_.1.1, hk_.1.2⟩)); have n2_ := Aside0.mk (Kd.R_reok rfl hy0 (fun k_ e_ => HO_1158002.out.1 k_ e_)); have n3_ := Aside0.mk (blk_kept (zk BK1133.out) hkp (fun hs_ => (fun e_ => (Kd.R_ne HO_1158002.out BK1133.out (by decide)) e_) hs_)); have n4_ := Aside0.mk (blk_kept (zk BK1145.out) hkp (fun hs_ => (fun e_ => (Kd.R_ne HO_1158002.out BK1145.out (by decide)) e_) hs_)); have n5_ := Aside0.mk (blk_kept (zk BK1150.out) hkp (fun hs_ => (fun e_ => (Kd.R_ne HO_1158002.out BK1150.out (by decide)) e_) hs_)); have n6_ := Aside0.mk (blk_kept (zk BK1157.out) hkp (fun hs_ => (fun e_ => (Kd.R_ne HO_1158002.out BK1157.out (by decide)) e_) hs_)); have n7_ := Aside0.mk (hb); clear HO_1146002; clear HO_1151001; clear HO_1158002; clear BK1133; clear BK1145; clear BK1150; clear BK1157; clear HB; have HO_1146002 := n0_; have HO_1151001 := n1_; have HO_1158002 := n2_; have BK1133 := n3_; have BK1145 := n4_; have BK1150 := n5_; have BK1157 := n6_; have HB := n7_; clear n0_ n1_ n2_ n3_ n4_ n5_ n6_ n7_; (try clear hb); (try clear hkp); (try clear hy0); have hcz171_0 : w170.cell? ⟨gb1157, 0, none⟩ = some (.int .i64 t1151) := (blk_cell BK1157.out 0).trans rfl; have hcz171_1 : w170.cell? ⟨gb1157, 1, none⟩ = some (.int .i64 t1152) := (blk_cell BK1157.out 1).trans rfl; have hcz171_2 : w170.cell? ⟨gb1157, 2, none⟩ = some (.slice Ao36 t1153.length co36) := (blk_cell BK1157.out 2).trans rfl; have hfz171_0 := blk_frozen BK1157.out 0; have hfz171_1 := blk_frozen BK1157.out 1; have hfz171_2 := blk_frozen BK1157.out 2) | ((with_reducible refine gate_callee (f := 53) rfl ?_); refine goesL_ (some 67) rfl rfl Try.func53 (by kernel_rfl) rfl #[.agg #[.int .i64 t1151, .int .i64 t1152, .slice Ao36 t1166.length co36], .int .i64 1] rfl (by (try simp only [List.map_toArray, List.map_cons, List.map_nil]); first | done | (rw [show t1166.length = t1153.length from (Kd.R_reads' HO_1158002.out).1.symm] <;> rfl) | rfl | (simp only [List.length_drop, List.length_take]; rfl)) ?_; (with_reducible refine (laws_heldRanks.calls kj58 t1151 t1152 _ _ t1166 1 t1167 _ ?side1 ?side2 A89.out).mono ?_); (case side1 => repeat (first | exact (Kd.R_reads' HO_1158002.out).2.2 | (with_reducible refine Kd.C_alloc ?_ _) | (with_reducible refine Kd.C_drewN ?_ _) | (with_reducible refine Kd.C_drew ?_))); (case side2 => rw [show t1166.length = t1153.length from (Kd.R_reads' HO_1158002.out).1.symm]; exact (Kd.R_reads' HO_1158002.out).2.1); rintro e w172 ⟨rfl, hb⟩; refine ⟨_, rfl, ?_⟩; have n0_ := Aside0.mk (Kd.R_below (zr HO_1146002.out) hb); have n1_ := Aside0.mk (Kd.S_below (zs HO_1151001.out) hb); have n2_ := Aside0.mk (Kd.R_below (zr HO_1158002.out) hb); have n3_ := Aside0.mk (blk_below (g := gb1133) (o := .cells #[.int .i64 a0_0, .slice A0_1 l0_1.length c0_1] 24 (0, 0)) (zk BK1133.out) hb); have n4_ := Aside0.mk (blk_below (g := gb1145) (o := .cells #[.int .i64 t1139, .int .i64 t1140, .slice Ao22 t1141.length co22] 54 (0, 0)) (zk BK1145.out) hb); have n5_ := Aside0.mk (blk_below (g := gb1150) (o := .cells #[.int .i64 t1146, .slice Ao29 t1147.length co29] 31 (0, 0)) (zk BK1150.out) hb); have n6_ := Aside0.mk (blk_below (g := gb1157) (o := .cells #[.int .i64 t1151, .int .i64 t1152, .slice Ao36 t1153.length co36] 54 (0, 0)) (zk BK1157.out) hb); have n7_ := Aside0.mk (below_step (zb4 HB.out GE1133.out GE1145.out GE1150.out GE1157.out) hb); clear HO_1146002; clear HO_1151001; clear HO_1158002; clear BK1133; clear BK1145; clear BK1150; clear BK1157; clear HB; have HO_1146002 := n0_; have HO_1151001 := n1_; have HO_1158002 := n2_; have BK1133 := n3_; have BK1145 := n4_; have BK1150 := n5_; have BK1157 := n6_; have HB := n7_; clear n0_ n1_ n2_ n3_ n4_ n5_ n6_ n7_; (try clear hb); (try clear hb2); (try clear hk); (try clear hi)))
           go_ret
           exact ⟨ze, zb4 HB.out GE1133.out GE1145.out GE1150.out GE1157.out⟩
     ·replace c58 := Bool.eq_false_iff.mpr c58
      subst c58
      rw [if_neg (show ¬ (false = true) by decide)] at H
      obtain rfl := Option.some.inj H
      try go_wp2
      have n0_ := Aside0.mk (Kd.R_drew HO_1146002.out)
      have n1_ := Aside0.mk (Kd.S_drew HO_1151001.out)
      have n2_ := Aside0.mk (Kd.R_drew HO_1158002.out)
      have n3_ := Aside0.mk (blk_drew BK1133.out)
      have n4_ := Aside0.mk (blk_drew BK1145.out)
      have n5_ := Aside0.mk (blk_drew BK1150.out)
      have n6_ := Aside0.mk (blk_drew BK1157.out)
      have n7_ := Aside0.mk (below_drew1 HB.out)
      clear HO_1146002
      clear HO_1151001
      clear HO_1158002
      clear BK1133
      clear BK1145
      clear BK1150
      clear BK1157
      clear HB
      have HO_1146002 := n0_
      have HO_1151001 := n1_
      have HO_1158002 := n2_
      have BK1133 := n3_
      have BK1145 := n4_
      have BK1150 := n5_
      have BK1157 := n6_
      have HB := n7_
      clear n0_ n1_ n2_ n3_ n4_ n5_ n6_ n7_
      refine start_ (n := 5) (S := fun w' => w'.cell? ⟨gb1150, 0, none⟩ = some (.int .i64 t1146) ∧ w'.cell? ⟨gb1150, 1, none⟩ = some (.slice Ao29 t1147.length co29) ∧ w'.cell? ⟨gb1133, 0, none⟩ = some (.int .i64 a0_0) ∧ w'.cell? ⟨gb1133, 1, none⟩ = some (.slice A0_1 l0_1.length c0_1)) (ds := []) #[false,false,false,false,false] (by kernel_rfl) rfl rfl ⟨(blk_cell BK1150.out 0).trans rfl, (blk_cell BK1150.out 1).trans rfl, (blk_cell BK1133.out 0).trans rfl, (blk_cell BK1133.out 1).trans rfl⟩ (fun hHeld => ?_)
      generalize wc.drew = w173 at HO_1146002 HO_1151001 HO_1158002 BK1133 BK1145 BK1150 BK1157 HB hHeld ⊢
      refine take_ (i := 0) (N := some 41) (v := ?_) (a' := ?_) #[true,false,false,false,false] rfl rfl (by kernel_rfl) (fun _ _ _ h => h) (Or.inl ⟨by rfl, ?_⟩) hHeld ?_ ?_
      rotate_left
      ·rintro w' ⟨s0, s1, s2, s3⟩
       go_simp
       with_reducible rfl
      rotate_left
      ·exact zp
      refine take_ (i := 1) (N := some 42) (v := ?_) (a' := ?_) #[true,true,false,false,false] rfl rfl (by kernel_rfl) (fun _ _ _ h => h) (Or.inl ⟨by rfl, ?_⟩) hHeld ?_ ?_
      rotate_left
      ·rintro w' ⟨s0, s1, s2, s3⟩
       go_simp
       with_reducible rfl
      rotate_left
      ·exact zp
      refine one_ (i := 2) (N := some 43) #[true,true,true,false,false] rfl rfl (by kernel_rfl) (by decide) (fun K hK => ?_)
      refine goes_ Try.func14 (by kernel_rfl) rfl #[.agg #[.int .i64 a0_0, .slice A0_1 l0_1.length c0_1]] (by rfl) rfl rfl zl ?_
      with_reducible refine (laws_toFamily.calls kj10 a0_0 _ _ l0_1 t1159 t1160 _ ?side1 ?side2 A56.out).mono ?_
      (case side1 => exact zc (Kd.C_below HR0_1.out HB.out))
      (case side2 => exact HC0_1.out)
      rintro e w174 ⟨v1161, rfl, ho0, hb⟩
      refine ⟨_, rfl, ?_⟩
      have n0_ := Aside0.mk (Kd.R_below (zr HO_1146002.out) hb)
      have n1_ := Aside0.mk (Kd.S_elder' (zs HO_1151001.out) (Kd.S_base ho0) hb)
      have n2_ := Aside0.mk (Kd.R_below (zr HO_1158002.out) hb)
      have n3_ := Aside0.mk (Kd.S_lower (Kd.S_new' (Kd.S_new' (Kd.S_new' ho0 (Kd.R_lt (zr HO_1146002.out))) (Kd.S_lt (zs HO_1151001.out))) (Kd.R_lt (zr HO_1158002.out))) (below_size (zb4 HB.out GE1133.out GE1145.out GE1150.out GE1157.out)))
      have n4_ := Aside0.mk (blk_below (g := gb1133) (o := .cells #[.int .i64 a0_0, .slice A0_1 l0_1.length c0_1] 24 (0, 0)) (zk BK1133.out) hb)
      have n5_ := Aside0.mk (blk_below (g := gb1145) (o := .cells #[.int .i64 t1139, .int .i64 t1140, .slice Ao22 t1141.length co22] 54 (0, 0)) (zk BK1145.out) hb)
      have n6_ := Aside0.mk (blk_below (g := gb1150) (o := .cells #[.int .i64 t1146, .slice Ao29 t1147.length co29] 31 (0, 0)) (zk BK1150.out) hb)
      have n7_ := Aside0.mk (blk_below (g := gb1157) (o := .cells #[.int .i64 t1151, .int .i64 t1152, .slice Ao36 t1153.length co36] 54 (0, 0)) (zk BK1157.out) hb)
      have n8_ := Aside0.mk (below_step (zb4 HB.out GE1133.out GE1145.out GE1150.out GE1157.out) hb)
      clear HO_1146002
      clear HO_1151001
      clear HO_1158002
      clear BK1133
      clear BK1145
      clear BK1150
      clear BK1157
      clear HB
      have HO_1146002 := n0_
      have HO_1151001 := n1_
      have HO_1158002 := n2_
      have HO1162 := n3_
      have BK1133 := n4_
      have BK1145 := n5_
      have BK1150 := n6_
      have BK1157 := n7_
      have HB := n8_
      clear n0_ n1_ n2_ n3_ n4_ n5_ n6_ n7_ n8_
      (try clear hb)
      (try clear hb2)
      (try clear hk)
      (try clear hi)
      (try clear ho0)
      obtain ⟨Ao175, co175, eo175⟩ := Kd.S_slice HO1162.out
      (first | subst eo175 | (injection eo175 with f1_ f2_ f3_; have f4_ := f1_.symm; have f5_ := f3_.symm; clear f1_ f2_ f3_; subst f4_; subst f5_))
      refine hK.out _ _ ⟨(blk_cell BK1150.out 0).trans rfl, (blk_cell BK1150.out 1).trans rfl, (blk_cell BK1133.out 0).trans rfl, (blk_cell BK1133.out 1).trans rfl⟩ (fun hHeld => ?_)
      clear hK K
      refine norm_ (a' := ?_) ?_ ?_
      rotate_left
      ·show Act.put _ (some 43) _ = _
       simp only [Act.put, List.setIfInBounds_toArray, List.set_cons_zero, List.set_cons_succ, i64_w, i32_w]
       rfl
      refine one_ (i := 3) (N := some 44) #[true,true,true,true,false] rfl rfl (by kernel_rfl) (by decide) (fun K hK => ?_)
      refine goes_ Try.func17 (by kernel_rfl) rfl #[.agg #[.int .i64 t1146, .slice Ao29 t1147.length co29], .agg #[.int .i64 t1159, .slice Ao175 t1160.length co175]] (by rfl) rfl rfl zl ?_
      with_reducible refine (laws_eqFamily.calls kj10 t1146 _ _ t1147 t1159 _ _ t1160 false _ ?side1 ?side2 ?side3 ?side4 A57.out).mono ?_
      (case side1 => repeat (first | exact (Kd.S_reads' HO_1151001.out).2.2 | (with_reducible refine Kd.C_alloc ?_ _) | (with_reducible refine Kd.C_drewN ?_ _) | (with_reducible refine Kd.C_drew ?_)))
      (case side2 => exact (Kd.S_reads' HO_1151001.out).2.1)
      (case side3 => repeat (first | exact (Kd.S_reads' HO1162.out).2.2 | (with_reducible refine Kd.C_alloc ?_ _) | (with_reducible refine Kd.C_drewN ?_ _) | (with_reducible refine Kd.C_drew ?_)))
      (case side4 => exact (Kd.S_reads' HO1162.out).2.1)
      rintro e w176 ⟨rfl, hb⟩
      refine ⟨_, rfl, ?_⟩
      have n0_ := Aside0.mk (Kd.R_below (zr HO_1146002.out) hb)
      have n1_ := Aside0.mk (Kd.S_below (zs HO_1151001.out) hb)
      have n2_ := Aside0.mk (Kd.R_below (zr HO_1158002.out) hb)
      have n3_ := Aside0.mk (Kd.S_below (zs HO1162.out) hb)
      have n4_ := Aside0.mk (blk_below (g := gb1133) (o := .cells #[.int .i64 a0_0, .slice A0_1 l0_1.length c0_1] 24 (0, 0)) (zk BK1133.out) hb)
      have n5_ := Aside0.mk (blk_below (g := gb1145) (o := .cells #[.int .i64 t1139, .int .i64 t1140, .slice Ao22 t1141.length co22] 54 (0, 0)) (zk BK1145.out) hb)
      have n6_ := Aside0.mk (blk_below (g := gb1150) (o := .cells #[.int .i64 t1146, .slice Ao29 t1147.length co29] 31 (0, 0)) (zk BK1150.out) hb)
      have n7_ := Aside0.mk (blk_below (g := gb1157) (o := .cells #[.int .i64 t1151, .int .i64 t1152, .slice Ao36 t1153.length co36] 54 (0, 0)) (zk BK1157.out) hb)
      have n8_ := Aside0.mk (below_step (zb4 HB.out GE1133.out GE1145.out GE1150.out GE1157.out) hb)
      clear HO_1146002
      clear HO_1151001
      clear HO_1158002
      clear HO1162
      clear BK1133
      clear BK1145
      clear BK1150
      clear BK1157
      clear HB
      have HO_1146002 := n0_
      have HO_1151001 := n1_
      have HO_1158002 := n2_
      have HO1162 := n3_
      have BK1133 := n4_
      have BK1145 := n5_
      have BK1150 := n6_
      have BK1157 := n7_
      have HB := n8_
      clear n0_ n1_ n2_ n3_ n4_ n5_ n6_ n7_ n8_
      (try clear hb)
      (try clear hb2)
      (try clear hk)
      (try clear hi)
      refine hK.out _ _ ⟨(blk_cell BK1150.out 0).trans rfl, (blk_cell BK1150.out 1).trans rfl, (blk_cell BK1133.out 0).trans rfl, (blk_cell BK1133.out 1).trans rfl⟩ (fun hHeld => ?_)
      clear hK K
      refine norm_ (a' := ?_) ?_ ?_
      rotate_left
      ·show Act.put _ (some 44) _ = _
       simp only [Act.put, List.setIfInBounds_toArray, List.set_cons_zero, List.set_cons_succ, i64_w, i32_w]
       rfl
      refine pure_ (i := 4) (N := some 45) (v := ?_) (a' := ?_) #[true,true,true,true,true] rfl rfl (by kernel_rfl) (fun _ _ _ h => h) (Or.inl ⟨by rfl, ?_⟩) ?_ ?_
      rotate_left
      ·exact zw
      rotate_left
      ·exact zp
      refine done_ (by kernel_rfl) ?_
      try go_wp2
      go_ret
      exact ⟨ze, zb4 HB.out GE1133.out GE1145.out GE1150.out GE1157.out⟩
end Go.Proofs.Ytmbeijjkfmgkpaa.Q
namespace Go.Proofs.Ytmbeijjkfmgkpaa.Pure
set_option linter.unusedVariables false
open Go.RowKit Go.Proofs.Ytmbeijjkfmgkpaa.Q Go.Proofs.YtmbeijjkfmgkpaaW.PrintWords Go.Proofs.YtmbeijjkfmgkpaaW.PrintLast Go.Proofs.YtmbeijjkfmgkpaaW.PrintMore
namespace Ex
theorem exactPortRanks (n : Int) (gs : List (List Int)) (hl : gs.length ≤ 9223372036854775807) (hr : ∀ g ∈ gs, g.length ≤ 9223372036854775807) :
  ∃ k, laws_FnExactPortRanks.f k n gs = some true ∧ ∀ t a b, laws_szFamily.f k n gs 1048576 = some t → ¬ t < 0 → laws_toFamily.f k n gs = some (a, b) → ∃ km mr1 mr2, laws_markInt64SS.f km b 1 = some (mr1, mr2) ∧ ¬ mr1 < 0 := by
 obtain ⟨k0, hk0⟩ : ∃ k0, 1048577 < k0 := ⟨1048578, by omega⟩
 obtain ⟨t, e0, ht⟩ := szFam n gs hl hr k0 hk0
 by_cases c : t < 0
 ·refine ⟨k0, ?_, fun t' a b h1 h2 _ => ?_⟩
  ·unfold laws_FnExactPortRanks.f
   rw [e0, Option.bind_some, if_pos c]
  ·rw [e0] at h1
   obtain rfl := Option.some.inj h1
   exact absurd c h2
 ·obtain ⟨h1, h2⟩ := ht (by omega)
  obtain ⟨K, ⟨r1, r2, r3, r4⟩, hr3, hK⟩ := portRanks_both n gs h1 h2
  simp only [] at hr3
  obtain ⟨m, hm⟩ : ∃ m, K + gs.length + k0 + 1048576 + 100 ≤ m := ⟨_, Nat.le_refl _⟩
  have es : laws_szFamily.f (m + 3) n gs 1048576 = some t := leO_le (f := fun k => laws_szFamily.f k n gs 1048576) (fun k => laws_szFamily.mono _ _ _ k) (show k0 ≤ m + 3 by omega) e0
  have ef : ∀ k, gs.length + 1048576 + 1 < k → laws_toFamily.f k n gs = some (n, gs) := fun k hk => toFam n gs 1048576 (by omega) (by omega) h2 k hk
  have ee := eqFam n gs 1048576 (by omega) (by omega) h2 (m + 2) (by omega)
  have er : ∀ k, 32 < k → laws_eqRanks.f k r1 r2 r3 r1 r2 r3 = some true := fun k hk => eqRanks r1 r2 r3 (by omega) k (by omega)
  obtain ⟨zs, em, hz, hh⟩ := markRanks r1 r2 r3 (by omega) (m + 1) (by omega)
  have hh1 := hh (m + 1) (by omega)
  have hh0 := hh m (by omega)
  have ef3 := ef (m + 3) (by omega)
  have ef2 := ef (m + 2) (by omega)
  have ef1 := ef (m + 1) (by omega)
  have er3 := er (m + 3) (by omega)
  have er2 := er (m + 2) (by omega)
  have er1 := er (m + 1) (by omega)
  have b3 := hK (m + 3) (by omega)
  have b1 := hK (m + 1) (by omega)
  refine ⟨m + 3, ?_, fun t' a b e1 e2 e3 => ?_⟩
  ·clear hk0 e0 hK ef er hh hm
   have j2 : laws_FnExactPortRanks.j2 (m + 1) (1 + (r3.length : Int)) false r1 r2 zs = some true := by
    unfold laws_FnExactPortRanks.j2
    simp only [Bool.false_eq_true, if_false]
    rw [hh0, Option.bind_some, if_neg (by omega), if_pos rfl]
   have j1 : laws_FnExactPortRanks.j1 (m + 2) r4 false n gs r1 r2 r3 r1 r2 r3 = some true := by
    unfold laws_FnExactPortRanks.j1
    simp only [Bool.false_eq_true, if_false]
    rw [em, Option.bind_some]
    simp only []
    rw [hh1, Option.bind_some, if_neg (by omega), if_pos rfl, ef1, Option.bind_some]
    simp only []
    rw [b1.1, Option.bind_some]
    simp only []
    rw [er1, Option.bind_some, if_pos rfl, show (r4 != r4) = false by simp, j2]
   have j0 : laws_FnExactPortRanks.j0 (m + 3) r4 r4 false n gs r1 r2 r3 n gs r1 r2 r3 = some true := by
    unfold laws_FnExactPortRanks.j0
    simp only [Bool.false_eq_true, if_false]
    rw [ef2, Option.bind_some]
    simp only []
    rw [ee, Option.bind_some, if_pos rfl, if_neg (by omega), er2, Option.bind_some, if_pos rfl, show (r4 != r4) = false by simp, j1]
   unfold laws_FnExactPortRanks.f
   rw [es, Option.bind_some, if_neg c, ef3, Option.bind_some]
   simp only []
   rw [b3.2, Option.bind_some, Option.bind_some]
   simp only []
   rw [b3.1, Option.bind_some]
   simp only []
   rw [er3, Option.bind_some, if_pos rfl, show (r4 != r4) = false by simp, j0]
  ·rw [ef3] at e3
   obtain ⟨rfl, rfl⟩ := Prod.mk.inj (Option.some.inj e3)
   exact markFam n gs h1 h2
end Ex
end Go.Proofs.Ytmbeijjkfmgkpaa.Pure
namespace Go.Proofs.Ytmbeijjkfmgkpaa.fnExactPortRanks
open Go.ChangeShapes Go.WideShapes Go.ChangeAt Go.RowKit Go.Joins Go.Deep
open Go.Proofs.Ytmbeijjkfmgkpaa.Q Go.Proofs.YtmbeijjkfmgkpaaW.PrintWords
set_option linter.unusedVariables false
theorem own : ownKnob Try.prog.godebug = none := by kernel_rfl
theorem laidOut : laidOutB Try.prog = true := by kernel_rfl
theorem cells24 : Try.prog.cellsOf 24 = 2 := by kernel_rfl
theorem cells26 : Try.prog.cellsOf 26 = 1 := by kernel_rfl
theorem cells2 : Try.prog.cellsOf 2 = 1 := by kernel_rfl
set_option maxRecDepth 100000 in
theorem lifted (os : Os) (started : os.Started) (H : Type) (enc : TypeId × Value → H) :
  ReturnsInHanded {} Try.checked os 9 .any (Rows.fnExactPortRanksSpec.pre6 enc Try.prog Try.f9 Rows.fnExactPortRanksRow.domain false) (Rows.fnExactPortRanksSpec.post enc Try.prog Try.f9 false true false false) := by
 refine returnsInHanded_of_change_sized (C := Try.checked) own started (by kernel_rfl) Try.func9
  (ChangeSpec.witness6 (enc := enc) (C := Try.checked) false ⟨#[], #[.agg #[.int .i64 0, .slice none 0 0]], []⟩ 8 (by kernel_rfl) (by kernel_rfl) (by kernel_rfl) (by kernel_rfl)) ?_
 intro W base args ds gs before hval0 hW hcnd hsz0 _
 have hval : ∀ (j : Nat) t v, Try.f9.params[j]? = some t → args[j]? = some v → Value.okWide Try.prog W .any base t v := hval0
 have hW' := hW
 obtain ⟨p, q, hA0, hV, rfl, hfz, hnd⟩ := hW
 have hA : DataW.TrodAll enc Try.prog W 0 (fun _ => true) true Try.f9.params.toList args.toList ds p := hA0
 rw [Try.params9] at hA hval
 obtain ⟨v0, vs0, d0, ds0, p0, q0, hargs, rfl, rfl, h0, r0⟩ := trodAll_cons hA
 obtain ⟨rfl, rfl, rfl⟩ := trodAll_nil r0
 obtain rfl : args = #[v0] := by cases args; simp_all
 obtain ⟨rfl, rfl⟩ := trodVars_none hV
 have k0 := h0
 have lt0 : ∀ x ∈ p0, x.block < W.heap.size := by obtain ⟨m, hm⟩ := k0; exact DataW.trod_lt m _ _ _ hm
 obtain ⟨u0, u1, y0, y1, nf, rfl, e1, e2, t0, t1⟩ := open_agg2 Try.underlying24 (by kernel_rfl) cells24 (hval 0 24 v0 rfl rfl) h0
 obtain ⟨n, hn, _, _⟩ := DataW.trod_int Try.underlying2 t0
 obtain rfl : u0 = .int .i64 n := by simpa using hn
 obtain ⟨A, c, l, rfl, hlc, hl9, hC, hrow⟩ : ∃ (A : Option Addr) (c : Nat) (l : List (List Int)), u1 = .slice A l.length c ∧ l.length ≤ c ∧ l.length ≤ 9223372036854775807 ∧ Kd.C (Kd.slice 2 (Kd.int .i64)) W A l.length l ∧ ∀ g ∈ l, g.length ≤ 9223372036854775807 := by
  rcases open_int_rows Try.underlying22 Try.underlying26 Try.underlying2 cells26 cells2 t1 with ⟨hcs, _⟩ | ⟨a, len, cap, AA, L, C, Z, hcs, _, hle, hm, _, hr⟩
  ·obtain rfl : u1 = .slice none 0 0 := by simpa using hcs
   exact ⟨none, 0, [], rfl, Nat.le_refl _, by simp, ⟨rfl, by simp, fun h => absurd h (by simp)⟩, by simp⟩
  ·obtain rfl : u1 = .slice (some a) len cap := by simpa using hcs
   unfold maxLen at hm
   have hlen : ((List.range len).map fun r => (Z r).take (L r)).length = len := by simp
   have hz : ∀ r, r < len → ((Z r).take (L r)).length = L r := fun r hr' => by
    obtain ⟨_, h1, _, h2, _⟩ := hr r (by omega)
    rw [List.length_take, h2]; omega
   refine ⟨some a, cap, (List.range len).map fun r => (Z r).take (L r), by rw [hlen], by rw [hlen]; exact hle, by rw [hlen]; omega, ?_, ?_⟩
   ·refine ⟨rfl, by rw [hlen]; omega, fun _ => ⟨a, rfl, fun j p hj => ?_⟩⟩
    obtain ⟨hj1, hj2⟩ := List.getElem?_eq_some_iff.1 hj
    have hjl : j < len := by rw [hlen] at hj1; exact hj1
    obtain rfl : (Z j).take (L j) = p := by rw [← hj2]; simp
    obtain ⟨h1, h2, h3, h4, h5, h6, h7⟩ := hr j (by omega)
    unfold maxLen at h3
    refine ⟨[.slice (AA j) (L j) (C j)], rfl, ⟨AA j, C j, by rw [hz j hjl], by rw [hz j hjl]; exact h2, ?_⟩, fun i u hu => ?_⟩
    ·refine Kd.C_of_reads (d := (0 : Int)) (h1 := fun _ => rfl) ⟨rfl, by rw [hz j hjl]; omega, fun hpos => ?_⟩
     rw [hz j hjl] at hpos
     cases hA : AA j with
     | none => have := h6 hA; omega
     | some a' =>
      refine ⟨a', rfl, fun i hi => ?_⟩
      rw [hz j hjl] at hi
      rw [(h7 a' hA).2 i (by omega)]
      congr 2
      rw [List.getD_eq_getElem?_getD, List.getD_eq_getElem?_getD, List.getElem?_take_of_lt hi]
    ·cases i with
     | zero =>
      have : Value.slice (AA j) (L j) (C j) = u := by simpa using hu
      subst this
      have e : (Kd.slice 2 (Kd.int .i64)).sz = 1 := rfl
      rw [e, Nat.mul_one, Nat.add_zero]
      exact h1
     | succ i => simp at hu
   ·intro g hg
    obtain ⟨r, hr1, rfl⟩ := List.mem_map.1 hg
    have hr2 := List.mem_range.1 hr1
    obtain ⟨_, h2, h3, _⟩ := hr r (by omega)
    unfold maxLen at h3
    rw [hz r hr2]; omega
 obtain ⟨k, hk, hmk⟩ := Pure.Ex.exactPortRanks n l hl9 hrow
 refine (Q.laws_FnExactPortRanks.calls k n A c l true W hC hlc hmk hk).mono fun e W' ⟨he, bel⟩ => ?_
 subst he
 exact ⟨_, rfl, _, _, _, [], _, [], hW', trodAll_mk1 (shut_bool Try.underlying4 _), (trodAll_cons_mk (Below.trod laidOut (by kernel_rfl) (of_decide_eq_true (by kernel_rfl)) k0 bel lt0) trodAll_mk0), rfl, bel.frame _, fun h => by cases h⟩
theorem over : Rows.fnExactPortRanksRow.holds Try.pinned (OpenSpec.ofChange Rows.fnExactPortRanksSpec) :=
  OpenClaim.holds_of_wide 9 Try.f9 rfl rfl rfl rfl rfl rfl rfl ⟨rfl, rfl, rfl, rfl, rfl⟩ rfl rfl rfl rfl rfl (by kernel_rfl) Try.func9 (by kernel_rfl)
    (of_decide_eq_true (by kernel_rfl)) (by unfold Func.isWrapper; first | (rw [if_pos (by decide +kernel)]; kernel_rfl) | (rw [if_neg (by decide +kernel)]; exact ⟨rfl, rfl⟩))
    (fun os started H enc _ => lifted os started H enc)
theorem proved : Rows.FnExactPortRanksSaid := over
end Go.Proofs.Ytmbeijjkfmgkpaa.fnExactPortRanks
#print axioms Go.Proofs.Ytmbeijjkfmgkpaa.fnExactPortRanks.proved
