/- For all bytes, the law FnSequences returns true: a sequence that is made for a chain is accepted and is not better than the best one; no condition. (2 of 7) Put together by a program of mine from texts of mine, from texts that the kit's print wrote for this claim and from the print's words; what is not reached is left out. -/
import Derived.Lib.SliceRun
import Derived.Shelf.Abstract
import Derived.Test.YtmbeijjkfmgkpaaProg
import Derived.Test.YtmbeijjkfmgkpaaSq1
set_option linter.unusedVariables false
set_option linter.unusedSimpArgs false
namespace Go.Proofs.Ytmbeijjkfmgkpaa.Q
open Go.RowKit Go.Proofs.YtmbeijjkfmgkpaaW.PrintWords Go.Proofs.YtmbeijjkfmgkpaaW.PrintLast Go.Proofs.YtmbeijjkfmgkpaaW.PrintMore
attribute [local go_sem] max2_int min2_int max_two min_two max_three min_three max_four min_four
set_option linter.unusedVariables false
set_option linter.unusedSimpArgs false
def errW : Option Int → Value
  | none => .nilIface
  | some c => .iface 0 (.int .i64 c)
theorem errW_none : errW none = .nilIface := rfl
theorem errW_some (c : Int) : errW (some c) = .iface 0 (.int .i64 c) := rfl
theorem info2 : (Try.prog.info? 2).map (fun i => (i.zero, i.size, i.bytes)) = some (some (.int .i64 0), 1, 8) := by kernel_rfl
theorem info4 : (Try.prog.info? 4).map (fun i => (i.zero, i.size, i.bytes)) = some (some (.bool false), 1, 1) := by kernel_rfl
theorem info26 : (Try.prog.info? 26).map (fun i => (i.zero, i.size, i.bytes)) = some (some (.slice none 0 0), 1, 24) := by kernel_rfl
def rd_L1 (xs : List (List Int)) (i : Int) : (List Int) := xs.getD i.toNat ([] : List Int)
theorem at_L1 {w : World} {A : Option Addr} {n : Nat} {xs : List (List Int)} (h : Kd.C (Kd.slice 2 (Kd.int .i64)) w A n xs) (i : Int) (h0 : 0 ≤ i) (h1 : i < n) : ∃ ad A0 c0, A = some ad ∧ w.cell? (ad.add i.toNat) = some (.slice A0 (rd_L1 xs i).length c0) ∧ (rd_L1 xs i).length ≤ c0 ∧ (Kd.int .i64).C w A0 (rd_L1 xs i).length (rd_L1 xs i) := by
  obtain ⟨ad, c, e, _, hK, hc0⟩ := Kd.C_get h ([] : List Int) i h0 h1
  have hc : ∀ j u, c[j]? = some u → w.cell? (ad.add (i.toNat * 1 + j)) = some u := hc0
  obtain ⟨A0, c0, rfl, l0, g0⟩ := hK
  exact ⟨ad, A0, c0, e, by have hq := hc 0 _ rfl; rwa [Nat.mul_one, Nat.add_zero] at hq, l0, g0⟩
theorem zk {p q : Prop} (h : q) (f : q → p := by intro h_; (with_reducible repeat (first | refine blk_drewN ?_ _ | refine blk_drew ?_ | refine blk_alloc ?_ _)); exact h_) : p := f h
theorem zn {p q : Prop} (h : q) (f : q → p := by intro h_; (with_reducible repeat (first | apply Kd.N_alloc | apply Kd.N_drewN | apply Kd.N_drew)); exact h_) : p := f h
theorem zr {p q : Prop} (h : q) (f : q → p := by intro h_; (with_reducible repeat (first | apply Kd.R_alloc | apply Kd.R_drewN | apply Kd.R_drew)); exact h_) : p := f h
theorem zv {p q : Prop} (h : q) (f : q → p := by intro h_; (with_reducible repeat (first | apply Kd.V_alloc | apply Kd.V_drewN | apply Kd.V_drew)); exact h_) : p := f h
theorem zs {p q : Prop} (h : q) (f : q → p := by intro h_; (with_reducible repeat (first | apply Kd.S_alloc | apply Kd.S_drewN | apply Kd.S_drew)); exact h_) : p := f h
theorem zb0 {p q : Prop} (h : q) (f : q → p := by intro h_; repeat (first | (with_reducible first | exact h_ | apply below_alloc | apply pw_below_drewN | apply below_drew1) | exact h_)) : p := f h
theorem zb1 {p q : Prop} (h : q) {g0 : Prop} (u0 : g0) (f : q → g0 → p := by intro h_ v0_; repeat (first | (with_reducible first | exact h_ | apply below_alloc | apply pw_below_drewN | apply below_drew1 | refine below_set ?_ v0_) | exact h_)) : p := f h u0
theorem zb2 {p q : Prop} (h : q) {g0 : Prop} (u0 : g0) {g1 : Prop} (u1 : g1) (f : q → g0 → g1 → p := by intro h_ v0_ v1_; repeat (first | (with_reducible first | exact h_ | apply below_alloc | apply pw_below_drewN | apply below_drew1 | refine below_set ?_ v0_ | refine below_set ?_ v1_) | exact h_)) : p := f h u0 u1
theorem zb3 {p q : Prop} (h : q) {g0 : Prop} (u0 : g0) {g1 : Prop} (u1 : g1) {g2 : Prop} (u2 : g2) (f : q → g0 → g1 → g2 → p := by intro h_ v0_ v1_ v2_; repeat (first | (with_reducible first | exact h_ | apply below_alloc | apply pw_below_drewN | apply below_drew1 | refine below_set ?_ v0_ | refine below_set ?_ v1_ | refine below_set ?_ v2_) | exact h_)) : p := f h u0 u1 u2
theorem zb4 {p q : Prop} (h : q) {g0 : Prop} (u0 : g0) {g1 : Prop} (u1 : g1) {g2 : Prop} (u2 : g2) {g3 : Prop} (u3 : g3) (f : q → g0 → g1 → g2 → g3 → p := by intro h_ v0_ v1_ v2_ v3_; repeat (first | (with_reducible first | exact h_ | apply below_alloc | apply pw_below_drewN | apply below_drew1 | refine below_set ?_ v0_ | refine below_set ?_ v1_ | refine below_set ?_ v2_ | refine below_set ?_ v3_) | exact h_)) : p := f h u0 u1 u2 u3
theorem zc {p q : Prop} (h : q) (f : q → p := by intro h_; repeat (first | exact h_ | (with_reducible refine Kd.C_alloc ?_ _) | (with_reducible refine Kd.C_drewN ?_ _) | (with_reducible refine Kd.C_drew ?_))) : p := f h
theorem zl {p : Prop} (h : p := by (try simp only [List.map_toArray, List.map_cons, List.map_nil]); first | done | rfl | (simp only [List.length_drop, List.length_take]; rfl)) : p := h
theorem zt {p : Prop} (h : p := by first | rfl | (simp; done) | (simp [*]; done)) : p := h
theorem zq {p : Prop} (h : p := by first | (with_reducible assumption) | assumption) : p := h
theorem zp {p : Prop} (h : p := by simp only [Act.put, List.setIfInBounds_toArray, List.set_cons_zero, List.set_cons_succ, i64_w, i32_w]; rfl) : p := h
theorem zw {p : Prop} (h : p := by intro w'; go_simp; with_reducible rfl) : p := h
theorem zd {p : Prop} (h : p := by first | exact ⟨rfl, _, World.drewN_drewN _ _ _⟩ | exact ⟨rfl, _, Eq.trans (World.drewN_drewN _ _ _) (congrArg (World.drewN _) (Nat.add_assoc _ _ _))⟩) : p := h
theorem ze {p : Prop} (h : p := by first | rfl | (simp [errW_none, errW_some] <;> rfl) | (simp [*, errW_none, errW_some] <;> rfl)) : p := h
def impl_crowdOf.l0 : Nat → Int → List Int → Int → Int → Option (Int)
  | 0, _, _, _, _ => none
  | k + 1, x3, x6, x7, x8 => if x8 < x7 then (if 0 ≤ x8 then (if x8 < (x6.length : Int) then (if 0 ≤ (rd x6 x8) then (impl_crowdOf.l0 k (Go.bits .or .u64 x3 (shl .u64 1 (rd x6 x8))) x6 x7 (wrap64 (x8 + 1))) else (none)) else (none)) else (none)) else (some x3)
def impl_crowdOf.f (k : Nat) (l0 : List Int) : Option (Int) := impl_crowdOf.l0 k 0 l0 (l0.length : Int) 0
set_option maxHeartbeats 8000000 in
set_option maxRecDepth 100000 in
theorem impl_crowdOf.calls (k : Nat) (A0 : Option Addr) (c0 : Nat) (l0 : List Int) (r : Int) (w : World) (hr0 : Kd.C (Kd.int .i64) w A0 l0.length l0) (hc0 : l0.length ≤ c0) (h : impl_crowdOf.f k l0 = some r) :
  Calls Try.prog 86 #[.slice A0 l0.length c0] w fun e w' => e = .returned (.int .u64 r) ∧ Drawn0 w w' := by
 have HR0 := Aside0.mk hr0
 have HC0 := Aside0.mk hc0
 clear hr0 hc0
 have H : (impl_crowdOf.l0 k 0 l0 (l0.length : Int) 0) = some r := h
 clear h
 have H' := Aside0.mk H
 clear H
 go_enter Try.func86, Try.ntmps86
 go_wp2
 go_loopg [3, 8] k (fun kq v3 v8 w' => ∃ (x3_1 : Int) (x8_1 : Int), v3 = .int .u64 x3_1 ∧ v8 = .int .i64 x8_1 ∧ Aside0 (impl_crowdOf.l0 kq x3_1 l0 (l0.length : Int) x8_1 = some r) ∧ Aside0 (kq ≤ k) ∧ Drawn0 w w')
 case atStart => exact ⟨(0), (0), zt, zt, H', ⟨Nat.le_refl _⟩, by repeat (first | exact Drawn0.refl _ | apply Drawn0.step)⟩
 case round =>
  clear H'
  obtain ⟨x3_1, x8_1, rfl, rfl, HA, HK1, ⟨m1, rfl⟩⟩ := hrel
  cases gk with
  | zero => exact absurd HA.out (by simp [impl_crowdOf.l0])
  | succ k1 =>
   have H := HA.out
   clear HA
   simp only [impl_crowdOf.l0] at H
   by_cases c2 : x8_1 < (l0.length : Int)
   ·rw [if_pos c2] at H
    have c2b0 : decide (x8_1 < (l0.length : Int)) = true := decide_eq_true c2
    clear c2
    by_cases c3 : 0 ≤ x8_1
    ·rw [if_pos c3] at H
     have c3b0 : decide (0 ≤ x8_1) = true := decide_eq_true c3
     clear c3
     by_cases c4 : x8_1 < (l0.length : Int)
     ·rw [if_pos c4] at H
      have c4b0 : decide (x8_1 < (l0.length : Int)) = true := decide_eq_true c4
      clear c4
      by_cases c5 : 0 ≤ (rd l0 x8_1)
      ·rw [if_pos c5] at H
       have c5b0 := eq_true c5
       have c5b1 : decide (0 ≤ (rd l0 x8_1)) = true := decide_eq_true c5
       clear c5
       obtain ⟨ji6, hji6⟩ : ∃ j_ : Int, (shl .u64 1 (rd l0 x8_1)) = j_ := ⟨_, rfl⟩
       replace H : (impl_crowdOf.l0 k1 (Go.bits .or .u64 x3_1 (ji6)) l0 (l0.length : Int) (wrap64 (x8_1 + 1))) = some r := by first | (rw [hji6] at H; exact H) | (simp only [hji6] at H ⊢; exact H)
       have hji6_ : (IntKind.u64.wrap (1 * 2 ^ min (rd l0 x8_1).toNat 64)) = ji6 := hji6
       have hji6z : (rd l0 x8_1) ≤ 64 → (IntKind.u64.wrap (1 * 2 ^ (rd l0 x8_1).toNat)) = ji6 := shl_small hji6
       have hji6u : (IntKind.u64.wrap (2 ^ min (rd l0 x8_1).toNat 64)) = ji6 := by have h_ := hji6_; rw [Int.one_mul] at h_; exact h_
       have hji6v : (rd l0 x8_1) ≤ 64 → (IntKind.u64.wrap (2 ^ (rd l0 x8_1).toNat)) = ji6 := fun hle_ => by have h_ := hji6z hle_; rw [Int.one_mul] at h_; exact h_
       have H' := Aside0.mk H
       clear H
       have p219 : 0 ≤ (x8_1 : Int) := of_decide_eq_true zq
       have q219 : x8_1 < (l0.length : Int) := of_decide_eq_true zq
       obtain ⟨ad219, e219, hx219_0⟩ := Kd.at_int HR0.out x8_1 p219 q219
       cases e219
       replace p219 := eq_true p219
       replace q219 := eq_true q219
       go_wp2
       go_roundg k1
       case measure => have := HK1.out; omega
       case rel => exact ⟨(Go.bits .or .u64 x3_1 (ji6)), (wrap64 (x8_1 + 1)), (by first | rfl | (simp; done) | (simp only [← hji6] <;> (first | rfl | simp)) | (simp [*]; done)), zt, H', ⟨by have := HK1.out; omega⟩, by repeat (first | exact Drawn0.refl _ | apply Drawn0.step)⟩
      ·rw [if_neg c5] at H
       exact absurd H (by simp)
     ·rw [if_neg c4] at H
      exact absurd H (by simp)
    ·rw [if_neg c3] at H
     exact absurd H (by simp)
   ·rw [if_neg c2] at H
    have c2b0 : decide (x8_1 < (l0.length : Int)) = false := decide_eq_false c2
    clear c2
    obtain rfl := Option.some.inj H
    go_wp2
    go_ret
    exact ⟨by first | rfl | (simp; done) | (simp [*]; done), by repeat (first | exact Drawn0.refl _ | apply Drawn0.step)⟩
def impl_crowd_contains.f (a0 : Int) (a1 : Int) : Option (Bool) := some ((Go.bits .and .u64 a0 a1) == a1)
set_option maxHeartbeats 8000000 in
set_option maxRecDepth 100000 in
theorem impl_crowd_contains.calls (a0 : Int) (a1 : Int) (r : Bool) (w : World) (h : impl_crowd_contains.f a0 a1 = some r) :
    Calls Try.prog 94 #[.int .u64 a0, .int .u64 a1] w fun e w' => e = .returned (.bool r) ∧ Drawn0 w w' := by
  have H : (some ((Go.bits .and .u64 a0 a1) == a1)) = some r := h
  clear h
  obtain rfl := Option.some.inj H
  go_enter Try.func94, Try.ntmps94
  go_wp2
  go_ret
  exact ⟨by first | rfl | (simp; done) | (simp [*]; done), by repeat (first | exact Drawn0.refl _ | apply Drawn0.step)⟩
def impl_within.f (a0 : Int) (a1 : Int) (a2 : Int) : Option (Bool) := if a0 ≥ a1 then (some (decide (a0 ≤ a2))) else (some false)
set_option maxHeartbeats 8000000 in
set_option maxRecDepth 100000 in
theorem impl_within.calls (a0 : Int) (a1 : Int) (a2 : Int) (r : Bool) (w : World) (h : impl_within.f a0 a1 a2 = some r) :
    Calls Try.prog 98 #[.int .i64 a0, .int .i64 a1, .int .i64 a2] w fun e w' => e = .returned (.bool r) ∧ Drawn0 w w' := by
  have H : (if a0 ≥ a1 then (some (decide (a0 ≤ a2))) else (some false)) = some r := h
  clear h
  by_cases c4 : a0 ≥ a1
  · rw [if_pos c4] at H
    have c4b0 : decide (a1 ≤ a0) = true := decide_eq_true c4
    clear c4
    obtain rfl := Option.some.inj H
    go_enter Try.func98, Try.ntmps98
    go_wp2
    go_ret
    exact ⟨by first | rfl | (simp; done) | (simp [*]; done), by repeat (first | exact Drawn0.refl _ | apply Drawn0.step)⟩
  · rw [if_neg c4] at H
    have c4b0 : decide (a1 ≤ a0) = false := decide_eq_false c4
    clear c4
    obtain rfl := Option.some.inj H
    go_enter Try.func98, Try.ntmps98
    go_wp2
    go_ret
    exact ⟨by first | rfl | (simp; done) | (simp [*]; done), by repeat (first | exact Drawn0.refl _ | apply Drawn0.step)⟩
def impl_isGroup.l0 : Nat → Int → List Int → List Int → Int → Int → Option (Bool)
  | 0, _, _, _, _, _ => none
  | k + 1, x0, x1, x7, x8, x9 => if x9 < x8 then (if 0 ≤ x9 then (if x9 < (x7.length : Int) then ((impl_within.f (rd x7 x9) 0 (wrap64 (x0 - 1))).bind fun t221 => (if t221 = true then (if x9 > 0 then (if 0 ≤ (wrap64 (x9 - 1)) then (if (wrap64 (x9 - 1)) < (x1.length : Int) then (if (rd x7 x9) ≤ (rd x1 (wrap64 (x9 - 1))) then (some false) else (impl_isGroup.l0 k x0 x1 x7 x8 (wrap64 (x9 + 1)))) else (none)) else (none)) else (impl_isGroup.l0 k x0 x1 x7 x8 (wrap64 (x9 + 1)))) else (some false))) else (none)) else (none)) else (some true)
def impl_isGroup.f (k : Nat) (a0 : Int) (l1 : List Int) : Option (Bool) := impl_isGroup.l0 k a0 l1 l1 (l1.length : Int) 0
set_option maxHeartbeats 8000000 in
set_option maxRecDepth 100000 in
theorem impl_isGroup.calls (k : Nat) (a0 : Int) (A1 : Option Addr) (c1 : Nat) (l1 : List Int) (r : Bool) (w : World) (hr1 : Kd.C (Kd.int .i64) w A1 l1.length l1) (hc1 : l1.length ≤ c1) (h : impl_isGroup.f k a0 l1 = some r) :
  Calls Try.prog 104 #[.int .i64 a0, .slice A1 l1.length c1] w fun e w' => e = .returned (.bool r) ∧ Drawn0 w w' := by
 have HR1 := Aside0.mk hr1
 have HC1 := Aside0.mk hc1
 clear hr1 hc1
 have H : (impl_isGroup.l0 k a0 l1 l1 (l1.length : Int) 0) = some r := h
 clear h
 have H' := Aside0.mk H
 clear H
 go_enter Try.func104, Try.ntmps104
 go_wp2
 go_loopg [9] k (fun kq v9 w' => ∃ (x9_1 : Int), v9 = .int .i64 x9_1 ∧ Aside0 (impl_isGroup.l0 kq a0 l1 l1 (l1.length : Int) x9_1 = some r) ∧ Aside0 (kq ≤ k) ∧ Drawn0 w w')
 case atStart => exact ⟨(0), zt, H', ⟨Nat.le_refl _⟩, by repeat (first | exact Drawn0.refl _ | apply Drawn0.step)⟩
 case round =>
  clear H'
  obtain ⟨x9_1, rfl, HA, HK1, ⟨m1, rfl⟩⟩ := hrel
  cases gk with
  | zero => exact absurd HA.out (by simp [impl_isGroup.l0])
  | succ k1 =>
   have H := HA.out
   clear HA
   simp only [impl_isGroup.l0] at H
   by_cases c3 : x9_1 < (l1.length : Int)
   ·rw [if_pos c3] at H
    have c3b0 : decide (x9_1 < (l1.length : Int)) = true := decide_eq_true c3
    clear c3
    by_cases c4 : 0 ≤ x9_1
    ·rw [if_pos c4] at H
     have c4b0 : decide (0 ≤ x9_1) = true := decide_eq_true c4
     clear c4
     by_cases c5 : x9_1 < (l1.length : Int)
     ·rw [if_pos c5] at H
      have c5b0 : decide (x9_1 < (l1.length : Int)) = true := decide_eq_true c5
      clear c5
      replace H := Option.bind_eq_some_iff.mp H
      obtain ⟨t221, A60, H⟩ := H
      replace H : (if t221 = true then (if x9_1 > 0 then (if 0 ≤ (wrap64 (x9_1 - 1)) then (if (wrap64 (x9_1 - 1)) < (l1.length : Int) then (if (rd l1 x9_1) ≤ (rd l1 (wrap64 (x9_1 - 1))) then (some false) else (impl_isGroup.l0 k1 a0 l1 l1 (l1.length : Int) (wrap64 (x9_1 + 1)))) else (none)) else (none)) else (impl_isGroup.l0 k1 a0 l1 l1 (l1.length : Int) (wrap64 (x9_1 + 1)))) else (some false)) = some r := H
      have A6 := Aside0.mk A60
      clear A60
      by_cases c7 : t221 = true
      ·subst c7
       rw [if_pos rfl] at H
       by_cases c8 : x9_1 > 0
       ·rw [if_pos c8] at H
        have c8b0 : decide (0 < x9_1) = true := decide_eq_true c8
        clear c8
        obtain ⟨ji9, hji9⟩ : ∃ j_ : Int, (wrap64 (x9_1 - 1)) = j_ := ⟨_, rfl⟩
        replace H : (if 0 ≤ (ji9) then (if (ji9) < (l1.length : Int) then (if (rd l1 x9_1) ≤ (rd l1 (ji9)) then (some false) else (impl_isGroup.l0 k1 a0 l1 l1 (l1.length : Int) (wrap64 (x9_1 + 1)))) else (none)) else (none)) = some r := by first | (rw [hji9] at H; exact H) | (simp only [hji9] at H ⊢; exact H)
        (try rw [hji9] at A6)
        have hji9w : (IntKind.i64.wrap (x9_1 - 1)) = ji9 := (i64_w _).trans hji9
        by_cases c10 : 0 ≤ (ji9)
        ·rw [if_pos c10] at H
         have c10b0 : decide (0 ≤ (ji9)) = true := decide_eq_true c10
         clear c10
         by_cases c11 : (ji9) < (l1.length : Int)
         ·rw [if_pos c11] at H
          have c11b0 : decide ((ji9) < (l1.length : Int)) = true := decide_eq_true c11
          clear c11
          by_cases c12 : (rd l1 x9_1) ≤ (rd l1 (ji9))
          ·rw [if_pos c12] at H
           have c12b0 : decide ((rd l1 x9_1) ≤ (rd l1 (ji9))) = true := decide_eq_true c12
           clear c12
           obtain rfl := Option.some.inj H
           have p220 : 0 ≤ (x9_1 : Int) := of_decide_eq_true zq
           have q220 : x9_1 < (l1.length : Int) := of_decide_eq_true zq
           obtain ⟨ad220, e220, hx220_0⟩ := Kd.at_int HR1.out x9_1 p220 q220
           cases e220
           replace p220 := eq_true p220
           replace q220 := eq_true q220
           go_wp2_with (first | ((with_reducible refine gate_callee (f := 98) rfl ?_); refine goesL_ (some 17) rfl rfl Try.func98 (by kernel_rfl) rfl #[.int .i64 (rd l1 x9_1), .int .i64 0, .int .i64 (wrap64 (a0 - 1))] rfl zl ?_; (with_reducible refine (impl_within.calls (rd l1 x9_1) 0 (wrap64 (a0 - 1)) true _ A6.out).mono ?_); rintro e w' ⟨rfl, ⟨nd, rfl⟩⟩; refine ⟨_, rfl, ?_⟩; have p222 : 0 ≤ ((ji9) : Int) := of_decide_eq_true (by first | (with_reducible assumption) | assumption); have q222 : (ji9) < (l1.length : Int) := of_decide_eq_true (by first | (with_reducible assumption) | assumption); obtain ⟨ad222, e222, hx222_0⟩ := Kd.at_int HR1.out (ji9) p222 q222; obtain rfl : ad220 = ad222 := (by injection e222); replace p222 := eq_true p222; replace q222 := eq_true q222))
           go_ret
           exact ⟨by first | rfl | (simp; done) | (simp only [← hji9] <;> (first | rfl | simp)) | (simp [*]; done), by repeat (first | exact Drawn0.refl _ | apply Drawn0.step)⟩
          ·rw [if_neg c12] at H
           have c12b0 : decide ((rd l1 x9_1) ≤ (rd l1 (ji9))) = false := decide_eq_false c12
           clear c12
           have H' := Aside0.mk H
           clear H
           have p220 : 0 ≤ (x9_1 : Int) := of_decide_eq_true zq
           have q220 : x9_1 < (l1.length : Int) := of_decide_eq_true zq
           obtain ⟨ad220, e220, hx220_0⟩ := Kd.at_int HR1.out x9_1 p220 q220
           cases e220
           replace p220 := eq_true p220
           replace q220 := eq_true q220
           go_wp2_with (first | ((with_reducible refine gate_callee (f := 98) rfl ?_); refine goesL_ (some 17) rfl rfl Try.func98 (by kernel_rfl) rfl #[.int .i64 (rd l1 x9_1), .int .i64 0, .int .i64 (wrap64 (a0 - 1))] rfl zl ?_; (with_reducible refine (impl_within.calls (rd l1 x9_1) 0 (wrap64 (a0 - 1)) true _ A6.out).mono ?_); rintro e w' ⟨rfl, ⟨nd, rfl⟩⟩; refine ⟨_, rfl, ?_⟩; have p222 : 0 ≤ ((ji9) : Int) := of_decide_eq_true (by first | (with_reducible assumption) | assumption); have q222 : (ji9) < (l1.length : Int) := of_decide_eq_true (by first | (with_reducible assumption) | assumption); obtain ⟨ad222, e222, hx222_0⟩ := Kd.at_int HR1.out (ji9) p222 q222; obtain rfl : ad220 = ad222 := (by injection e222); replace p222 := eq_true p222; replace q222 := eq_true q222))
           go_roundg k1
           case measure => have := HK1.out; omega
           case rel => exact ⟨(wrap64 (x9_1 + 1)), zt, H', ⟨by have := HK1.out; omega⟩, by repeat (first | exact Drawn0.refl _ | apply Drawn0.step)⟩
         ·rw [if_neg c11] at H
          exact absurd H (by simp)
        ·rw [if_neg c10] at H
         exact absurd H (by simp)
       ·rw [if_neg c8] at H
        have c8b0 : decide (0 < x9_1) = false := decide_eq_false c8
        clear c8
        have H' := Aside0.mk H
        clear H
        have p220 : 0 ≤ (x9_1 : Int) := of_decide_eq_true zq
        have q220 : x9_1 < (l1.length : Int) := of_decide_eq_true zq
        obtain ⟨ad220, e220, hx220_0⟩ := Kd.at_int HR1.out x9_1 p220 q220
        cases e220
        replace p220 := eq_true p220
        replace q220 := eq_true q220
        go_wp2_with (first | ((with_reducible refine gate_callee (f := 98) rfl ?_); refine goesL_ (some 17) rfl rfl Try.func98 (by kernel_rfl) rfl #[.int .i64 (rd l1 x9_1), .int .i64 0, .int .i64 (wrap64 (a0 - 1))] rfl zl ?_; (with_reducible refine (impl_within.calls (rd l1 x9_1) 0 (wrap64 (a0 - 1)) true _ A6.out).mono ?_); rintro e w' ⟨rfl, ⟨nd, rfl⟩⟩; refine ⟨_, rfl, ?_⟩))
        go_roundg k1
        case measure => have := HK1.out; omega
        case rel => exact ⟨(wrap64 (x9_1 + 1)), zt, H', ⟨by have := HK1.out; omega⟩, by repeat (first | exact Drawn0.refl _ | apply Drawn0.step)⟩
      ·replace c7 := Bool.eq_false_iff.mpr c7
       subst c7
       rw [if_neg (show ¬ (false = true) by decide)] at H
       obtain rfl := Option.some.inj H
       have p220 : 0 ≤ (x9_1 : Int) := of_decide_eq_true zq
       have q220 : x9_1 < (l1.length : Int) := of_decide_eq_true zq
       obtain ⟨ad220, e220, hx220_0⟩ := Kd.at_int HR1.out x9_1 p220 q220
       cases e220
       replace p220 := eq_true p220
       replace q220 := eq_true q220
       go_wp2_with (first | ((with_reducible refine gate_callee (f := 98) rfl ?_); refine goesL_ (some 17) rfl rfl Try.func98 (by kernel_rfl) rfl #[.int .i64 (rd l1 x9_1), .int .i64 0, .int .i64 (wrap64 (a0 - 1))] rfl zl ?_; (with_reducible refine (impl_within.calls (rd l1 x9_1) 0 (wrap64 (a0 - 1)) false _ A6.out).mono ?_); rintro e w' ⟨rfl, ⟨nd, rfl⟩⟩; refine ⟨_, rfl, ?_⟩))
       go_ret
       exact ⟨by first | rfl | (simp; done) | (simp [*]; done), by repeat (first | exact Drawn0.refl _ | apply Drawn0.step)⟩
     ·rw [if_neg c5] at H
      exact absurd H (by simp)
    ·rw [if_neg c4] at H
     exact absurd H (by simp)
   ·rw [if_neg c3] at H
    have c3b0 : decide (x9_1 < (l1.length : Int)) = false := decide_eq_false c3
    clear c3
    obtain rfl := Option.some.inj H
    go_wp2
    go_ret
    exact ⟨by first | rfl | (simp; done) | (simp [*]; done), by repeat (first | exact Drawn0.refl _ | apply Drawn0.step)⟩
def cmp_isNaN_int64.f (a0 : Int) : Option (Bool) := some (a0 != a0)
set_option maxHeartbeats 8000000 in
set_option maxRecDepth 100000 in
theorem cmp_isNaN_int64.calls (a0 : Int) (r : Bool) (w : World) (h : cmp_isNaN_int64.f a0 = some r) :
    Calls Try.prog 185 #[.int .i64 a0] w fun e w' => e = .returned (.bool r) ∧ Drawn0 w w' := by
  have H : (some (a0 != a0)) = some r := h
  clear h
  obtain rfl := Option.some.inj H
  go_enter Try.func185, Try.ntmps185
  go_wp2
  go_ret
  exact ⟨by first | rfl | (simp; done) | (simp [*]; done), by repeat (first | exact Drawn0.refl _ | apply Drawn0.step)⟩
def cmp_Compare_int64.f (a0 : Int) (a1 : Int) : Option (Int) := (cmp_isNaN_int64.f a0).bind fun t223 => ((cmp_isNaN_int64.f a1).bind fun t224 => (if t223 = true then (if t224 = true then (some 0) else (some (-1))) else (if t224 = true then (some 1) else (if a0 < a1 then (some (-1)) else (if a0 > a1 then (some 1) else (some 0))))))
set_option maxHeartbeats 8000000 in
set_option maxRecDepth 100000 in
theorem cmp_Compare_int64.calls (a0 : Int) (a1 : Int) (r : Int) (w : World) (h : cmp_Compare_int64.f a0 a1 = some r) :
  Calls Try.prog 169 #[.int .i64 a0, .int .i64 a1] w fun e w' => e = .returned (.int .i64 r) ∧ Drawn0 w w' := by
 have H : ((cmp_isNaN_int64.f a0).bind fun t223 => ((cmp_isNaN_int64.f a1).bind fun t224 => (if t223 = true then (if t224 = true then (some 0) else (some (-1))) else (if t224 = true then (some 1) else (if a0 < a1 then (some (-1)) else (if a0 > a1 then (some 1) else (some 0))))))) = some r := h
 clear h
 replace H := Option.bind_eq_some_iff.mp H
 obtain ⟨t223, A30, H⟩ := H
 replace H : ((cmp_isNaN_int64.f a1).bind fun t224 => (if t223 = true then (if t224 = true then (some 0) else (some (-1))) else (if t224 = true then (some 1) else (if a0 < a1 then (some (-1)) else (if a0 > a1 then (some 1) else (some 0)))))) = some r := H
 have A3 := Aside0.mk A30
 clear A30
 replace H := Option.bind_eq_some_iff.mp H
 obtain ⟨t224, A40, H⟩ := H
 replace H : (if t223 = true then (if t224 = true then (some 0) else (some (-1))) else (if t224 = true then (some 1) else (if a0 < a1 then (some (-1)) else (if a0 > a1 then (some 1) else (some 0))))) = some r := H
 have A4 := Aside0.mk A40
 clear A40
 by_cases c5 : t223 = true
 ·subst c5
  rw [if_pos rfl] at H
  by_cases c6 : t224 = true
  ·subst c6
   rw [if_pos rfl] at H
   obtain rfl := Option.some.inj H
   go_enter Try.func169, Try.ntmps169
   go_wp2_with (first | ((with_reducible refine gate_callee (f := 185) rfl ?_); refine goesL_ (some 8) rfl rfl Try.func185 (by kernel_rfl) rfl #[.int .i64 a0] rfl zl ?_; (with_reducible refine (cmp_isNaN_int64.calls a0 true _ A3.out).mono ?_); rintro e w' ⟨rfl, ⟨nd, rfl⟩⟩; refine ⟨_, rfl, ?_⟩) | ((with_reducible refine gate_callee (f := 185) rfl ?_); refine goesL_ (some 10) rfl rfl Try.func185 (by kernel_rfl) rfl #[.int .i64 a1] rfl zl ?_; (with_reducible refine (cmp_isNaN_int64.calls a1 true _ A4.out).mono ?_); rintro e w' ⟨rfl, ⟨nd, rfl⟩⟩; refine ⟨_, rfl, ?_⟩))
   go_ret
   exact ⟨by first | rfl | (simp; done) | (simp [*]; done), by repeat (first | exact Drawn0.refl _ | apply Drawn0.step)⟩
  ·replace c6 := Bool.eq_false_iff.mpr c6
   subst c6
   rw [if_neg (show ¬ (false = true) by decide)] at H
   obtain rfl := Option.some.inj H
   go_enter Try.func169, Try.ntmps169
   go_wp2_with (first | ((with_reducible refine gate_callee (f := 185) rfl ?_); refine goesL_ (some 8) rfl rfl Try.func185 (by kernel_rfl) rfl #[.int .i64 a0] rfl zl ?_; (with_reducible refine (cmp_isNaN_int64.calls a0 true _ A3.out).mono ?_); rintro e w' ⟨rfl, ⟨nd, rfl⟩⟩; refine ⟨_, rfl, ?_⟩) | ((with_reducible refine gate_callee (f := 185) rfl ?_); refine goesL_ (some 10) rfl rfl Try.func185 (by kernel_rfl) rfl #[.int .i64 a1] rfl zl ?_; (with_reducible refine (cmp_isNaN_int64.calls a1 false _ A4.out).mono ?_); rintro e w' ⟨rfl, ⟨nd, rfl⟩⟩; refine ⟨_, rfl, ?_⟩))
   go_ret
   exact ⟨by first | rfl | (simp; done) | (simp [*]; done), by repeat (first | exact Drawn0.refl _ | apply Drawn0.step)⟩
 ·replace c5 := Bool.eq_false_iff.mpr c5
  subst c5
  rw [if_neg (show ¬ (false = true) by decide)] at H
  by_cases c7 : t224 = true
  ·subst c7
   rw [if_pos rfl] at H
   obtain rfl := Option.some.inj H
   go_enter Try.func169, Try.ntmps169
   go_wp2_with (first | ((with_reducible refine gate_callee (f := 185) rfl ?_); refine goesL_ (some 8) rfl rfl Try.func185 (by kernel_rfl) rfl #[.int .i64 a0] rfl zl ?_; (with_reducible refine (cmp_isNaN_int64.calls a0 false _ A3.out).mono ?_); rintro e w' ⟨rfl, ⟨nd, rfl⟩⟩; refine ⟨_, rfl, ?_⟩) | ((with_reducible refine gate_callee (f := 185) rfl ?_); refine goesL_ (some 10) rfl rfl Try.func185 (by kernel_rfl) rfl #[.int .i64 a1] rfl zl ?_; (with_reducible refine (cmp_isNaN_int64.calls a1 true _ A4.out).mono ?_); rintro e w' ⟨rfl, ⟨nd, rfl⟩⟩; refine ⟨_, rfl, ?_⟩))
   go_ret
   exact ⟨by first | rfl | (simp; done) | (simp [*]; done), by repeat (first | exact Drawn0.refl _ | apply Drawn0.step)⟩
  ·replace c7 := Bool.eq_false_iff.mpr c7
   subst c7
   rw [if_neg (show ¬ (false = true) by decide)] at H
   by_cases c8 : a0 < a1
   ·rw [if_pos c8] at H
    have c8b0 : decide (a0 < a1) = true := decide_eq_true c8
    clear c8
    obtain rfl := Option.some.inj H
    go_enter Try.func169, Try.ntmps169
    go_wp2_with (first | ((with_reducible refine gate_callee (f := 185) rfl ?_); refine goesL_ (some 8) rfl rfl Try.func185 (by kernel_rfl) rfl #[.int .i64 a0] rfl zl ?_; (with_reducible refine (cmp_isNaN_int64.calls a0 false _ A3.out).mono ?_); rintro e w' ⟨rfl, ⟨nd, rfl⟩⟩; refine ⟨_, rfl, ?_⟩) | ((with_reducible refine gate_callee (f := 185) rfl ?_); refine goesL_ (some 10) rfl rfl Try.func185 (by kernel_rfl) rfl #[.int .i64 a1] rfl zl ?_; (with_reducible refine (cmp_isNaN_int64.calls a1 false _ A4.out).mono ?_); rintro e w' ⟨rfl, ⟨nd, rfl⟩⟩; refine ⟨_, rfl, ?_⟩))
    go_ret
    exact ⟨by first | rfl | (simp; done) | (simp [*]; done), by repeat (first | exact Drawn0.refl _ | apply Drawn0.step)⟩
   ·rw [if_neg c8] at H
    have c8b0 : decide (a0 < a1) = false := decide_eq_false c8
    clear c8
    by_cases c9 : a0 > a1
    ·rw [if_pos c9] at H
     have c9b0 : decide (a1 < a0) = true := decide_eq_true c9
     clear c9
     obtain rfl := Option.some.inj H
     go_enter Try.func169, Try.ntmps169
     go_wp2_with (first | ((with_reducible refine gate_callee (f := 185) rfl ?_); refine goesL_ (some 8) rfl rfl Try.func185 (by kernel_rfl) rfl #[.int .i64 a0] rfl zl ?_; (with_reducible refine (cmp_isNaN_int64.calls a0 false _ A3.out).mono ?_); rintro e w' ⟨rfl, ⟨nd, rfl⟩⟩; refine ⟨_, rfl, ?_⟩) | ((with_reducible refine gate_callee (f := 185) rfl ?_); refine goesL_ (some 10) rfl rfl Try.func185 (by kernel_rfl) rfl #[.int .i64 a1] rfl zl ?_; (with_reducible refine (cmp_isNaN_int64.calls a1 false _ A4.out).mono ?_); rintro e w' ⟨rfl, ⟨nd, rfl⟩⟩; refine ⟨_, rfl, ?_⟩))
     go_ret
     exact ⟨by first | rfl | (simp; done) | (simp [*]; done), by repeat (first | exact Drawn0.refl _ | apply Drawn0.step)⟩
    ·rw [if_neg c9] at H
     have c9b0 : decide (a1 < a0) = false := decide_eq_false c9
     clear c9
     obtain rfl := Option.some.inj H
     go_enter Try.func169, Try.ntmps169
     go_wp2_with (first | ((with_reducible refine gate_callee (f := 185) rfl ?_); refine goesL_ (some 8) rfl rfl Try.func185 (by kernel_rfl) rfl #[.int .i64 a0] rfl zl ?_; (with_reducible refine (cmp_isNaN_int64.calls a0 false _ A3.out).mono ?_); rintro e w' ⟨rfl, ⟨nd, rfl⟩⟩; refine ⟨_, rfl, ?_⟩) | ((with_reducible refine gate_callee (f := 185) rfl ?_); refine goesL_ (some 10) rfl rfl Try.func185 (by kernel_rfl) rfl #[.int .i64 a1] rfl zl ?_; (with_reducible refine (cmp_isNaN_int64.calls a1 false _ A4.out).mono ?_); rintro e w' ⟨rfl, ⟨nd, rfl⟩⟩; refine ⟨_, rfl, ?_⟩))
     go_ret
     exact ⟨by first | rfl | (simp; done) | (simp [*]; done), by repeat (first | exact Drawn0.refl _ | apply Drawn0.step)⟩
def slices_Compare_int64_int64.l0 : Nat → List Int → List Int → List Int → Int → Int → Option (Int)
  | 0, _, _, _, _, _ => none
  | k + 1, x0, x1, x9, x10, x11 => if x11 < x10 then (if 0 ≤ x11 then (if x11 < (x9.length : Int) then (if x11 ≥ (x1.length : Int) then (some 1) else (if x11 < (x1.length : Int) then ((cmp_Compare_int64.f (rd x9 x11) (rd x1 x11)).bind fun t227 => (if t227 = 0 then (slices_Compare_int64_int64.l0 k x0 x1 x9 x10 (wrap64 (x11 + 1))) else (some t227))) else (none))) else (none)) else (none)) else (if (x0.length : Int) < (x1.length : Int) then (some (-1)) else (some 0))
def slices_Compare_int64_int64.f (k : Nat) (l0 : List Int) (l1 : List Int) : Option (Int) := slices_Compare_int64_int64.l0 k l0 l1 l0 (l0.length : Int) 0
set_option maxHeartbeats 8000000 in
set_option maxRecDepth 100000 in
theorem slices_Compare_int64_int64.calls (k : Nat) (A0 : Option Addr) (c0 : Nat) (l0 : List Int) (A1 : Option Addr) (c1 : Nat) (l1 : List Int) (r : Int) (w : World) (hr0 : Kd.C (Kd.int .i64) w A0 l0.length l0) (hc0 : l0.length ≤ c0) (hr1 : Kd.C (Kd.int .i64) w A1 l1.length l1) (hc1 : l1.length ≤ c1) (h : slices_Compare_int64_int64.f k l0 l1 = some r) :
  Calls Try.prog 148 #[.slice A0 l0.length c0, .slice A1 l1.length c1] w fun e w' => e = .returned (.int .i64 r) ∧ Drawn0 w w' := by
 have HR0 := Aside0.mk hr0
 have HC0 := Aside0.mk hc0
 clear hr0 hc0
 have HR1 := Aside0.mk hr1
 have HC1 := Aside0.mk hc1
 clear hr1 hc1
 have H : (slices_Compare_int64_int64.l0 k l0 l1 l0 (l0.length : Int) 0) = some r := h
 clear h
 have H' := Aside0.mk H
 clear H
 go_enter Try.func148, Try.ntmps148
 go_wp2
 go_loopg [11] k (fun kq v11 w' => ∃ (x11_1 : Int), v11 = .int .i64 x11_1 ∧ Aside0 (slices_Compare_int64_int64.l0 kq l0 l1 l0 (l0.length : Int) x11_1 = some r) ∧ Aside0 (kq ≤ k) ∧ Drawn0 w w')
 case atStart => exact ⟨(0), zt, H', ⟨Nat.le_refl _⟩, by repeat (first | exact Drawn0.refl _ | apply Drawn0.step)⟩
 case round =>
  clear H'
  obtain ⟨x11_1, rfl, HA, HK1, ⟨m1, rfl⟩⟩ := hrel
  cases gk with
  | zero => exact absurd HA.out (by simp [slices_Compare_int64_int64.l0])
  | succ k1 =>
   have H := HA.out
   clear HA
   simp only [slices_Compare_int64_int64.l0] at H
   by_cases c3 : x11_1 < (l0.length : Int)
   ·rw [if_pos c3] at H
    have c3b0 : decide (x11_1 < (l0.length : Int)) = true := decide_eq_true c3
    clear c3
    by_cases c4 : 0 ≤ x11_1
    ·rw [if_pos c4] at H
     have c4b0 : decide (0 ≤ x11_1) = true := decide_eq_true c4
     clear c4
     by_cases c5 : x11_1 < (l0.length : Int)
     ·rw [if_pos c5] at H
      have c5b0 : decide (x11_1 < (l0.length : Int)) = true := decide_eq_true c5
      clear c5
      by_cases c6 : x11_1 ≥ (l1.length : Int)
      ·rw [if_pos c6] at H
       have c6b0 : decide ((l1.length : Int) ≤ x11_1) = true := decide_eq_true c6
       clear c6
       obtain rfl := Option.some.inj H
       have p225 : 0 ≤ (x11_1 : Int) := of_decide_eq_true zq
       have q225 : x11_1 < (l0.length : Int) := of_decide_eq_true zq
       obtain ⟨ad225, e225, hx225_0⟩ := Kd.at_int HR0.out x11_1 p225 q225
       cases e225
       replace p225 := eq_true p225
       replace q225 := eq_true q225
       go_wp2
       go_ret
       exact ⟨by first | rfl | (simp; done) | (simp [*]; done), by repeat (first | exact Drawn0.refl _ | apply Drawn0.step)⟩
      ·rw [if_neg c6] at H
       have c6b0 : decide ((l1.length : Int) ≤ x11_1) = false := decide_eq_false c6
       clear c6
       by_cases c7 : x11_1 < (l1.length : Int)
       ·rw [if_pos c7] at H
        have c7b0 : decide (x11_1 < (l1.length : Int)) = true := decide_eq_true c7
        clear c7
        replace H := Option.bind_eq_some_iff.mp H
        obtain ⟨t227, A80, H⟩ := H
        replace H : (if t227 = 0 then (slices_Compare_int64_int64.l0 k1 l0 l1 l0 (l0.length : Int) (wrap64 (x11_1 + 1))) else (some t227)) = some r := H
        have A8 := Aside0.mk A80
        clear A80
        by_cases c9 : t227 = 0
        ·rw [if_pos c9] at H
         have c9b0 : (t227 == 0) = true := beq_iff_eq.mpr c9
         have c9b1 : (t227 != 0) = false := bne_eq_false_iff_eq.mpr c9
         clear c9
         have H' := Aside0.mk H
         clear H
         have p225 : 0 ≤ (x11_1 : Int) := of_decide_eq_true zq
         have q225 : x11_1 < (l0.length : Int) := of_decide_eq_true zq
         obtain ⟨ad225, e225, hx225_0⟩ := Kd.at_int HR0.out x11_1 p225 q225
         cases e225
         replace p225 := eq_true p225
         replace q225 := eq_true q225
         have p226 : 0 ≤ (x11_1 : Int) := of_decide_eq_true zq
         have q226 : x11_1 < (l1.length : Int) := of_decide_eq_true zq
         obtain ⟨ad226, e226, hx226_0⟩ := Kd.at_int HR1.out x11_1 p226 q226
         cases e226
         replace p226 := eq_true p226
         replace q226 := eq_true q226
         go_wp2_with (first | ((with_reducible refine gate_callee (f := 169) rfl ?_); refine goesL_ (some 26) rfl rfl Try.func169 (by kernel_rfl) rfl #[.int .i64 (rd l0 x11_1), .int .i64 (rd l1 x11_1)] rfl zl ?_; (with_reducible refine (cmp_Compare_int64.calls (rd l0 x11_1) (rd l1 x11_1) t227 _ A8.out).mono ?_); rintro e w' ⟨rfl, ⟨nd, rfl⟩⟩; refine ⟨_, rfl, ?_⟩))
         go_roundg k1
         case measure => have := HK1.out; omega
         case rel => exact ⟨(wrap64 (x11_1 + 1)), zt, H', ⟨by have := HK1.out; omega⟩, by repeat (first | exact Drawn0.refl _ | apply Drawn0.step)⟩
        ·rw [if_neg c9] at H
         have c9b0 : (t227 == 0) = false := beq_eq_false_iff_ne.mpr c9
         have c9b1 : (t227 != 0) = true := bne_iff_ne.mpr c9
         obtain rfl := Option.some.inj H
         have p225 : 0 ≤ (x11_1 : Int) := of_decide_eq_true zq
         have q225 : x11_1 < (l0.length : Int) := of_decide_eq_true zq
         obtain ⟨ad225, e225, hx225_0⟩ := Kd.at_int HR0.out x11_1 p225 q225
         cases e225
         replace p225 := eq_true p225
         replace q225 := eq_true q225
         have p226 : 0 ≤ (x11_1 : Int) := of_decide_eq_true zq
         have q226 : x11_1 < (l1.length : Int) := of_decide_eq_true zq
         obtain ⟨ad226, e226, hx226_0⟩ := Kd.at_int HR1.out x11_1 p226 q226
         cases e226
         replace p226 := eq_true p226
         replace q226 := eq_true q226
         go_wp2_with (first | ((with_reducible refine gate_callee (f := 169) rfl ?_); refine goesL_ (some 26) rfl rfl Try.func169 (by kernel_rfl) rfl #[.int .i64 (rd l0 x11_1), .int .i64 (rd l1 x11_1)] rfl zl ?_; (with_reducible refine (cmp_Compare_int64.calls (rd l0 x11_1) (rd l1 x11_1) t227 _ A8.out).mono ?_); rintro e w' ⟨rfl, ⟨nd, rfl⟩⟩; refine ⟨_, rfl, ?_⟩))
         go_ret
         exact ⟨by first | rfl | (simp; done) | (simp [*]; done), by repeat (first | exact Drawn0.refl _ | apply Drawn0.step)⟩
       ·rw [if_neg c7] at H
        exact absurd H (by simp)
     ·rw [if_neg c5] at H
      exact absurd H (by simp)
    ·rw [if_neg c4] at H
     exact absurd H (by simp)
   ·rw [if_neg c3] at H
    have c3b0 : decide (x11_1 < (l0.length : Int)) = false := decide_eq_false c3
    clear c3
    by_cases c10 : (l0.length : Int) < (l1.length : Int)
    ·rw [if_pos c10] at H
     have c10b0 : decide ((l0.length : Int) < (l1.length : Int)) = true := decide_eq_true c10
     have c10b1 : decide (l0.length < l1.length) = true := decide_eq_true (Int.ofNat_lt.mp c10)
     clear c10
     obtain rfl := Option.some.inj H
     go_wp2
     go_ret
     exact ⟨by first | rfl | (simp; done) | (simp [*]; done), by repeat (first | exact Drawn0.refl _ | apply Drawn0.step)⟩
    ·rw [if_neg c10] at H
     have c10b0 : decide ((l0.length : Int) < (l1.length : Int)) = false := decide_eq_false c10
     have c10b1 : decide (l0.length < l1.length) = false := decide_eq_false (fun h => c10 (Int.ofNat_lt.mpr h))
     clear c10
     obtain rfl := Option.some.inj H
     go_wp2
     go_ret
     exact ⟨by first | rfl | (simp; done) | (simp [*]; done), by repeat (first | exact Drawn0.refl _ | apply Drawn0.step)⟩
mutual
def impl_ValidFamily.l0 : Nat → List (List Int) → Int → Int → Int → List (List Int) → Option (Bool)
 | 0, _, _, _, _, _ => none
 | k + 1, x14, x15, x16, x229000, x229001 => if x16 < x15 then (if 0 ≤ x16 then (if x16 < (x14.length : Int) then ((impl_isGroup.f k x229000 (rd_L1 x14 x16)).bind fun t231 => (if t231 = true then (if x16 > 0 then (if 0 ≤ (wrap64 (x16 - 1)) then (if (wrap64 (x16 - 1)) < (x229001.length : Int) then ((slices_Compare_int64_int64.f k (rd_L1 x229001 (wrap64 (x16 - 1))) (rd_L1 x14 x16)).bind fun t233 => (impl_ValidFamily.j1 k x16 (rd_L1 x14 x16) x14 x15 x16 (decide (t233 ≥ 0)) x229000 x229001)) else (none)) else (none)) else (impl_ValidFamily.j1 k x16 (rd_L1 x14 x16) x14 x15 x16 false x229000 x229001)) else (impl_ValidFamily.j1 k x16 (rd_L1 x14 x16) x14 x15 x16 true x229000 x229001))) else (none)) else (none)) else (some true)
def impl_ValidFamily.j1 : Nat → Int → List Int → List (List Int) → Int → Int → Bool → Int → List (List Int) → Option (Bool)
 | 0, _, _, _, _, _, _, _, _ => none
 | k + 1, x3, x4, x14, x15, x16, x40, x229000, x229001 => if x40 = true then (some false) else (if 0 ≤ x3 then (if x3 ≤ (x229001.length : Int) then ((some (x229001.take (x3 : Int).toNat : List (List Int))).bind fun y234 => (impl_ValidFamily.l1 k x4 x14 x15 x16 y234 (y234.length : Int) 0 x229000 x229001)) else (none)) else (none))
def impl_ValidFamily.l1 : Nat → List Int → List (List Int) → Int → Int → List (List Int) → Int → Int → Int → List (List Int) → Option (Bool)
 | 0, _, _, _, _, _, _, _, _, _ => none
 | k + 1, x4, x14, x15, x16, x44, x45, x46, x229000, x229001 => if x46 < x45 then (if 0 ≤ x46 then (if x46 < (x44.length : Int) then ((impl_crowdOf.f k (rd_L1 x44 x46)).bind fun t239 => ((impl_crowdOf.f k x4).bind fun t240 => ((impl_crowd_contains.f t239 t240).bind fun t241 => (if t241 = true then (some false) else ((impl_crowd_contains.f t240 t239).bind fun t242 => (if t242 = true then (some false) else (impl_ValidFamily.l1 k x4 x14 x15 x16 x44 x45 (wrap64 (x46 + 1)) x229000 x229001))))))) else (none)) else (none)) else (impl_ValidFamily.l0 k x14 x15 (wrap64 (x16 + 1)) x229000 x229001)
end
def impl_ValidFamily.f (k : Nat) (a0_0 : Int) (l0_1 : List (List Int)) : Option (Bool) := (impl_within.f a0_0 1 7).bind fun t229 => (if t229 = true then (impl_ValidFamily.l0 k l0_1 (l0_1.length : Int) 0 a0_0 l0_1) else (some false))
set_option maxHeartbeats 8000000 in
set_option maxRecDepth 100000 in
theorem impl_ValidFamily.calls (k : Nat) (a0_0 : Int) (A0_1 : Option Addr) (c0_1 : Nat) (l0_1 : List (List Int)) (r : Bool) (w : World) (hr0_1 : Kd.C (Kd.slice 2 (Kd.int .i64)) w A0_1 l0_1.length l0_1) (hc0_1 : l0_1.length ≤ c0_1) (h : impl_ValidFamily.f k a0_0 l0_1 = some r) :
  Calls Try.prog 135 #[.agg #[.int .i64 a0_0, .slice A0_1 l0_1.length c0_1]] w fun e w' => e = .returned (.bool r) ∧ Below w.heap.size w w' := by
 have hu31 := Try.underlying31
 have HR0_1 := Aside0.mk hr0_1
 have HC0_1 := Aside0.mk hc0_1
 clear hr0_1 hc0_1
 have HB := Aside0.mk (Below.refl w.heap.size w)
 have H : ((impl_within.f a0_0 1 7).bind fun t229 => (if t229 = true then (impl_ValidFamily.l0 k l0_1 (l0_1.length : Int) 0 a0_0 l0_1) else (some false))) = some r := h
 clear h
 replace H := Option.bind_eq_some_iff.mp H
 obtain ⟨t229, A20, H⟩ := H
 replace H : (if t229 = true then (impl_ValidFamily.l0 k l0_1 (l0_1.length : Int) 0 a0_0 l0_1) else (some false)) = some r := H
 have A2 := Aside0.mk A20
 clear A20
 by_cases c3 : t229 = true
 ·subst c3
  rw [if_pos rfl] at H
  have H' := Aside0.mk H
  clear H
  go_enter Try.func135, Try.ntmps135
  go_wp2_with (first | ((with_reducible refine gate_dst (N := 1) rfl ?_); refine box_event ?hg (N := 1) ?hd (cs := #[.int .i64 a0_0, .slice A0_1 l0_1.length c0_1]) (t := 31) ?hr ?_; (case hd => rfl); (case hg => rfl); (case hr => first | (go_simp; done) | (go_simp; rfl)); intro gb228 hg w4 hbox hb; have n0_ := Aside0.mk (below_step (zb0 HB.out) hb); have n1_ := Aside0.mk (hbox); have n2_ := Aside0.mk ((by rw [hg]; exact (below_size (zb0 HB.out)) : w.heap.size ≤ gb228)); have n3_ := Aside0.mk ((by rw [hg]; exact (below_size (zb0 HB.out)) : w.heap.size ≤ gb228)); clear HB; have HB := n0_; have BK228 := n1_; have GW228 := n2_; have GE228 := n3_; clear n0_ n1_ n2_ n3_; clear hb hbox hg; have hcz5_0 : w4.cell? ⟨gb228, 0, none⟩ = some (.int .i64 a0_0) := (blk_cell BK228.out 0).trans rfl; have hcz5_1 : w4.cell? ⟨gb228, 1, none⟩ = some (.slice A0_1 l0_1.length c0_1) := (blk_cell BK228.out 1).trans rfl; have hfz5_0 := blk_frozen BK228.out 0; have hfz5_1 := blk_frozen BK228.out 1) | ((with_reducible refine gate_callee (f := 98) rfl ?_); refine goesL_ (some 11) rfl rfl Try.func98 (by kernel_rfl) rfl #[.int .i64 a0_0, .int .i64 1, .int .i64 7] rfl zl ?_; (with_reducible refine (impl_within.calls a0_0 1 7 true _ A2.out).mono ?_); rintro e w' ⟨rfl, ⟨nd, rfl⟩⟩; refine ⟨_, rfl, ?_⟩))
  go_loopg [16] k (fun kq v16 w' => ∃ (x16_1 : Int), v16 = .int .i64 x16_1 ∧ Aside0 (impl_ValidFamily.l0 kq l0_1 (l0_1.length : Int) x16_1 a0_0 l0_1 = some r) ∧ Aside0 (kq ≤ k) ∧ Aside0 (w'.heap[gb228]? = some (.cells #[.int .i64 a0_0, (.slice A0_1 l0_1.length c0_1)] 31 (0, 0))) ∧ Aside0 (Below w.heap.size w w'))
  case atStart => exact ⟨(0), zt, H', ⟨Nat.le_refl _⟩, ⟨zk BK228.out⟩, ⟨zb1 HB.out GE228.out⟩⟩
  case round =>
   clear H'
   obtain ⟨x16_1, rfl, HA, HK1, BK228, HB⟩ := hrel
   cases gk with
   | zero => exact absurd HA.out (by simp [impl_ValidFamily.l0])
   | succ k1 =>
    have H := HA.out
    clear HA
    simp only [impl_ValidFamily.l0] at H
    by_cases c6 : x16_1 < (l0_1.length : Int)
    ·rw [if_pos c6] at H
     have c6b0 : decide (x16_1 < (l0_1.length : Int)) = true := decide_eq_true c6
     clear c6
     by_cases c7 : 0 ≤ x16_1
     ·rw [if_pos c7] at H
      have c7b0 : decide (0 ≤ x16_1) = true := decide_eq_true c7
      clear c7
      by_cases c8 : x16_1 < (l0_1.length : Int)
      ·rw [if_pos c8] at H
       have c8b0 : decide (x16_1 < (l0_1.length : Int)) = true := decide_eq_true c8
       clear c8
       have HC9 := Aside0.mk H
       clear H
       have p230 : 0 ≤ (x16_1 : Int) := of_decide_eq_true zq
       have q230 : x16_1 < (l0_1.length : Int) := of_decide_eq_true zq
       obtain ⟨ad230, A230_0, c230_0, e230, hx230_0, hl230_0, hi230_0⟩ := at_L1 HR0_1.out x16_1 p230 q230
       cases e230
       replace hx230_0 := (HB.out.cell (World.block_lt_of_cell? w _ hx230_0)).trans hx230_0
       have HR230_0 := Aside0.mk hi230_0
       have HC230_0 := Aside0.mk hl230_0
       clear hi230_0 hl230_0
       replace p230 := eq_true p230
       replace q230 := eq_true q230
       go_upto_region 6 with (fail)
       go_cut [40] (fun v40 wc => ∃ (kq : Nat) (x40_8 : Bool), v40 = .bool x40_8 ∧ Aside0 (impl_ValidFamily.j1 kq x16_1 (rd_L1 l0_1 x16_1) l0_1 (l0_1.length : Int) x16_1 x40_8 a0_0 l0_1 = some r) ∧ Aside0 (kq ≤ k1) ∧ Aside0 (wc.heap[gb228]? = some (.cells #[.int .i64 a0_0, (.slice (some ad230) l0_1.length c0_1)] 31 (0, 0))) ∧ Aside0 (Below w.heap.size w wc))
       case first =>
        have H := HC9.out
        clear HC9
        replace H := Option.bind_eq_some_iff.mp H
        obtain ⟨t231, A100, H⟩ := H
        replace H : (if t231 = true then (if x16_1 > 0 then (if 0 ≤ (wrap64 (x16_1 - 1)) then (if (wrap64 (x16_1 - 1)) < (l0_1.length : Int) then ((slices_Compare_int64_int64.f k1 (rd_L1 l0_1 (wrap64 (x16_1 - 1))) (rd_L1 l0_1 x16_1)).bind fun t233 => (impl_ValidFamily.j1 k1 x16_1 (rd_L1 l0_1 x16_1) l0_1 (l0_1.length : Int) x16_1 (decide (t233 ≥ 0)) a0_0 l0_1)) else (none)) else (none)) else (impl_ValidFamily.j1 k1 x16_1 (rd_L1 l0_1 x16_1) l0_1 (l0_1.length : Int) x16_1 false a0_0 l0_1)) else (impl_ValidFamily.j1 k1 x16_1 (rd_L1 l0_1 x16_1) l0_1 (l0_1.length : Int) x16_1 true a0_0 l0_1)) = some r := H
        have A10 := Aside0.mk A100
        clear A100
        by_cases c11 : t231 = true
        ·subst c11
         rw [if_pos rfl] at H
         by_cases c12 : x16_1 > 0
         ·rw [if_pos c12] at H
          have c12b0 : decide (0 < x16_1) = true := decide_eq_true c12
          clear c12
          (first | rw [c12b0] | (simp only [i64_w, i32_w]; rw [c12b0]) | skip)
          obtain ⟨ji13, hji13⟩ : ∃ j_ : Int, (wrap64 (x16_1 - 1)) = j_ := ⟨_, rfl⟩
          replace H : (if 0 ≤ (ji13) then (if (ji13) < (l0_1.length : Int) then ((slices_Compare_int64_int64.f k1 (rd_L1 l0_1 (ji13)) (rd_L1 l0_1 x16_1)).bind fun t233 => (impl_ValidFamily.j1 k1 x16_1 (rd_L1 l0_1 x16_1) l0_1 (l0_1.length : Int) x16_1 (decide (t233 ≥ 0)) a0_0 l0_1)) else (none)) else (none)) = some r := by first | (rw [hji13] at H; exact H) | (simp only [hji13] at H ⊢; exact H)
          (try rw [hji13] at A10)
          have hji13w : (IntKind.i64.wrap (x16_1 - 1)) = ji13 := (i64_w _).trans hji13
          by_cases c14 : 0 ≤ (ji13)
          ·rw [if_pos c14] at H
           have c14b0 : decide (0 ≤ (ji13)) = true := decide_eq_true c14
           clear c14
           by_cases c15 : (ji13) < (l0_1.length : Int)
           ·rw [if_pos c15] at H
            have c15b0 : decide ((ji13) < (l0_1.length : Int)) = true := decide_eq_true c15
            clear c15
            replace H := Option.bind_eq_some_iff.mp H
            obtain ⟨t233, A160, H⟩ := H
            replace H : (impl_ValidFamily.j1 k1 x16_1 (rd_L1 l0_1 x16_1) l0_1 (l0_1.length : Int) x16_1 (decide (t233 ≥ 0)) a0_0 l0_1) = some r := H
            have A16 := Aside0.mk A160
            clear A160
            have H' := Aside0.mk H
            clear H
            have hcz17_0 : wr.cell? ⟨gb228, 0, none⟩ = some (.int .i64 a0_0) := (blk_cell BK228.out 0).trans rfl
            have hcz17_1 : wr.cell? ⟨gb228, 1, none⟩ = some (.slice (some ad230) l0_1.length c0_1) := (blk_cell BK228.out 1).trans rfl
            have hfz17_0 := blk_frozen BK228.out 0
            have hfz17_1 := blk_frozen BK228.out 1
            go_wp2_with (first | ((with_reducible refine gate_callee (f := 104) rfl ?_); refine goesL_ (some 24) rfl rfl Try.func104 (by kernel_rfl) rfl #[.int .i64 a0_0, .slice A230_0 (rd_L1 l0_1 x16_1).length c230_0] rfl zl ?_; (with_reducible refine (impl_isGroup.calls k1 a0_0 _ _ (rd_L1 l0_1 x16_1) true _ ?side1 ?side2 A10.out).mono ?_); (case side1 => exact zc (Kd.C_below HR230_0.out HB.out)); (case side2 => exact HC230_0.out); rintro e w' ⟨rfl, ⟨nd, rfl⟩⟩; refine ⟨_, rfl, ?_⟩; have p232 : 0 ≤ ((ji13) : Int) := of_decide_eq_true (by first | (with_reducible assumption) | assumption); have q232 : (ji13) < (l0_1.length : Int) := of_decide_eq_true (by first | (with_reducible assumption) | assumption); obtain ⟨ad232, A232_0, c232_0, e232, hx232_0, hl232_0, hi232_0⟩ := at_L1 HR0_1.out (ji13) p232 q232; obtain rfl : ad230 = ad232 := (by injection e232); replace hx232_0 := (HB.out.cell (World.block_lt_of_cell? w _ hx232_0)).trans hx232_0; have HR232_0 := Aside0.mk hi232_0; have HC232_0 := Aside0.mk hl232_0; clear hi232_0 hl232_0; replace p232 := eq_true p232; replace q232 := eq_true q232) | (go_at_call 148; (with_reducible refine (slices_Compare_int64_int64.calls k1 _ _ (rd_L1 l0_1 (ji13)) _ _ (rd_L1 l0_1 x16_1) t233 _ ?side1 ?side2 ?side3 ?side4 A16.out).mono ?_); (case side1 => exact zc (Kd.C_below HR232_0.out (zb1 HB.out GE228.out))); (case side2 => exact HC232_0.out); (case side3 => exact zc (Kd.C_below HR230_0.out (zb1 HB.out GE228.out))); (case side4 => exact HC230_0.out); rintro e w' ⟨rfl, ⟨nd, rfl⟩⟩))
            go_meet
            case rel => exact ⟨_, (decide (t233 ≥ 0)), zt, H', ⟨by have := HK1.out; first | omega | exact Nat.le_refl _⟩, ⟨zk BK228.out⟩, ⟨zb1 HB.out GE228.out⟩⟩
           ·rw [if_neg c15] at H
            exact absurd H (by simp)
          ·rw [if_neg c14] at H
           exact absurd H (by simp)
         ·rw [if_neg c12] at H
          have c12b0 : decide (0 < x16_1) = false := decide_eq_false c12
          clear c12
          (first | rw [c12b0] | (simp only [i64_w, i32_w]; rw [c12b0]) | skip)
          have H' := Aside0.mk H
          clear H
          have hcz18_0 : wr.cell? ⟨gb228, 0, none⟩ = some (.int .i64 a0_0) := (blk_cell BK228.out 0).trans rfl
          have hcz18_1 : wr.cell? ⟨gb228, 1, none⟩ = some (.slice (some ad230) l0_1.length c0_1) := (blk_cell BK228.out 1).trans rfl
          have hfz18_0 := blk_frozen BK228.out 0
          have hfz18_1 := blk_frozen BK228.out 1
          go_wp2_with (first | ((with_reducible refine gate_callee (f := 104) rfl ?_); refine goesL_ (some 24) rfl rfl Try.func104 (by kernel_rfl) rfl #[.int .i64 a0_0, .slice A230_0 (rd_L1 l0_1 x16_1).length c230_0] rfl zl ?_; (with_reducible refine (impl_isGroup.calls k1 a0_0 _ _ (rd_L1 l0_1 x16_1) true _ ?side1 ?side2 A10.out).mono ?_); (case side1 => exact zc (Kd.C_below HR230_0.out HB.out)); (case side2 => exact HC230_0.out); rintro e w' ⟨rfl, ⟨nd, rfl⟩⟩; refine ⟨_, rfl, ?_⟩))
          go_meet
          case rel => exact ⟨_, (false), zt, H', ⟨by have := HK1.out; first | omega | exact Nat.le_refl _⟩, ⟨zk BK228.out⟩, ⟨zb1 HB.out GE228.out⟩⟩
        ·replace c11 := Bool.eq_false_iff.mpr c11
         subst c11
         rw [if_neg (show ¬ (false = true) by decide)] at H
         have H' := Aside0.mk H
         clear H
         have hcz19_0 : wr.cell? ⟨gb228, 0, none⟩ = some (.int .i64 a0_0) := (blk_cell BK228.out 0).trans rfl
         have hcz19_1 : wr.cell? ⟨gb228, 1, none⟩ = some (.slice (some ad230) l0_1.length c0_1) := (blk_cell BK228.out 1).trans rfl
         have hfz19_0 := blk_frozen BK228.out 0
         have hfz19_1 := blk_frozen BK228.out 1
         go_wp2_with (first | ((with_reducible refine gate_callee (f := 104) rfl ?_); refine goesL_ (some 24) rfl rfl Try.func104 (by kernel_rfl) rfl #[.int .i64 a0_0, .slice A230_0 (rd_L1 l0_1 x16_1).length c230_0] rfl zl ?_; (with_reducible refine (impl_isGroup.calls k1 a0_0 _ _ (rd_L1 l0_1 x16_1) false _ ?side1 ?side2 A10.out).mono ?_); (case side1 => exact zc (Kd.C_below HR230_0.out HB.out)); (case side2 => exact HC230_0.out); rintro e w' ⟨rfl, ⟨nd, rfl⟩⟩; refine ⟨_, rfl, ?_⟩))
         go_meet
         case rel => exact ⟨_, (true), zt, H', ⟨by have := HK1.out; first | omega | exact Nat.le_refl _⟩, ⟨zk BK228.out⟩, ⟨zb1 HB.out GE228.out⟩⟩
       case rest =>
        clear HC9
        obtain ⟨kq, x40_8, rfl, HA, HJ8, BK228, HB⟩ := hcut
        cases kq with
        | zero => exact absurd HA.out (by simp [impl_ValidFamily.j1])
        | succ kj8 =>
         have H := HA.out
         clear HA
         simp only [impl_ValidFamily.j1] at H
         by_cases c20 : x40_8 = true
         ·subst c20
          rw [if_pos rfl] at H
          obtain rfl := Option.some.inj H
          go_wp2
          go_ret
          exact ⟨ze, zb1 HB.out GE228.out⟩
         ·replace c20 := Bool.eq_false_iff.mpr c20
          subst c20
          rw [if_neg (show ¬ (false = true) by decide)] at H
          by_cases c21 : 0 ≤ x16_1
          ·rw [if_pos c21] at H
           have c21b0 := eq_true c21
           have c21b1 : decide (0 ≤ x16_1) = true := decide_eq_true c21
           clear c21
           by_cases c22 : x16_1 ≤ (l0_1.length : Int)
           ·rw [if_pos c22] at H
            have c22b0 := eq_true c22
            have c22b1 : decide (x16_1 ≤ (l0_1.length : Int)) = true := decide_eq_true c22
            clear c22
            obtain ⟨y234, hy234⟩ : ∃ y_ : List (List Int), y_ = (l0_1.take (x16_1 : Int).toNat) := ⟨_, rfl⟩
            replace H : (impl_ValidFamily.l1 kj8 (rd_L1 l0_1 x16_1) l0_1 (l0_1.length : Int) x16_1 y234 (y234.length : Int) 0 a0_0 l0_1) = some r := by first | (rw [hy234]; with_reducible exact H) | (have H2_ := (Option.bind_some _ _).symm.trans H; rw [hy234]; with_reducible exact H2_) | (have H2_ := (Option.bind_some _ _).symm.trans H; with_reducible exact H2_) | with_reducible exact H | (rw [hy234]; exact H) | exact H
            have Ny234 := Aside0.mk hy234
            clear hy234
            have H' := Aside0.mk H
            clear H
            have hcz23_0 : wc.cell? ⟨gb228, 0, none⟩ = some (.int .i64 a0_0) := (blk_cell BK228.out 0).trans rfl
            have hcz23_1 : wc.cell? ⟨gb228, 1, none⟩ = some (.slice (some ad230) l0_1.length c0_1) := (blk_cell BK228.out 1).trans rfl
            have hfz23_0 := blk_frozen BK228.out 0
            have hfz23_1 := blk_frozen BK228.out 1
            have q24 : (x16_1 : Int) ≤ ((l0_1.length : Int) : Int) := of_decide_eq_true zq
            obtain ⟨i024, hi024, _, hsz24, _⟩ := info_parts info26
            have hroom24 : l0_1.length ≤ c0_1 := HC0_1.out
            have hC24 : Kd.C (Kd.slice 2 (Kd.int .i64)) _ (some ad230) l0_1.length l0_1 := HR0_1.out
            have hcut24 := cut_to (P := Try.prog) 22 26 .i64 Try.underlying22 hi024 (some ad230) l0_1.length c0_1 x16_1 (of_decide_eq_true (by first | (with_reducible assumption) | assumption)) q24 hroom24
            have hr24 := Kd.C_take (m := (x16_1 : Int).toNat) hC24 (by omega)
            have hy24 : y234.length = (x16_1 : Int).toNat := (by rw [Ny234.out, List.length_take]; omega)
            rw [← Ny234.out] at hr24
            rw [← hy24] at hcut24
            have HR237 := Aside0.mk hr24
            have HC237 := Aside0.mk (show y234.length ≤ c0_1 from by omega)
            clear hr24 hC24 hroom24 hi024 hsz24
            have KY24 := Aside0.mk hy24
            clear hy24
            replace q24 := eq_true q24
            go_wp2
            go_loopg [46] kj8 (fun kq v46 w' => ∃ (x46_3 : Int), v46 = .int .i64 x46_3 ∧ Aside0 (impl_ValidFamily.l1 kq (rd_L1 l0_1 x16_1) l0_1 (l0_1.length : Int) x16_1 y234 (y234.length : Int) x46_3 a0_0 l0_1 = some r) ∧ Aside0 (kq ≤ kj8) ∧ Aside0 (w'.heap[gb228]? = some (.cells #[.int .i64 a0_0, (.slice (some ad230) l0_1.length c0_1)] 31 (0, 0))) ∧ Aside0 (Below w.heap.size w w'))
            case atStart => exact ⟨(0), zt, H', ⟨Nat.le_refl _⟩, ⟨zk BK228.out⟩, ⟨zb1 HB.out GE228.out⟩⟩
            case round =>
             clear H'
             obtain ⟨x46_3, rfl, HA, HK3, BK228, HB⟩ := hrel
             cases gk with
             | zero => exact absurd HA.out (by simp [impl_ValidFamily.l1])
             | succ k3 =>
              have H := HA.out
              clear HA
              simp only [impl_ValidFamily.l1] at H
              by_cases c25 : x46_3 < (y234.length : Int)
              ·rw [if_pos c25] at H
               have c25b0 : decide (x46_3 < (y234.length : Int)) = true := decide_eq_true c25
               clear c25
               by_cases c26 : 0 ≤ x46_3
               ·rw [if_pos c26] at H
                have c26b0 : decide (0 ≤ x46_3) = true := decide_eq_true c26
                clear c26
                by_cases c27 : x46_3 < (y234.length : Int)
                ·rw [if_pos c27] at H
                 have c27b0 : decide (x46_3 < (y234.length : Int)) = true := decide_eq_true c27
                 clear c27
                 replace H := Option.bind_eq_some_iff.mp H
                 obtain ⟨t239, A280, H⟩ := H
                 replace H : ((impl_crowdOf.f k3 (rd_L1 l0_1 x16_1)).bind fun t240 => ((impl_crowd_contains.f t239 t240).bind fun t241 => (if t241 = true then (some false) else ((impl_crowd_contains.f t240 t239).bind fun t242 => (if t242 = true then (some false) else (impl_ValidFamily.l1 k3 (rd_L1 l0_1 x16_1) l0_1 (l0_1.length : Int) x16_1 y234 (y234.length : Int) (wrap64 (x46_3 + 1)) a0_0 l0_1)))))) = some r := H
                 have A28 := Aside0.mk A280
                 clear A280
                 replace H := Option.bind_eq_some_iff.mp H
                 obtain ⟨t240, A290, H⟩ := H
                 replace H : ((impl_crowd_contains.f t239 t240).bind fun t241 => (if t241 = true then (some false) else ((impl_crowd_contains.f t240 t239).bind fun t242 => (if t242 = true then (some false) else (impl_ValidFamily.l1 k3 (rd_L1 l0_1 x16_1) l0_1 (l0_1.length : Int) x16_1 y234 (y234.length : Int) (wrap64 (x46_3 + 1)) a0_0 l0_1))))) = some r := H
                 have A29 := Aside0.mk A290
                 clear A290
                 replace H := Option.bind_eq_some_iff.mp H
                 obtain ⟨t241, A300, H⟩ := H
                 replace H : (if t241 = true then (some false) else ((impl_crowd_contains.f t240 t239).bind fun t242 => (if t242 = true then (some false) else (impl_ValidFamily.l1 k3 (rd_L1 l0_1 x16_1) l0_1 (l0_1.length : Int) x16_1 y234 (y234.length : Int) (wrap64 (x46_3 + 1)) a0_0 l0_1)))) = some r := H
                 have A30 := Aside0.mk A300
                 clear A300
                 by_cases c31 : t241 = true
                 ·subst c31
                  rw [if_pos rfl] at H
                  obtain rfl := Option.some.inj H
                  have p238 : 0 ≤ (x46_3 : Int) := of_decide_eq_true zq
                  have q238 : x46_3 < (y234.length : Int) := of_decide_eq_true zq
                  obtain ⟨ad238, A238_0, c238_0, e238, hx238_0, hl238_0, hi238_0⟩ := at_L1 HR237.out x46_3 p238 q238
                  obtain rfl : ad230 = ad238 := (by injection e238)
                  replace hx238_0 := (HB.out.cell (World.block_lt_of_cell? w _ hx238_0)).trans hx238_0
                  have HR238_0 := Aside0.mk hi238_0
                  have HC238_0 := Aside0.mk hl238_0
                  clear hi238_0 hl238_0
                  replace p238 := eq_true p238
                  replace q238 := eq_true q238
                  go_wp2_with (first | ((with_reducible refine gate_callee (f := 86) rfl ?_); refine goesL_ (some 51) rfl rfl Try.func86 (by kernel_rfl) rfl #[.slice A238_0 (rd_L1 y234 x46_3).length c238_0] rfl zl ?_; (with_reducible refine (impl_crowdOf.calls k3 _ _ (rd_L1 y234 x46_3) t239 _ ?side1 ?side2 A28.out).mono ?_); (case side1 => exact zc (Kd.C_below HR238_0.out HB.out)); (case side2 => exact HC238_0.out); rintro e w' ⟨rfl, ⟨nd, rfl⟩⟩; refine ⟨_, rfl, ?_⟩) | ((with_reducible refine gate_callee (f := 86) rfl ?_); refine goesL_ (some 53) rfl rfl Try.func86 (by kernel_rfl) rfl #[.slice A230_0 (rd_L1 l0_1 x16_1).length c230_0] rfl zl ?_; (with_reducible refine (impl_crowdOf.calls k3 _ _ (rd_L1 l0_1 x16_1) t240 _ ?side1 ?side2 A29.out).mono ?_); (case side1 => exact zc (Kd.C_below HR230_0.out (zb1 HB.out GE228.out))); (case side2 => exact HC230_0.out); rintro e w' ⟨rfl, ⟨nd, rfl⟩⟩; refine ⟨_, rfl, ?_⟩) | ((with_reducible refine gate_callee (f := 94) rfl ?_); refine goesL_ (some 56) rfl rfl Try.func94 (by kernel_rfl) rfl #[.int .u64 t239, .int .u64 t240] rfl zl ?_; (with_reducible refine (impl_crowd_contains.calls t239 t240 true _ A30.out).mono ?_); rintro e w' ⟨rfl, ⟨nd, rfl⟩⟩; refine ⟨_, rfl, ?_⟩))
                  go_ret
                  exact ⟨ze, zb1 HB.out GE228.out⟩
                 ·replace c31 := Bool.eq_false_iff.mpr c31
                  subst c31
                  rw [if_neg (show ¬ (false = true) by decide)] at H
                  replace H := Option.bind_eq_some_iff.mp H
                  obtain ⟨t242, A320, H⟩ := H
                  replace H : (if t242 = true then (some false) else (impl_ValidFamily.l1 k3 (rd_L1 l0_1 x16_1) l0_1 (l0_1.length : Int) x16_1 y234 (y234.length : Int) (wrap64 (x46_3 + 1)) a0_0 l0_1)) = some r := H
                  have A32 := Aside0.mk A320
                  clear A320
                  by_cases c33 : t242 = true
                  ·subst c33
                   rw [if_pos rfl] at H
                   obtain rfl := Option.some.inj H
                   have p238 : 0 ≤ (x46_3 : Int) := of_decide_eq_true zq
                   have q238 : x46_3 < (y234.length : Int) := of_decide_eq_true zq
                   obtain ⟨ad238, A238_0, c238_0, e238, hx238_0, hl238_0, hi238_0⟩ := at_L1 HR237.out x46_3 p238 q238
                   obtain rfl : ad230 = ad238 := (by injection e238)
                   replace hx238_0 := (HB.out.cell (World.block_lt_of_cell? w _ hx238_0)).trans hx238_0
                   have HR238_0 := Aside0.mk hi238_0
                   have HC238_0 := Aside0.mk hl238_0
                   clear hi238_0 hl238_0
                   replace p238 := eq_true p238
                   replace q238 := eq_true q238
                   go_wp2_with (first | ((with_reducible refine gate_callee (f := 86) rfl ?_); refine goesL_ (some 51) rfl rfl Try.func86 (by kernel_rfl) rfl #[.slice A238_0 (rd_L1 y234 x46_3).length c238_0] rfl zl ?_; (with_reducible refine (impl_crowdOf.calls k3 _ _ (rd_L1 y234 x46_3) t239 _ ?side1 ?side2 A28.out).mono ?_); (case side1 => exact zc (Kd.C_below HR238_0.out HB.out)); (case side2 => exact HC238_0.out); rintro e w' ⟨rfl, ⟨nd, rfl⟩⟩; refine ⟨_, rfl, ?_⟩) | ((with_reducible refine gate_callee (f := 86) rfl ?_); refine goesL_ (some 53) rfl rfl Try.func86 (by kernel_rfl) rfl #[.slice A230_0 (rd_L1 l0_1 x16_1).length c230_0] rfl zl ?_; (with_reducible refine (impl_crowdOf.calls k3 _ _ (rd_L1 l0_1 x16_1) t240 _ ?side1 ?side2 A29.out).mono ?_); (case side1 => exact zc (Kd.C_below HR230_0.out (zb1 HB.out GE228.out))); (case side2 => exact HC230_0.out); rintro e w' ⟨rfl, ⟨nd, rfl⟩⟩; refine ⟨_, rfl, ?_⟩) | ((with_reducible refine gate_callee (f := 94) rfl ?_); refine goesL_ (some 56) rfl rfl Try.func94 (by kernel_rfl) rfl #[.int .u64 t239, .int .u64 t240] rfl zl ?_; (with_reducible refine (impl_crowd_contains.calls t239 t240 false _ A30.out).mono ?_); rintro e w' ⟨rfl, ⟨nd, rfl⟩⟩; refine ⟨_, rfl, ?_⟩) | (go_at_call 94; (with_reducible refine (impl_crowd_contains.calls t240 t239 true _ A32.out).mono ?_); rintro e w' ⟨rfl, ⟨nd, rfl⟩⟩))
                   go_ret
                   exact ⟨ze, zb1 HB.out GE228.out⟩
                  ·replace c33 := Bool.eq_false_iff.mpr c33
                   subst c33
                   rw [if_neg (show ¬ (false = true) by decide)] at H
                   have H' := Aside0.mk H
                   clear H
                   have p238 : 0 ≤ (x46_3 : Int) := of_decide_eq_true zq
                   have q238 : x46_3 < (y234.length : Int) := of_decide_eq_true zq
                   obtain ⟨ad238, A238_0, c238_0, e238, hx238_0, hl238_0, hi238_0⟩ := at_L1 HR237.out x46_3 p238 q238
                   obtain rfl : ad230 = ad238 := (by injection e238)
                   replace hx238_0 := (HB.out.cell (World.block_lt_of_cell? w _ hx238_0)).trans hx238_0
                   have HR238_0 := Aside0.mk hi238_0
                   have HC238_0 := Aside0.mk hl238_0
                   clear hi238_0 hl238_0
                   replace p238 := eq_true p238
                   replace q238 := eq_true q238
                   go_wp2_with (first | ((with_reducible refine gate_callee (f := 86) rfl ?_); refine goesL_ (some 51) rfl rfl Try.func86 (by kernel_rfl) rfl #[.slice A238_0 (rd_L1 y234 x46_3).length c238_0] rfl zl ?_; (with_reducible refine (impl_crowdOf.calls k3 _ _ (rd_L1 y234 x46_3) t239 _ ?side1 ?side2 A28.out).mono ?_); (case side1 => exact zc (Kd.C_below HR238_0.out HB.out)); (case side2 => exact HC238_0.out); rintro e w' ⟨rfl, ⟨nd, rfl⟩⟩; refine ⟨_, rfl, ?_⟩) | ((with_reducible refine gate_callee (f := 86) rfl ?_); refine goesL_ (some 53) rfl rfl Try.func86 (by kernel_rfl) rfl #[.slice A230_0 (rd_L1 l0_1 x16_1).length c230_0] rfl zl ?_; (with_reducible refine (impl_crowdOf.calls k3 _ _ (rd_L1 l0_1 x16_1) t240 _ ?side1 ?side2 A29.out).mono ?_); (case side1 => exact zc (Kd.C_below HR230_0.out (zb1 HB.out GE228.out))); (case side2 => exact HC230_0.out); rintro e w' ⟨rfl, ⟨nd, rfl⟩⟩; refine ⟨_, rfl, ?_⟩) | ((with_reducible refine gate_callee (f := 94) rfl ?_); refine goesL_ (some 56) rfl rfl Try.func94 (by kernel_rfl) rfl #[.int .u64 t239, .int .u64 t240] rfl zl ?_; (with_reducible refine (impl_crowd_contains.calls t239 t240 false _ A30.out).mono ?_); rintro e w' ⟨rfl, ⟨nd, rfl⟩⟩; refine ⟨_, rfl, ?_⟩) | (go_at_call 94; (with_reducible refine (impl_crowd_contains.calls t240 t239 false _ A32.out).mono ?_); rintro e w' ⟨rfl, ⟨nd, rfl⟩⟩))
                   go_roundg k3
                   case measure => have := HK1.out; have := HJ8.out; have := HK3.out; omega
                   case rel => exact ⟨(wrap64 (x46_3 + 1)), zt, H', ⟨by have := HK1.out; have := HJ8.out; have := HK3.out; omega⟩, ⟨zk BK228.out⟩, ⟨zb1 HB.out GE228.out⟩⟩
                ·rw [if_neg c27] at H
                 exact absurd H (by simp)
               ·rw [if_neg c26] at H
                exact absurd H (by simp)
              ·rw [if_neg c25] at H
               have c25b0 : decide (x46_3 < (y234.length : Int)) = false := decide_eq_false c25
               clear c25
               have H' := Aside0.mk H
               clear H
               go_wp2
               go_roundg k3
               case measure => have := HK1.out; have := HJ8.out; have := HK3.out; omega
               case rel => exact ⟨(wrap64 (x16_1 + 1)), zt, H', ⟨by have := HK1.out; have := HJ8.out; have := HK3.out; omega⟩, ⟨zk BK228.out⟩, ⟨zb1 HB.out GE228.out⟩⟩
           ·rw [if_neg c22] at H
            exact absurd H (by simp)
          ·rw [if_neg c21] at H
           exact absurd H (by simp)
      ·rw [if_neg c8] at H
       exact absurd H (by simp)
     ·rw [if_neg c7] at H
      exact absurd H (by simp)
    ·rw [if_neg c6] at H
     have c6b0 : decide (x16_1 < (l0_1.length : Int)) = false := decide_eq_false c6
     clear c6
     obtain rfl := Option.some.inj H
     go_wp2
     go_ret
     exact ⟨ze, zb1 HB.out GE228.out⟩
 ·replace c3 := Bool.eq_false_iff.mpr c3
  subst c3
  rw [if_neg (show ¬ (false = true) by decide)] at H
  obtain rfl := Option.some.inj H
  go_enter Try.func135, Try.ntmps135
  go_wp2_with (first | ((with_reducible refine gate_dst (N := 1) rfl ?_); refine box_event ?hg (N := 1) ?hd (cs := #[.int .i64 a0_0, .slice A0_1 l0_1.length c0_1]) (t := 31) ?hr ?_; (case hd => rfl); (case hg => rfl); (case hr => first | (go_simp; done) | (go_simp; rfl)); intro gb228 hg w34 hbox hb; have n0_ := Aside0.mk (below_step (zb0 HB.out) hb); have n1_ := Aside0.mk (hbox); have n2_ := Aside0.mk ((by rw [hg]; exact (below_size (zb0 HB.out)) : w.heap.size ≤ gb228)); have n3_ := Aside0.mk ((by rw [hg]; exact (below_size (zb0 HB.out)) : w.heap.size ≤ gb228)); clear HB; have HB := n0_; have BK228 := n1_; have GW228 := n2_; have GE228 := n3_; clear n0_ n1_ n2_ n3_; clear hb hbox hg; have hcz35_0 : w34.cell? ⟨gb228, 0, none⟩ = some (.int .i64 a0_0) := (blk_cell BK228.out 0).trans rfl; have hcz35_1 : w34.cell? ⟨gb228, 1, none⟩ = some (.slice A0_1 l0_1.length c0_1) := (blk_cell BK228.out 1).trans rfl; have hfz35_0 := blk_frozen BK228.out 0; have hfz35_1 := blk_frozen BK228.out 1) | ((with_reducible refine gate_callee (f := 98) rfl ?_); refine goesL_ (some 11) rfl rfl Try.func98 (by kernel_rfl) rfl #[.int .i64 a0_0, .int .i64 1, .int .i64 7] rfl zl ?_; (with_reducible refine (impl_within.calls a0_0 1 7 false _ A2.out).mono ?_); rintro e w' ⟨rfl, ⟨nd, rfl⟩⟩; refine ⟨_, rfl, ?_⟩))
  go_ret
  exact ⟨ze, zb1 HB.out GE228.out⟩
open Go.RowKit Go.Proofs.YtmbeijjkfmgkpaaW.PrintWords Go.Proofs.YtmbeijjkfmgkpaaW.PrintLast Go.Proofs.YtmbeijjkfmgkpaaW.PrintMore
attribute [local go_sem] max2_int min2_int max_two min_two max_three min_three max_four min_four
set_option linter.unusedVariables false
set_option linter.unusedSimpArgs false
def impl_rankedCode.f (k : Nat) (a0_0 : Int) (l0_1 : List (List Int)) : Option (Int) := (impl_ValidFamily.f k a0_0 l0_1).bind fun t244 => (if t244 = true then (if a0_0 > 5 then (some 3) else (if (l0_1.length : Int) = 0 then (some 4) else (if 0 < (l0_1.length : Int) then (if ((rd_L1 l0_1 0).length : Int) = 0 then (some 4) else (some 0)) else (none)))) else (some 1))
set_option maxHeartbeats 8000000 in
set_option maxRecDepth 100000 in
theorem impl_rankedCode.calls (k : Nat) (a0_0 : Int) (A0_1 : Option Addr) (c0_1 : Nat) (l0_1 : List (List Int)) (r : Int) (w : World) (hr0_1 : Kd.C (Kd.slice 2 (Kd.int .i64)) w A0_1 l0_1.length l0_1) (hc0_1 : l0_1.length ≤ c0_1) (h : impl_rankedCode.f k a0_0 l0_1 = some r) :
  Calls Try.prog 73 #[.agg #[.int .i64 a0_0, .slice A0_1 l0_1.length c0_1]] w fun e w' => e = .returned (.int .i64 r) ∧ Below w.heap.size w w' := by
 have hu31 := Try.underlying31
 have HR0_1 := Aside0.mk hr0_1
 have HC0_1 := Aside0.mk hc0_1
 clear hr0_1 hc0_1
 have HB := Aside0.mk (Below.refl w.heap.size w)
 have H : ((impl_ValidFamily.f k a0_0 l0_1).bind fun t244 => (if t244 = true then (if a0_0 > 5 then (some 3) else (if (l0_1.length : Int) = 0 then (some 4) else (if 0 < (l0_1.length : Int) then (if ((rd_L1 l0_1 0).length : Int) = 0 then (some 4) else (some 0)) else (none)))) else (some 1))) = some r := h
 clear h
 replace H := Option.bind_eq_some_iff.mp H
 obtain ⟨t244, A20, H⟩ := H
 replace H : (if t244 = true then (if a0_0 > 5 then (some 3) else (if (l0_1.length : Int) = 0 then (some 4) else (if 0 < (l0_1.length : Int) then (if ((rd_L1 l0_1 0).length : Int) = 0 then (some 4) else (some 0)) else (none)))) else (some 1)) = some r := H
 have A2 := Aside0.mk A20
 clear A20
 by_cases c3 : t244 = true
 ·subst c3
  rw [if_pos rfl] at H
  by_cases c4 : a0_0 > 5
  ·rw [if_pos c4] at H
   have c4b0 : decide (5 < a0_0) = true := decide_eq_true c4
   clear c4
   obtain rfl := Option.some.inj H
   go_enter Try.func73, Try.ntmps73
   go_wp2_with (first | ((with_reducible refine gate_dst (N := 1) rfl ?_); (try (refine gate_guard (by rfl) ?_; dsimp only)); refine box_event ?hg (N := 1) ?hd (cs := #[.int .i64 a0_0, .slice A0_1 l0_1.length c0_1]) (t := 31) ?hr ?_; (case hd => rfl); (case hg => rfl); (case hr => first | (go_simp; done) | (go_simp; rfl)); intro gb243 hg w5 hbox hb; have n0_ := Aside0.mk (below_step (zb0 HB.out) hb); have n1_ := Aside0.mk (hbox); have n2_ := Aside0.mk ((by rw [hg]; exact (below_size (zb0 HB.out)) : w.heap.size ≤ gb243)); have n3_ := Aside0.mk ((by rw [hg]; exact (below_size (zb0 HB.out)) : w.heap.size ≤ gb243)); clear HB; have HB := n0_; have BK243 := n1_; have GW243 := n2_; have GE243 := n3_; clear n0_ n1_ n2_ n3_; clear hb hbox hg; have hcz6_0 : w5.cell? ⟨gb243, 0, none⟩ = some (.int .i64 a0_0) := (blk_cell BK243.out 0).trans rfl; have hcz6_1 : w5.cell? ⟨gb243, 1, none⟩ = some (.slice A0_1 l0_1.length c0_1) := (blk_cell BK243.out 1).trans rfl; have hfz6_0 := blk_frozen BK243.out 0; have hfz6_1 := blk_frozen BK243.out 1) | ((with_reducible refine gate_callee (f := 135) rfl ?_); refine goesL_ (some 5) rfl rfl Try.func135 (by kernel_rfl) rfl #[.agg #[.int .i64 a0_0, .slice A0_1 l0_1.length c0_1]] rfl zl ?_; (with_reducible refine (impl_ValidFamily.calls k a0_0 _ _ l0_1 true _ ?side1 ?side2 A2.out).mono ?_); (case side1 => exact zc (Kd.C_below HR0_1.out HB.out)); (case side2 => exact HC0_1.out); rintro e w7 ⟨rfl, hb⟩; refine ⟨_, rfl, ?_⟩; have n0_ := Aside0.mk (blk_below (g := gb243) (o := .cells #[.int .i64 a0_0, .slice A0_1 l0_1.length c0_1] 31 (0, 0)) (zk BK243.out) hb); have n1_ := Aside0.mk (below_step (zb1 HB.out GE243.out) hb); clear BK243; clear HB; have BK243 := n0_; have HB := n1_; clear n0_ n1_; (try clear hb); (try clear hb2); (try clear hk); (try clear hi); have hcz8_0 : w7.cell? ⟨gb243, 0, none⟩ = some (.int .i64 a0_0) := (blk_cell BK243.out 0).trans rfl; have hcz8_1 : w7.cell? ⟨gb243, 1, none⟩ = some (.slice A0_1 l0_1.length c0_1) := (blk_cell BK243.out 1).trans rfl; have hfz8_0 := blk_frozen BK243.out 0; have hfz8_1 := blk_frozen BK243.out 1))
   go_ret
   exact ⟨ze, zb1 HB.out GE243.out⟩
  ·rw [if_neg c4] at H
   have c4b0 : decide (5 < a0_0) = false := decide_eq_false c4
   clear c4
   by_cases c9 : (l0_1.length : Int) = 0
   ·rw [if_pos c9] at H
    have c9b0 : ((l0_1.length : Int) == 0) = true := beq_iff_eq.mpr c9
    have c9b1 : ((l0_1.length : Int) != 0) = false := bne_eq_false_iff_eq.mpr c9
    clear c9
    obtain rfl := Option.some.inj H
    go_enter Try.func73, Try.ntmps73
    go_wp2_with (first | ((with_reducible refine gate_dst (N := 1) rfl ?_); (try (refine gate_guard (by rfl) ?_; dsimp only)); refine box_event ?hg (N := 1) ?hd (cs := #[.int .i64 a0_0, .slice A0_1 l0_1.length c0_1]) (t := 31) ?hr ?_; (case hd => rfl); (case hg => rfl); (case hr => first | (go_simp; done) | (go_simp; rfl)); intro gb243 hg w10 hbox hb; have n0_ := Aside0.mk (below_step (zb0 HB.out) hb); have n1_ := Aside0.mk (hbox); have n2_ := Aside0.mk ((by rw [hg]; exact (below_size (zb0 HB.out)) : w.heap.size ≤ gb243)); have n3_ := Aside0.mk ((by rw [hg]; exact (below_size (zb0 HB.out)) : w.heap.size ≤ gb243)); clear HB; have HB := n0_; have BK243 := n1_; have GW243 := n2_; have GE243 := n3_; clear n0_ n1_ n2_ n3_; clear hb hbox hg; have hcz11_0 : w10.cell? ⟨gb243, 0, none⟩ = some (.int .i64 a0_0) := (blk_cell BK243.out 0).trans rfl; have hcz11_1 : w10.cell? ⟨gb243, 1, none⟩ = some (.slice A0_1 l0_1.length c0_1) := (blk_cell BK243.out 1).trans rfl; have hfz11_0 := blk_frozen BK243.out 0; have hfz11_1 := blk_frozen BK243.out 1) | ((with_reducible refine gate_callee (f := 135) rfl ?_); refine goesL_ (some 5) rfl rfl Try.func135 (by kernel_rfl) rfl #[.agg #[.int .i64 a0_0, .slice A0_1 l0_1.length c0_1]] rfl zl ?_; (with_reducible refine (impl_ValidFamily.calls k a0_0 _ _ l0_1 true _ ?side1 ?side2 A2.out).mono ?_); (case side1 => exact zc (Kd.C_below HR0_1.out HB.out)); (case side2 => exact HC0_1.out); rintro e w12 ⟨rfl, hb⟩; refine ⟨_, rfl, ?_⟩; have n0_ := Aside0.mk (blk_below (g := gb243) (o := .cells #[.int .i64 a0_0, .slice A0_1 l0_1.length c0_1] 31 (0, 0)) (zk BK243.out) hb); have n1_ := Aside0.mk (below_step (zb1 HB.out GE243.out) hb); clear BK243; clear HB; have BK243 := n0_; have HB := n1_; clear n0_ n1_; (try clear hb); (try clear hb2); (try clear hk); (try clear hi); have hcz13_0 : w12.cell? ⟨gb243, 0, none⟩ = some (.int .i64 a0_0) := (blk_cell BK243.out 0).trans rfl; have hcz13_1 : w12.cell? ⟨gb243, 1, none⟩ = some (.slice A0_1 l0_1.length c0_1) := (blk_cell BK243.out 1).trans rfl; have hfz13_0 := blk_frozen BK243.out 0; have hfz13_1 := blk_frozen BK243.out 1))
    go_ret
    exact ⟨ze, zb1 HB.out GE243.out⟩
   ·rw [if_neg c9] at H
    have c9b0 : ((l0_1.length : Int) == 0) = false := beq_eq_false_iff_ne.mpr c9
    have c9b1 : ((l0_1.length : Int) != 0) = true := bne_iff_ne.mpr c9
    have c9b2 : ¬ (l0_1 = []) := fun h_ => c9 (by rw [h_]; rfl)
    by_cases c14 : 0 < (l0_1.length : Int)
    ·rw [if_pos c14] at H
     have c14b0 : decide (0 < (l0_1.length : Int)) = true := decide_eq_true c14
     have c14b1 : decide (0 < l0_1.length) = true := decide_eq_true (by omega)
     clear c14
     by_cases c15 : ((rd_L1 l0_1 0).length : Int) = 0
     ·rw [if_pos c15] at H
      have c15b0 : (((rd_L1 l0_1 0).length : Int) == 0) = true := beq_iff_eq.mpr c15
      have c15b1 : (((rd_L1 l0_1 0).length : Int) != 0) = false := bne_eq_false_iff_eq.mpr c15
      clear c15
      obtain rfl := Option.some.inj H
      go_enter Try.func73, Try.ntmps73
      go_wp2_with (first | ((with_reducible refine gate_dst (N := 1) rfl ?_); (try (refine gate_guard (by rfl) ?_; dsimp only)); refine box_event ?hg (N := 1) ?hd (cs := #[.int .i64 a0_0, .slice A0_1 l0_1.length c0_1]) (t := 31) ?hr ?_; (case hd => rfl); (case hg => rfl); (case hr => first | (go_simp; done) | (go_simp; rfl)); intro gb243 hg w16 hbox hb; have n0_ := Aside0.mk (below_step (zb0 HB.out) hb); have n1_ := Aside0.mk (hbox); have n2_ := Aside0.mk ((by rw [hg]; exact (below_size (zb0 HB.out)) : w.heap.size ≤ gb243)); have n3_ := Aside0.mk ((by rw [hg]; exact (below_size (zb0 HB.out)) : w.heap.size ≤ gb243)); clear HB; have HB := n0_; have BK243 := n1_; have GW243 := n2_; have GE243 := n3_; clear n0_ n1_ n2_ n3_; clear hb hbox hg; have hcz17_0 : w16.cell? ⟨gb243, 0, none⟩ = some (.int .i64 a0_0) := (blk_cell BK243.out 0).trans rfl; have hcz17_1 : w16.cell? ⟨gb243, 1, none⟩ = some (.slice A0_1 l0_1.length c0_1) := (blk_cell BK243.out 1).trans rfl; have hfz17_0 := blk_frozen BK243.out 0; have hfz17_1 := blk_frozen BK243.out 1) | ((with_reducible refine gate_callee (f := 135) rfl ?_); refine goesL_ (some 5) rfl rfl Try.func135 (by kernel_rfl) rfl #[.agg #[.int .i64 a0_0, .slice A0_1 l0_1.length c0_1]] rfl zl ?_; (with_reducible refine (impl_ValidFamily.calls k a0_0 _ _ l0_1 true _ ?side1 ?side2 A2.out).mono ?_); (case side1 => exact zc (Kd.C_below HR0_1.out HB.out)); (case side2 => exact HC0_1.out); rintro e w18 ⟨rfl, hb⟩; refine ⟨_, rfl, ?_⟩; have n0_ := Aside0.mk (blk_below (g := gb243) (o := .cells #[.int .i64 a0_0, .slice A0_1 l0_1.length c0_1] 31 (0, 0)) (zk BK243.out) hb); have n1_ := Aside0.mk (below_step (zb1 HB.out GE243.out) hb); clear BK243; clear HB; have BK243 := n0_; have HB := n1_; clear n0_ n1_; (try clear hb); (try clear hb2); (try clear hk); (try clear hi); have hcz19_0 : w18.cell? ⟨gb243, 0, none⟩ = some (.int .i64 a0_0) := (blk_cell BK243.out 0).trans rfl; have hcz19_1 : w18.cell? ⟨gb243, 1, none⟩ = some (.slice A0_1 l0_1.length c0_1) := (blk_cell BK243.out 1).trans rfl; have hfz19_0 := blk_frozen BK243.out 0; have hfz19_1 := blk_frozen BK243.out 1; have p245 : 0 ≤ (0 : Int) := (by omega); have q245 : 0 < (l0_1.length : Int) := of_decide_eq_true (by first | (with_reducible assumption) | assumption); obtain ⟨ad245, A245_0, c245_0, e245, hx245_0, hl245_0, hi245_0⟩ := at_L1 HR0_1.out 0 p245 q245; cases e245; have qi245 : (0 < l0_1.length) = True := eq_true (by omega); (try rw [show ((0 : Int)).toNat = 0 from rfl] at hx245_0); (try rw [Addr.add_zero'] at hx245_0); replace hx245_0 := (HB.out.cell (World.block_lt_of_cell? w _ hx245_0)).trans hx245_0; have HR245_0 := Aside0.mk hi245_0; have HC245_0 := Aside0.mk hl245_0; clear hi245_0 hl245_0; replace p245 := eq_true p245; replace q245 := eq_true q245))
      go_ret
      exact ⟨ze, zb1 HB.out GE243.out⟩
     ·rw [if_neg c15] at H
      have c15b0 : (((rd_L1 l0_1 0).length : Int) == 0) = false := beq_eq_false_iff_ne.mpr c15
      have c15b1 : (((rd_L1 l0_1 0).length : Int) != 0) = true := bne_iff_ne.mpr c15
      have c15b2 : ¬ ((rd_L1 l0_1 0) = []) := fun h_ => c15 (by rw [h_]; rfl)
      obtain rfl := Option.some.inj H
      go_enter Try.func73, Try.ntmps73
      go_wp2_with (first | ((with_reducible refine gate_dst (N := 1) rfl ?_); (try (refine gate_guard (by rfl) ?_; dsimp only)); refine box_event ?hg (N := 1) ?hd (cs := #[.int .i64 a0_0, .slice A0_1 l0_1.length c0_1]) (t := 31) ?hr ?_; (case hd => rfl); (case hg => rfl); (case hr => first | (go_simp; done) | (go_simp; rfl)); intro gb243 hg w20 hbox hb; have n0_ := Aside0.mk (below_step (zb0 HB.out) hb); have n1_ := Aside0.mk (hbox); have n2_ := Aside0.mk ((by rw [hg]; exact (below_size (zb0 HB.out)) : w.heap.size ≤ gb243)); have n3_ := Aside0.mk ((by rw [hg]; exact (below_size (zb0 HB.out)) : w.heap.size ≤ gb243)); clear HB; have HB := n0_; have BK243 := n1_; have GW243 := n2_; have GE243 := n3_; clear n0_ n1_ n2_ n3_; clear hb hbox hg; have hcz21_0 : w20.cell? ⟨gb243, 0, none⟩ = some (.int .i64 a0_0) := (blk_cell BK243.out 0).trans rfl; have hcz21_1 : w20.cell? ⟨gb243, 1, none⟩ = some (.slice A0_1 l0_1.length c0_1) := (blk_cell BK243.out 1).trans rfl; have hfz21_0 := blk_frozen BK243.out 0; have hfz21_1 := blk_frozen BK243.out 1) | ((with_reducible refine gate_callee (f := 135) rfl ?_); refine goesL_ (some 5) rfl rfl Try.func135 (by kernel_rfl) rfl #[.agg #[.int .i64 a0_0, .slice A0_1 l0_1.length c0_1]] rfl zl ?_; (with_reducible refine (impl_ValidFamily.calls k a0_0 _ _ l0_1 true _ ?side1 ?side2 A2.out).mono ?_); (case side1 => exact zc (Kd.C_below HR0_1.out HB.out)); (case side2 => exact HC0_1.out); rintro e w22 ⟨rfl, hb⟩; refine ⟨_, rfl, ?_⟩; have n0_ := Aside0.mk (blk_below (g := gb243) (o := .cells #[.int .i64 a0_0, .slice A0_1 l0_1.length c0_1] 31 (0, 0)) (zk BK243.out) hb); have n1_ := Aside0.mk (below_step (zb1 HB.out GE243.out) hb); clear BK243; clear HB; have BK243 := n0_; have HB := n1_; clear n0_ n1_; (try clear hb); (try clear hb2); (try clear hk); (try clear hi); have hcz23_0 : w22.cell? ⟨gb243, 0, none⟩ = some (.int .i64 a0_0) := (blk_cell BK243.out 0).trans rfl; have hcz23_1 : w22.cell? ⟨gb243, 1, none⟩ = some (.slice A0_1 l0_1.length c0_1) := (blk_cell BK243.out 1).trans rfl; have hfz23_0 := blk_frozen BK243.out 0; have hfz23_1 := blk_frozen BK243.out 1; have p245 : 0 ≤ (0 : Int) := (by omega); have q245 : 0 < (l0_1.length : Int) := of_decide_eq_true (by first | (with_reducible assumption) | assumption); obtain ⟨ad245, A245_0, c245_0, e245, hx245_0, hl245_0, hi245_0⟩ := at_L1 HR0_1.out 0 p245 q245; cases e245; have qi245 : (0 < l0_1.length) = True := eq_true (by omega); (try rw [show ((0 : Int)).toNat = 0 from rfl] at hx245_0); (try rw [Addr.add_zero'] at hx245_0); replace hx245_0 := (HB.out.cell (World.block_lt_of_cell? w _ hx245_0)).trans hx245_0; have HR245_0 := Aside0.mk hi245_0; have HC245_0 := Aside0.mk hl245_0; clear hi245_0 hl245_0; replace p245 := eq_true p245; replace q245 := eq_true q245))
      go_ret
      exact ⟨ze, zb1 HB.out GE243.out⟩
    ·rw [if_neg c14] at H
     exact absurd H (by simp)
 ·replace c3 := Bool.eq_false_iff.mpr c3
  subst c3
  rw [if_neg (show ¬ (false = true) by decide)] at H
  obtain rfl := Option.some.inj H
  go_enter Try.func73, Try.ntmps73
  go_wp2_with (first | ((with_reducible refine gate_dst (N := 1) rfl ?_); (try (refine gate_guard (by rfl) ?_; dsimp only)); refine box_event ?hg (N := 1) ?hd (cs := #[.int .i64 a0_0, .slice A0_1 l0_1.length c0_1]) (t := 31) ?hr ?_; (case hd => rfl); (case hg => rfl); (case hr => first | (go_simp; done) | (go_simp; rfl)); intro gb243 hg w24 hbox hb; have n0_ := Aside0.mk (below_step (zb0 HB.out) hb); have n1_ := Aside0.mk (hbox); have n2_ := Aside0.mk ((by rw [hg]; exact (below_size (zb0 HB.out)) : w.heap.size ≤ gb243)); have n3_ := Aside0.mk ((by rw [hg]; exact (below_size (zb0 HB.out)) : w.heap.size ≤ gb243)); clear HB; have HB := n0_; have BK243 := n1_; have GW243 := n2_; have GE243 := n3_; clear n0_ n1_ n2_ n3_; clear hb hbox hg; have hcz25_0 : w24.cell? ⟨gb243, 0, none⟩ = some (.int .i64 a0_0) := (blk_cell BK243.out 0).trans rfl; have hcz25_1 : w24.cell? ⟨gb243, 1, none⟩ = some (.slice A0_1 l0_1.length c0_1) := (blk_cell BK243.out 1).trans rfl; have hfz25_0 := blk_frozen BK243.out 0; have hfz25_1 := blk_frozen BK243.out 1) | ((with_reducible refine gate_callee (f := 135) rfl ?_); refine goesL_ (some 5) rfl rfl Try.func135 (by kernel_rfl) rfl #[.agg #[.int .i64 a0_0, .slice A0_1 l0_1.length c0_1]] rfl zl ?_; (with_reducible refine (impl_ValidFamily.calls k a0_0 _ _ l0_1 false _ ?side1 ?side2 A2.out).mono ?_); (case side1 => exact zc (Kd.C_below HR0_1.out HB.out)); (case side2 => exact HC0_1.out); rintro e w26 ⟨rfl, hb⟩; refine ⟨_, rfl, ?_⟩; have n0_ := Aside0.mk (blk_below (g := gb243) (o := .cells #[.int .i64 a0_0, .slice A0_1 l0_1.length c0_1] 31 (0, 0)) (zk BK243.out) hb); have n1_ := Aside0.mk (below_step (zb1 HB.out GE243.out) hb); clear BK243; clear HB; have BK243 := n0_; have HB := n1_; clear n0_ n1_; (try clear hb); (try clear hb2); (try clear hk); (try clear hi)))
  go_ret
  exact ⟨ze, zb1 HB.out GE243.out⟩
def impl_crowd_has.f (a0 : Int) (a1 : Int) : Option (Bool) := if 0 ≤ a1 then (some ((Go.bits .and .u64 (shr .u64 a0 a1) 1) == 1)) else (none)
set_option maxHeartbeats 8000000 in
set_option maxRecDepth 100000 in
theorem impl_crowd_has.calls (a0 : Int) (a1 : Int) (r : Bool) (w : World) (h : impl_crowd_has.f a0 a1 = some r) :
    Calls Try.prog 137 #[.int .u64 a0, .int .i64 a1] w fun e w' => e = .returned (.bool r) ∧ Drawn0 w w' := by
  have H : (if 0 ≤ a1 then (some ((Go.bits .and .u64 (shr .u64 a0 a1) 1) == 1)) else (none)) = some r := h
  clear h
  by_cases c3 : 0 ≤ a1
  · rw [if_pos c3] at H
    have c3b0 := eq_true c3
    have c3b1 : decide (0 ≤ a1) = true := decide_eq_true c3
    clear c3
    obtain ⟨ji4, hji4⟩ : ∃ j_ : Int, (shr .u64 a0 a1) = j_ := ⟨_, rfl⟩
    replace H : (some ((Go.bits .and .u64 (ji4) 1) == 1)) = some r := by first | (rw [hji4] at H; exact H) | (simp only [hji4] at H ⊢; exact H)
    have hji4_ : (a0 / 2 ^ min a1.toNat 64) = ji4 := hji4
    have hji4z : a1 ≤ 64 → (a0 / 2 ^ a1.toNat) = ji4 := shr_small hji4
    obtain rfl := Option.some.inj H
    go_enter Try.func137, Try.ntmps137
    go_wp2
    go_ret
    exact ⟨by first | rfl | (simp; done) | (simp only [← hji4] <;> (first | rfl | simp)) | (simp [*]; done), by repeat (first | exact Drawn0.refl _ | apply Drawn0.step)⟩
  · rw [if_neg c3] at H
    exact absurd H (by simp)
def impl_crowd_group.l0 : Nat → Int → List Int → Int → Option (List Int)
  | 0, _, _, _ => none
  | k + 1, x0, x3, x4 => if x4 < 7 then ((impl_crowd_has.f x0 x4).bind fun t249 => (if t249 = true then (if x3.length < 17592186044416 then (impl_crowd_group.l0 k x0 (x3 ++ [x4]) (wrap64 (x4 + 1))) else (none)) else (impl_crowd_group.l0 k x0 x3 (wrap64 (x4 + 1))))) else (some x3)
def impl_crowd_group.f (k : Nat) (a0 : Int) : Option (List Int) := impl_crowd_group.l0 k a0 (([] : List Int)) 0
set_option maxHeartbeats 8000000 in
set_option maxRecDepth 100000 in
theorem impl_crowd_group.calls (k : Nat) (a0 : Int) (r : List Int) (w : World) (h : impl_crowd_group.f k a0 = some r) :
  Calls Try.prog 78 #[.int .u64 a0] w fun e w' => ∃ v0_ : Value, e = .returned (v0_) ∧ Kd.R (Kd.int .i64) 2 w' w.heap.size (fun _ => True) v0_ r ∧ Below w.heap.size w w' := by
 have HB := Aside0.mk (Below.refl w.heap.size w)
 have H : (impl_crowd_group.l0 k a0 (([] : List Int)) 0) = some r := h
 clear h
 obtain ⟨y246, hy246⟩ : ∃ y_ : List Int, y_ = (([] : List Int)) := ⟨_, rfl⟩
 replace H : (impl_crowd_group.l0 k a0 y246 0) = some r := by first | (rw [hy246]; with_reducible exact H) | (have H2_ := (Option.bind_some _ _).symm.trans H; rw [hy246]; with_reducible exact H2_) | (have H2_ := (Option.bind_some _ _).symm.trans H; with_reducible exact H2_) | with_reducible exact H | (rw [hy246]; exact H) | exact H
 have Ny246 := Aside0.mk hy246
 clear hy246
 have H' := Aside0.mk H
 clear H
 go_enter Try.func78, Try.ntmps78
 go_wp2_with (first | ((with_reducible refine gate_dst (N := 5) rfl ?_); refine Kd.R_lit (Kd.int .i64) _ 2 ?hg (N := 5) ?hd (xs := ([] : List Int)) (inner := []) (ok := fun _ => True) (okp := fun _ => True) ?hr ?hp (fun _ hk => hk) trivial (Below.refl _ _) (Nat.le_refl _) (by simp) ?_; (case hd => rfl); (case hg => rfl); (case hr => first | (go_simp; done) | (go_simp; rfl)); (case hp => exact (Reps.none _ _)); intro v247 w2 ho3 hb hg_ hnew_; clear hg_ hnew_; (first | rw [← Ny246.out] at ho3 | (simp only [Int.reduceToNat] at ho3; rw [← Ny246.out] at ho3)); have n0_ := Aside0.mk (Kd.R_lower ho3 (below_size (zb0 HB.out))); have n1_ := Aside0.mk (below_step (zb0 HB.out) hb); clear HB; have HO248 := n0_; have HB := n1_; clear n0_ n1_; clear hb ho3))
 go_loopg [3, 4] k (fun kq v3 v4 w' => ∃ (x3_1 : List Int) (x4_1 : Int), v4 = .int .i64 x4_1 ∧ Aside0 (impl_crowd_group.l0 kq a0 x3_1 x4_1 = some r) ∧ Aside0 (kq ≤ k) ∧ Aside0 (Kd.R (Kd.int .i64) 2 w' w.heap.size (fun _ => True) v3 x3_1) ∧ Aside0 (Below w.heap.size w w'))
 case atStart => exact ⟨(y246), (0), zt, H', ⟨Nat.le_refl _⟩, ⟨zr HO248.out⟩, ⟨zb0 HB.out⟩⟩
 case round =>
  clear H'
  obtain ⟨x3_1, x4_1, rfl, HA, HK1, HO_3, HB⟩ := hrel
  cases gk with
  | zero => exact absurd HA.out (by simp [impl_crowd_group.l0])
  | succ k1 =>
   have H := HA.out
   clear HA
   simp only [impl_crowd_group.l0] at H
   by_cases c4 : x4_1 < 7
   ·rw [if_pos c4] at H
    have c4b0 : decide (x4_1 < 7) = true := decide_eq_true c4
    clear c4
    replace H := Option.bind_eq_some_iff.mp H
    obtain ⟨t249, A50, H⟩ := H
    replace H : (if t249 = true then (if x3_1.length < 17592186044416 then (impl_crowd_group.l0 k1 a0 (x3_1 ++ [x4_1]) (wrap64 (x4_1 + 1))) else (none)) else (impl_crowd_group.l0 k1 a0 x3_1 (wrap64 (x4_1 + 1)))) = some r := H
    have A5 := Aside0.mk A50
    clear A50
    by_cases c6 : t249 = true
    ·subst c6
     rw [if_pos rfl] at H
     by_cases c7 : x3_1.length < 17592186044416
     ·rw [if_pos c7] at H
      have LMc7 := Aside0.mk c7
      clear c7
      obtain ⟨y250, hy250⟩ : ∃ y_ : List Int, y_ = (x3_1 ++ [x4_1]) := ⟨_, rfl⟩
      replace H : (impl_crowd_group.l0 k1 a0 y250 (wrap64 (x4_1 + 1))) = some r := by first | (rw [hy250]; with_reducible exact H) | (have H2_ := (Option.bind_some _ _).symm.trans H; rw [hy250]; with_reducible exact H2_) | (have H2_ := (Option.bind_some _ _).symm.trans H; with_reducible exact H2_) | with_reducible exact H | (rw [hy250]; exact H) | exact H
      have Ny250 := Aside0.mk hy250
      clear hy250
      have H' := Aside0.mk H
      clear H
      go_wp2_with (first | ((with_reducible refine gate_callee (f := 137) rfl ?_); refine goesL_ (some 12) rfl rfl Try.func137 (by kernel_rfl) rfl #[.int .u64 a0, .int .i64 x4_1] rfl zl ?_; (with_reducible refine (impl_crowd_has.calls a0 x4_1 true _ A5.out).mono ?_); rintro e w' ⟨rfl, ⟨nd, rfl⟩⟩; refine ⟨_, rfl, ?_⟩) | ((with_reducible refine gate_builtin (b := .append) (xs := #[.tmp 13, .tmp 15]) rfl ?_); at_builtin; refine Kd.R_append (Kd.int .i64) (w0 := w) w.heap.size rfl (.tmp 13) (.tmp 15) 26 2 (.int .i64 0) 8 rfl Try.underlying26 info2 rfl (by decide) (by omega) u3 x3_1 x4_1 [.int .i64 x4_1] (fun _ => True) (fun _ => False) rfl rfl ?aP (fun _ hk => hk.elim) ?aF ?aO ?aB ?aS ?aL ?_; (case aP => exact rfl); (case aB => exact (zb0 HB.out)); (case aF => exact (fun _ _ => trivial)); (case aO => exact (zr HO_3.out)); (case aS => exact (below_size (zb0 HB.out))); (case aL => have := LMc7.out; omega); intro v251 w8 ho hb hg hat; rw [← Ny250.out] at ho; have n0_ := Aside0.mk (hb); have n1_ := Aside0.mk (ho); clear HB; clear HO_3; have HB := n0_; have HO252 := n1_; clear n0_ n1_; clear ho hb hg hat))
      go_roundg k1
      case measure => have := HK1.out; omega
      case rel => exact ⟨(y250), (wrap64 (x4_1 + 1)), zt, H', ⟨by have := HK1.out; omega⟩, ⟨zr HO252.out⟩, ⟨zb0 HB.out⟩⟩
     ·rw [if_neg c7] at H
      exact absurd H (by simp)
    ·replace c6 := Bool.eq_false_iff.mpr c6
     subst c6
     rw [if_neg (show ¬ (false = true) by decide)] at H
     have H' := Aside0.mk H
     clear H
     go_wp2_with (first | ((with_reducible refine gate_callee (f := 137) rfl ?_); refine goesL_ (some 12) rfl rfl Try.func137 (by kernel_rfl) rfl #[.int .u64 a0, .int .i64 x4_1] rfl zl ?_; (with_reducible refine (impl_crowd_has.calls a0 x4_1 false _ A5.out).mono ?_); rintro e w' ⟨rfl, ⟨nd, rfl⟩⟩; refine ⟨_, rfl, ?_⟩))
     go_roundg k1
     case measure => have := HK1.out; omega
     case rel => exact ⟨(x3_1), (wrap64 (x4_1 + 1)), zt, H', ⟨by have := HK1.out; omega⟩, ⟨zr HO_3.out⟩, ⟨zb0 HB.out⟩⟩
   ·rw [if_neg c4] at H
    have c4b0 : decide (x4_1 < 7) = false := decide_eq_false c4
    clear c4
    obtain rfl := Option.some.inj H
    go_wp2
    go_ret
    exact ⟨_, ze, by (with_reducible repeat (first | apply Kd.R_alloc | apply Kd.R_drewN | apply Kd.R_drew)); exact HO_3.out, zb0 HB.out⟩
def fidx {α : Type} (p : α → Bool) : List α → Int
  | [] => -1
  | x :: l => if p x = true then 0 else if fidx p l < 0 then -1 else fidx p l + 1
theorem fidx_any {α : Type} (p : α → Bool) (l : List α) : decide (fidx p l ≥ 0) = l.any p := by
  induction l with
  | nil => rfl
  | cons x l ih =>
    rw [List.any_cons, ← ih]
    simp only [fidx]
    by_cases hp : p x = true
    · simp [hp]
    · by_cases h : fidx p l < 0
      · simp [hp, h]
      · simp [hp, h]; omega
theorem fidx_hit {α : Type} (p : α → Bool) (l : List α) (z : α) : ∀ i : Nat, i < l.length → p (l.getD i z) = true → (∀ j, j < i → p (l.getD j z) = false) → fidx p l = i := by
  induction l with
  | nil => intro i hi; simp at hi
  | cons x l ih =>
    intro i hi hp hj
    cases i with
    | zero => simp only [List.getD_cons_zero] at hp; simp [fidx, hp]
    | succ i =>
      have h0 : p x = false := by simpa using hj 0 (by omega)
      have h1 := ih i (by simpa using hi) (by simpa using hp) (fun j h => by simpa using hj (j + 1) (by omega))
      have h2 : ¬ ((i : Int) < 0) := by omega
      simp [fidx, h0, h1, h2]
theorem fidx_miss {α : Type} (p : α → Bool) (l : List α) (z : α) (h : ∀ j, j < l.length → p (l.getD j z) = false) : fidx p l = -1 := by
  induction l with
  | nil => rfl
  | cons x l ih =>
    have h0 : p x = false := by simpa using h 0 (by simp)
    have h1 := ih (fun j hj => by simpa using h (j + 1) (by simpa using hj))
    simp [fidx, h0, h1]
theorem mapM_any {α β : Type} {f : α → Option β} (q : β → Bool) : ∀ (l : List α) (ts : List β), l.mapM f = some ts → (∀ x, x ∈ l → ∃ t, f x = some t) ∧ l.any (fun x => ((f x).map q).getD false) = ts.any q := by
  intro l
  induction l with
  | nil => intro ts h; simp at h; subst h; simp
  | cons x l ih =>
    intro ts h
    rw [List.mapM_cons] at h
    cases hx : f x with
    | none => rw [hx] at h; simp at h
    | some t =>
      rw [hx] at h
      cases hl : l.mapM f with
      | none => rw [hl] at h; simp at h
      | some us =>
        rw [hl] at h
        simp at h
        subst h
        obtain ⟨h1, h2⟩ := ih us hl
        refine ⟨fun y hy => ?_, by simp [hx, h2]⟩
        rcases List.mem_cons.1 hy with rfl | hy
        · exact ⟨t, hx⟩
        · exact h1 y hy
set_option maxHeartbeats 2000000 in
theorem idxRows_calls (l : List (List Int)) (p : List Int → Bool) (g : Nat) (lb : Array Value) (eg : ∀ args w, (callFunc g args).run Try.prog w = .ok (.enter g args) w) (A0 : Option Addr) (c0 : Nat) (w : World) (hr0 : Kd.C (Kd.slice 2 (Kd.int .i64)) w A0 l.length l) (hc0 : l.length ≤ c0)
  (hp : ∀ x, x ∈ l → ∀ (W : World) (A : Option Addr) (c : Nat), Below w.heap.size w W → Kd.C (Kd.int .i64) W A x.length x → x.length ≤ c → Calls Try.prog g (#[.slice A x.length c] ++ lb) W fun e w' => e = .returned (.bool (p x)) ∧ Below W.heap.size W w') :
  Calls Try.prog 164 #[.slice A0 l.length c0, .func (.func g) #[] lb] w fun e w' => e = .returned (.int .i64 (fidx p l)) ∧ Below w.heap.size w w' := by
 have hmax : l.length ≤ 9223372036854775807 := hr0.2.1
 have HR0 := Aside0.mk hr0
 have HP := Aside0.mk hp
 clear hr0 hp hc0
 go_enter Try.func164, Try.ntmps164
 go_wp2
 go_loopg [5, 8] l.length (fun gg _ s8 wr => ∃ kk : Nat, kk ≤ l.length ∧ l.length - kk ≤ gg ∧ s8 = .int .i64 kk ∧ Aside0 (Below w.heap.size w wr) ∧ Aside0 (∀ j, j < kk → p (l.getD j []) = false))
 case atStart => exact ⟨0, Nat.zero_le _, by omega, rfl, ⟨Below.refl _ w⟩, ⟨fun j hj => absurd hj (Nat.not_lt_zero _)⟩⟩
 case round =>
  obtain ⟨kk, hkk, hg, rfl, HB, HA⟩ := hrel
  by_cases hlt : kk < l.length
  ·have hltz : (kk : Int) < (l.length : Int) := by omega
   obtain ⟨ad, A1, c1, e1, hx, hl, hi⟩ := at_L1 HR0.out (kk : Int) (by omega) hltz
   subst e1
   have hrd : rd_L1 l (kk : Int) = l.getD kk [] := by simp [rd_L1]
   rw [hrd] at hx hl hi
   replace hx := pw_cell_below HB.out hx
   have hmem : l.getD kk [] ∈ l := by rw [List.getD_eq_getElem?_getD, List.getElem?_eq_getElem hlt]; exact List.getElem_mem hlt
   have hcall := Aside0.mk (HP.out _ hmem wr A1 c1 HB.out (Kd.C_below hi HB.out) hl)
   simp only [Int.toNat_natCast] at hx
   clear hi hl
   generalize hy : l.getD kk [] = y at hx hcall hmem
   have HY := Aside0.mk hy
   clear hy hrd
   cases hq : p y with
   | true =>
    have HQ := Aside0.mk hq
    have hcall2 := Aside0.mk (show Calls Try.prog g (#[.slice A1 y.length c1] ++ lb) wr fun e w' => e = .returned (.bool true) ∧ Below wr.heap.size wr w' from by rw [← hq]; exact hcall.out)
    clear hcall hq
    go_wp2_with fail
    refine hcall2.out.mono ?_
    rintro e w' ⟨rfl, hb⟩
    clear hcall2 HP eg
    go_wp2
    go_ret
    refine ⟨?_, below_step HB.out hb⟩
    rw [fidx_hit p l [] kk hlt (by rw [HY.out]; exact HQ.out) HA.out]
    rfl
   | false =>
    have HQ := Aside0.mk hq
    have hcall2 := Aside0.mk (show Calls Try.prog g (#[.slice A1 y.length c1] ++ lb) wr fun e w' => e = .returned (.bool false) ∧ Below wr.heap.size wr w' from by rw [← hq]; exact hcall.out)
    clear hcall hq
    go_wp2_with fail
    refine hcall2.out.mono ?_
    rintro e w' ⟨rfl, hb⟩
    clear hcall2 HP eg
    go_wp2
    go_roundg (l.length - (kk + 1))
    case measure => omega
    case rel =>
     refine ⟨kk + 1, by omega, by omega, by go_num, ⟨below_step HB.out hb⟩, ⟨fun j hj => ?_⟩⟩
     by_cases e : j = kk
     ·subst e
      rw [HY.out]; exact HQ.out
     ·exact HA.out j (by omega)
  ·have hltz : ¬ (kk : Int) < (l.length : Int) := by omega
   have : kk = l.length := by omega
   subst this
   go_wp2
   go_ret
   refine ⟨?_, HB.out⟩
   rw [fidx_miss p l [] HA.out]
   rfl
set_option maxHeartbeats 1000000 in
theorem containsRows_calls (l : List (List Int)) (p : List Int → Bool) (g : Nat) (lb : Array Value) (eg : ∀ args w, (callFunc g args).run Try.prog w = .ok (.enter g args) w) (A0 : Option Addr) (c0 : Nat) (w : World) (hr0 : Kd.C (Kd.slice 2 (Kd.int .i64)) w A0 l.length l) (hc0 : l.length ≤ c0)
    (hp : ∀ x, x ∈ l → ∀ (W : World) (A : Option Addr) (c : Nat), Below w.heap.size w W → Kd.C (Kd.int .i64) W A x.length x → x.length ≤ c → Calls Try.prog g (#[.slice A x.length c] ++ lb) W fun e w' => e = .returned (.bool (p x)) ∧ Below W.heap.size W w') :
    Calls Try.prog 140 #[.slice A0 l.length c0, .func (.func g) #[] lb] w fun e w' => e = .returned (.bool (l.any p)) ∧ Below w.heap.size w w' := by
  have HC := Aside0.mk (idxRows_calls l p g lb eg A0 c0 w hr0 hc0 hp)
  clear hr0 hp hc0 eg
  rw [← fidx_any]
  go_enter Try.func140, Try.ntmps140
  go_wp2_with fail
  refine HC.out.mono ?_
  rintro e w' ⟨rfl, hb⟩
  clear HC
  go_wp2
  go_ret
  exact ⟨rfl, hb⟩
set_option maxHeartbeats 1000000 in
theorem areGroups1_calls (k : Nat) (A : Option Addr) (c : Nat) (x : List Int) (a1 : Int) (t : Bool) (B : Addr) (w : World) (hr : Kd.C (Kd.int .i64) w A x.length x) (hc : x.length ≤ c) (hB : w.cell? B = some (.int .i64 a1)) (h : impl_isGroup.f k a1 x = some t) :
    Calls Try.prog 141 #[.slice A x.length c, .pointer (some B)] w fun e w' => e = .returned (.bool (!t)) ∧ Below w.heap.size w w' := by
  have HC := Aside0.mk (impl_isGroup.calls k a1 A c x t w hr hc h)
  clear hr hc h
  go_enter Try.func141, Try.ntmps141
  go_wp2_with fail
  refine HC.out.mono ?_
  rintro e w' ⟨rfl, hd⟩
  clear HC
  have HD := Aside0.mk hd.below
  clear hd
  go_wp2
  go_ret
  exact ⟨rfl, HD.out⟩
def impl_areGroups.f (k : Nat) (a0 : Int) (l1 : List (List Int)) : Option (Bool) := (l1.mapM (impl_isGroup.f k a0)).map fun bs => !(bs.any fun b => !b)
set_option maxHeartbeats 1000000 in
theorem impl_areGroups.calls (k : Nat) (a0 : Int) (A1 : Option Addr) (c1 : Nat) (l1 : List (List Int)) (r : Bool) (w : World) (hr1 : Kd.C (Kd.slice 2 (Kd.int .i64)) w A1 l1.length l1) (hc1 : l1.length ≤ c1) (h : impl_areGroups.f k a0 l1 = some r) :
    Calls Try.prog 85 #[.int .i64 a0, .slice A1 l1.length c1] w fun e w' => e = .returned (.bool r) ∧ Below w.heap.size w w' := by
  obtain ⟨ts, hts, hr⟩ := Option.map_eq_some_iff.1 h
  obtain ⟨hall, hany⟩ := mapM_any (fun t => !t) l1 ts hts
  rw [← hany] at hr
  clear hany hts h
  have eg : ∀ args w, (callFunc 141 args).run Try.prog w = .ok (.enter 141 args) w := enters_of Try.func141 (by kernel_rfl) rfl
  have HC := Aside0.mk (fun (W : World) (B : Nat) (hbw : Below w.heap.size w W) (hB : W.cell? ⟨B, 0, none⟩ = some (.int .i64 a0)) =>
    containsRows_calls l1 (fun x => ((impl_isGroup.f k a0 x).map fun t => !t).getD false) 141 #[.pointer (some ⟨B, 0, none⟩)] eg A1 c1 W (Kd.C_below hr1 hbw) hc1
      (fun x hx W' A c hb hC hcl => by
        obtain ⟨t, ht⟩ := hall x hx
        have h1 := areGroups1_calls k A c x a0 t ⟨B, 0, none⟩ W' hC hcl (pw_cell_below hb hB) ht
        rw [ht]
        exact h1))
  have HR := Aside0.mk hr
  clear hr1 hc1 hall eg hr
  go_enter Try.func85, Try.ntmps85
  go_wp2_with fail
  refine (HC.out _ w.heap.size (below_alloc (Below.refl _ w) _) (by simp)).mono ?_
  rintro e w' ⟨rfl, hb⟩
  clear HC
  go_wp2
  go_ret
  exact ⟨by rw [← HR.out]; rfl, below_step (below_alloc (Below.refl _ w) _) hb⟩
def slices_Clone_int64_int64.f (l0 : List Int) : Option (List Int) := if l0.length < 17592186044416 then some l0 else none
set_option maxHeartbeats 1000000 in
theorem slices_Clone_int64_int64.calls (A0 : Option Addr) (c0 : Nat) (l0 : List Int) (r : List Int) (w : World) (hr0 : Kd.C (Kd.int .i64) w A0 l0.length l0) (hc0 : l0.length ≤ c0) (h : slices_Clone_int64_int64.f l0 = some r) :
  Calls Try.prog 87 #[.slice A0 l0.length c0] w fun e w' => ∃ v0_ : Value, e = .returned (v0_) ∧ Kd.R (Kd.int .i64) 2 w' w.heap.size (fun _ => True) v0_ r ∧ Below w.heap.size w w' := by
 unfold slices_Clone_int64_int64.f at h
 by_cases c2 : l0.length < 17592186044416
 ·rw [if_pos c2] at h
  obtain rfl := Option.some.inj h
  clear h
  have LMc2 := Aside0.mk c2
  clear c2
  have hnil := fun W : World => Lib.run_eql_slice_nil (P := Try.prog) W 26 2 A0 l0.length c0 0 0 Try.underlying26
  cases A0 with
  | none =>
   have hl : l0 = [] := by
    rcases Nat.eq_zero_or_pos l0.length with h0 | h0
    ·exact List.eq_nil_of_length_eq_zero h0
    ·obtain ⟨ad, h1, _⟩ := hr0.2.2 h0
     cases h1
   subst hl
   clear hr0
   have HI := Aside0.mk (Kd.R_nil (Kd.int .i64) 2 w w.heap.size (fun _ => True))
   simp only [List.length_nil, Option.isNone_none] at hnil
   go_enter Try.func87, Try.ntmps87
   go_wp2
   go_ret
   exact ⟨_, rfl, HI.out, Below.refl _ w⟩
  | some ad =>
   have HR0 := Aside0.mk hr0
   clear hr0 hc0
   have HB := Aside0.mk (Below.refl w.heap.size w)
   simp only [Option.isNone_some] at hnil
   obtain ⟨y149, hy149⟩ : ∃ y_ : List Int, y_ = (([] : List Int)) := ⟨_, rfl⟩
   have Ny149 := Aside0.mk hy149
   clear hy149
   obtain ⟨y152, hy152⟩ : ∃ y_ : List Int, y_ = (y149 ++ l0) := ⟨_, rfl⟩
   have Ny152 := Aside0.mk hy152
   clear hy152
   have HE := Aside0.mk (show y152 = l0 by rw [Ny152.out, Ny149.out]; rfl)
   go_enter Try.func87, Try.ntmps87
   go_wp2_with (first | ((with_reducible refine gate_dst (N := 5) rfl ?_); refine Kd.R_lit (Kd.int .i64) _ 2 ?hg (N := 5) ?hd (xs := ([] : List Int)) (inner := []) (ok := fun _ => True) (okp := fun _ => True) ?hr ?hp (fun _ hk => hk) trivial (Below.refl _ _) (Nat.le_refl _) (by simp) ?_; (case hd => rfl); (case hg => rfl); (case hr => first | (go_simp; done) | (go_simp; rfl)); (case hp => exact (Reps.none _ _)); intro v150 w3 ho4 hb hg_ hnew_; clear hg_ hnew_; (first | rw [← Ny149.out] at ho4 | (simp only [Int.reduceToNat] at ho4; rw [← Ny149.out] at ho4)); have n0_ := Aside0.mk (Kd.R_lower ho4 (below_size (zb0 HB.out))); have n1_ := Aside0.mk (below_step (zb0 HB.out) hb); clear HB; have HO151 := n0_; have HB := n1_; clear n0_ n1_; clear hb ho4) | ((with_reducible refine gate_builtin (b := .append) (xs := #[.tmp 5, .tmp 6]) rfl ?_); at_builtin; refine Kd.R_append_rows (Kd.int .i64) (w0 := w) w.heap.size rfl (.tmp 5) (.tmp 6) 26 2 (.int .i64 0) 8 rfl Try.underlying26 info2 rfl (by decide) (by omega) v150 y149 l0 _ _ _ (fun _ => True) (fun _ => False) rfl rfl ?aO ?aR (fun _ _ h => h) (fun _ h => h.elim) ?aF ?aB ?aS ?aL ?_; (case aR => exact zc (Kd.C_below HR0.out HB.out)); (case aB => exact (zb0 HB.out)); (case aF => exact (fun _ _ => trivial)); (case aO => exact (zr HO151.out)); (case aS => exact (below_size (zb0 HB.out))); (case aL => have h1 := LMc2.out; have h2 := Ny149.out; subst h2; simp only [List.length_nil]; omega); intro v153 w5 ho hb hg hat; rw [← Ny152.out] at ho; have n0_ := Aside0.mk (hb); have n1_ := Aside0.mk (ho); clear HB; clear HO151; have HB := n0_; have HO154 := n1_; clear n0_ n1_; clear ho hb hg hat))
   go_ret
   exact ⟨_, rfl, by rw [← HE.out]; exact HO154.out, HB.out⟩
 ·rw [if_neg c2] at h
  cases h
set_option maxHeartbeats 1000000 in
theorem opens1_calls (k : Nat) (A : Option Addr) (c : Nat) (x : List Int) (a1 t : Int) (B : Addr) (w : World) (hr : Kd.C (Kd.int .i64) w A x.length x) (hc : x.length ≤ c) (hB : w.cell? B = some (.int .u64 a1)) (h : impl_crowdOf.f k x = some t) :
    Calls Try.prog 156 #[.slice A x.length c, .pointer (some B)] w fun e w' => e = .returned (.bool (Go.bits .and .u64 a1 t == t)) ∧ Below w.heap.size w w' := by
  have HC := Aside0.mk (fun n => impl_crowdOf.calls k A c x t (w.drewN n) (Kd.C_drewN hr n) hc h)
  have HD := Aside0.mk (fun n => impl_crowd_contains.calls a1 t (Go.bits .and .u64 a1 t == t) (w.drewN n) rfl)
  clear hr hc h
  go_enter Try.func156, Try.ntmps156
  go_wp2
  go_quiet ((first | (go_at_call 86; exact Calls.quiet_of ((HC.out _).mono fun _ _ ⟨he, hd⟩ => ⟨he, hd.out⟩)) | (go_at_call 94; exact Calls.quiet_of ((HD.out _).mono fun _ _ ⟨he, hd⟩ => ⟨he, hd.out⟩))))
  go_wp2
  go_ret
  exact ⟨rfl, pw_below_drewN (Below.refl _ _) _⟩
def impl_Family_opens.f (k : Nat) (a0_0 : Int) (l0_1 : List (List Int)) (a1 : Int) : Option (Bool) := (l0_1.mapM (impl_crowdOf.f k)).map fun ts => ts.any fun t => Go.bits .and .u64 a1 t == t
set_option maxHeartbeats 1000000 in
theorem impl_Family_opens.calls (k : Nat) (a0_0 : Int) (A0_1 : Option Addr) (c0_1 : Nat) (l0_1 : List (List Int)) (a1 : Int) (r : Bool) (w : World) (hr0_1 : Kd.C (Kd.slice 2 (Kd.int .i64)) w A0_1 l0_1.length l0_1) (hc0_1 : l0_1.length ≤ c0_1) (h : impl_Family_opens.f k a0_0 l0_1 a1 = some r) :
    Calls Try.prog 121 #[.agg #[.int .i64 a0_0, .slice A0_1 l0_1.length c0_1], .int .u64 a1] w fun e w' => e = .returned (.bool r) ∧ Below w.heap.size w w' := by
  obtain ⟨ts, hts, hr⟩ := Option.map_eq_some_iff.1 h
  obtain ⟨hall, hany⟩ := mapM_any (fun t => Go.bits .and .u64 a1 t == t) l0_1 ts hts
  rw [← hany] at hr
  clear hany hts h
  have eg : ∀ args w, (callFunc 156 args).run Try.prog w = .ok (.enter 156 args) w := enters_of Try.func156 (by kernel_rfl) rfl
  have HC := Aside0.mk (fun (W : World) (B : Nat) (hbw : Below w.heap.size w W) (hB : W.cell? ⟨B, 0, none⟩ = some (.int .u64 a1)) =>
    containsRows_calls l0_1 (fun x => ((impl_crowdOf.f k x).map fun t => Go.bits .and .u64 a1 t == t).getD false) 156 #[.pointer (some ⟨B, 0, none⟩)] eg A0_1 c0_1 W (Kd.C_below hr0_1 hbw) hc0_1
      (fun x hx W' A c hb hC hcl => by
        obtain ⟨t, ht⟩ := hall x hx
        have h1 := opens1_calls k A c x a1 t ⟨B, 0, none⟩ W' hC hcl (pw_cell_below hb hB) ht
        rw [ht]
        exact h1))
  have hu := Try.underlying31
  have HR := Aside0.mk hr
  clear hr0_1 hc0_1 hall eg hr
  go_enter Try.func121, Try.ntmps121
  go_wp2_with fail
  refine (HC.out _ (w.heap.size + 1) (below_alloc (below_alloc (Below.refl _ w) _) _) (by simp)).mono ?_
  rintro e w' ⟨rfl, hb⟩
  clear HC
  go_wp2
  go_ret
  exact ⟨by rw [← HR.out]; rfl, below_step (below_alloc (below_alloc (Below.refl _ w) _) _) hb⟩
def impl_Family_steps.f (k : Nat) (a0_0 : Int) (l0_1 : List (List Int)) (a1 : Int) (a2 : Int) (a3 : Int) : Option (Bool) := (impl_Family_opens.f k a0_0 l0_1 (Go.bits .or .u64 a2 a3)).bind fun t255 => (if t255 = true then ((impl_Family_opens.f k a0_0 l0_1 (Go.bits .or .u64 a1 a3)).bind fun t256 => (some (!t256))) else (some false))
set_option maxHeartbeats 8000000 in
set_option maxRecDepth 100000 in
theorem impl_Family_steps.calls (k : Nat) (a0_0 : Int) (A0_1 : Option Addr) (c0_1 : Nat) (l0_1 : List (List Int)) (a1 : Int) (a2 : Int) (a3 : Int) (r : Bool) (w : World) (hr0_1 : Kd.C (Kd.slice 2 (Kd.int .i64)) w A0_1 l0_1.length l0_1) (hc0_1 : l0_1.length ≤ c0_1) (h : impl_Family_steps.f k a0_0 l0_1 a1 a2 a3 = some r) :
  Calls Try.prog 95 #[.agg #[.int .i64 a0_0, .slice A0_1 l0_1.length c0_1], .int .u64 a1, .int .u64 a2, .int .u64 a3] w fun e w' => e = .returned (.bool r) ∧ Below w.heap.size w w' := by
 have hu31 := Try.underlying31
 have HR0_1 := Aside0.mk hr0_1
 have HC0_1 := Aside0.mk hc0_1
 clear hr0_1 hc0_1
 have HB := Aside0.mk (Below.refl w.heap.size w)
 have H : ((impl_Family_opens.f k a0_0 l0_1 (Go.bits .or .u64 a2 a3)).bind fun t255 => (if t255 = true then ((impl_Family_opens.f k a0_0 l0_1 (Go.bits .or .u64 a1 a3)).bind fun t256 => (some (!t256))) else (some false))) = some r := h
 clear h
 replace H := Option.bind_eq_some_iff.mp H
 obtain ⟨t255, A50, H⟩ := H
 replace H : (if t255 = true then ((impl_Family_opens.f k a0_0 l0_1 (Go.bits .or .u64 a1 a3)).bind fun t256 => (some (!t256))) else (some false)) = some r := H
 have A5 := Aside0.mk A50
 clear A50
 by_cases c6 : t255 = true
 ·subst c6
  rw [if_pos rfl] at H
  replace H := Option.bind_eq_some_iff.mp H
  obtain ⟨t256, A70, H⟩ := H
  replace H : (some (!t256)) = some r := H
  have A7 := Aside0.mk A70
  clear A70
  obtain rfl := Option.some.inj H
  go_enter Try.func95, Try.ntmps95
  go_wp2_with (first | ((with_reducible refine gate_dst (N := 4) rfl ?_); refine box_event ?hg (N := 4) ?hd (cs := #[.int .i64 a0_0, .slice A0_1 l0_1.length c0_1]) (t := 31) ?hr ?_; (case hd => rfl); (case hg => rfl); (case hr => first | (go_simp; done) | (go_simp; rfl)); intro gb254 hg w8 hbox hb; have n0_ := Aside0.mk (below_step (zb0 HB.out) hb); have n1_ := Aside0.mk (hbox); have n2_ := Aside0.mk ((by rw [hg]; exact (below_size (zb0 HB.out)) : w.heap.size ≤ gb254)); have n3_ := Aside0.mk ((by rw [hg]; exact (below_size (zb0 HB.out)) : w.heap.size ≤ gb254)); clear HB; have HB := n0_; have BK254 := n1_; have GW254 := n2_; have GE254 := n3_; clear n0_ n1_ n2_ n3_; clear hb hbox hg; have hcz9_0 : w8.cell? ⟨gb254, 0, none⟩ = some (.int .i64 a0_0) := (blk_cell BK254.out 0).trans rfl; have hcz9_1 : w8.cell? ⟨gb254, 1, none⟩ = some (.slice A0_1 l0_1.length c0_1) := (blk_cell BK254.out 1).trans rfl; have hfz9_0 := blk_frozen BK254.out 0; have hfz9_1 := blk_frozen BK254.out 1) | ((with_reducible refine gate_callee (f := 121) rfl ?_); refine goesL_ (some 13) rfl rfl Try.func121 (by kernel_rfl) rfl #[.agg #[.int .i64 a0_0, .slice A0_1 l0_1.length c0_1], .int .u64 (Go.bits .or .u64 a2 a3)] rfl zl ?_; (with_reducible refine (impl_Family_opens.calls k a0_0 _ _ l0_1 (Go.bits .or .u64 a2 a3) true _ ?side1 ?side2 A5.out).mono ?_); (case side1 => exact zc (Kd.C_below HR0_1.out HB.out)); (case side2 => exact HC0_1.out); rintro e w10 ⟨rfl, hb⟩; refine ⟨_, rfl, ?_⟩; have n0_ := Aside0.mk (blk_below (g := gb254) (o := .cells #[.int .i64 a0_0, .slice A0_1 l0_1.length c0_1] 31 (0, 0)) (zk BK254.out) hb); have n1_ := Aside0.mk (below_step (zb1 HB.out GE254.out) hb); clear BK254; clear HB; have BK254 := n0_; have HB := n1_; clear n0_ n1_; (try clear hb); (try clear hb2); (try clear hk); (try clear hi); have hcz11_0 : w10.cell? ⟨gb254, 0, none⟩ = some (.int .i64 a0_0) := (blk_cell BK254.out 0).trans rfl; have hcz11_1 : w10.cell? ⟨gb254, 1, none⟩ = some (.slice A0_1 l0_1.length c0_1) := (blk_cell BK254.out 1).trans rfl; have hfz11_0 := blk_frozen BK254.out 0; have hfz11_1 := blk_frozen BK254.out 1) | (go_at_call 121; (with_reducible refine (impl_Family_opens.calls k a0_0 _ _ l0_1 (Go.bits .or .u64 a1 a3) t256 _ ?side1 ?side2 A7.out).mono ?_); (case side1 => exact zc (Kd.C_below HR0_1.out HB.out)); (case side2 => exact HC0_1.out); rintro e w12 ⟨rfl, hb⟩; have n0_ := Aside0.mk (blk_below (g := gb254) (o := .cells #[.int .i64 a0_0, .slice A0_1 l0_1.length c0_1] 31 (0, 0)) (zk BK254.out) hb); have n1_ := Aside0.mk (below_step (zb1 HB.out GE254.out) hb); clear BK254; clear HB; have BK254 := n0_; have HB := n1_; clear n0_ n1_; (try clear hb); (try clear hb2); (try clear hk); (try clear hi)))
  go_ret
  exact ⟨ze, zb1 HB.out GE254.out⟩
 ·replace c6 := Bool.eq_false_iff.mpr c6
  subst c6
  rw [if_neg (show ¬ (false = true) by decide)] at H
  obtain rfl := Option.some.inj H
  go_enter Try.func95, Try.ntmps95
  go_wp2_with (first | ((with_reducible refine gate_dst (N := 4) rfl ?_); refine box_event ?hg (N := 4) ?hd (cs := #[.int .i64 a0_0, .slice A0_1 l0_1.length c0_1]) (t := 31) ?hr ?_; (case hd => rfl); (case hg => rfl); (case hr => first | (go_simp; done) | (go_simp; rfl)); intro gb254 hg w13 hbox hb; have n0_ := Aside0.mk (below_step (zb0 HB.out) hb); have n1_ := Aside0.mk (hbox); have n2_ := Aside0.mk ((by rw [hg]; exact (below_size (zb0 HB.out)) : w.heap.size ≤ gb254)); have n3_ := Aside0.mk ((by rw [hg]; exact (below_size (zb0 HB.out)) : w.heap.size ≤ gb254)); clear HB; have HB := n0_; have BK254 := n1_; have GW254 := n2_; have GE254 := n3_; clear n0_ n1_ n2_ n3_; clear hb hbox hg; have hcz14_0 : w13.cell? ⟨gb254, 0, none⟩ = some (.int .i64 a0_0) := (blk_cell BK254.out 0).trans rfl; have hcz14_1 : w13.cell? ⟨gb254, 1, none⟩ = some (.slice A0_1 l0_1.length c0_1) := (blk_cell BK254.out 1).trans rfl; have hfz14_0 := blk_frozen BK254.out 0; have hfz14_1 := blk_frozen BK254.out 1) | ((with_reducible refine gate_callee (f := 121) rfl ?_); refine goesL_ (some 13) rfl rfl Try.func121 (by kernel_rfl) rfl #[.agg #[.int .i64 a0_0, .slice A0_1 l0_1.length c0_1], .int .u64 (Go.bits .or .u64 a2 a3)] rfl zl ?_; (with_reducible refine (impl_Family_opens.calls k a0_0 _ _ l0_1 (Go.bits .or .u64 a2 a3) false _ ?side1 ?side2 A5.out).mono ?_); (case side1 => exact zc (Kd.C_below HR0_1.out HB.out)); (case side2 => exact HC0_1.out); rintro e w15 ⟨rfl, hb⟩; refine ⟨_, rfl, ?_⟩; have n0_ := Aside0.mk (blk_below (g := gb254) (o := .cells #[.int .i64 a0_0, .slice A0_1 l0_1.length c0_1] 31 (0, 0)) (zk BK254.out) hb); have n1_ := Aside0.mk (below_step (zb1 HB.out GE254.out) hb); clear BK254; clear HB; have BK254 := n0_; have HB := n1_; clear n0_ n1_; (try clear hb); (try clear hb2); (try clear hk); (try clear hi)))
  go_ret
  exact ⟨ze, zb1 HB.out GE254.out⟩
def impl_Family_least.l0 : Nat → Int → Int → Int → Int → Int → List (List Int) → Option (Int × Bool)
  | 0, _, _, _, _, _, _ => none
  | k + 1, x1, x2, x3, x10, x258000, x258001 => if x10 ≤ x1 then ((impl_crowd_contains.f x1 x10).bind fun t258 => (if t258 = true then ((impl_Family_steps.f k x258000 x258001 x2 x3 x10).bind fun t259 => (if t259 = true then (some (x10, true)) else (impl_Family_least.l0 k x1 x2 x3 (IntKind.u64.wrap (x10 + 1)) x258000 x258001))) else (impl_Family_least.l0 k x1 x2 x3 (IntKind.u64.wrap (x10 + 1)) x258000 x258001))) else (some (0, false))
def impl_Family_least.f (k : Nat) (a0_0 : Int) (l0_1 : List (List Int)) (a1 : Int) (a2 : Int) (a3 : Int) : Option (Int × Bool) := impl_Family_least.l0 k a1 a2 a3 0 a0_0 l0_1
set_option maxHeartbeats 8000000 in
set_option maxRecDepth 100000 in
theorem impl_Family_least.calls (k : Nat) (a0_0 : Int) (A0_1 : Option Addr) (c0_1 : Nat) (l0_1 : List (List Int)) (a1 : Int) (a2 : Int) (a3 : Int) (r1 : Int) (r2 : Bool) (w : World) (hr0_1 : Kd.C (Kd.slice 2 (Kd.int .i64)) w A0_1 l0_1.length l0_1) (hc0_1 : l0_1.length ≤ c0_1) (h : impl_Family_least.f k a0_0 l0_1 a1 a2 a3 = some (r1, r2)) :
  Calls Try.prog 88 #[.agg #[.int .i64 a0_0, .slice A0_1 l0_1.length c0_1], .int .u64 a1, .int .u64 a2, .int .u64 a3] w fun e w' => e = .returned (.tuple #[.int .u64 r1, .bool r2]) ∧ Below w.heap.size w w' := by
 have hu31 := Try.underlying31
 have HR0_1 := Aside0.mk hr0_1
 have HC0_1 := Aside0.mk hc0_1
 clear hr0_1 hc0_1
 have HB := Aside0.mk (Below.refl w.heap.size w)
 have H : (impl_Family_least.l0 k a1 a2 a3 0 a0_0 l0_1) = some (r1, r2) := h
 clear h
 have H' := Aside0.mk H
 clear H
 go_enter Try.func88, Try.ntmps88
 go_wp2_with (first | ((with_reducible refine gate_dst (N := 4) rfl ?_); refine box_event ?hg (N := 4) ?hd (cs := #[.int .i64 a0_0, .slice A0_1 l0_1.length c0_1]) (t := 31) ?hr ?_; (case hd => rfl); (case hg => rfl); (case hr => first | (go_simp; done) | (go_simp; rfl)); intro gb257 hg w5 hbox hb; have n0_ := Aside0.mk (below_step (zb0 HB.out) hb); have n1_ := Aside0.mk (hbox); have n2_ := Aside0.mk ((by rw [hg]; exact (below_size (zb0 HB.out)) : w.heap.size ≤ gb257)); have n3_ := Aside0.mk ((by rw [hg]; exact (below_size (zb0 HB.out)) : w.heap.size ≤ gb257)); clear HB; have HB := n0_; have BK257 := n1_; have GW257 := n2_; have GE257 := n3_; clear n0_ n1_ n2_ n3_; clear hb hbox hg))
 go_loopg [10] k (fun kq v10 w' => ∃ (x10_1 : Int), v10 = .int .u64 x10_1 ∧ Aside0 (impl_Family_least.l0 kq a1 a2 a3 x10_1 a0_0 l0_1 = some (r1, r2)) ∧ Aside0 (kq ≤ k) ∧ Aside0 (w'.heap[gb257]? = some (.cells #[.int .i64 a0_0, (.slice A0_1 l0_1.length c0_1)] 31 (0, 0))) ∧ Aside0 (Below w.heap.size w w'))
 case atStart => exact ⟨(0), zt, H', ⟨Nat.le_refl _⟩, ⟨zk BK257.out⟩, ⟨zb1 HB.out GE257.out⟩⟩
 case round =>
  clear H'
  obtain ⟨x10_1, rfl, HA, HK1, BK257, HB⟩ := hrel
  cases gk with
  | zero => exact absurd HA.out (by simp [impl_Family_least.l0])
  | succ k1 =>
   have H := HA.out
   clear HA
   simp only [impl_Family_least.l0] at H
   by_cases c6 : x10_1 ≤ a1
   ·rw [if_pos c6] at H
    have c6b0 : decide (x10_1 ≤ a1) = true := decide_eq_true c6
    clear c6
    replace H := Option.bind_eq_some_iff.mp H
    obtain ⟨t258, A70, H⟩ := H
    replace H : (if t258 = true then ((impl_Family_steps.f k1 a0_0 l0_1 a2 a3 x10_1).bind fun t259 => (if t259 = true then (some (x10_1, true)) else (impl_Family_least.l0 k1 a1 a2 a3 (IntKind.u64.wrap (x10_1 + 1)) a0_0 l0_1))) else (impl_Family_least.l0 k1 a1 a2 a3 (IntKind.u64.wrap (x10_1 + 1)) a0_0 l0_1)) = some (r1, r2) := H
    have A7 := Aside0.mk A70
    clear A70
    by_cases c8 : t258 = true
    ·subst c8
     rw [if_pos rfl] at H
     replace H := Option.bind_eq_some_iff.mp H
     obtain ⟨t259, A90, H⟩ := H
     replace H : (if t259 = true then (some (x10_1, true)) else (impl_Family_least.l0 k1 a1 a2 a3 (IntKind.u64.wrap (x10_1 + 1)) a0_0 l0_1)) = some (r1, r2) := H
     have A9 := Aside0.mk A90
     clear A90
     by_cases c10 : t259 = true
     ·subst c10
      rw [if_pos rfl] at H
      simp only [Option.some.injEq, Prod.mk.injEq] at H
      obtain ⟨rfl, rfl⟩ := H
      go_wp2_with (first | ((with_reducible refine gate_callee (f := 94) rfl ?_); refine goesL_ (some 18) rfl rfl Try.func94 (by kernel_rfl) rfl #[.int .u64 a1, .int .u64 x10_1] rfl zl ?_; (with_reducible refine (impl_crowd_contains.calls a1 x10_1 true _ A7.out).mono ?_); rintro e w' ⟨rfl, ⟨nd, rfl⟩⟩; refine ⟨_, rfl, ?_⟩; have hcz11_0 : wr.cell? ⟨gb257, 0, none⟩ = some (.int .i64 a0_0) := (blk_cell BK257.out 0).trans rfl; have hcz11_1 : wr.cell? ⟨gb257, 1, none⟩ = some (.slice A0_1 l0_1.length c0_1) := (blk_cell BK257.out 1).trans rfl; have hfz11_0 := blk_frozen BK257.out 0; have hfz11_1 := blk_frozen BK257.out 1) | (go_at_call 95; (with_reducible refine (impl_Family_steps.calls k1 a0_0 _ _ l0_1 a2 a3 x10_1 true _ ?side1 ?side2 A9.out).mono ?_); (case side1 => exact zc (Kd.C_below HR0_1.out (zb1 HB.out GE257.out))); (case side2 => exact HC0_1.out); rintro e w12 ⟨rfl, hb⟩; have n0_ := Aside0.mk (blk_below (g := gb257) (o := .cells #[.int .i64 a0_0, .slice A0_1 l0_1.length c0_1] 31 (0, 0)) (zk BK257.out) hb); have n1_ := Aside0.mk (below_step (zb1 HB.out GE257.out) hb); clear BK257; clear HB; have BK257 := n0_; have HB := n1_; clear n0_ n1_; (try clear hb); (try clear hb2); (try clear hk); (try clear hi)))
      go_ret2
      exact ⟨ze, zb1 HB.out GE257.out⟩
     ·replace c10 := Bool.eq_false_iff.mpr c10
      subst c10
      rw [if_neg (show ¬ (false = true) by decide)] at H
      have H' := Aside0.mk H
      clear H
      go_wp2_with (first | ((with_reducible refine gate_callee (f := 94) rfl ?_); refine goesL_ (some 18) rfl rfl Try.func94 (by kernel_rfl) rfl #[.int .u64 a1, .int .u64 x10_1] rfl zl ?_; (with_reducible refine (impl_crowd_contains.calls a1 x10_1 true _ A7.out).mono ?_); rintro e w' ⟨rfl, ⟨nd, rfl⟩⟩; refine ⟨_, rfl, ?_⟩; have hcz13_0 : wr.cell? ⟨gb257, 0, none⟩ = some (.int .i64 a0_0) := (blk_cell BK257.out 0).trans rfl; have hcz13_1 : wr.cell? ⟨gb257, 1, none⟩ = some (.slice A0_1 l0_1.length c0_1) := (blk_cell BK257.out 1).trans rfl; have hfz13_0 := blk_frozen BK257.out 0; have hfz13_1 := blk_frozen BK257.out 1) | (go_at_call 95; (with_reducible refine (impl_Family_steps.calls k1 a0_0 _ _ l0_1 a2 a3 x10_1 false _ ?side1 ?side2 A9.out).mono ?_); (case side1 => exact zc (Kd.C_below HR0_1.out (zb1 HB.out GE257.out))); (case side2 => exact HC0_1.out); rintro e w14 ⟨rfl, hb⟩; have n0_ := Aside0.mk (blk_below (g := gb257) (o := .cells #[.int .i64 a0_0, .slice A0_1 l0_1.length c0_1] 31 (0, 0)) (zk BK257.out) hb); have n1_ := Aside0.mk (below_step (zb1 HB.out GE257.out) hb); clear BK257; clear HB; have BK257 := n0_; have HB := n1_; clear n0_ n1_; (try clear hb); (try clear hb2); (try clear hk); (try clear hi)))
      go_roundg k1
      case measure => have := HK1.out; omega
      case rel => exact ⟨(IntKind.u64.wrap (x10_1 + 1)), zt, H', ⟨by have := HK1.out; omega⟩, ⟨zk BK257.out⟩, ⟨zb1 HB.out GE257.out⟩⟩
    ·replace c8 := Bool.eq_false_iff.mpr c8
     subst c8
     rw [if_neg (show ¬ (false = true) by decide)] at H
     have H' := Aside0.mk H
     clear H
     go_wp2_with (first | ((with_reducible refine gate_callee (f := 94) rfl ?_); refine goesL_ (some 18) rfl rfl Try.func94 (by kernel_rfl) rfl #[.int .u64 a1, .int .u64 x10_1] rfl zl ?_; (with_reducible refine (impl_crowd_contains.calls a1 x10_1 false _ A7.out).mono ?_); rintro e w' ⟨rfl, ⟨nd, rfl⟩⟩; refine ⟨_, rfl, ?_⟩))
     go_roundg k1
     case measure => have := HK1.out; omega
     case rel => exact ⟨(IntKind.u64.wrap (x10_1 + 1)), zt, H', ⟨by have := HK1.out; omega⟩, ⟨zk BK257.out⟩, ⟨zb1 HB.out GE257.out⟩⟩
   ·rw [if_neg c6] at H
    have c6b0 : decide (x10_1 ≤ a1) = false := decide_eq_false c6
    clear c6
    simp only [Option.some.injEq, Prod.mk.injEq] at H
    obtain ⟨rfl, rfl⟩ := H
    go_wp2
    go_ret2
    exact ⟨ze, zb1 HB.out GE257.out⟩
def impl_Family_chained.f (k : Nat) (a0_0 : Int) (l0_1 : List (List Int)) (a1 : Int) (a2 : Int) (a3 : Int) : Option (Bool) := if (Go.bits .and .u64 a3 a1) = 0 then (if a3 = a2 then (some false) else ((impl_crowd_contains.f a3 a2).bind fun t261 => (if t261 = true then ((impl_Family_opens.f k a0_0 l0_1 a3).bind fun t262 => (some (!t262))) else (some false)))) else (some false)
set_option maxHeartbeats 8000000 in
set_option maxRecDepth 100000 in
theorem impl_Family_chained.calls (k : Nat) (a0_0 : Int) (A0_1 : Option Addr) (c0_1 : Nat) (l0_1 : List (List Int)) (a1 : Int) (a2 : Int) (a3 : Int) (r : Bool) (w : World) (hr0_1 : Kd.C (Kd.slice 2 (Kd.int .i64)) w A0_1 l0_1.length l0_1) (hc0_1 : l0_1.length ≤ c0_1) (h : impl_Family_chained.f k a0_0 l0_1 a1 a2 a3 = some r) :
  Calls Try.prog 89 #[.agg #[.int .i64 a0_0, .slice A0_1 l0_1.length c0_1], .int .u64 a1, .int .u64 a2, .int .u64 a3] w fun e w' => e = .returned (.bool r) ∧ Below w.heap.size w w' := by
 have hu31 := Try.underlying31
 have HR0_1 := Aside0.mk hr0_1
 have HC0_1 := Aside0.mk hc0_1
 clear hr0_1 hc0_1
 have HB := Aside0.mk (Below.refl w.heap.size w)
 have H : (if (Go.bits .and .u64 a3 a1) = 0 then (if a3 = a2 then (some false) else ((impl_crowd_contains.f a3 a2).bind fun t261 => (if t261 = true then ((impl_Family_opens.f k a0_0 l0_1 a3).bind fun t262 => (some (!t262))) else (some false)))) else (some false)) = some r := h
 clear h
 by_cases c5 : (Go.bits .and .u64 a3 a1) = 0
 ·rw [if_pos c5] at H
  have c5b0 : ((Go.bits .and .u64 a3 a1) == 0) = true := beq_iff_eq.mpr c5
  have c5b1 : ((Go.bits .and .u64 a3 a1) != 0) = false := bne_eq_false_iff_eq.mpr c5
  clear c5
  by_cases c6 : a3 = a2
  ·rw [if_pos c6] at H
   have c6b0 : (a3 == a2) = true := beq_iff_eq.mpr c6
   have c6b1 : (a3 != a2) = false := bne_eq_false_iff_eq.mpr c6
   clear c6
   obtain rfl := Option.some.inj H
   go_enter Try.func89, Try.ntmps89
   go_wp2_with (first | ((with_reducible refine gate_dst (N := 4) rfl ?_); refine box_event ?hg (N := 4) ?hd (cs := #[.int .i64 a0_0, .slice A0_1 l0_1.length c0_1]) (t := 31) ?hr ?_; (case hd => rfl); (case hg => rfl); (case hr => first | (go_simp; done) | (go_simp; rfl)); intro gb260 hg w7 hbox hb; have n0_ := Aside0.mk (below_step (zb0 HB.out) hb); have n1_ := Aside0.mk (hbox); have n2_ := Aside0.mk ((by rw [hg]; exact (below_size (zb0 HB.out)) : w.heap.size ≤ gb260)); have n3_ := Aside0.mk ((by rw [hg]; exact (below_size (zb0 HB.out)) : w.heap.size ≤ gb260)); clear HB; have HB := n0_; have BK260 := n1_; have GW260 := n2_; have GE260 := n3_; clear n0_ n1_ n2_ n3_; clear hb hbox hg))
   go_ret
   exact ⟨ze, zb1 HB.out GE260.out⟩
  ·rw [if_neg c6] at H
   have c6b0 : (a3 == a2) = false := beq_eq_false_iff_ne.mpr c6
   have c6b1 : (a3 != a2) = true := bne_iff_ne.mpr c6
   replace H := Option.bind_eq_some_iff.mp H
   obtain ⟨t261, A80, H⟩ := H
   replace H : (if t261 = true then ((impl_Family_opens.f k a0_0 l0_1 a3).bind fun t262 => (some (!t262))) else (some false)) = some r := H
   have A8 := Aside0.mk A80
   clear A80
   by_cases c9 : t261 = true
   ·subst c9
    rw [if_pos rfl] at H
    replace H := Option.bind_eq_some_iff.mp H
    obtain ⟨t262, A100, H⟩ := H
    replace H : (some (!t262)) = some r := H
    have A10 := Aside0.mk A100
    clear A100
    obtain rfl := Option.some.inj H
    go_enter Try.func89, Try.ntmps89
    go_wp2_with (first | ((with_reducible refine gate_dst (N := 4) rfl ?_); refine box_event ?hg (N := 4) ?hd (cs := #[.int .i64 a0_0, .slice A0_1 l0_1.length c0_1]) (t := 31) ?hr ?_; (case hd => rfl); (case hg => rfl); (case hr => first | (go_simp; done) | (go_simp; rfl)); intro gb260 hg w11 hbox hb; have n0_ := Aside0.mk (below_step (zb0 HB.out) hb); have n1_ := Aside0.mk (hbox); have n2_ := Aside0.mk ((by rw [hg]; exact (below_size (zb0 HB.out)) : w.heap.size ≤ gb260)); have n3_ := Aside0.mk ((by rw [hg]; exact (below_size (zb0 HB.out)) : w.heap.size ≤ gb260)); clear HB; have HB := n0_; have BK260 := n1_; have GW260 := n2_; have GE260 := n3_; clear n0_ n1_ n2_ n3_; clear hb hbox hg) | (go_at_call 94; (with_reducible refine (impl_crowd_contains.calls a3 a2 true _ A8.out).mono ?_); rintro e w' ⟨rfl, ⟨nd, rfl⟩⟩; have hcz12_0 : w11.cell? ⟨gb260, 0, none⟩ = some (.int .i64 a0_0) := (blk_cell BK260.out 0).trans rfl; have hcz12_1 : w11.cell? ⟨gb260, 1, none⟩ = some (.slice A0_1 l0_1.length c0_1) := (blk_cell BK260.out 1).trans rfl; have hfz12_0 := blk_frozen BK260.out 0; have hfz12_1 := blk_frozen BK260.out 1) | (go_at_call 121; (with_reducible refine (impl_Family_opens.calls k a0_0 _ _ l0_1 a3 t262 _ ?side1 ?side2 A10.out).mono ?_); (case side1 => exact zc (Kd.C_below HR0_1.out (zb1 HB.out GE260.out))); (case side2 => exact HC0_1.out); rintro e w13 ⟨rfl, hb⟩; have n0_ := Aside0.mk (blk_below (g := gb260) (o := .cells #[.int .i64 a0_0, .slice A0_1 l0_1.length c0_1] 31 (0, 0)) (zk BK260.out) hb); have n1_ := Aside0.mk (below_step (zb1 HB.out GE260.out) hb); clear BK260; clear HB; have BK260 := n0_; have HB := n1_; clear n0_ n1_; (try clear hb); (try clear hb2); (try clear hk); (try clear hi)))
    go_ret
    exact ⟨ze, zb1 HB.out GE260.out⟩
   ·replace c9 := Bool.eq_false_iff.mpr c9
    subst c9
    rw [if_neg (show ¬ (false = true) by decide)] at H
    obtain rfl := Option.some.inj H
    go_enter Try.func89, Try.ntmps89
    go_wp2_with (first | ((with_reducible refine gate_dst (N := 4) rfl ?_); refine box_event ?hg (N := 4) ?hd (cs := #[.int .i64 a0_0, .slice A0_1 l0_1.length c0_1]) (t := 31) ?hr ?_; (case hd => rfl); (case hg => rfl); (case hr => first | (go_simp; done) | (go_simp; rfl)); intro gb260 hg w14 hbox hb; have n0_ := Aside0.mk (below_step (zb0 HB.out) hb); have n1_ := Aside0.mk (hbox); have n2_ := Aside0.mk ((by rw [hg]; exact (below_size (zb0 HB.out)) : w.heap.size ≤ gb260)); have n3_ := Aside0.mk ((by rw [hg]; exact (below_size (zb0 HB.out)) : w.heap.size ≤ gb260)); clear HB; have HB := n0_; have BK260 := n1_; have GW260 := n2_; have GE260 := n3_; clear n0_ n1_ n2_ n3_; clear hb hbox hg) | (go_at_call 94; (with_reducible refine (impl_crowd_contains.calls a3 a2 false _ A8.out).mono ?_); rintro e w' ⟨rfl, ⟨nd, rfl⟩⟩))
    go_ret
    exact ⟨ze, zb1 HB.out GE260.out⟩
 ·rw [if_neg c5] at H
  have c5b0 : ((Go.bits .and .u64 a3 a1) == 0) = false := beq_eq_false_iff_ne.mpr c5
  have c5b1 : ((Go.bits .and .u64 a3 a1) != 0) = true := bne_iff_ne.mpr c5
  obtain rfl := Option.some.inj H
  go_enter Try.func89, Try.ntmps89
  go_wp2_with (first | ((with_reducible refine gate_dst (N := 4) rfl ?_); refine box_event ?hg (N := 4) ?hd (cs := #[.int .i64 a0_0, .slice A0_1 l0_1.length c0_1]) (t := 31) ?hr ?_; (case hd => rfl); (case hg => rfl); (case hr => first | (go_simp; done) | (go_simp; rfl)); intro gb260 hg w15 hbox hb; have n0_ := Aside0.mk (below_step (zb0 HB.out) hb); have n1_ := Aside0.mk (hbox); have n2_ := Aside0.mk ((by rw [hg]; exact (below_size (zb0 HB.out)) : w.heap.size ≤ gb260)); have n3_ := Aside0.mk ((by rw [hg]; exact (below_size (zb0 HB.out)) : w.heap.size ≤ gb260)); clear HB; have HB := n0_; have BK260 := n1_; have GW260 := n2_; have GE260 := n3_; clear n0_ n1_ n2_ n3_; clear hb hbox hg))
  go_ret
  exact ⟨ze, zb1 HB.out GE260.out⟩
mutual
def impl_SequenceFor.j0 : Nat → List Int → List (List Int) → Int → Bool → Int → List (List Int) → Option (List Int × (List (List Int)) × (List (List Int)) × Int)
 | 0, _, _, _, _, _, _ => none
 | k + 1, x1, x2, x8, x35, x264000, x264001 => if x35 = true then (impl_SequenceFor.j1 k x1 x2 2 x264000 x264001) else (impl_SequenceFor.j1 k x1 x2 x8 x264000 x264001)
def impl_SequenceFor.j1 : Nat → List Int → List (List Int) → Int → Int → List (List Int) → Option (List Int × (List (List Int)) × (List (List Int)) × Int)
 | 0, _, _, _, _, _ => none
 | k + 1, x1, x2, x8, x264000, x264001 => if x8 = 0 then ((impl_crowdOf.f k x1).bind fun t271 => ((slices_Clone_int64_int64.f x1).bind fun t272 => (impl_SequenceFor.l0 k t271 0 x2 (x2.length : Int) 0 x264000 x264001 t272 ([] : List (List Int)) ([] : List (List Int))))) else (some (([] : List Int), ([] : List (List Int)), ([] : List (List Int)), x8))
def impl_SequenceFor.l0 : Nat → Int → Int → List (List Int) → Int → Int → Int → List (List Int) → List Int → List (List Int) → List (List Int) → Option (List Int × (List (List Int)) × (List (List Int)) × Int)
 | 0, _, _, _, _, _, _, _, _, _, _ => none
 | k + 1, x9, x10, x45, x46, x47, x264000, x264001, x276000, x276001, x276002 => if x47 < x46 then (if 0 ≤ x47 then (if x47 < (x45.length : Int) then ((impl_crowdOf.f k (rd_L1 x45 x47)).bind fun t277 => ((impl_Family_least.f k x264000 x264001 x9 x10 t277).bind fun bt278 => (if bt278.2 = true then ((impl_Family_chained.f k x264000 x264001 x9 x10 t277).bind fun t280 => (impl_SequenceFor.j3 k x9 (rd_L1 x45 x47) t277 bt278.1 x45 x46 x47 (!t280) x264000 x264001 x276000 x276001 x276002)) else (impl_SequenceFor.j3 k x9 (rd_L1 x45 x47) t277 bt278.1 x45 x46 x47 true x264000 x264001 x276000 x276001 x276002)))) else (none)) else (none)) else (some (x276000, x276001, x276002, 0))
def impl_SequenceFor.j3 : Nat → Int → List Int → Int → Int → List (List Int) → Int → Int → Bool → Int → List (List Int) → List Int → List (List Int) → List (List Int) → Option (List Int × (List (List Int)) × (List (List Int)) × Int)
 | 0, _, _, _, _, _, _, _, _, _, _, _, _, _ => none
 | k + 1, x9, x13, x14, x15, x45, x46, x47, x70, x264000, x264001, x276000, x276001, x276002 => if x70 = true then (some (([] : List Int), ([] : List (List Int)), ([] : List (List Int)), 8)) else ((slices_Clone_int64_int64.f x13).bind fun t281 => (if x276001.length < 5864062014805 then ((impl_crowd_group.f k x15).bind fun t287 => (if x276002.length < 5864062014805 then (impl_SequenceFor.l0 k x9 x14 x45 x46 (wrap64 (x47 + 1)) x264000 x264001 x276000 (x276001 ++ [t281]) (x276002 ++ [t287])) else (none))) else (none)))
end
def impl_SequenceFor.f (k : Nat) (a0_0 : Int) (l0_1 : List (List Int)) (l1 : List Int) (l2 : List (List Int)) : Option (List Int × (List (List Int)) × (List (List Int)) × Int) := (impl_rankedCode.f k a0_0 l0_1).bind fun t265 => (if t265 = 0 then ((impl_areGroups.f k a0_0 (([l1] : List (List Int)))).bind fun t269 => (if t269 = true then ((impl_areGroups.f k a0_0 l2).bind fun t270 => (impl_SequenceFor.j0 k l1 l2 t265 (!t270) a0_0 l0_1)) else (impl_SequenceFor.j0 k l1 l2 t265 true a0_0 l0_1))) else (impl_SequenceFor.j0 k l1 l2 t265 false a0_0 l0_1))
def impl_SequenceFor.T15 : Bool × List (List Nat × List Nat) := (true, [([], []), ([0], [0]), ([], []), ([2], [2]), ([3], [3]), ([1, 4, 3], [1, 4]), ([0, 1, 2, 3, 4, 5], []), ([6, 5, 5, 0, 1, 2, 3, 4, 5], [5, 6])])
def impl_SequenceFor.B15 : List Nat := [0, 1, 0, 4, 12, 31, 63, 127]
theorem impl_SequenceFor.tab15 : rtab .any (opsOf Try.f24 15) = impl_SequenceFor.T15 := by kernel_rfl
theorem impl_SequenceFor.bits15 : waitsOk impl_SequenceFor.T15.2 impl_SequenceFor.B15 = true := by kernel_rfl
def impl_SequenceFor.T16 : Bool × List (List Nat × List Nat) := (true, [([], []), ([0], [0]), ([], []), ([2], [2]), ([3], [3]), ([1, 4, 3], [1, 4]), ([0, 1, 2, 3, 4, 5], []), ([6, 5, 5, 0, 1, 2, 3, 4, 5], [5, 6])])
def impl_SequenceFor.B16 : List Nat := [0, 1, 0, 4, 12, 31, 63, 127]
theorem impl_SequenceFor.tab16 : rtab .any (opsOf Try.f24 16) = impl_SequenceFor.T16 := by kernel_rfl
theorem impl_SequenceFor.bits16 : waitsOk impl_SequenceFor.T16.2 impl_SequenceFor.B16 = true := by kernel_rfl
set_option maxHeartbeats 8000000 in
set_option maxRecDepth 100000 in
theorem impl_SequenceFor.calls (k : Nat) (a0_0 : Int) (A0_1 : Option Addr) (c0_1 : Nat) (l0_1 : List (List Int)) (P1_ : Nat → Prop) (A1 : Option Addr) (c1 : Nat) (l1 : List Int) (A2 : Option Addr) (c2 : Nat) (l2 : List (List Int)) (r1 : List Int) (r2 : List (List Int)) (r3 : List (List Int)) (r4 : Int) (w : World) (hr0_1 : Kd.C (Kd.slice 2 (Kd.int .i64)) w A0_1 l0_1.length l0_1) (hc0_1 : l0_1.length ≤ c0_1) (hs1 : Kd.V (Kd.int .i64) 2 w w.heap.size (fun k_ => P1_ k_) (.slice A1 l1.length c1) l1) (hr2 : Kd.C (Kd.slice 2 (Kd.int .i64)) w A2 l2.length l2) (hc2 : l2.length ≤ c2) (h : impl_SequenceFor.f k a0_0 l0_1 l1 l2 = some (r1, r2, r3, r4)) :
  Calls Try.prog 24 #[.agg #[.int .i64 a0_0, .slice A0_1 l0_1.length c0_1], .slice A1 l1.length c1, .slice A2 l2.length c2] w fun e w' => ∃ v0_ v1_ v2_ : Value, e = .returned (.tuple #[.agg #[v0_, v1_, v2_], .int .i64 r4]) ∧ Kd.R (Kd.int .i64) 2 w' w.heap.size (fun k_ => (w.heap.size ≤ k_)) v0_ r1 ∧ Kd.N (Kd.slice 2 (Kd.int .i64)) 26 w' w.heap.size (fun k_ => (P1_ k_ ∨ w.heap.size ≤ k_) ∧ some k_ ≠ (v0_ : Value).ownBlock ∧ some k_ ≠ (v2_ : Value).ownBlock) v1_ r2 ∧ Kd.N (Kd.slice 2 (Kd.int .i64)) 26 w' w.heap.size (fun k_ => (P1_ k_ ∨ w.heap.size ≤ k_) ∧ some k_ ≠ (v0_ : Value).ownBlock ∧ some k_ ≠ (v1_ : Value).ownBlock) v2_ r3 ∧ Below w.heap.size w w' := by
 have hu31 := Try.underlying31
 have hu28 := Try.underlying28
 have HR0_1 := Aside0.mk hr0_1
 have HC0_1 := Aside0.mk hc0_1
 clear hr0_1 hc0_1
 have HO1 := Aside0.mk (show Kd.V (Kd.int .i64) 2 w w.heap.size (fun k_ => (P1_ k_ ∨ w.heap.size ≤ k_)) (.slice A1 l1.length c1) l1 from Kd.V_mono hs1 (fun k_ hk => .inl hk))
 have HR2 := Aside0.mk hr2
 have HC2 := Aside0.mk hc2
 clear hr2 hc2
 have HB := Aside0.mk (Below.refl w.heap.size w)
 have H : ((impl_rankedCode.f k a0_0 l0_1).bind fun t265 => (if t265 = 0 then ((impl_areGroups.f k a0_0 (([l1] : List (List Int)))).bind fun t269 => (if t269 = true then ((impl_areGroups.f k a0_0 l2).bind fun t270 => (impl_SequenceFor.j0 k l1 l2 t265 (!t270) a0_0 l0_1)) else (impl_SequenceFor.j0 k l1 l2 t265 true a0_0 l0_1))) else (impl_SequenceFor.j0 k l1 l2 t265 false a0_0 l0_1))) = some (r1, r2, r3, r4) := h
 clear h
 replace H := Option.bind_eq_some_iff.mp H
 obtain ⟨t265, A40, H⟩ := H
 replace H : (if t265 = 0 then ((impl_areGroups.f k a0_0 (([l1] : List (List Int)))).bind fun t269 => (if t269 = true then ((impl_areGroups.f k a0_0 l2).bind fun t270 => (impl_SequenceFor.j0 k l1 l2 t265 (!t270) a0_0 l0_1)) else (impl_SequenceFor.j0 k l1 l2 t265 true a0_0 l0_1))) else (impl_SequenceFor.j0 k l1 l2 t265 false a0_0 l0_1)) = some (r1, r2, r3, r4) := H
 have A4 := Aside0.mk A40
 clear A40
 have HC5 := Aside0.mk H
 clear H
 go_enter Try.func24, Try.ntmps24
 go_upto_region 2 with (first | ((with_reducible refine gate_dst (N := 3) rfl ?_); (try (refine gate_guard (by rfl) ?_; dsimp only)); refine box_event ?hg (N := 3) ?hd (cs := #[.int .i64 a0_0, .slice A0_1 l0_1.length c0_1]) (t := 31) ?hr ?_; (case hd => rfl); (case hg => rfl); (case hr => first | (go_simp; done) | (go_simp; rfl)); intro gb263 hg w6 hbox hb; have n0_ := Aside0.mk (Kd.V_below (Kd.V_elderB (zv HO1.out) gb263 (Nat.le_of_eq hg.symm)) hb); have n1_ := Aside0.mk (below_step (zb0 HB.out) hb); have n2_ := Aside0.mk (hbox); have n3_ := Aside0.mk ((by rw [hg]; exact (below_size (zb0 HB.out)) : w.heap.size ≤ gb263)); have n4_ := Aside0.mk ((by rw [hg]; exact (below_size (zb0 HB.out)) : w.heap.size ≤ gb263)); clear HO1; clear HB; have HO1 := n0_; have HB := n1_; have BK263 := n2_; have GW263 := n3_; have GE263 := n4_; clear n0_ n1_ n2_ n3_ n4_; clear hb hbox hg) | ((with_reducible refine gate_dst (N := 6) rfl ?_); (try (refine gate_guard (by rfl) ?_; dsimp only)); refine box_event ?hg (N := 6) ?hd (cs := #[.slice none 0 0, .slice none 0 0, .slice none 0 0]) (t := 28) ?hr ?_; (case hd => rfl); (case hg => rfl); (case hr => first | (go_simp; done) | (go_simp; rfl)); intro gb264 hg w7 hbox hb; have n0_ := Aside0.mk (Kd.V_below (Kd.V_elderB (zv HO1.out) gb264 (Nat.le_of_eq hg.symm)) hb); have n1_ := Aside0.mk (blk_below (g := gb263) (o := .cells #[.int .i64 a0_0, .slice A0_1 l0_1.length c0_1] 31 (0, 0)) (zk BK263.out) hb); have n2_ := Aside0.mk (below_step (zb1 HB.out GE263.out) hb); have n3_ := Aside0.mk (hbox); have n4_ := Aside0.mk ((by rw [hg]; exact (below_size (zb1 HB.out GE263.out)) : w.heap.size ≤ gb264)); have n5_ := Aside0.mk ((by rw [hg]; exact (below_size (zb1 HB.out GE263.out)) : w.heap.size ≤ gb264)); have n6_ := Aside0.mk ((by rw [hg]; exact Nat.ne_of_lt (blk_lt (g := gb263) (o := .cells #[.int .i64 a0_0, .slice A0_1 l0_1.length c0_1] 31 (0, 0)) (zk BK263.out)) : gb263 ≠ gb264)); have n7_ := Aside0.mk ((by rw [hg]; exact Nat.ne_of_gt (blk_lt (g := gb263) (o := .cells #[.int .i64 a0_0, .slice A0_1 l0_1.length c0_1] 31 (0, 0)) (zk BK263.out)) : gb264 ≠ gb263)); clear HO1; clear BK263; clear HB; have HO1 := n0_; have BK263 := n1_; have HB := n2_; have BK264 := n3_; have GW264 := n4_; have GE264 := n5_; have NB263_264 := n6_; have NB264_263 := n7_; clear n0_ n1_ n2_ n3_ n4_ n5_ n6_ n7_; clear hb hbox hg; have hnb8 := NB263_264.out; have hnc8 := NB264_263.out; have hcz9_0 : w7.cell? ⟨gb263, 0, none⟩ = some (.int .i64 a0_0) := (blk_cell BK263.out 0).trans rfl; have hcz9_1 : w7.cell? ⟨gb263, 1, none⟩ = some (.slice A0_1 l0_1.length c0_1) := (blk_cell BK263.out 1).trans rfl; have hfz9_0 := blk_frozen BK263.out 0; have hfz9_1 := blk_frozen BK263.out 1) | ((with_reducible refine gate_callee (f := 73) rfl ?_); refine goesL_ (some 18) rfl rfl Try.func73 (by kernel_rfl) rfl #[.agg #[.int .i64 a0_0, .slice A0_1 l0_1.length c0_1]] rfl zl ?_; (with_reducible refine (impl_rankedCode.calls k a0_0 _ _ l0_1 t265 _ ?side1 ?side2 A4.out).mono ?_); (case side1 => exact zc (Kd.C_below HR0_1.out HB.out)); (case side2 => exact HC0_1.out); rintro e w10 ⟨rfl, hb⟩; refine ⟨_, rfl, ?_⟩; have n0_ := Aside0.mk (Kd.V_below (zv HO1.out) hb); have n1_ := Aside0.mk (blk_below (g := gb263) (o := .cells #[.int .i64 a0_0, .slice A0_1 l0_1.length c0_1] 31 (0, 0)) (zk BK263.out) hb); have n2_ := Aside0.mk (blk_below (g := gb264) (o := .cells #[.slice none 0 0, .slice none 0 0, .slice none 0 0] 28 (0, 0)) (zk BK264.out) hb); have n3_ := Aside0.mk (below_step (zb2 HB.out GE263.out GE264.out) hb); clear HO1; clear BK263; clear BK264; clear HB; have HO1 := n0_; have BK263 := n1_; have BK264 := n2_; have HB := n3_; clear n0_ n1_ n2_ n3_; (try clear hb); (try clear hb2); (try clear hk); (try clear hi)))
 (try simp only [Act.put, List.setIfInBounds_toArray, List.set_cons_zero, List.set_cons_succ])
 go_cut [35] (fun v35 wc => ∃ (kq : Nat) (x35_4 : Bool), v35 = .bool x35_4 ∧ Aside0 (impl_SequenceFor.j0 kq l1 l2 t265 x35_4 a0_0 l0_1 = some (r1, r2, r3, r4)) ∧ Aside0 (kq ≤ k) ∧ Aside0 (Kd.V (Kd.int .i64) 2 wc w.heap.size (fun k_ => (P1_ k_ ∨ w.heap.size ≤ k_) ∧ k_ ≠ gb263 ∧ k_ ≠ gb264) (.slice A1 l1.length c1) l1) ∧ Aside0 (wc.heap[gb263]? = some (.cells #[.int .i64 a0_0, (.slice A0_1 l0_1.length c0_1)] 31 (0, 0))) ∧ Aside0 (wc.heap[gb264]? = some (.cells #[(.slice none 0 0), (.slice none 0 0), (.slice none 0 0)] 28 (0, 0))) ∧ Aside0 (Below w.heap.size w wc))
 case first =>
  have H := HC5.out
  clear HC5
  by_cases c11 : t265 = 0
  ·rw [if_pos c11] at H
   have c11b0 : (t265 == 0) = true := beq_iff_eq.mpr c11
   have c11b1 : (t265 != 0) = false := bne_eq_false_iff_eq.mpr c11
   clear c11
   (first | rw [c11b0] | (simp only [i64_w, i32_w]; rw [c11b0]) | skip)
   obtain ⟨y266, hy266⟩ : ∃ y_ : List (List Int), y_ = (([l1] : List (List Int))) := ⟨_, rfl⟩
   replace H : ((impl_areGroups.f k a0_0 y266).bind fun t269 => (if t269 = true then ((impl_areGroups.f k a0_0 l2).bind fun t270 => (impl_SequenceFor.j0 k l1 l2 t265 (!t270) a0_0 l0_1)) else (impl_SequenceFor.j0 k l1 l2 t265 true a0_0 l0_1))) = some (r1, r2, r3, r4) := by first | (rw [hy266]; with_reducible exact H) | (have H2_ := (Option.bind_some _ _).symm.trans H; rw [hy266]; with_reducible exact H2_) | (have H2_ := (Option.bind_some _ _).symm.trans H; with_reducible exact H2_) | with_reducible exact H | (rw [hy266]; exact H) | exact H
   have Ny266 := Aside0.mk hy266
   clear hy266
   replace H := Option.bind_eq_some_iff.mp H
   obtain ⟨t269, A120, H⟩ := H
   replace H : (if t269 = true then ((impl_areGroups.f k a0_0 l2).bind fun t270 => (impl_SequenceFor.j0 k l1 l2 t265 (!t270) a0_0 l0_1)) else (impl_SequenceFor.j0 k l1 l2 t265 true a0_0 l0_1)) = some (r1, r2, r3, r4) := H
   have A12 := Aside0.mk A120
   clear A120
   by_cases c13 : t269 = true
   ·subst c13
    rw [if_pos rfl] at H
    replace H := Option.bind_eq_some_iff.mp H
    obtain ⟨t270, A140, H⟩ := H
    replace H : (impl_SequenceFor.j0 k l1 l2 t265 (!t270) a0_0 l0_1) = some (r1, r2, r3, r4) := H
    have A14 := Aside0.mk A140
    clear A140
    have H' := Aside0.mk H
    clear H
    have hnb15 := NB263_264.out
    have hnc15 := NB264_263.out
    have hcz16_0 : w10.cell? ⟨gb263, 0, none⟩ = some (.int .i64 a0_0) := (blk_cell BK263.out 0).trans rfl
    have hcz16_1 : w10.cell? ⟨gb263, 1, none⟩ = some (.slice A0_1 l0_1.length c0_1) := (blk_cell BK263.out 1).trans rfl
    have hfz16_0 := blk_frozen BK263.out 0
    have hfz16_1 := blk_frozen BK263.out 1
    go_wp2_with (first | ((with_reducible refine gate_dst (N := 25) rfl ?_); (try (refine gate_guard (by rfl) ?_; dsimp only)); refine Kd.N_lit (Kd.slice 2 (Kd.int .i64)) _ 26 ?hg (N' := 25) ?hd (xs := ([l1] : List (List Int))) (inner := [.slice A1 l1.length c1]) (ok := (fun k_ => (P1_ k_ ∨ w.heap.size ≤ k_) ∧ k_ ≠ gb263 ∧ k_ ≠ gb264)) (okp := (fun k_ => (P1_ k_ ∨ w.heap.size ≤ k_) ∧ k_ ≠ gb263 ∧ k_ ≠ gb264)) ?hr ?hp (fun _ hk => hk) ((show ∀ k_, w10.heap.size ≤ k_ → (fun k_ => (P1_ k_ ∨ w.heap.size ≤ k_) ∧ k_ ≠ gb263 ∧ k_ ≠ gb264) k_ from fun k_ hk => ⟨(.inr (Nat.le_trans (below_size (zb2 HB.out GE263.out GE264.out)) hk)), Kd.freshB (g := gb263) (o := .cells #[.int .i64 a0_0, .slice A0_1 l0_1.length c0_1] 31 (0, 0)) (zk BK263.out) k_ hk, Kd.freshB (g := gb264) (o := .cells #[.slice none 0 0, .slice none 0 0, .slice none 0 0] 28 (0, 0)) (zk BK264.out) k_ hk⟩) _ (Nat.le_refl _)) (Below.refl _ _) (Nat.le_refl _) (by simp) ?_; (case hd => rfl); (case hg => rfl); (case hr => first | (go_simp; done) | (go_simp; rfl)); (case hp => exact (Reps.one (show Kd.FK (Kd.slice 2 (Kd.int .i64)) _ _ l1 [.slice A1 l1.length c1] from (Kd.FK_slice_mk (Kd.V_reads' (Kd.V_mono (ok' := (fun k_ => (P1_ k_ ∨ w.heap.size ≤ k_) ∧ k_ ≠ gb263 ∧ k_ ≠ gb264)) (HO1.out) (fun k_ hk => ⟨hk.1.1, ⟨hk.1.2, hk.2⟩⟩))).2.1 (Kd.V_F (Kd.V_mono (ok' := (fun k_ => (P1_ k_ ∨ w.heap.size ≤ k_) ∧ k_ ≠ gb263 ∧ k_ ≠ gb264)) (HO1.out) (fun k_ hk => ⟨hk.1.1, ⟨hk.1.2, hk.2⟩⟩))))) (Reps.none _ _))); intro v267 w17 ho18 hb hg_ hnew_; clear hg_ hnew_; (first | rw [← Ny266.out] at ho18 | (simp only [Int.reduceToNat] at ho18; rw [← Ny266.out] at ho18)); have n0_ := Aside0.mk (Kd.V_elder' (zv HO1.out) (by first | exact Kd.N_base ho18 | exact Kd.S_base ho18) hb); have n1_ := Aside0.mk (Kd.N_lower ho18 (below_size (zb2 HB.out GE263.out GE264.out))); have n2_ := Aside0.mk (blk_below (g := gb263) (o := .cells #[.int .i64 a0_0, .slice A0_1 l0_1.length c0_1] 31 (0, 0)) (zk BK263.out) hb); have n3_ := Aside0.mk (blk_below (g := gb264) (o := .cells #[.slice none 0 0, .slice none 0 0, .slice none 0 0] 28 (0, 0)) (zk BK264.out) hb); have n4_ := Aside0.mk (below_step (zb2 HB.out GE263.out GE264.out) hb); clear HO1; clear BK263; clear BK264; clear HB; have HO1 := n0_; have HO268 := n1_; have BK263 := n2_; have BK264 := n3_; have HB := n4_; clear n0_ n1_ n2_ n3_ n4_; clear hb ho18; obtain ⟨Ao19, co19, eo19⟩ := Kd.N_slice HO268.out; subst eo19) | (go_at_call 85; (with_reducible refine (impl_areGroups.calls k a0_0 _ _ y266 true _ ?side1 ?side2 A12.out).mono ?_); (case side1 => repeat (first | exact (Kd.N_reads' HO268.out).2.2 | (with_reducible refine Kd.C_alloc ?_ _) | (with_reducible refine Kd.C_drewN ?_ _) | (with_reducible refine Kd.C_drew ?_))); (case side2 => exact (Kd.N_reads' HO268.out).2.1); rintro e w20 ⟨rfl, hb⟩; have n0_ := Aside0.mk (Kd.V_below (zv HO1.out) hb); have n1_ := Aside0.mk (Kd.N_below (zn HO268.out) hb); have n2_ := Aside0.mk (blk_below (g := gb263) (o := .cells #[.int .i64 a0_0, .slice A0_1 l0_1.length c0_1] 31 (0, 0)) (zk BK263.out) hb); have n3_ := Aside0.mk (blk_below (g := gb264) (o := .cells #[.slice none 0 0, .slice none 0 0, .slice none 0 0] 28 (0, 0)) (zk BK264.out) hb); have n4_ := Aside0.mk (below_step (zb2 HB.out GE263.out GE264.out) hb); clear HO1; clear HO268; clear BK263; clear BK264; clear HB; have HO1 := n0_; have HO268 := n1_; have BK263 := n2_; have BK264 := n3_; have HB := n4_; clear n0_ n1_ n2_ n3_ n4_; (try clear hb); (try clear hb2); (try clear hk); (try clear hi); have hcz21_0 : w20.cell? ⟨gb263, 0, none⟩ = some (.int .i64 a0_0) := (blk_cell BK263.out 0).trans rfl; have hcz21_1 : w20.cell? ⟨gb263, 1, none⟩ = some (.slice A0_1 l0_1.length c0_1) := (blk_cell BK263.out 1).trans rfl; have hfz21_0 := blk_frozen BK263.out 0; have hfz21_1 := blk_frozen BK263.out 1) | (go_at_call 85; (with_reducible refine (impl_areGroups.calls k a0_0 _ _ l2 t270 _ ?side1 ?side2 A14.out).mono ?_); (case side1 => exact zc (Kd.C_below HR2.out HB.out)); (case side2 => exact HC2.out); rintro e w22 ⟨rfl, hb⟩; have n0_ := Aside0.mk (Kd.V_below (zv HO1.out) hb); have n1_ := Aside0.mk (Kd.N_below (zn HO268.out) hb); have n2_ := Aside0.mk (blk_below (g := gb263) (o := .cells #[.int .i64 a0_0, .slice A0_1 l0_1.length c0_1] 31 (0, 0)) (zk BK263.out) hb); have n3_ := Aside0.mk (blk_below (g := gb264) (o := .cells #[.slice none 0 0, .slice none 0 0, .slice none 0 0] 28 (0, 0)) (zk BK264.out) hb); have n4_ := Aside0.mk (below_step (zb2 HB.out GE263.out GE264.out) hb); clear HO1; clear HO268; clear BK263; clear BK264; clear HB; have HO1 := n0_; have HO268 := n1_; have BK263 := n2_; have BK264 := n3_; have HB := n4_; clear n0_ n1_ n2_ n3_ n4_; (try clear hb); (try clear hb2); (try clear hk); (try clear hi)))
    go_meet
    case rel => exact ⟨_, (!t270), zt, H', ⟨by first | omega | exact Nat.le_refl _⟩, ⟨by (with_reducible repeat (first | apply Kd.V_alloc | apply Kd.V_drewN | apply Kd.V_drew)); exact Kd.V_mono HO1.out (fun _ hk => ⟨hk.1.1.1, ⟨hk.1.1.2, hk.1.2⟩⟩)⟩, ⟨zk BK263.out⟩, ⟨zk BK264.out⟩, ⟨zb2 HB.out GE263.out GE264.out⟩⟩
   ·replace c13 := Bool.eq_false_iff.mpr c13
    subst c13
    rw [if_neg (show ¬ (false = true) by decide)] at H
    have H' := Aside0.mk H
    clear H
    have hnb23 := NB263_264.out
    have hnc23 := NB264_263.out
    have hcz24_0 : w10.cell? ⟨gb263, 0, none⟩ = some (.int .i64 a0_0) := (blk_cell BK263.out 0).trans rfl
    have hcz24_1 : w10.cell? ⟨gb263, 1, none⟩ = some (.slice A0_1 l0_1.length c0_1) := (blk_cell BK263.out 1).trans rfl
    have hfz24_0 := blk_frozen BK263.out 0
    have hfz24_1 := blk_frozen BK263.out 1
    go_wp2_with (first | ((with_reducible refine gate_dst (N := 25) rfl ?_); (try (refine gate_guard (by rfl) ?_; dsimp only)); refine Kd.N_lit (Kd.slice 2 (Kd.int .i64)) _ 26 ?hg (N' := 25) ?hd (xs := ([l1] : List (List Int))) (inner := [.slice A1 l1.length c1]) (ok := (fun k_ => (P1_ k_ ∨ w.heap.size ≤ k_) ∧ k_ ≠ gb263 ∧ k_ ≠ gb264)) (okp := (fun k_ => (P1_ k_ ∨ w.heap.size ≤ k_) ∧ k_ ≠ gb263 ∧ k_ ≠ gb264)) ?hr ?hp (fun _ hk => hk) ((show ∀ k_, w10.heap.size ≤ k_ → (fun k_ => (P1_ k_ ∨ w.heap.size ≤ k_) ∧ k_ ≠ gb263 ∧ k_ ≠ gb264) k_ from fun k_ hk => ⟨(.inr (Nat.le_trans (below_size (zb2 HB.out GE263.out GE264.out)) hk)), Kd.freshB (g := gb263) (o := .cells #[.int .i64 a0_0, .slice A0_1 l0_1.length c0_1] 31 (0, 0)) (zk BK263.out) k_ hk, Kd.freshB (g := gb264) (o := .cells #[.slice none 0 0, .slice none 0 0, .slice none 0 0] 28 (0, 0)) (zk BK264.out) k_ hk⟩) _ (Nat.le_refl _)) (Below.refl _ _) (Nat.le_refl _) (by simp) ?_; (case hd => rfl); (case hg => rfl); (case hr => first | (go_simp; done) | (go_simp; rfl)); (case hp => exact (Reps.one (show Kd.FK (Kd.slice 2 (Kd.int .i64)) _ _ l1 [.slice A1 l1.length c1] from (Kd.FK_slice_mk (Kd.V_reads' (Kd.V_mono (ok' := (fun k_ => (P1_ k_ ∨ w.heap.size ≤ k_) ∧ k_ ≠ gb263 ∧ k_ ≠ gb264)) (HO1.out) (fun k_ hk => ⟨hk.1.1, ⟨hk.1.2, hk.2⟩⟩))).2.1 (Kd.V_F (Kd.V_mono (ok' := (fun k_ => (P1_ k_ ∨ w.heap.size ≤ k_) ∧ k_ ≠ gb263 ∧ k_ ≠ gb264)) (HO1.out) (fun k_ hk => ⟨hk.1.1, ⟨hk.1.2, hk.2⟩⟩))))) (Reps.none _ _))); intro v267 w25 ho26 hb hg_ hnew_; clear hg_ hnew_; (first | rw [← Ny266.out] at ho26 | (simp only [Int.reduceToNat] at ho26; rw [← Ny266.out] at ho26)); have n0_ := Aside0.mk (Kd.V_elder' (zv HO1.out) (by first | exact Kd.N_base ho26 | exact Kd.S_base ho26) hb); have n1_ := Aside0.mk (Kd.N_lower ho26 (below_size (zb2 HB.out GE263.out GE264.out))); have n2_ := Aside0.mk (blk_below (g := gb263) (o := .cells #[.int .i64 a0_0, .slice A0_1 l0_1.length c0_1] 31 (0, 0)) (zk BK263.out) hb); have n3_ := Aside0.mk (blk_below (g := gb264) (o := .cells #[.slice none 0 0, .slice none 0 0, .slice none 0 0] 28 (0, 0)) (zk BK264.out) hb); have n4_ := Aside0.mk (below_step (zb2 HB.out GE263.out GE264.out) hb); clear HO1; clear BK263; clear BK264; clear HB; have HO1 := n0_; have HO268 := n1_; have BK263 := n2_; have BK264 := n3_; have HB := n4_; clear n0_ n1_ n2_ n3_ n4_; clear hb ho26; obtain ⟨Ao27, co27, eo27⟩ := Kd.N_slice HO268.out; subst eo27) | (go_at_call 85; (with_reducible refine (impl_areGroups.calls k a0_0 _ _ y266 false _ ?side1 ?side2 A12.out).mono ?_); (case side1 => repeat (first | exact (Kd.N_reads' HO268.out).2.2 | (with_reducible refine Kd.C_alloc ?_ _) | (with_reducible refine Kd.C_drewN ?_ _) | (with_reducible refine Kd.C_drew ?_))); (case side2 => exact (Kd.N_reads' HO268.out).2.1); rintro e w28 ⟨rfl, hb⟩; have n0_ := Aside0.mk (Kd.V_below (zv HO1.out) hb); have n1_ := Aside0.mk (Kd.N_below (zn HO268.out) hb); have n2_ := Aside0.mk (blk_below (g := gb263) (o := .cells #[.int .i64 a0_0, .slice A0_1 l0_1.length c0_1] 31 (0, 0)) (zk BK263.out) hb); have n3_ := Aside0.mk (blk_below (g := gb264) (o := .cells #[.slice none 0 0, .slice none 0 0, .slice none 0 0] 28 (0, 0)) (zk BK264.out) hb); have n4_ := Aside0.mk (below_step (zb2 HB.out GE263.out GE264.out) hb); clear HO1; clear HO268; clear BK263; clear BK264; clear HB; have HO1 := n0_; have HO268 := n1_; have BK263 := n2_; have BK264 := n3_; have HB := n4_; clear n0_ n1_ n2_ n3_ n4_; (try clear hb); (try clear hb2); (try clear hk); (try clear hi)))
    go_meet
    case rel => exact ⟨_, (true), zt, H', ⟨by first | omega | exact Nat.le_refl _⟩, ⟨by (with_reducible repeat (first | apply Kd.V_alloc | apply Kd.V_drewN | apply Kd.V_drew)); exact Kd.V_mono HO1.out (fun _ hk => ⟨hk.1.1.1, ⟨hk.1.1.2, hk.1.2⟩⟩)⟩, ⟨zk BK263.out⟩, ⟨zk BK264.out⟩, ⟨zb2 HB.out GE263.out GE264.out⟩⟩
  ·rw [if_neg c11] at H
   have c11b0 : (t265 == 0) = false := beq_eq_false_iff_ne.mpr c11
   have c11b1 : (t265 != 0) = true := bne_iff_ne.mpr c11
   (first | rw [c11b0] | (simp only [i64_w, i32_w]; rw [c11b0]) | skip)
   have H' := Aside0.mk H
   clear H
   go_wp2
   go_meet
   case rel => exact ⟨_, (false), zt, H', ⟨by first | omega | exact Nat.le_refl _⟩, ⟨by (with_reducible repeat (first | apply Kd.V_alloc | apply Kd.V_drewN | apply Kd.V_drew)); exact Kd.V_mono HO1.out (fun _ hk => ⟨hk.1.1, ⟨hk.1.2, hk.2⟩⟩)⟩, ⟨zk BK263.out⟩, ⟨zk BK264.out⟩, ⟨zb2 HB.out GE263.out GE264.out⟩⟩
 case rest =>
  clear HC5
  obtain ⟨kq, x35_4, rfl, HA, HJ4, HO_1, BK263, BK264, HB⟩ := hcut
  cases kq with
  | zero => exact absurd HA.out (by simp [impl_SequenceFor.j0])
  | succ kj4 =>
   have H := HA.out
   clear HA
   simp only [impl_SequenceFor.j0] at H
   have HC29 := Aside0.mk H
   clear H
   go_upto_if 35 with (fail)
   go_cut [8] (fun v8 wc => ∃ (kq : Nat) (x8_28 : Int), v8 = .int .i64 x8_28 ∧ Aside0 (impl_SequenceFor.j1 kq l1 l2 x8_28 a0_0 l0_1 = some (r1, r2, r3, r4)) ∧ Aside0 (kq ≤ kj4) ∧ Aside0 (Kd.V (Kd.int .i64) 2 wc w.heap.size (fun k_ => (P1_ k_ ∨ w.heap.size ≤ k_) ∧ k_ ≠ gb263 ∧ k_ ≠ gb264) (.slice A1 l1.length c1) l1) ∧ Aside0 (wc.heap[gb263]? = some (.cells #[.int .i64 a0_0, (.slice A0_1 l0_1.length c0_1)] 31 (0, 0))) ∧ Aside0 (wc.heap[gb264]? = some (.cells #[(.slice none 0 0), (.slice none 0 0), (.slice none 0 0)] 28 (0, 0))) ∧ Aside0 (Below w.heap.size w wc))
   case first =>
    have H := HC29.out
    clear HC29
    by_cases c30 : x35_4 = true
    ·subst c30
     rw [if_pos rfl] at H
     have H' := Aside0.mk H
     clear H
     go_wp2
     go_meet
     case rel => exact ⟨_, (2), zt, H', ⟨by have := HJ4.out; first | omega | exact Nat.le_refl _⟩, ⟨zv HO_1.out⟩, ⟨zk BK263.out⟩, ⟨zk BK264.out⟩, ⟨zb2 HB.out GE263.out GE264.out⟩⟩
    ·replace c30 := Bool.eq_false_iff.mpr c30
     subst c30
     rw [if_neg (show ¬ (false = true) by decide)] at H
     have H' := Aside0.mk H
     clear H
     go_wp2
     go_meet
     case rel => exact ⟨_, (t265), zt, H', ⟨by have := HJ4.out; first | omega | exact Nat.le_refl _⟩, ⟨zv HO_1.out⟩, ⟨zk BK263.out⟩, ⟨zk BK264.out⟩, ⟨zb2 HB.out GE263.out GE264.out⟩⟩
   case rest =>
    clear HC29
    obtain ⟨kq, x8_28, rfl, HA, HJ28, HO_1, BK263, BK264, HB⟩ := hcut
    cases kq with
    | zero => exact absurd HA.out (by simp [impl_SequenceFor.j1])
    | succ kj28 =>
     have H := HA.out
     clear HA
     simp only [impl_SequenceFor.j1] at H
     by_cases c31 : x8_28 = 0
     ·rw [if_pos c31] at H
      have c31b0 : (x8_28 == 0) = true := beq_iff_eq.mpr c31
      have c31b1 : (x8_28 != 0) = false := bne_eq_false_iff_eq.mpr c31
      clear c31
      replace H := Option.bind_eq_some_iff.mp H
      obtain ⟨t271, A320, H⟩ := H
      replace H : ((slices_Clone_int64_int64.f l1).bind fun t272 => (impl_SequenceFor.l0 kj28 t271 0 l2 (l2.length : Int) 0 a0_0 l0_1 t272 ([] : List (List Int)) ([] : List (List Int)))) = some (r1, r2, r3, r4) := H
      have A32 := Aside0.mk A320
      clear A320
      replace H := Option.bind_eq_some_iff.mp H
      obtain ⟨t272, A330, H⟩ := H
      replace H : (impl_SequenceFor.l0 kj28 t271 0 l2 (l2.length : Int) 0 a0_0 l0_1 t272 ([] : List (List Int)) ([] : List (List Int))) = some (r1, r2, r3, r4) := H
      have A33 := Aside0.mk A330
      clear A330
      have H' := Aside0.mk H
      clear H
      go_wp2_with (first | ((with_reducible refine gate_callee (f := 86) rfl ?_); refine goesL_ (some 41) rfl rfl Try.func86 (by kernel_rfl) rfl #[.slice A1 l1.length c1] rfl zl ?_; (with_reducible refine (impl_crowdOf.calls kj28 _ _ l1 t271 _ ?side1 ?side2 A32.out).mono ?_); (case side1 => repeat (first | exact (Kd.V_reads' HO_1.out).2.2 | (with_reducible refine Kd.C_alloc ?_ _) | (with_reducible refine Kd.C_drewN ?_ _) | (with_reducible refine Kd.C_drew ?_))); (case side2 => exact (Kd.V_reads' HO_1.out).2.1); rintro e w' ⟨rfl, ⟨nd, rfl⟩⟩; refine ⟨_, rfl, ?_⟩; (try (rw [drewN_self wc]; generalize hq_ : World.drewN wc _ = wc; have n0_ : Aside0 (Kd.V (Kd.int .i64) 2 wc w.heap.size (fun k_ => (P1_ k_ ∨ w.heap.size ≤ k_) ∧ k_ ≠ gb263 ∧ k_ ≠ gb264) (.slice A1 l1.length c1) l1) := ⟨by rw [← hq_]; exact (zv HO_1.out)⟩; have n1_ : Aside0 (wc.heap[gb263]? = some (.cells #[.int .i64 a0_0, .slice A0_1 l0_1.length c0_1] 31 (0, 0))) := ⟨by rw [← hq_]; exact (zk BK263.out)⟩; have n2_ : Aside0 (wc.heap[gb264]? = some (.cells #[.slice none 0 0, .slice none 0 0, .slice none 0 0] 28 (0, 0))) := ⟨by rw [← hq_]; exact (zk BK264.out)⟩; have n3_ : Aside0 (Below w.heap.size w wc) := ⟨by rw [← hq_]; exact (zb2 HB.out GE263.out GE264.out)⟩; clear HO_1 BK263 BK264 HB hq_; have HO_1 := n0_; have BK263 := n1_; have BK264 := n2_; have HB := n3_; clear n0_ n1_ n2_ n3_))) | ((with_reducible refine gate_callee (f := 87) rfl ?_); refine goesL_ (some 43) rfl rfl Try.func87 (by kernel_rfl) rfl #[.slice A1 l1.length c1] rfl zl ?_; (with_reducible refine (slices_Clone_int64_int64.calls _ _ l1 t272 _ ?side1 ?side2 A33.out).mono ?_); (case side1 => repeat (first | exact (Kd.V_reads' HO_1.out).2.2 | (with_reducible refine Kd.C_alloc ?_ _) | (with_reducible refine Kd.C_drewN ?_ _) | (with_reducible refine Kd.C_drew ?_))); (case side2 => exact (Kd.V_reads' HO_1.out).2.1); rintro e w34 ⟨v273, rfl, ho0, hb⟩; refine ⟨_, rfl, ?_⟩; have n0_ := Aside0.mk (Kd.V_elder' (zv HO_1.out) (Kd.R_base ho0) hb); have n1_ := Aside0.mk (Kd.R_lower (Kd.R_newM (M := fun k_ => (w.heap.size ≤ k_)) ho0 (below_size (zb2 HB.out GE263.out GE264.out)) (fun k_ h_ => h_)) (below_size (zb2 HB.out GE263.out GE264.out))); have n2_ := Aside0.mk (blk_below (g := gb263) (o := .cells #[.int .i64 a0_0, .slice A0_1 l0_1.length c0_1] 31 (0, 0)) (zk BK263.out) hb); have n3_ := Aside0.mk (blk_below (g := gb264) (o := .cells #[.slice none 0 0, .slice none 0 0, .slice none 0 0] 28 (0, 0)) (zk BK264.out) hb); have n4_ := Aside0.mk (below_step (zb2 HB.out GE263.out GE264.out) hb); clear HO_1; clear BK263; clear BK264; clear HB; have HO_1 := n0_; have HO274 := n1_; have BK263 := n2_; have BK264 := n3_; have HB := n4_; clear n0_ n1_ n2_ n3_ n4_; (try clear hb); (try clear hb2); (try clear hk); (try clear hi); (try clear ho0); obtain ⟨Ao35, co35, eo35⟩ := Kd.R_slice HO274.out; subst eo35) | ((with_reducible refine gate_dst (N := 11) rfl ?_); (try (refine gate_guard (by rfl) ?_; dsimp only)); refine box_event ?hg (N := 11) ?hd (cs := #[.slice none 0 0, .slice none 0 0, .slice none 0 0]) (t := 28) ?hr ?_; (case hd => rfl); (case hg => rfl); (case hr => first | (go_simp; done) | (go_simp; rfl)); intro gb275 hg w36 hbox hb; have n0_ := Aside0.mk (Kd.V_below (Kd.V_elderB (zv HO_1.out) gb275 (Nat.le_of_eq hg.symm)) hb); have n1_ := Aside0.mk (Kd.R_below (zr HO274.out) hb); have n2_ := Aside0.mk (blk_below (g := gb263) (o := .cells #[.int .i64 a0_0, .slice A0_1 l0_1.length c0_1] 31 (0, 0)) (zk BK263.out) hb); have n3_ := Aside0.mk (blk_below (g := gb264) (o := .cells #[.slice none 0 0, .slice none 0 0, .slice none 0 0] 28 (0, 0)) (zk BK264.out) hb); have n4_ := Aside0.mk (below_step (zb2 HB.out GE263.out GE264.out) hb); have n5_ := Aside0.mk (hbox); have n6_ := Aside0.mk ((by rw [hg]; exact (below_size (zb2 HB.out GE263.out GE264.out)) : w.heap.size ≤ gb275)); have n7_ := Aside0.mk ((by rw [hg]; exact (below_size (zb2 HB.out GE263.out GE264.out)) : w.heap.size ≤ gb275)); have n8_ := Aside0.mk ((by rw [hg]; exact Nat.ne_of_lt (blk_lt (g := gb263) (o := .cells #[.int .i64 a0_0, .slice A0_1 l0_1.length c0_1] 31 (0, 0)) (zk BK263.out)) : gb263 ≠ gb275)); have n9_ := Aside0.mk ((by rw [hg]; exact Nat.ne_of_gt (blk_lt (g := gb263) (o := .cells #[.int .i64 a0_0, .slice A0_1 l0_1.length c0_1] 31 (0, 0)) (zk BK263.out)) : gb275 ≠ gb263)); have n10_ := Aside0.mk ((by rw [hg]; exact Nat.ne_of_lt (blk_lt (g := gb264) (o := .cells #[.slice none 0 0, .slice none 0 0, .slice none 0 0] 28 (0, 0)) (zk BK264.out)) : gb264 ≠ gb275)); have n11_ := Aside0.mk ((by rw [hg]; exact Nat.ne_of_gt (blk_lt (g := gb264) (o := .cells #[.slice none 0 0, .slice none 0 0, .slice none 0 0] 28 (0, 0)) (zk BK264.out)) : gb275 ≠ gb264)); clear HO_1; clear HO274; clear BK263; clear BK264; clear HB; have HO_1 := n0_; have HO274 := n1_; have BK263 := n2_; have BK264 := n3_; have HB := n4_; have BK275 := n5_; have GW275 := n6_; have GE275 := n7_; have NB263_275 := n8_; have NB275_263 := n9_; have NB264_275 := n10_; have NB275_264 := n11_; clear n0_ n1_ n2_ n3_ n4_ n5_ n6_ n7_ n8_ n9_ n10_ n11_; clear hb hbox hg; have hnb37 := NB275_263.out; have hnc37 := NB263_275.out; have hnb38 := NB275_264.out; have hnc38 := NB264_275.out; have hcz39_0 : w36.cell? ⟨gb275, 0, none⟩ = some (.slice none 0 0) := (blk_cell BK275.out 0).trans rfl; have hcz39_1 : w36.cell? ⟨gb275, 1, none⟩ = some (.slice none 0 0) := (blk_cell BK275.out 1).trans rfl; have hcz39_2 : w36.cell? ⟨gb275, 2, none⟩ = some (.slice none 0 0) := (blk_cell BK275.out 2).trans rfl; have hfz39_0 := blk_frozen BK275.out 0; have hfz39_1 := blk_frozen BK275.out 1; have hfz39_2 := blk_frozen BK275.out 2))
      go_loopg [10, 47] kj28 (fun kq v10 v47 w' => ∃ (x10_3 : Int) (x47_3 : Int) (x276001_3 : List (List Int)) (x276002_3 : List (List Int)) (u276001 : Value) (u276002 : Value), v10 = .int .u64 x10_3 ∧ v47 = .int .i64 x47_3 ∧ Aside0 (impl_SequenceFor.l0 kq t271 x10_3 l2 (l2.length : Int) x47_3 a0_0 l0_1 t272 x276001_3 x276002_3 = some (r1, r2, r3, r4)) ∧ Aside0 (kq ≤ kj28) ∧ Aside0 (Kd.R (Kd.int .i64) 2 w' w.heap.size (fun k_ => (w.heap.size ≤ k_)) (.slice Ao35 t272.length co35) t272) ∧ Aside0 (Kd.N (Kd.slice 2 (Kd.int .i64)) 26 w' w.heap.size (fun k_ => (P1_ k_ ∨ w.heap.size ≤ k_) ∧ some k_ ≠ ((.slice Ao35 t272.length co35) : Value).ownBlock ∧ some k_ ≠ (u276002 : Value).ownBlock ∧ k_ ≠ gb263 ∧ k_ ≠ gb264 ∧ k_ ≠ gb275) u276001 x276001_3) ∧ Aside0 (Kd.N (Kd.slice 2 (Kd.int .i64)) 26 w' w.heap.size (fun k_ => (P1_ k_ ∨ w.heap.size ≤ k_) ∧ some k_ ≠ ((.slice Ao35 t272.length co35) : Value).ownBlock ∧ some k_ ≠ (u276001 : Value).ownBlock ∧ k_ ≠ gb263 ∧ k_ ≠ gb264 ∧ k_ ≠ gb275) u276002 x276002_3) ∧ Aside0 (w'.heap[gb263]? = some (.cells #[.int .i64 a0_0, (.slice A0_1 l0_1.length c0_1)] 31 (0, 0))) ∧ Aside0 (w'.heap[gb264]? = some (.cells #[(.slice none 0 0), (.slice none 0 0), (.slice none 0 0)] 28 (0, 0))) ∧ Aside0 (w'.heap[gb275]? = some (.cells #[(.slice Ao35 t272.length co35), u276001, u276002] 28 (0, 0))) ∧ Aside0 (Below w.heap.size w w'))
      case atStart => exact ⟨(0), (0), (([] : List (List Int))), (([] : List (List Int))), (.slice none 0 0), (.slice none 0 0), zt, zt, H', ⟨Nat.le_refl _⟩, ⟨by (with_reducible repeat (first | apply Kd.R_alloc | apply Kd.R_drewN | apply Kd.R_drew)); exact Kd.R_mono (Kd.R_far (p := ⟨gb275, 2, none⟩) (Kd.R_far (p := ⟨gb275, 1, none⟩) (Kd.R_far (p := ⟨gb275, 0, none⟩) (Kd.R_types HO274.out BK275.out (by decide)) (fun _ hk => hk.2) (.slice Ao35 t272.length co35)) (fun _ hk => hk.2) (.slice none 0 0)) (fun _ hk => hk.2) (.slice none 0 0)) (fun _ hk => hk.1.1)⟩, ⟨by first | exact Kd.S_nil _ _ _ _ _ | exact Kd.N_nil _ _ _ _ _ | exact Kd.V_nil _ _ _ _ _ | exact Kd.Q_nil _ _ _ _ _ | exact Kd.R_nil _ _ _ _ _⟩, ⟨by first | exact Kd.S_nil _ _ _ _ _ | exact Kd.N_nil _ _ _ _ _ | exact Kd.V_nil _ _ _ _ _ | exact Kd.Q_nil _ _ _ _ _ | exact Kd.R_nil _ _ _ _ _⟩, ⟨by (with_reducible repeat (first | refine blk_drewN ?_ _ | refine blk_drew ?_ | refine blk_alloc ?_ _)); refine blk_far ?_ NB263_275.out _; (with_reducible repeat (first | refine blk_drewN ?_ _ | refine blk_drew ?_ | refine blk_alloc ?_ _)); refine blk_far ?_ NB263_275.out _; (with_reducible repeat (first | refine blk_drewN ?_ _ | refine blk_drew ?_ | refine blk_alloc ?_ _)); refine blk_far ?_ NB263_275.out _; (with_reducible repeat (first | refine blk_drewN ?_ _ | refine blk_drew ?_ | refine blk_alloc ?_ _)); exact BK263.out⟩, ⟨by (with_reducible repeat (first | refine blk_drewN ?_ _ | refine blk_drew ?_ | refine blk_alloc ?_ _)); refine blk_far ?_ NB264_275.out _; (with_reducible repeat (first | refine blk_drewN ?_ _ | refine blk_drew ?_ | refine blk_alloc ?_ _)); refine blk_far ?_ NB264_275.out _; (with_reducible repeat (first | refine blk_drewN ?_ _ | refine blk_drew ?_ | refine blk_alloc ?_ _)); refine blk_far ?_ NB264_275.out _; (with_reducible repeat (first | refine blk_drewN ?_ _ | refine blk_drew ?_ | refine blk_alloc ?_ _)); exact BK264.out⟩, ⟨by (with_reducible repeat (first | refine blk_drewN ?_ _ | refine blk_drew ?_ | refine blk_alloc ?_ _)); refine blk_put (cs := #[.slice Ao35 t272.length co35, .slice none 0 0, .slice none 0 0]) ?_ 2 _ rfl; (with_reducible repeat (first | refine blk_drewN ?_ _ | refine blk_drew ?_ | refine blk_alloc ?_ _)); refine blk_put (cs := #[.slice Ao35 t272.length co35, .slice none 0 0, .slice none 0 0]) ?_ 1 _ rfl; (with_reducible repeat (first | refine blk_drewN ?_ _ | refine blk_drew ?_ | refine blk_alloc ?_ _)); refine blk_put (cs := #[.slice none 0 0, .slice none 0 0, .slice none 0 0]) ?_ 0 _ rfl; (with_reducible repeat (first | refine blk_drewN ?_ _ | refine blk_drew ?_ | refine blk_alloc ?_ _)); exact BK275.out⟩, ⟨zb3 HB.out GE263.out GE264.out GE275.out⟩⟩
      case round =>
       clear H'
       obtain ⟨x10_3, x47_3, x276001_3, x276002_3, u276001, u276002, rfl, rfl, HA, HK3, HO_276000, HO_276001, HO_276002, BK263, BK264, BK275, HB⟩ := hrel
       cases gk with
       | zero => exact absurd HA.out (by simp [impl_SequenceFor.l0])
       | succ k3 =>
        have H := HA.out
        clear HA
        simp only [impl_SequenceFor.l0] at H
        by_cases c40 : x47_3 < (l2.length : Int)
        ·rw [if_pos c40] at H
         have c40b0 : decide (x47_3 < (l2.length : Int)) = true := decide_eq_true c40
         clear c40
         by_cases c41 : 0 ≤ x47_3
         ·rw [if_pos c41] at H
          have c41b0 : decide (0 ≤ x47_3) = true := decide_eq_true c41
          clear c41
          by_cases c42 : x47_3 < (l2.length : Int)
          ·rw [if_pos c42] at H
           have c42b0 : decide (x47_3 < (l2.length : Int)) = true := decide_eq_true c42
           clear c42
           replace H := Option.bind_eq_some_iff.mp H
           obtain ⟨t277, A430, H⟩ := H
           replace H : ((impl_Family_least.f k3 a0_0 l0_1 t271 x10_3 t277).bind fun bt278 => (if bt278.2 = true then ((impl_Family_chained.f k3 a0_0 l0_1 t271 x10_3 t277).bind fun t280 => (impl_SequenceFor.j3 k3 t271 (rd_L1 l2 x47_3) t277 bt278.1 l2 (l2.length : Int) x47_3 (!t280) a0_0 l0_1 t272 x276001_3 x276002_3)) else (impl_SequenceFor.j3 k3 t271 (rd_L1 l2 x47_3) t277 bt278.1 l2 (l2.length : Int) x47_3 true a0_0 l0_1 t272 x276001_3 x276002_3))) = some (r1, r2, r3, r4) := H
           have A43 := Aside0.mk A430
           clear A430
           replace H := Option.bind_eq_some_iff.mp H
           obtain ⟨⟨t278, t279⟩, A440, H⟩ := H
           replace H : (if t279 = true then ((impl_Family_chained.f k3 a0_0 l0_1 t271 x10_3 t277).bind fun t280 => (impl_SequenceFor.j3 k3 t271 (rd_L1 l2 x47_3) t277 t278 l2 (l2.length : Int) x47_3 (!t280) a0_0 l0_1 t272 x276001_3 x276002_3)) else (impl_SequenceFor.j3 k3 t271 (rd_L1 l2 x47_3) t277 t278 l2 (l2.length : Int) x47_3 true a0_0 l0_1 t272 x276001_3 x276002_3)) = some (r1, r2, r3, r4) := H
           have A44 := Aside0.mk A440
           clear A440
           have HC45 := Aside0.mk H
           clear H
           have p276 : 0 ≤ (x47_3 : Int) := of_decide_eq_true zq
           have q276 : x47_3 < (l2.length : Int) := of_decide_eq_true zq
           obtain ⟨ad276, A276_0, c276_0, e276, hx276_0, hl276_0, hi276_0⟩ := at_L1 HR2.out x47_3 p276 q276
           cases e276
           replace hx276_0 := (HB.out.cell (World.block_lt_of_cell? w _ hx276_0)).trans hx276_0
           have HR276_0 := Aside0.mk hi276_0
           have HC276_0 := Aside0.mk hl276_0
           clear hi276_0 hl276_0
           replace p276 := eq_true p276
           replace q276 := eq_true q276
           go_upto_region 13 with (first | ((with_reducible refine gate_callee (f := 86) rfl ?_); refine goesL_ (some 52) rfl rfl Try.func86 (by kernel_rfl) rfl #[.slice A276_0 (rd_L1 l2 x47_3).length c276_0] rfl zl ?_; (with_reducible refine (impl_crowdOf.calls k3 _ _ (rd_L1 l2 x47_3) t277 _ ?side1 ?side2 A43.out).mono ?_); (case side1 => exact zc (Kd.C_below HR276_0.out HB.out)); (case side2 => exact HC276_0.out); rintro e w' ⟨rfl, ⟨nd, rfl⟩⟩; refine ⟨_, rfl, ?_⟩; have hnb46 := NB263_264.out; have hnc46 := NB264_263.out; have hnb47 := NB263_275.out; have hnc47 := NB275_263.out; have hcz48_0 : wr.cell? ⟨gb263, 0, none⟩ = some (.int .i64 a0_0) := (blk_cell BK263.out 0).trans rfl; have hcz48_1 : wr.cell? ⟨gb263, 1, none⟩ = some (.slice A0_1 l0_1.length c0_1) := (blk_cell BK263.out 1).trans rfl; have hfz48_0 := blk_frozen BK263.out 0; have hfz48_1 := blk_frozen BK263.out 1) | ((with_reducible refine gate_callee (f := 88) rfl ?_); refine goesL_ (some 58) rfl rfl Try.func88 (by kernel_rfl) rfl #[.agg #[.int .i64 a0_0, .slice A0_1 l0_1.length c0_1], .int .u64 t271, .int .u64 x10_3, .int .u64 t277] rfl zl ?_; (with_reducible refine (impl_Family_least.calls k3 a0_0 _ _ l0_1 t271 x10_3 t277 t278 t279 _ ?side1 ?side2 A44.out).mono ?_); (case side1 => exact zc (Kd.C_below HR0_1.out (zb3 HB.out GE263.out GE264.out GE275.out))); (case side2 => exact HC0_1.out); rintro e w49 ⟨rfl, hb⟩; refine ⟨_, rfl, ?_⟩; have n0_ := Aside0.mk (Kd.R_below (zr HO_276000.out) hb); have n1_ := Aside0.mk (Kd.N_below (zn HO_276001.out) hb); have n2_ := Aside0.mk (Kd.N_below (zn HO_276002.out) hb); have n3_ := Aside0.mk (blk_below (g := gb263) (o := .cells #[.int .i64 a0_0, .slice A0_1 l0_1.length c0_1] 31 (0, 0)) (zk BK263.out) hb); have n4_ := Aside0.mk (blk_below (g := gb264) (o := .cells #[.slice none 0 0, .slice none 0 0, .slice none 0 0] 28 (0, 0)) (zk BK264.out) hb); have n5_ := Aside0.mk (blk_below (g := gb275) (o := .cells #[.slice Ao35 t272.length co35, u276001, u276002] 28 (0, 0)) (zk BK275.out) hb); have n6_ := Aside0.mk (below_step (zb3 HB.out GE263.out GE264.out GE275.out) hb); clear HO_276000; clear HO_276001; clear HO_276002; clear BK263; clear BK264; clear BK275; clear HB; have HO_276000 := n0_; have HO_276001 := n1_; have HO_276002 := n2_; have BK263 := n3_; have BK264 := n4_; have BK275 := n5_; have HB := n6_; clear n0_ n1_ n2_ n3_ n4_ n5_ n6_; (try clear hb); (try clear hb2); (try clear hk); (try clear hi)))
           (try simp only [Act.put, List.setIfInBounds_toArray, List.set_cons_zero, List.set_cons_succ])
           go_cut [70] (fun v70 wc => ∃ (kq : Nat) (x70_44 : Bool), v70 = .bool x70_44 ∧ Aside0 (impl_SequenceFor.j3 kq t271 (rd_L1 l2 x47_3) t277 t278 l2 (l2.length : Int) x47_3 x70_44 a0_0 l0_1 t272 x276001_3 x276002_3 = some (r1, r2, r3, r4)) ∧ Aside0 (kq ≤ k3) ∧ Aside0 (Kd.R (Kd.int .i64) 2 wc w.heap.size (fun k_ => (w.heap.size ≤ k_)) (.slice Ao35 t272.length co35) t272) ∧ Aside0 (Kd.N (Kd.slice 2 (Kd.int .i64)) 26 wc w.heap.size (fun k_ => (P1_ k_ ∨ w.heap.size ≤ k_) ∧ some k_ ≠ ((.slice Ao35 t272.length co35) : Value).ownBlock ∧ some k_ ≠ (u276002 : Value).ownBlock ∧ k_ ≠ gb263 ∧ k_ ≠ gb264 ∧ k_ ≠ gb275) u276001 x276001_3) ∧ Aside0 (Kd.N (Kd.slice 2 (Kd.int .i64)) 26 wc w.heap.size (fun k_ => (P1_ k_ ∨ w.heap.size ≤ k_) ∧ some k_ ≠ ((.slice Ao35 t272.length co35) : Value).ownBlock ∧ some k_ ≠ (u276001 : Value).ownBlock ∧ k_ ≠ gb263 ∧ k_ ≠ gb264 ∧ k_ ≠ gb275) u276002 x276002_3) ∧ Aside0 (wc.heap[gb263]? = some (.cells #[.int .i64 a0_0, (.slice A0_1 l0_1.length c0_1)] 31 (0, 0))) ∧ Aside0 (wc.heap[gb264]? = some (.cells #[(.slice none 0 0), (.slice none 0 0), (.slice none 0 0)] 28 (0, 0))) ∧ Aside0 (wc.heap[gb275]? = some (.cells #[(.slice Ao35 t272.length co35), u276001, u276002] 28 (0, 0))) ∧ Aside0 (Below w.heap.size w wc))
           case first =>
            have H := HC45.out
            clear HC45
            by_cases c50 : t279 = true
            ·subst c50
             rw [if_pos rfl] at H
             replace H := Option.bind_eq_some_iff.mp H
             obtain ⟨t280, A510, H⟩ := H
             replace H : (impl_SequenceFor.j3 k3 t271 (rd_L1 l2 x47_3) t277 t278 l2 (l2.length : Int) x47_3 (!t280) a0_0 l0_1 t272 x276001_3 x276002_3) = some (r1, r2, r3, r4) := H
             have A51 := Aside0.mk A510
             clear A510
             have H' := Aside0.mk H
             clear H
             have hnb52 := NB263_264.out
             have hnc52 := NB264_263.out
             have hnb53 := NB263_275.out
             have hnc53 := NB275_263.out
             have hcz54_0 : w49.cell? ⟨gb263, 0, none⟩ = some (.int .i64 a0_0) := (blk_cell BK263.out 0).trans rfl
             have hcz54_1 : w49.cell? ⟨gb263, 1, none⟩ = some (.slice A0_1 l0_1.length c0_1) := (blk_cell BK263.out 1).trans rfl
             have hfz54_0 := blk_frozen BK263.out 0
             have hfz54_1 := blk_frozen BK263.out 1
             go_wp2_with (first | (go_at_call 89; (with_reducible refine (impl_Family_chained.calls k3 a0_0 _ _ l0_1 t271 x10_3 t277 t280 _ ?side1 ?side2 A51.out).mono ?_); (case side1 => exact zc (Kd.C_below HR0_1.out HB.out)); (case side2 => exact HC0_1.out); rintro e w55 ⟨rfl, hb⟩; have n0_ := Aside0.mk (Kd.R_below (zr HO_276000.out) hb); have n1_ := Aside0.mk (Kd.N_below (zn HO_276001.out) hb); have n2_ := Aside0.mk (Kd.N_below (zn HO_276002.out) hb); have n3_ := Aside0.mk (blk_below (g := gb263) (o := .cells #[.int .i64 a0_0, .slice A0_1 l0_1.length c0_1] 31 (0, 0)) (zk BK263.out) hb); have n4_ := Aside0.mk (blk_below (g := gb264) (o := .cells #[.slice none 0 0, .slice none 0 0, .slice none 0 0] 28 (0, 0)) (zk BK264.out) hb); have n5_ := Aside0.mk (blk_below (g := gb275) (o := .cells #[.slice Ao35 t272.length co35, u276001, u276002] 28 (0, 0)) (zk BK275.out) hb); have n6_ := Aside0.mk (below_step (zb3 HB.out GE263.out GE264.out GE275.out) hb); clear HO_276000; clear HO_276001; clear HO_276002; clear BK263; clear BK264; clear BK275; clear HB; have HO_276000 := n0_; have HO_276001 := n1_; have HO_276002 := n2_; have BK263 := n3_; have BK264 := n4_; have BK275 := n5_; have HB := n6_; clear n0_ n1_ n2_ n3_ n4_ n5_ n6_; (try clear hb); (try clear hb2); (try clear hk); (try clear hi)))
             go_meet
             case rel => exact ⟨_, (!t280), zt, H', ⟨by have := HJ4.out; have := HJ28.out; have := HK3.out; first | omega | exact Nat.le_refl _⟩, ⟨zr HO_276000.out⟩, ⟨zn HO_276001.out⟩, ⟨zn HO_276002.out⟩, ⟨zk BK263.out⟩, ⟨zk BK264.out⟩, ⟨zk BK275.out⟩, ⟨zb3 HB.out GE263.out GE264.out GE275.out⟩⟩
            ·replace c50 := Bool.eq_false_iff.mpr c50
             subst c50
             rw [if_neg (show ¬ (false = true) by decide)] at H
             have H' := Aside0.mk H
             clear H
             go_wp2
             go_meet
             case rel => exact ⟨_, (true), zt, H', ⟨by have := HJ4.out; have := HJ28.out; have := HK3.out; first | omega | exact Nat.le_refl _⟩, ⟨zr HO_276000.out⟩, ⟨zn HO_276001.out⟩, ⟨zn HO_276002.out⟩, ⟨zk BK263.out⟩, ⟨zk BK264.out⟩, ⟨zk BK275.out⟩, ⟨zb3 HB.out GE263.out GE264.out GE275.out⟩⟩
           case rest =>
            clear HC45
            obtain ⟨kq, x70_44, rfl, HA, HJ44, HO_276000, HO_276001, HO_276002, BK263, BK264, BK275, HB⟩ := hcut
            cases kq with
            | zero => exact absurd HA.out (by simp [impl_SequenceFor.j3])
            | succ kj44 =>
             have H := HA.out
             clear HA
             simp only [impl_SequenceFor.j3] at H
             by_cases c56 : x70_44 = true
             ·subst c56
              rw [if_pos rfl] at H
              simp only [Option.some.injEq, Prod.mk.injEq] at H
              obtain ⟨rfl, rfl, rfl, rfl⟩ := H
              have hnb57 := NB264_263.out
              have hnc57 := NB263_264.out
              have hnb58 := NB264_275.out
              have hnc58 := NB275_264.out
              have hcz59_0 : wc.cell? ⟨gb264, 0, none⟩ = some (.slice none 0 0) := (blk_cell BK264.out 0).trans rfl
              have hcz59_1 : wc.cell? ⟨gb264, 1, none⟩ = some (.slice none 0 0) := (blk_cell BK264.out 1).trans rfl
              have hcz59_2 : wc.cell? ⟨gb264, 2, none⟩ = some (.slice none 0 0) := (blk_cell BK264.out 2).trans rfl
              have hfz59_0 := blk_frozen BK264.out 0
              have hfz59_1 := blk_frozen BK264.out 1
              have hfz59_2 := blk_frozen BK264.out 2
              go_wp2
              refine bodyPost_ret (results_ct rfl _ _ gb264 28 #[.slice none 0 0, .slice none 0 0, .slice none 0 0] (0, 0) _ rfl (by (with_reducible repeat (first | refine blk_drewN ?_ _ | refine blk_drew ?_ | refine blk_alloc ?_ _)); refine blk_put (cs := #[.slice none 0 0, .slice none 0 0, .slice none 0 0]) ?_ 2 _ rfl; (with_reducible repeat (first | refine blk_drewN ?_ _ | refine blk_drew ?_ | refine blk_alloc ?_ _)); refine blk_put (cs := #[.slice none 0 0, .slice none 0 0, .slice none 0 0]) ?_ 1 _ rfl; (with_reducible repeat (first | refine blk_drewN ?_ _ | refine blk_drew ?_ | refine blk_alloc ?_ _)); refine blk_put (cs := #[.slice none 0 0, .slice none 0 0, .slice none 0 0]) ?_ 0 _ rfl; (with_reducible repeat (first | refine blk_drewN ?_ _ | refine blk_drew ?_ | refine blk_alloc ?_ _)); exact BK264.out) Try.underlying28 rfl (by kernel_rfl)) rfl ?_
              exact ⟨_, _, _, ze, by first | exact Kd.R_nil _ _ _ _ _ | exact Kd.N_nil _ _ _ _ _ | exact Kd.V_nil _ _ _ _ _ | exact Kd.Q_nil _ _ _ _ _ | exact Kd.S_nil _ _ _ _ _, by first | exact Kd.S_nil _ _ _ _ _ | exact Kd.N_nil _ _ _ _ _ | exact Kd.V_nil _ _ _ _ _ | exact Kd.Q_nil _ _ _ _ _ | exact Kd.R_nil _ _ _ _ _, by first | exact Kd.S_nil _ _ _ _ _ | exact Kd.N_nil _ _ _ _ _ | exact Kd.V_nil _ _ _ _ _ | exact Kd.Q_nil _ _ _ _ _ | exact Kd.R_nil _ _ _ _ _, zb3 HB.out GE263.out GE264.out GE275.out⟩
             ·replace c56 := Bool.eq_false_iff.mpr c56
              subst c56
              rw [if_neg (show ¬ (false = true) by decide)] at H
              replace H := Option.bind_eq_some_iff.mp H
              obtain ⟨t281, A600, H⟩ := H
              replace H : (if x276001_3.length < 5864062014805 then ((impl_crowd_group.f kj44 t278).bind fun t287 => (if x276002_3.length < 5864062014805 then (impl_SequenceFor.l0 kj44 t271 t277 l2 (l2.length : Int) (wrap64 (x47_3 + 1)) a0_0 l0_1 t272 (x276001_3 ++ [t281]) (x276002_3 ++ [t287])) else (none))) else (none)) = some (r1, r2, r3, r4) := H
              have A60 := Aside0.mk A600
              clear A600
              by_cases c61 : x276001_3.length < 5864062014805
              ·rw [if_pos c61] at H
               have LMc61 := Aside0.mk c61
               clear c61
               obtain ⟨y284, hy284⟩ : ∃ y_ : List (List Int), y_ = (x276001_3 ++ [t281]) := ⟨_, rfl⟩
               replace H : ((impl_crowd_group.f kj44 t278).bind fun t287 => (if x276002_3.length < 5864062014805 then (impl_SequenceFor.l0 kj44 t271 t277 l2 (l2.length : Int) (wrap64 (x47_3 + 1)) a0_0 l0_1 t272 y284 (x276002_3 ++ [t287])) else (none))) = some (r1, r2, r3, r4) := by first | (rw [hy284]; with_reducible exact H) | (have H2_ := (Option.bind_some _ _).symm.trans H; rw [hy284]; with_reducible exact H2_) | (have H2_ := (Option.bind_some _ _).symm.trans H; with_reducible exact H2_) | with_reducible exact H | (rw [hy284]; exact H) | exact H
               have Ny284 := Aside0.mk hy284
               clear hy284
               replace H := Option.bind_eq_some_iff.mp H
               obtain ⟨t287, A620, H⟩ := H
               replace H : (if x276002_3.length < 5864062014805 then (impl_SequenceFor.l0 kj44 t271 t277 l2 (l2.length : Int) (wrap64 (x47_3 + 1)) a0_0 l0_1 t272 y284 (x276002_3 ++ [t287])) else (none)) = some (r1, r2, r3, r4) := H
               have A62 := Aside0.mk A620
               clear A620
               by_cases c63 : x276002_3.length < 5864062014805
               ·rw [if_pos c63] at H
                have LMc63 := Aside0.mk c63
                clear c63
                obtain ⟨y290, hy290⟩ : ∃ y_ : List (List Int), y_ = (x276002_3 ++ [t287]) := ⟨_, rfl⟩
                replace H : (impl_SequenceFor.l0 kj44 t271 t277 l2 (l2.length : Int) (wrap64 (x47_3 + 1)) a0_0 l0_1 t272 y284 y290) = some (r1, r2, r3, r4) := by first | (rw [hy290]; with_reducible exact H) | (have H2_ := (Option.bind_some _ _).symm.trans H; rw [hy290]; with_reducible exact H2_) | (have H2_ := (Option.bind_some _ _).symm.trans H; with_reducible exact H2_) | with_reducible exact H | (rw [hy290]; exact H) | exact H
                have Ny290 := Aside0.mk hy290
                clear hy290
                have H' := Aside0.mk H
                clear H
                try go_wp2
                have n0_ := Aside0.mk (Kd.R_drew HO_276000.out)
                have n1_ := Aside0.mk (Kd.N_drew HO_276001.out)
                have n2_ := Aside0.mk (Kd.N_drew HO_276002.out)
                have n3_ := Aside0.mk (blk_drew BK263.out)
                have n4_ := Aside0.mk (blk_drew BK264.out)
                have n5_ := Aside0.mk (blk_drew BK275.out)
                have n6_ := Aside0.mk (below_drew1 HB.out)
                clear HO_276000
                clear HO_276001
                clear HO_276002
                clear BK263
                clear BK264
                clear BK275
                clear HB
                have HO_276000 := n0_
                have HO_276001 := n1_
                have HO_276002 := n2_
                have BK263 := n3_
                have BK264 := n4_
                have BK275 := n5_
                have HB := n6_
                clear n0_ n1_ n2_ n3_ n4_ n5_ n6_
                refine start_ (n := 8) (S := fun w' => w'.cell? ⟨gb275, 0, none⟩ = some (.slice Ao35 t272.length co35) ∧ w'.cell? ⟨gb275, 1, none⟩ = some (u276001) ∧ w'.cell? ⟨gb275, 2, none⟩ = some (u276002)) (ds := [7]) #[false,false,false,false,false,false,false,false] (by kernel_rfl) rfl rfl ⟨(blk_cell BK275.out 0).trans rfl, (blk_cell BK275.out 1).trans rfl, (blk_cell BK275.out 2).trans rfl⟩ (fun hHeld => ?_); refine with_tabW impl_SequenceFor.tab15 impl_SequenceFor.bits15 (fun HT_ HW_ => ?_)
                generalize wc.drew = w64 at HO_276000 HO_276001 HO_276002 BK263 BK264 BK275 HB hHeld ⊢
                refine pure_ (i := 0) (N := some 72) (v := ?_) (a' := ?_) #[true,false,false,false,false,false,false,false] rfl rfl (any_of HT_.out (by kernel_rfl)) (fun _ _ _ h => h) (Or.inl ⟨by rfl, ?_⟩) ?_ ?_
                rotate_left
                ·exact zw
                rotate_left
                ·exact zp
                refine pure_ (i := 2) (N := some 74) (v := ?_) (a' := ?_) #[true,false,true,false,false,false,false,false] rfl rfl (any_of HT_.out (by kernel_rfl)) (fun _ _ _ h => h) (Or.inl ⟨by rfl, ?_⟩) ?_ ?_
                rotate_left
                ·exact zw
                rotate_left
                ·exact zp
                refine take_ (i := 1) (N := some 73) (v := ?_) (a' := ?_) #[true,true,true,false,false,false,false,false] rfl rfl (take_ofW HT_.out HW_.out (by kernel_rfl)) (fun _ _ _ h => h) (Or.inl ⟨by rfl, ?_⟩) hHeld ?_ ?_
                rotate_left
                ·rintro w' ⟨s0, s1, s2⟩
                 go_simp
                 with_reducible rfl
                rotate_left
                ·exact zp
                refine one_ (i := 3) (N := some 75) #[true,true,true,true,false,false,false,false] rfl rfl (one_of HT_.out (by kernel_rfl)) (by decide) (fun K hK => ?_)
                refine goes_ Try.func87 (by kernel_rfl) rfl #[.slice A276_0 (rd_L1 l2 x47_3).length c276_0] (by rfl) rfl rfl zl ?_
                with_reducible refine (slices_Clone_int64_int64.calls _ _ (rd_L1 l2 x47_3) t281 _ ?side1 ?side2 A60.out).mono ?_
                (case side1 => exact zc (Kd.C_below HR276_0.out HB.out))
                (case side2 => exact HC276_0.out)
                rintro e w65 ⟨v282, rfl, ho0, hb⟩
                refine ⟨_, rfl, ?_⟩
                have n0_ := Aside0.mk (Kd.R_elder' (zr HO_276000.out) (Kd.R_base ho0) hb)
                have n1_ := Aside0.mk (Kd.N_elder' (zn HO_276001.out) (Kd.R_base ho0) hb)
                have n2_ := Aside0.mk (Kd.N_elder' (zn HO_276002.out) (Kd.R_base ho0) hb)
                have n3_ := Aside0.mk (Kd.R_lower (Kd.R_new' (Kd.R_newM (M := fun k_ => (w.heap.size ≤ k_)) ho0 (below_size (zb3 HB.out GE263.out GE264.out GE275.out)) (fun k_ h_ => h_)) (Kd.R_lt (zr HO_276000.out))) (below_size (zb3 HB.out GE263.out GE264.out GE275.out)))
                have n4_ := Aside0.mk (blk_below (g := gb263) (o := .cells #[.int .i64 a0_0, .slice A0_1 l0_1.length c0_1] 31 (0, 0)) (zk BK263.out) hb)
                have n5_ := Aside0.mk (blk_below (g := gb264) (o := .cells #[.slice none 0 0, .slice none 0 0, .slice none 0 0] 28 (0, 0)) (zk BK264.out) hb)
                have n6_ := Aside0.mk (blk_below (g := gb275) (o := .cells #[.slice Ao35 t272.length co35, u276001, u276002] 28 (0, 0)) (zk BK275.out) hb)
                have n7_ := Aside0.mk (below_step (zb3 HB.out GE263.out GE264.out GE275.out) hb)
                clear HO_276000
                clear HO_276001
                clear HO_276002
                clear BK263
                clear BK264
                clear BK275
                clear HB
                have HO_276000 := n0_
                have HO_276001 := n1_
                have HO_276002 := n2_
                have HO283 := n3_
                have BK263 := n4_
                have BK264 := n5_
                have BK275 := n6_
                have HB := n7_
                clear n0_ n1_ n2_ n3_ n4_ n5_ n6_ n7_
                (try clear hb)
                (try clear hb2)
                (try clear hk)
                (try clear hi)
                (try clear ho0)
                obtain ⟨Ao67, co67, eo67⟩ := Kd.R_slice HO283.out
                (first | subst eo67 | (injection eo67 with f1_ f2_ f3_; have f4_ := f1_.symm; have f5_ := f3_.symm; clear f1_ f2_ f3_; subst f4_; subst f5_))
                refine hK.out _ _ ⟨(blk_cell BK275.out 0).trans rfl, (blk_cell BK275.out 1).trans rfl, (blk_cell BK275.out 2).trans rfl⟩ (fun hHeld => ?_)
                clear hK K
                refine norm_ (a' := ?_) ?_ ?_
                rotate_left
                ·show Act.put _ (some 75) _ = _
                 simp only [Act.put, List.setIfInBounds_toArray, List.set_cons_zero, List.set_cons_succ, i64_w, i32_w]
                 rfl
                refine one_ (i := 4) (N := some 76) #[true,true,true,true,true,false,false,false] rfl rfl (one_of HT_.out (by kernel_rfl)) (by decide) (fun K hK => ?_)
                refine value_ (w1 := ?_) (v := ?_) (by rfl) rfl ?_ ?_
                rotate_left 2
                ·go_simp
                 constructor
                 ·rfl
                 ·rfl
                refine hK.out _ _ ⟨(blk_cell (blk_alloc BK275.out _) 0).trans rfl, (blk_cell (blk_alloc BK275.out _) 1).trans rfl, (blk_cell (blk_alloc BK275.out _) 2).trans rfl⟩ (fun hHeld => ?_)
                clear hK K
                refine norm_ (a' := ?_) ?_ ?_
                rotate_left
                ·show Act.put _ (some 76) _ = _
                 simp only [Act.put, List.setIfInBounds_toArray, List.set_cons_zero, List.set_cons_succ, i64_w, i32_w]
                 rfl
                refine one_ (i := 5) (N := some 77) #[true,true,true,true,true,true,false,false] rfl rfl (one_of HT_.out (by kernel_rfl)) (by decide) (fun K hK => ?_)
                refine Kd.N_append_step (Kd.slice 2 (Kd.int .i64)) (w0 := w) w.heap.size (by rfl) (.tmp 73) (.tmp 76) 22 26 (.slice none 0 0) 24 rfl Try.underlying22 info26 rfl (by decide) (by omega) u276001 x276001_3 t281 [.slice Ao67 t281.length co67] (fun k_ => (P1_ k_ ∨ w.heap.size ≤ k_) ∧ some k_ ≠ (.slice Ao35 t272.length co35 : Value).ownBlock ∧ some k_ ≠ (u276002 : Value).ownBlock ∧ k_ ≠ gb263 ∧ k_ ≠ gb264 ∧ k_ ≠ gb275) (fun k_ => ((fun k_ => (P1_ k_ ∨ w.heap.size ≤ k_) ∧ some k_ ≠ (.slice Ao35 t272.length co35 : Value).ownBlock ∧ some k_ ≠ (u276002 : Value).ownBlock ∧ k_ ≠ gb263 ∧ k_ ≠ gb264 ∧ k_ ≠ gb275)) k_ ∧ some k_ ≠ (u276001 : Value).ownBlock) rfl rfl ?aP (fun _ hk => hk) ?aF ?aO ?aB ?aS ?aL ?_
                (case aP => exact (Kd.FK_slice_mk (Kd.R_reads' (Kd.R_mono (ok' := (fun k_ => ((fun k_ => (P1_ k_ ∨ w.heap.size ≤ k_) ∧ some k_ ≠ (.slice Ao35 t272.length co35 : Value).ownBlock ∧ some k_ ≠ (u276002 : Value).ownBlock ∧ k_ ≠ gb263 ∧ k_ ≠ gb264 ∧ k_ ≠ gb275)) k_ ∧ some k_ ≠ (u276001 : Value).ownBlock)) (Kd.R_types (Kd.R_types (Kd.R_types (Kd.R_apart' (Kd.R_apart' (HO283.out) (Kd.N_typed HO_276002.out) (by decide)) (Kd.N_typed HO_276001.out) (by decide)) BK263.out (by decide)) BK264.out (by decide)) BK275.out (by decide)) (fun k_ hk => ⟨⟨(.inr (hk.1.1.1.1.1.1.1)), ⟨hk.1.1.1.1.1.2, ⟨hk.1.1.1.1.2, ⟨hk.1.1.2, ⟨hk.1.2, hk.2⟩⟩⟩⟩⟩, hk.1.1.1.2⟩))).2.1 (Kd.R_F (Kd.R_mono (ok' := (fun k_ => ((fun k_ => (P1_ k_ ∨ w.heap.size ≤ k_) ∧ some k_ ≠ (.slice Ao35 t272.length co35 : Value).ownBlock ∧ some k_ ≠ (u276002 : Value).ownBlock ∧ k_ ≠ gb263 ∧ k_ ≠ gb264 ∧ k_ ≠ gb275)) k_ ∧ some k_ ≠ (u276001 : Value).ownBlock)) (Kd.R_types (Kd.R_types (Kd.R_types (Kd.R_apart' (Kd.R_apart' (HO283.out) (Kd.N_typed HO_276002.out) (by decide)) (Kd.N_typed HO_276001.out) (by decide)) BK263.out (by decide)) BK264.out (by decide)) BK275.out (by decide)) (fun k_ hk => ⟨⟨(.inr (hk.1.1.1.1.1.1.1)), ⟨hk.1.1.1.1.1.2, ⟨hk.1.1.1.1.2, ⟨hk.1.1.2, ⟨hk.1.2, hk.2⟩⟩⟩⟩⟩, hk.1.1.1.2⟩)))))
                (case aB => exact (zb3 HB.out GE263.out GE264.out GE275.out))
                (case aF => exact (fun k_ hk => ⟨(.inr (Nat.le_trans (below_size (zb3 HB.out GE263.out GE264.out GE275.out)) hk)), Kd.fresh' (Kd.R_lt (zr HO_276000.out)) k_ hk, Kd.fresh' (Kd.N_lt (zn HO_276002.out)) k_ hk, Kd.freshB (g := gb263) (o := .cells #[.int .i64 a0_0, .slice A0_1 l0_1.length c0_1] 31 (0, 0)) (zk BK263.out) k_ hk, Kd.freshB (g := gb264) (o := .cells #[.slice none 0 0, .slice none 0 0, .slice none 0 0] 28 (0, 0)) (zk BK264.out) k_ hk, Kd.freshB (g := gb275) (o := .cells #[.slice Ao35 t272.length co35, u276001, u276002] 28 (0, 0)) (zk BK275.out) k_ hk⟩))
                (case aO => exact (by (with_reducible repeat (first | apply Kd.N_alloc | apply Kd.N_drewN | apply Kd.N_drew)); exact Kd.N_mono HO_276001.out (fun _ hk => ⟨hk.1.1, ⟨hk.1.2.1, ⟨hk.1.2.2.1, ⟨hk.1.2.2.2.1, ⟨hk.1.2.2.2.2.1, hk.1.2.2.2.2.2⟩⟩⟩⟩⟩)))
                (case aS => exact (below_size (zb3 HB.out GE263.out GE264.out GE275.out)))
                (case aL => have := LMc61.out; omega)
                intro v285 w66 ho hb hg hat
                rw [← Ny284.out] at ho
                have n0_ := Aside0.mk (Kd.R_over' (zr HO_276000.out) (Kd.N_typed (zn HO_276001.out)) (by decide) hg)
                have n1_ := Aside0.mk (Kd.N_afterv (ok := (fun k_ => (P1_ k_ ∨ w.heap.size ≤ k_) ∧ some k_ ≠ (.slice Ao35 t272.length co35 : Value).ownBlock ∧ some k_ ≠ (.slice Ao67 t281.length co67 : Value).ownBlock ∧ k_ ≠ gb263 ∧ k_ ≠ gb264 ∧ k_ ≠ gb275)) (by (with_reducible repeat (first | apply Kd.N_alloc | apply Kd.N_drewN | apply Kd.N_drew)); exact Kd.N_mono HO_276002.out (fun _ hk => ⟨⟨hk.1.1, ⟨hk.1.2.1, ⟨hk.2, ⟨hk.1.2.2.2.1, ⟨hk.1.2.2.2.2.1, hk.1.2.2.2.2.2⟩⟩⟩⟩⟩, hk.1.2.2.1⟩)) hg hat)
                have n2_ := Aside0.mk (blk_grown (g := gb263) (o := .cells #[.int .i64 a0_0, .slice A0_1 l0_1.length c0_1] 31 (0, 0)) (zk BK263.out) hg (Kd.N_ne HO_276001.out BK263.out (by decide)))
                have n3_ := Aside0.mk (blk_grown (g := gb264) (o := .cells #[.slice none 0 0, .slice none 0 0, .slice none 0 0] 28 (0, 0)) (zk BK264.out) hg (Kd.N_ne HO_276001.out BK264.out (by decide)))
                have n4_ := Aside0.mk (blk_grown (g := gb275) (o := .cells #[.slice Ao35 t272.length co35, u276001, u276002] 28 (0, 0)) (zk BK275.out) hg (Kd.N_ne HO_276001.out BK275.out (by decide)))
                have n5_ := Aside0.mk (hb)
                have n6_ := Aside0.mk (ho)
                clear HO_276000
                clear HO_276002
                clear BK263
                clear BK264
                clear BK275
                clear HB
                clear HO_276001
                clear HO283
                have HO_276000 := n0_
                have HO_276002 := n1_
                have BK263 := n2_
                have BK264 := n3_
                have BK275 := n4_
                have HB := n5_
                have HO286 := n6_
                clear n0_ n1_ n2_ n3_ n4_ n5_ n6_
                clear ho hb hg hat
                obtain ⟨Ao68, co68, eo68⟩ := Kd.N_slice HO286.out
                (first | subst eo68 | (injection eo68 with f1_ f2_ f3_; have f4_ := f1_.symm; have f5_ := f3_.symm; clear f1_ f2_ f3_; subst f4_; subst f5_))
                refine hK.out _ _ ⟨(blk_cell BK275.out 0).trans rfl, (blk_cell BK275.out 1).trans rfl, (blk_cell BK275.out 2).trans rfl⟩ (fun hHeld => ?_)
                clear hK K
                refine norm_ (a' := ?_) ?_ ?_
                rotate_left
                ·show Act.put _ (some 77) _ = _
                 simp only [Act.put, List.setIfInBounds_toArray, List.set_cons_zero, List.set_cons_succ, i64_w, i32_w]
                 rfl
                refine pure_ (i := 6) (N := some 78) (v := ?_) (a' := ?_) #[true,true,true,true,true,true,true,false] rfl rfl (any_of HT_.out (by kernel_rfl)) (fun _ _ _ h => h) (Or.inl ⟨by rfl, ?_⟩) ?_ ?_
                rotate_left
                ·exact zw
                rotate_left
                ·exact zp
                refine last_ (i := 7) (N := none) #[true,true,true,true,true,true,true,true] rfl rfl (one_of HT_.out (by kernel_rfl)) (by decide) (fun K hK => ?_)
                have hs69 : w66.cell? ⟨gb275, 1, none⟩ = some (u276001) := (blk_cell BK275.out 1).trans rfl
                have hfs69 := blk_frozen BK275.out 1
                have hns69_0 := NB263_275.out
                have hns69_1 := NB264_275.out
                have hms69_0 := NB275_263.out
                have hms69_1 := NB275_264.out
                refine skip_ (w1 := ?_) (by rfl) rfl ?_ ?_
                rotate_left
                ·go_simp
                 rfl
                refine hK.out _ _ ?_
                clear hK K
                refine done_ (done_of HT_.out (by kernel_rfl)) ?_
                try go_wp2
                have n0_ : Aside0 (Kd.R (Kd.int .i64) 2 (w66.setCell ⟨gb275, 1, none⟩ (.slice Ao68 y284.length co68)) w.heap.size (fun k_ => (w.heap.size ≤ k_)) (.slice Ao35 t272.length co35) t272) := ⟨by (with_reducible repeat (first | apply Kd.R_alloc | apply Kd.R_drewN | apply Kd.R_drew)); exact Kd.R_mono (Kd.R_far (p := ⟨gb275, 1, none⟩) (Kd.R_types HO_276000.out BK275.out (by decide)) (fun _ hk => hk.2) (.slice Ao68 y284.length co68)) (fun _ hk => hk.1.1)⟩
                have n1_ : Aside0 (Kd.N (Kd.slice 2 (Kd.int .i64)) 26 (w66.setCell ⟨gb275, 1, none⟩ (.slice Ao68 y284.length co68)) w.heap.size (fun k_ => (P1_ k_ ∨ w.heap.size ≤ k_) ∧ some k_ ≠ (.slice Ao35 t272.length co35 : Value).ownBlock ∧ some k_ ≠ (.slice Ao68 y284.length co68 : Value).ownBlock ∧ k_ ≠ gb263 ∧ k_ ≠ gb264 ∧ k_ ≠ gb275) u276002 x276002_3) := ⟨by (with_reducible repeat (first | apply Kd.N_alloc | apply Kd.N_drewN | apply Kd.N_drew)); exact Kd.N_mono (Kd.N_far (p := ⟨gb275, 1, none⟩) (Kd.N_mono HO_276002.out (fun k_ hk => (⟨hk, hk.1.2.2.2.2.2⟩ : _ ∧ k_ ≠ gb275))) (fun _ hk => hk.2) (.slice Ao68 y284.length co68)) (fun _ hk => ⟨hk.1.1.1, ⟨hk.1.1.2.1, ⟨hk.1.2, ⟨hk.1.1.2.2.2.1, ⟨hk.1.1.2.2.2.2.1, hk.1.1.2.2.2.2.2⟩⟩⟩⟩⟩)⟩
                have n2_ : Aside0 (Kd.N (Kd.slice 2 (Kd.int .i64)) 26 (w66.setCell ⟨gb275, 1, none⟩ (.slice Ao68 y284.length co68)) w.heap.size (fun k_ => (P1_ k_ ∨ w.heap.size ≤ k_) ∧ some k_ ≠ (.slice Ao35 t272.length co35 : Value).ownBlock ∧ some k_ ≠ (u276002 : Value).ownBlock ∧ k_ ≠ gb263 ∧ k_ ≠ gb264 ∧ k_ ≠ gb275) (.slice Ao68 y284.length co68) y284) := ⟨by (with_reducible repeat (first | apply Kd.N_alloc | apply Kd.N_drewN | apply Kd.N_drew)); exact Kd.N_mono (Kd.N_far (p := ⟨gb275, 1, none⟩) (Kd.N_mono HO286.out (fun k_ hk => (⟨hk, hk.2.2.2.2.2⟩ : _ ∧ k_ ≠ gb275))) (fun _ hk => hk.2) (.slice Ao68 y284.length co68)) (fun _ hk => ⟨hk.1.1, ⟨hk.1.2.1, ⟨hk.1.2.2.1, ⟨hk.1.2.2.2.1, ⟨hk.1.2.2.2.2.1, hk.1.2.2.2.2.2⟩⟩⟩⟩⟩)⟩
                have n3_ : Aside0 ((w66.setCell ⟨gb275, 1, none⟩ (.slice Ao68 y284.length co68)).heap[gb263]? = some (.cells #[.int .i64 a0_0, .slice A0_1 l0_1.length c0_1] 31 (0, 0))) := ⟨by (with_reducible repeat (first | refine blk_drewN ?_ _ | refine blk_drew ?_ | refine blk_alloc ?_ _)); refine blk_far ?_ NB263_275.out _; (with_reducible repeat (first | refine blk_drewN ?_ _ | refine blk_drew ?_ | refine blk_alloc ?_ _)); exact BK263.out⟩
                have n4_ : Aside0 ((w66.setCell ⟨gb275, 1, none⟩ (.slice Ao68 y284.length co68)).heap[gb264]? = some (.cells #[.slice none 0 0, .slice none 0 0, .slice none 0 0] 28 (0, 0))) := ⟨by (with_reducible repeat (first | refine blk_drewN ?_ _ | refine blk_drew ?_ | refine blk_alloc ?_ _)); refine blk_far ?_ NB264_275.out _; (with_reducible repeat (first | refine blk_drewN ?_ _ | refine blk_drew ?_ | refine blk_alloc ?_ _)); exact BK264.out⟩
                have n5_ : Aside0 ((w66.setCell ⟨gb275, 1, none⟩ (.slice Ao68 y284.length co68)).heap[gb275]? = some (.cells #[.slice Ao35 t272.length co35, .slice Ao68 y284.length co68, u276002] 28 (0, 0))) := ⟨by (with_reducible repeat (first | refine blk_drewN ?_ _ | refine blk_drew ?_ | refine blk_alloc ?_ _)); refine blk_put (cs := #[.slice Ao35 t272.length co35, u276001, u276002]) ?_ 1 _ rfl; (with_reducible repeat (first | refine blk_drewN ?_ _ | refine blk_drew ?_ | refine blk_alloc ?_ _)); exact BK275.out⟩
                have n6_ : Aside0 (Below w.heap.size w (w66.setCell ⟨gb275, 1, none⟩ (.slice Ao68 y284.length co68))) := ⟨zb3 HB.out GE263.out GE264.out GE275.out⟩
                (try clear HO_276000)
                (try clear HO_276002)
                (try clear HO286)
                (try clear BK263)
                (try clear BK264)
                (try clear BK275)
                (try clear HB)
                generalize (w66.setCell ⟨gb275, 1, none⟩ (.slice Ao68 y284.length co68)) = w70 at n0_ n1_ n2_ n3_ n4_ n5_ n6_ ⊢
                have HO_276000 := n0_
                have HO_276002 := n1_
                have HO286 := n2_
                have BK263 := n3_
                have BK264 := n4_
                have BK275 := n5_
                have HB := n6_
                clear n0_ n1_ n2_ n3_ n4_ n5_ n6_
                have n0_ := Aside0.mk (Kd.R_drew HO_276000.out)
                have n1_ := Aside0.mk (Kd.N_drew HO_276002.out)
                have n2_ := Aside0.mk (Kd.N_drew HO286.out)
                have n3_ := Aside0.mk (blk_drew BK263.out)
                have n4_ := Aside0.mk (blk_drew BK264.out)
                have n5_ := Aside0.mk (blk_drew BK275.out)
                have n6_ := Aside0.mk (below_drew1 HB.out)
                clear HO_276000
                clear HO_276002
                clear HO286
                clear BK263
                clear BK264
                clear BK275
                clear HB
                have HO_276000 := n0_
                have HO_276002 := n1_
                have HO286 := n2_
                have BK263 := n3_
                have BK264 := n4_
                have BK275 := n5_
                have HB := n6_
                clear n0_ n1_ n2_ n3_ n4_ n5_ n6_
                refine start_ (n := 8) (S := fun w' => w'.cell? ⟨gb275, 0, none⟩ = some (.slice Ao35 t272.length co35) ∧ w'.cell? ⟨gb275, 1, none⟩ = some (.slice Ao68 y284.length co68) ∧ w'.cell? ⟨gb275, 2, none⟩ = some (u276002)) (ds := [7]) #[false,false,false,false,false,false,false,false] (by kernel_rfl) rfl rfl ⟨(blk_cell BK275.out 0).trans rfl, (blk_cell BK275.out 1).trans rfl, (blk_cell BK275.out 2).trans rfl⟩ (fun hHeld => ?_); refine with_tabW impl_SequenceFor.tab16 impl_SequenceFor.bits16 (fun HT_ HW_ => ?_)
                generalize w70.drew = w71 at HO_276000 HO_276002 HO286 BK263 BK264 BK275 HB hHeld ⊢
                refine pure_ (i := 0) (N := some 79) (v := ?_) (a' := ?_) #[true,false,false,false,false,false,false,false] rfl rfl (any_of HT_.out (by kernel_rfl)) (fun _ _ _ h => h) (Or.inl ⟨by rfl, ?_⟩) ?_ ?_
                rotate_left
                ·exact zw
                rotate_left
                ·exact zp
                refine pure_ (i := 2) (N := some 81) (v := ?_) (a' := ?_) #[true,false,true,false,false,false,false,false] rfl rfl (any_of HT_.out (by kernel_rfl)) (fun _ _ _ h => h) (Or.inl ⟨by rfl, ?_⟩) ?_ ?_
                rotate_left
                ·exact zw
                rotate_left
                ·exact zp
                refine take_ (i := 1) (N := some 80) (v := ?_) (a' := ?_) #[true,true,true,false,false,false,false,false] rfl rfl (take_ofW HT_.out HW_.out (by kernel_rfl)) (fun _ _ _ h => h) (Or.inl ⟨by rfl, ?_⟩) hHeld ?_ ?_
                rotate_left
                ·rintro w' ⟨s0, s1, s2⟩
                 go_simp
                 with_reducible rfl
                rotate_left
                ·exact zp
                refine one_ (i := 3) (N := some 82) #[true,true,true,true,false,false,false,false] rfl rfl (one_of HT_.out (by kernel_rfl)) (by decide) (fun K hK => ?_)
                refine goes_ Try.func78 (by kernel_rfl) rfl #[.int .u64 t278] (by rfl) rfl rfl zl ?_
                with_reducible refine (impl_crowd_group.calls kj44 t278 t287 _ A62.out).mono ?_
                rintro e w72 ⟨v288, rfl, ho0, hb⟩
                refine ⟨_, rfl, ?_⟩
                have n0_ := Aside0.mk (Kd.R_elder' (zr HO_276000.out) (Kd.R_base ho0) hb)
                have n1_ := Aside0.mk (Kd.N_elder' (zn HO_276002.out) (Kd.R_base ho0) hb)
                have n2_ := Aside0.mk (Kd.N_elder' (zn HO286.out) (Kd.R_base ho0) hb)
                have n3_ := Aside0.mk (Kd.R_lower (Kd.R_new' (Kd.R_newM (M := fun k_ => (w.heap.size ≤ k_)) ho0 (below_size (zb3 HB.out GE263.out GE264.out GE275.out)) (fun k_ h_ => h_)) (Kd.R_lt (zr HO_276000.out))) (below_size (zb3 HB.out GE263.out GE264.out GE275.out)))
                have n4_ := Aside0.mk (blk_below (g := gb263) (o := .cells #[.int .i64 a0_0, .slice A0_1 l0_1.length c0_1] 31 (0, 0)) (zk BK263.out) hb)
                have n5_ := Aside0.mk (blk_below (g := gb264) (o := .cells #[.slice none 0 0, .slice none 0 0, .slice none 0 0] 28 (0, 0)) (zk BK264.out) hb)
                have n6_ := Aside0.mk (blk_below (g := gb275) (o := .cells #[.slice Ao35 t272.length co35, .slice Ao68 y284.length co68, u276002] 28 (0, 0)) (zk BK275.out) hb)
                have n7_ := Aside0.mk (below_step (zb3 HB.out GE263.out GE264.out GE275.out) hb)
                clear HO_276000
                clear HO_276002
                clear HO286
                clear BK263
                clear BK264
                clear BK275
                clear HB
                have HO_276000 := n0_
                have HO_276002 := n1_
                have HO286 := n2_
                have HO289 := n3_
                have BK263 := n4_
                have BK264 := n5_
                have BK275 := n6_
                have HB := n7_
                clear n0_ n1_ n2_ n3_ n4_ n5_ n6_ n7_
                (try clear hb)
                (try clear hb2)
                (try clear hk)
                (try clear hi)
                (try clear ho0)
                obtain ⟨Ao74, co74, eo74⟩ := Kd.R_slice HO289.out
                (first | subst eo74 | (injection eo74 with f1_ f2_ f3_; have f4_ := f1_.symm; have f5_ := f3_.symm; clear f1_ f2_ f3_; subst f4_; subst f5_))
                refine hK.out _ _ ⟨(blk_cell BK275.out 0).trans rfl, (blk_cell BK275.out 1).trans rfl, (blk_cell BK275.out 2).trans rfl⟩ (fun hHeld => ?_)
                clear hK K
                refine norm_ (a' := ?_) ?_ ?_
                rotate_left
                ·show Act.put _ (some 82) _ = _
                 simp only [Act.put, List.setIfInBounds_toArray, List.set_cons_zero, List.set_cons_succ, i64_w, i32_w]
                 rfl
                refine one_ (i := 4) (N := some 83) #[true,true,true,true,true,false,false,false] rfl rfl (one_of HT_.out (by kernel_rfl)) (by decide) (fun K hK => ?_)
                refine value_ (w1 := ?_) (v := ?_) (by rfl) rfl ?_ ?_
                rotate_left 2
                ·go_simp
                 constructor
                 ·rfl
                 ·rfl
                refine hK.out _ _ ⟨(blk_cell (blk_alloc BK275.out _) 0).trans rfl, (blk_cell (blk_alloc BK275.out _) 1).trans rfl, (blk_cell (blk_alloc BK275.out _) 2).trans rfl⟩ (fun hHeld => ?_)
                clear hK K
                refine norm_ (a' := ?_) ?_ ?_
                rotate_left
                ·show Act.put _ (some 83) _ = _
                 simp only [Act.put, List.setIfInBounds_toArray, List.set_cons_zero, List.set_cons_succ, i64_w, i32_w]
                 rfl
                refine one_ (i := 5) (N := some 84) #[true,true,true,true,true,true,false,false] rfl rfl (one_of HT_.out (by kernel_rfl)) (by decide) (fun K hK => ?_)
                refine Kd.N_append_step (Kd.slice 2 (Kd.int .i64)) (w0 := w) w.heap.size (by rfl) (.tmp 80) (.tmp 83) 22 26 (.slice none 0 0) 24 rfl Try.underlying22 info26 rfl (by decide) (by omega) u276002 x276002_3 t287 [.slice Ao74 t287.length co74] (fun k_ => (P1_ k_ ∨ w.heap.size ≤ k_) ∧ some k_ ≠ (.slice Ao35 t272.length co35 : Value).ownBlock ∧ some k_ ≠ (.slice Ao68 y284.length co68 : Value).ownBlock ∧ k_ ≠ gb263 ∧ k_ ≠ gb264 ∧ k_ ≠ gb275) (fun k_ => ((fun k_ => (P1_ k_ ∨ w.heap.size ≤ k_) ∧ some k_ ≠ (.slice Ao35 t272.length co35 : Value).ownBlock ∧ some k_ ≠ (.slice Ao68 y284.length co68 : Value).ownBlock ∧ k_ ≠ gb263 ∧ k_ ≠ gb264 ∧ k_ ≠ gb275)) k_ ∧ some k_ ≠ (u276002 : Value).ownBlock) rfl rfl ?aP (fun _ hk => hk) ?aF ?aO ?aB ?aS ?aL ?_
                (case aP => exact (Kd.FK_slice_mk (Kd.R_reads' (Kd.R_mono (ok' := (fun k_ => ((fun k_ => (P1_ k_ ∨ w.heap.size ≤ k_) ∧ some k_ ≠ (.slice Ao35 t272.length co35 : Value).ownBlock ∧ some k_ ≠ (.slice Ao68 y284.length co68 : Value).ownBlock ∧ k_ ≠ gb263 ∧ k_ ≠ gb264 ∧ k_ ≠ gb275)) k_ ∧ some k_ ≠ (u276002 : Value).ownBlock)) (Kd.R_types (Kd.R_types (Kd.R_types (Kd.R_apart' (Kd.R_apart' (HO289.out) (Kd.N_typed HO286.out) (by decide)) (Kd.N_typed HO_276002.out) (by decide)) BK263.out (by decide)) BK264.out (by decide)) BK275.out (by decide)) (fun k_ hk => ⟨⟨(.inr (hk.1.1.1.1.1.1.1)), ⟨hk.1.1.1.1.1.2, ⟨hk.1.1.1.1.2, ⟨hk.1.1.2, ⟨hk.1.2, hk.2⟩⟩⟩⟩⟩, hk.1.1.1.2⟩))).2.1 (Kd.R_F (Kd.R_mono (ok' := (fun k_ => ((fun k_ => (P1_ k_ ∨ w.heap.size ≤ k_) ∧ some k_ ≠ (.slice Ao35 t272.length co35 : Value).ownBlock ∧ some k_ ≠ (.slice Ao68 y284.length co68 : Value).ownBlock ∧ k_ ≠ gb263 ∧ k_ ≠ gb264 ∧ k_ ≠ gb275)) k_ ∧ some k_ ≠ (u276002 : Value).ownBlock)) (Kd.R_types (Kd.R_types (Kd.R_types (Kd.R_apart' (Kd.R_apart' (HO289.out) (Kd.N_typed HO286.out) (by decide)) (Kd.N_typed HO_276002.out) (by decide)) BK263.out (by decide)) BK264.out (by decide)) BK275.out (by decide)) (fun k_ hk => ⟨⟨(.inr (hk.1.1.1.1.1.1.1)), ⟨hk.1.1.1.1.1.2, ⟨hk.1.1.1.1.2, ⟨hk.1.1.2, ⟨hk.1.2, hk.2⟩⟩⟩⟩⟩, hk.1.1.1.2⟩)))))
                (case aB => exact (zb3 HB.out GE263.out GE264.out GE275.out))
                (case aF => exact (fun k_ hk => ⟨(.inr (Nat.le_trans (below_size (zb3 HB.out GE263.out GE264.out GE275.out)) hk)), Kd.fresh' (Kd.R_lt (zr HO_276000.out)) k_ hk, Kd.fresh' (Kd.N_lt (zn HO286.out)) k_ hk, Kd.freshB (g := gb263) (o := .cells #[.int .i64 a0_0, .slice A0_1 l0_1.length c0_1] 31 (0, 0)) (zk BK263.out) k_ hk, Kd.freshB (g := gb264) (o := .cells #[.slice none 0 0, .slice none 0 0, .slice none 0 0] 28 (0, 0)) (zk BK264.out) k_ hk, Kd.freshB (g := gb275) (o := .cells #[.slice Ao35 t272.length co35, .slice Ao68 y284.length co68, u276002] 28 (0, 0)) (zk BK275.out) k_ hk⟩))
                (case aO => exact (by (with_reducible repeat (first | apply Kd.N_alloc | apply Kd.N_drewN | apply Kd.N_drew)); exact Kd.N_mono HO_276002.out (fun _ hk => ⟨hk.1.1, ⟨hk.1.2.1, ⟨hk.1.2.2.1, ⟨hk.1.2.2.2.1, ⟨hk.1.2.2.2.2.1, hk.1.2.2.2.2.2⟩⟩⟩⟩⟩)))
                (case aS => exact (below_size (zb3 HB.out GE263.out GE264.out GE275.out)))
                (case aL => have := LMc63.out; omega)
                intro v291 w73 ho hb hg hat
                rw [← Ny290.out] at ho
                have n0_ := Aside0.mk (Kd.R_over' (zr HO_276000.out) (Kd.N_typed (zn HO_276002.out)) (by decide) hg)
                have n1_ := Aside0.mk (blk_grown (g := gb263) (o := .cells #[.int .i64 a0_0, .slice A0_1 l0_1.length c0_1] 31 (0, 0)) (zk BK263.out) hg (Kd.N_ne HO_276002.out BK263.out (by decide)))
                have n2_ := Aside0.mk (blk_grown (g := gb264) (o := .cells #[.slice none 0 0, .slice none 0 0, .slice none 0 0] 28 (0, 0)) (zk BK264.out) hg (Kd.N_ne HO_276002.out BK264.out (by decide)))
                have n3_ := Aside0.mk (blk_grown (g := gb275) (o := .cells #[.slice Ao35 t272.length co35, .slice Ao68 y284.length co68, u276002] 28 (0, 0)) (zk BK275.out) hg (Kd.N_ne HO_276002.out BK275.out (by decide)))
                have n4_ := Aside0.mk (Kd.N_afterv (ok := (fun k_ => (P1_ k_ ∨ w.heap.size ≤ k_) ∧ some k_ ≠ (.slice Ao35 t272.length co35 : Value).ownBlock ∧ some k_ ≠ (.slice Ao74 t287.length co74 : Value).ownBlock ∧ k_ ≠ gb263 ∧ k_ ≠ gb264 ∧ k_ ≠ gb275)) (by (with_reducible repeat (first | apply Kd.N_alloc | apply Kd.N_drewN | apply Kd.N_drew)); exact Kd.N_mono HO286.out (fun _ hk => ⟨⟨hk.1.1, ⟨hk.1.2.1, ⟨hk.2, ⟨hk.1.2.2.2.1, ⟨hk.1.2.2.2.2.1, hk.1.2.2.2.2.2⟩⟩⟩⟩⟩, hk.1.2.2.1⟩)) hg hat)
                have n5_ := Aside0.mk (hb)
                have n6_ := Aside0.mk (ho)
                clear HO_276000
                clear BK263
                clear BK264
                clear BK275
                clear HO286
                clear HB
                clear HO_276002
                clear HO289
                have HO_276000 := n0_
                have BK263 := n1_
                have BK264 := n2_
                have BK275 := n3_
                have HO286 := n4_
                have HB := n5_
                have HO292 := n6_
                clear n0_ n1_ n2_ n3_ n4_ n5_ n6_
                clear ho hb hg hat
                obtain ⟨Ao75, co75, eo75⟩ := Kd.N_slice HO292.out
                (first | subst eo75 | (injection eo75 with f1_ f2_ f3_; have f4_ := f1_.symm; have f5_ := f3_.symm; clear f1_ f2_ f3_; subst f4_; subst f5_))
                refine hK.out _ _ ⟨(blk_cell BK275.out 0).trans rfl, (blk_cell BK275.out 1).trans rfl, (blk_cell BK275.out 2).trans rfl⟩ (fun hHeld => ?_)
                clear hK K
                refine norm_ (a' := ?_) ?_ ?_
                rotate_left
                ·show Act.put _ (some 84) _ = _
                 simp only [Act.put, List.setIfInBounds_toArray, List.set_cons_zero, List.set_cons_succ, i64_w, i32_w]
                 rfl
                refine pure_ (i := 6) (N := some 85) (v := ?_) (a' := ?_) #[true,true,true,true,true,true,true,false] rfl rfl (any_of HT_.out (by kernel_rfl)) (fun _ _ _ h => h) (Or.inl ⟨by rfl, ?_⟩) ?_ ?_
                rotate_left
                ·exact zw
                rotate_left
                ·exact zp
                refine last_ (i := 7) (N := none) #[true,true,true,true,true,true,true,true] rfl rfl (one_of HT_.out (by kernel_rfl)) (by decide) (fun K hK => ?_)
                have hs76 : w73.cell? ⟨gb275, 2, none⟩ = some (u276002) := (blk_cell BK275.out 2).trans rfl
                have hfs76 := blk_frozen BK275.out 2
                have hns76_0 := NB263_275.out
                have hns76_1 := NB264_275.out
                have hms76_0 := NB275_263.out
                have hms76_1 := NB275_264.out
                refine skip_ (w1 := ?_) (by rfl) rfl ?_ ?_
                rotate_left
                ·go_simp
                 rfl
                refine hK.out _ _ ?_
                clear hK K
                refine done_ (done_of HT_.out (by kernel_rfl)) ?_
                try go_wp2
                go_roundg kj44
                case measure => have := HJ4.out; have := HJ28.out; have := HK3.out; have := HJ44.out; omega
                case rel => exact ⟨(t277), (wrap64 (x47_3 + 1)), (y284), (y290), (.slice Ao68 y284.length co68), (.slice Ao75 y290.length co75), zt, zt, H', ⟨by have := HJ4.out; have := HJ28.out; have := HK3.out; have := HJ44.out; omega⟩, ⟨by (with_reducible repeat (first | apply Kd.R_alloc | apply Kd.R_drewN | apply Kd.R_drew)); exact Kd.R_mono (Kd.R_far (p := ⟨gb275, 2, none⟩) (Kd.R_types HO_276000.out BK275.out (by decide)) (fun _ hk => hk.2) (.slice Ao75 y290.length co75)) (fun _ hk => hk.1.1)⟩, ⟨by (with_reducible repeat (first | apply Kd.N_alloc | apply Kd.N_drewN | apply Kd.N_drew)); exact Kd.N_mono (Kd.N_far (p := ⟨gb275, 2, none⟩) (Kd.N_mono HO286.out (fun k_ hk => (⟨hk, hk.1.2.2.2.2.2⟩ : _ ∧ k_ ≠ gb275))) (fun _ hk => hk.2) (.slice Ao75 y290.length co75)) (fun _ hk => ⟨hk.1.1.1, ⟨hk.1.1.2.1, ⟨hk.1.2, ⟨hk.1.1.2.2.2.1, ⟨hk.1.1.2.2.2.2.1, hk.1.1.2.2.2.2.2⟩⟩⟩⟩⟩)⟩, ⟨by (with_reducible repeat (first | apply Kd.N_alloc | apply Kd.N_drewN | apply Kd.N_drew)); exact Kd.N_mono (Kd.N_far (p := ⟨gb275, 2, none⟩) (Kd.N_mono HO292.out (fun k_ hk => (⟨hk, hk.2.2.2.2.2⟩ : _ ∧ k_ ≠ gb275))) (fun _ hk => hk.2) (.slice Ao75 y290.length co75)) (fun _ hk => ⟨hk.1.1, ⟨hk.1.2.1, ⟨hk.1.2.2.1, ⟨hk.1.2.2.2.1, ⟨hk.1.2.2.2.2.1, hk.1.2.2.2.2.2⟩⟩⟩⟩⟩)⟩, ⟨by (with_reducible repeat (first | refine blk_drewN ?_ _ | refine blk_drew ?_ | refine blk_alloc ?_ _)); refine blk_far ?_ NB263_275.out _; (with_reducible repeat (first | refine blk_drewN ?_ _ | refine blk_drew ?_ | refine blk_alloc ?_ _)); exact BK263.out⟩, ⟨by (with_reducible repeat (first | refine blk_drewN ?_ _ | refine blk_drew ?_ | refine blk_alloc ?_ _)); refine blk_far ?_ NB264_275.out _; (with_reducible repeat (first | refine blk_drewN ?_ _ | refine blk_drew ?_ | refine blk_alloc ?_ _)); exact BK264.out⟩, ⟨by (with_reducible repeat (first | refine blk_drewN ?_ _ | refine blk_drew ?_ | refine blk_alloc ?_ _)); refine blk_put (cs := #[.slice Ao35 t272.length co35, .slice Ao68 y284.length co68, u276002]) ?_ 2 _ rfl; (with_reducible repeat (first | refine blk_drewN ?_ _ | refine blk_drew ?_ | refine blk_alloc ?_ _)); exact BK275.out⟩, ⟨zb3 HB.out GE263.out GE264.out GE275.out⟩⟩
               ·rw [if_neg c63] at H
                exact absurd H (by simp)
              ·rw [if_neg c61] at H
               exact absurd H (by simp)
          ·rw [if_neg c42] at H
           exact absurd H (by simp)
         ·rw [if_neg c41] at H
          exact absurd H (by simp)
        ·rw [if_neg c40] at H
         have c40b0 : decide (x47_3 < (l2.length : Int)) = false := decide_eq_false c40
         clear c40
         simp only [Option.some.injEq, Prod.mk.injEq] at H
         obtain ⟨rfl, rfl, rfl, rfl⟩ := H
         have hnb77 := NB275_263.out
         have hnc77 := NB263_275.out
         have hnb78 := NB275_264.out
         have hnc78 := NB264_275.out
         have hcz79_0 : wr.cell? ⟨gb275, 0, none⟩ = some (.slice Ao35 t272.length co35) := (blk_cell BK275.out 0).trans rfl
         have hcz79_1 : wr.cell? ⟨gb275, 1, none⟩ = some (u276001) := (blk_cell BK275.out 1).trans rfl
         have hcz79_2 : wr.cell? ⟨gb275, 2, none⟩ = some (u276002) := (blk_cell BK275.out 2).trans rfl
         have hfz79_0 := blk_frozen BK275.out 0
         have hfz79_1 := blk_frozen BK275.out 1
         have hfz79_2 := blk_frozen BK275.out 2
         have hnb80 := NB264_263.out
         have hnc80 := NB263_264.out
         have hcz81_0 : wr.cell? ⟨gb264, 0, none⟩ = some (.slice none 0 0) := (blk_cell BK264.out 0).trans rfl
         have hcz81_1 : wr.cell? ⟨gb264, 1, none⟩ = some (.slice none 0 0) := (blk_cell BK264.out 1).trans rfl
         have hcz81_2 : wr.cell? ⟨gb264, 2, none⟩ = some (.slice none 0 0) := (blk_cell BK264.out 2).trans rfl
         have hfz81_0 := blk_frozen BK264.out 0
         have hfz81_1 := blk_frozen BK264.out 1
         have hfz81_2 := blk_frozen BK264.out 2
         obtain ⟨Ao82, co82, eo82⟩ := Kd.N_slice HO_276001.out
         subst eo82
         obtain ⟨Ao83, co83, eo83⟩ := Kd.N_slice HO_276002.out
         subst eo83
         go_wp2
         refine bodyPost_ret (results_ct rfl _ _ gb264 28 #[.slice Ao35 t272.length co35, .slice Ao82 x276001_3.length co82, .slice Ao83 x276002_3.length co83] (0, 0) _ rfl (by (with_reducible repeat (first | refine blk_drewN ?_ _ | refine blk_drew ?_ | refine blk_alloc ?_ _)); refine blk_put (cs := #[.slice Ao35 t272.length co35, .slice Ao82 x276001_3.length co82, .slice none 0 0]) ?_ 2 _ rfl; (with_reducible repeat (first | refine blk_drewN ?_ _ | refine blk_drew ?_ | refine blk_alloc ?_ _)); refine blk_put (cs := #[.slice Ao35 t272.length co35, .slice none 0 0, .slice none 0 0]) ?_ 1 _ rfl; (with_reducible repeat (first | refine blk_drewN ?_ _ | refine blk_drew ?_ | refine blk_alloc ?_ _)); refine blk_put (cs := #[.slice none 0 0, .slice none 0 0, .slice none 0 0]) ?_ 0 _ rfl; (with_reducible repeat (first | refine blk_drewN ?_ _ | refine blk_drew ?_ | refine blk_alloc ?_ _)); exact BK264.out) Try.underlying28 rfl (by kernel_rfl)) rfl ?_
         exact ⟨_, _, _, ze, by (with_reducible repeat (first | apply Kd.R_alloc | apply Kd.R_drewN | apply Kd.R_drew)); exact Kd.R_mono (Kd.R_far (p := ⟨gb264, 2, none⟩) (Kd.R_far (p := ⟨gb264, 1, none⟩) (Kd.R_far (p := ⟨gb264, 0, none⟩) (Kd.R_types HO_276000.out BK264.out (by decide)) (fun _ hk => hk.2) (.slice Ao35 t272.length co35)) (fun _ hk => hk.2) (.slice Ao82 x276001_3.length co82)) (fun _ hk => hk.2) (.slice Ao83 x276002_3.length co83)) (fun _ hk => hk.1), by (with_reducible repeat (first | apply Kd.N_alloc | apply Kd.N_drewN | apply Kd.N_drew)); exact Kd.N_mono (Kd.N_far (p := ⟨gb264, 2, none⟩) (Kd.N_far (p := ⟨gb264, 1, none⟩) (Kd.N_far (p := ⟨gb264, 0, none⟩) (Kd.N_mono HO_276001.out (fun k_ hk => (⟨hk, hk.2.2.2.2.1⟩ : _ ∧ k_ ≠ gb264))) (fun _ hk => hk.2) (.slice Ao35 t272.length co35)) (fun _ hk => hk.2) (.slice Ao82 x276001_3.length co82)) (fun _ hk => hk.2) (.slice Ao83 x276002_3.length co83)) (fun _ hk => ⟨hk.1.1, ⟨hk.1.2.1, hk.1.2.2.1⟩⟩), by (with_reducible repeat (first | apply Kd.N_alloc | apply Kd.N_drewN | apply Kd.N_drew)); exact Kd.N_mono (Kd.N_far (p := ⟨gb264, 2, none⟩) (Kd.N_far (p := ⟨gb264, 1, none⟩) (Kd.N_far (p := ⟨gb264, 0, none⟩) (Kd.N_mono HO_276002.out (fun k_ hk => (⟨hk, hk.2.2.2.2.1⟩ : _ ∧ k_ ≠ gb264))) (fun _ hk => hk.2) (.slice Ao35 t272.length co35)) (fun _ hk => hk.2) (.slice Ao82 x276001_3.length co82)) (fun _ hk => hk.2) (.slice Ao83 x276002_3.length co83)) (fun _ hk => ⟨hk.1.1, ⟨hk.1.2.1, hk.1.2.2.1⟩⟩), zb3 HB.out GE263.out GE264.out GE275.out⟩
     ·rw [if_neg c31] at H
      have c31b0 : (x8_28 == 0) = false := beq_eq_false_iff_ne.mpr c31
      have c31b1 : (x8_28 != 0) = true := bne_iff_ne.mpr c31
      simp only [Option.some.injEq, Prod.mk.injEq] at H
      obtain ⟨rfl, rfl, rfl, rfl⟩ := H
      have hnb84 := NB264_263.out
      have hnc84 := NB263_264.out
      have hcz85_0 : wc.cell? ⟨gb264, 0, none⟩ = some (.slice none 0 0) := (blk_cell BK264.out 0).trans rfl
      have hcz85_1 : wc.cell? ⟨gb264, 1, none⟩ = some (.slice none 0 0) := (blk_cell BK264.out 1).trans rfl
      have hcz85_2 : wc.cell? ⟨gb264, 2, none⟩ = some (.slice none 0 0) := (blk_cell BK264.out 2).trans rfl
      have hfz85_0 := blk_frozen BK264.out 0
      have hfz85_1 := blk_frozen BK264.out 1
      have hfz85_2 := blk_frozen BK264.out 2
      go_wp2
      refine bodyPost_ret (results_ct rfl _ _ gb264 28 #[.slice none 0 0, .slice none 0 0, .slice none 0 0] (0, 0) _ rfl (by (with_reducible repeat (first | refine blk_drewN ?_ _ | refine blk_drew ?_ | refine blk_alloc ?_ _)); refine blk_put (cs := #[.slice none 0 0, .slice none 0 0, .slice none 0 0]) ?_ 2 _ rfl; (with_reducible repeat (first | refine blk_drewN ?_ _ | refine blk_drew ?_ | refine blk_alloc ?_ _)); refine blk_put (cs := #[.slice none 0 0, .slice none 0 0, .slice none 0 0]) ?_ 1 _ rfl; (with_reducible repeat (first | refine blk_drewN ?_ _ | refine blk_drew ?_ | refine blk_alloc ?_ _)); refine blk_put (cs := #[.slice none 0 0, .slice none 0 0, .slice none 0 0]) ?_ 0 _ rfl; (with_reducible repeat (first | refine blk_drewN ?_ _ | refine blk_drew ?_ | refine blk_alloc ?_ _)); exact BK264.out) Try.underlying28 rfl (by kernel_rfl)) rfl ?_
      exact ⟨_, _, _, ze, by first | exact Kd.R_nil _ _ _ _ _ | exact Kd.N_nil _ _ _ _ _ | exact Kd.V_nil _ _ _ _ _ | exact Kd.Q_nil _ _ _ _ _ | exact Kd.S_nil _ _ _ _ _, by first | exact Kd.S_nil _ _ _ _ _ | exact Kd.N_nil _ _ _ _ _ | exact Kd.V_nil _ _ _ _ _ | exact Kd.Q_nil _ _ _ _ _ | exact Kd.R_nil _ _ _ _ _, by first | exact Kd.S_nil _ _ _ _ _ | exact Kd.N_nil _ _ _ _ _ | exact Kd.V_nil _ _ _ _ _ | exact Kd.Q_nil _ _ _ _ _ | exact Kd.R_nil _ _ _ _ _, zb2 HB.out GE263.out GE264.out⟩
open Go.RowKit Go.Proofs.YtmbeijjkfmgkpaaW.PrintWords Go.Proofs.YtmbeijjkfmgkpaaW.PrintLast Go.Proofs.YtmbeijjkfmgkpaaW.PrintMore
attribute [local go_sem] max2_int min2_int max_two min_two max_three min_three max_four min_four
set_option linter.unusedVariables false
set_option linter.unusedSimpArgs false
def impl_everybody.f (a0 : Int) : Option (Int) := if 0 ≤ a0 then (some (IntKind.u64.wrap ((shl .u64 1 a0) - 1))) else (none)
set_option maxHeartbeats 8000000 in
set_option maxRecDepth 100000 in
theorem impl_everybody.calls (a0 : Int) (r : Int) (w : World) (h : impl_everybody.f a0 = some r) :
    Calls Try.prog 74 #[.int .i64 a0] w fun e w' => e = .returned (.int .u64 r) ∧ Drawn0 w w' := by
  have H : (if 0 ≤ a0 then (some (IntKind.u64.wrap ((shl .u64 1 a0) - 1))) else (none)) = some r := h
  clear h
  by_cases c2 : 0 ≤ a0
  · rw [if_pos c2] at H
    have c2b0 := eq_true c2
    have c2b1 : decide (0 ≤ a0) = true := decide_eq_true c2
    clear c2
    obtain ⟨ji3, hji3⟩ : ∃ j_ : Int, (shl .u64 1 a0) = j_ := ⟨_, rfl⟩
    replace H : (some (IntKind.u64.wrap ((ji3) - 1))) = some r := by first | (rw [hji3] at H; exact H) | (simp only [hji3] at H ⊢; exact H)
    have hji3_ : (IntKind.u64.wrap (1 * 2 ^ min a0.toNat 64)) = ji3 := hji3
    have hji3z : a0 ≤ 64 → (IntKind.u64.wrap (1 * 2 ^ a0.toNat)) = ji3 := shl_small hji3
    have hji3u : (IntKind.u64.wrap (2 ^ min a0.toNat 64)) = ji3 := by have h_ := hji3_; rw [Int.one_mul] at h_; exact h_
    have hji3v : a0 ≤ 64 → (IntKind.u64.wrap (2 ^ a0.toNat)) = ji3 := fun hle_ => by have h_ := hji3z hle_; rw [Int.one_mul] at h_; exact h_
    obtain rfl := Option.some.inj H
    go_enter Try.func74, Try.ntmps74
    go_wp2
    go_ret
    exact ⟨by first | rfl | (simp; done) | (simp only [← hji3] <;> (first | rfl | simp)) | (simp [*]; done), by repeat (first | exact Drawn0.refl _ | apply Drawn0.step)⟩
  · rw [if_neg c2] at H
    exact absurd H (by simp)
mutual
def impl_Family_longest.l0 : Nat → Int → Int → List (List Int) → Int → Int → List (List Int) → Option ((List (List Int)))
  | 0, _, _, _, _, _, _ => none
  | k + 1, x1, x2, x7, x8, x294000, x294001 => (impl_everybody.f x294000).bind fun t297 => (if x8 ≤ t297 then ((impl_Family_chained.f k x294000 x294001 x1 x2 x8).bind fun t298 => (if t298 = true then ((impl_Family_least.f k x294000 x294001 x1 x2 x8).bind fun bt299 => (if bt299.2 = true then ((impl_Family_longest.f k x294000 x294001 x1 x8).bind fun t301 => (if (wrap64 ((t301.length : Int) + 1)) > (x7.length : Int) then ((impl_crowd_group.f k x8).bind fun t304 => ((some (([t304] : List (List Int)) : List (List Int))).bind fun y307 => (if y307.length + t301.length < 5864062014805 then (impl_Family_longest.l0 k x1 x2 (y307 ++ t301) (IntKind.u64.wrap (x8 + 1)) x294000 x294001) else (none)))) else (impl_Family_longest.l0 k x1 x2 x7 (IntKind.u64.wrap (x8 + 1)) x294000 x294001))) else (impl_Family_longest.l0 k x1 x2 x7 (IntKind.u64.wrap (x8 + 1)) x294000 x294001))) else (impl_Family_longest.l0 k x1 x2 x7 (IntKind.u64.wrap (x8 + 1)) x294000 x294001))) else (some x7))
def impl_Family_longest.f : Nat → Int → List (List Int) → Int → Int → Option ((List (List Int)))
  | 0, _, _, _, _ => none
  | k + 1, a0_0, l0_1, a1, a2 => impl_Family_longest.l0 k a1 a2 (([] : List (List Int))) (IntKind.u64.wrap (a2 + 1)) a0_0 l0_1
end
set_option maxHeartbeats 8000000 in
set_option maxRecDepth 100000 in
theorem impl_Family_longest.calls (k : Nat) : ∀ (a0_0 : Int) (A0_1 : Option Addr) (c0_1 : Nat) (l0_1 : List (List Int)) (a1 : Int) (a2 : Int) (r : List (List Int)) (w : World) (hr0_1 : Kd.C (Kd.slice 2 (Kd.int .i64)) w A0_1 l0_1.length l0_1) (hc0_1 : l0_1.length ≤ c0_1) (h : impl_Family_longest.f k a0_0 l0_1 a1 a2 = some r),
  Calls Try.prog 75 #[.agg #[.int .i64 a0_0, .slice A0_1 l0_1.length c0_1], .int .u64 a1, .int .u64 a2] w fun e w' => ∃ v0_ : Value, e = .returned (v0_) ∧ Kd.N (Kd.slice 2 (Kd.int .i64)) 26 w' w.heap.size (fun k_ => (w.heap.size ≤ k_)) v0_ r ∧ Below w.heap.size w w' := by
 induction k using Nat.strongRecOn with
 | _ k ih =>
 intro a0_0 A0_1 c0_1 l0_1 a1 a2 r w hr0_1 hc0_1 h
 cases k with
 | zero => exact absurd h (by simp [impl_Family_longest.f])
 | succ k =>
 simp only [impl_Family_longest.f] at h
 have hu31 := Try.underlying31
 have HR0_1 := Aside0.mk hr0_1
 have HC0_1 := Aside0.mk hc0_1
 clear hr0_1 hc0_1
 have HB := Aside0.mk (Below.refl w.heap.size w)
 have H : (impl_Family_longest.l0 k a1 a2 (([] : List (List Int))) (IntKind.u64.wrap (a2 + 1)) a0_0 l0_1) = some r := h
 clear h
 obtain ⟨y294, hy294⟩ : ∃ y_ : List (List Int), y_ = (([] : List (List Int))) := ⟨_, rfl⟩
 replace H : (impl_Family_longest.l0 k a1 a2 y294 (IntKind.u64.wrap (a2 + 1)) a0_0 l0_1) = some r := by first | (rw [hy294]; with_reducible exact H) | (have H2_ := (Option.bind_some _ _).symm.trans H; rw [hy294]; with_reducible exact H2_) | (have H2_ := (Option.bind_some _ _).symm.trans H; with_reducible exact H2_) | with_reducible exact H | (rw [hy294]; exact H) | exact H
 have Ny294 := Aside0.mk hy294
 clear hy294
 have H' := Aside0.mk H
 clear H
 go_enter Try.func75, Try.ntmps75
 go_wp2_with (first | ((with_reducible refine gate_dst (N := 3) rfl ?_); refine box_event ?hg (N := 3) ?hd (cs := #[.int .i64 a0_0, .slice A0_1 l0_1.length c0_1]) (t := 31) ?hr ?_; (case hd => rfl); (case hg => rfl); (case hr => first | (go_simp; done) | (go_simp; rfl)); intro gb293 hg w4 hbox hb; have n0_ := Aside0.mk (below_step (zb0 HB.out) hb); have n1_ := Aside0.mk (hbox); have n2_ := Aside0.mk ((by rw [hg]; exact (below_size (zb0 HB.out)) : w.heap.size ≤ gb293)); have n3_ := Aside0.mk ((by rw [hg]; exact (below_size (zb0 HB.out)) : w.heap.size ≤ gb293)); clear HB; have HB := n0_; have BK293 := n1_; have GW293 := n2_; have GE293 := n3_; clear n0_ n1_ n2_ n3_; clear hb hbox hg) | ((with_reducible refine gate_dst (N := 12) rfl ?_); refine Kd.N_lit (Kd.slice 2 (Kd.int .i64)) _ 26 ?hg (N' := 12) ?hd (xs := ([] : List (List Int))) (inner := []) (ok := (fun k_ => (w.heap.size ≤ k_) ∧ k_ ≠ gb293)) (okp := (fun k_ => (w.heap.size ≤ k_) ∧ k_ ≠ gb293)) ?hr ?hp (fun _ hk => hk) ((show ∀ k_, w4.heap.size ≤ k_ → (fun k_ => (w.heap.size ≤ k_) ∧ k_ ≠ gb293) k_ from fun k_ hk => ⟨(Nat.le_trans (below_size (zb1 HB.out GE293.out)) hk), Kd.freshB (g := gb293) (o := .cells #[.int .i64 a0_0, .slice A0_1 l0_1.length c0_1] 31 (0, 0)) (zk BK293.out) k_ hk⟩) _ (Nat.le_refl _)) (Below.refl _ _) (Nat.le_refl _) (by simp) ?_; (case hd => rfl); (case hg => rfl); (case hr => first | (go_simp; done) | (go_simp; rfl)); (case hp => exact (Reps.none _ _)); intro v295 w5 ho6 hb hg_ hnew_; clear hg_ hnew_; (first | rw [← Ny294.out] at ho6 | (simp only [Int.reduceToNat] at ho6; rw [← Ny294.out] at ho6)); have n0_ := Aside0.mk (Kd.N_lower ho6 (below_size (zb1 HB.out GE293.out))); have n1_ := Aside0.mk (blk_below (g := gb293) (o := .cells #[.int .i64 a0_0, .slice A0_1 l0_1.length c0_1] 31 (0, 0)) (zk BK293.out) hb); have n2_ := Aside0.mk (below_step (zb1 HB.out GE293.out) hb); clear BK293; clear HB; have HO296 := n0_; have BK293 := n1_; have HB := n2_; clear n0_ n1_ n2_; clear hb ho6))
 go_loopg [7, 8] k (fun kq v7 v8 w' => ∃ (x7_1 : List (List Int)) (x8_1 : Int), v8 = .int .u64 x8_1 ∧ Aside0 (impl_Family_longest.l0 kq a1 a2 x7_1 x8_1 a0_0 l0_1 = some r) ∧ Aside0 (kq ≤ k) ∧ Aside0 (Kd.N (Kd.slice 2 (Kd.int .i64)) 26 w' w.heap.size (fun k_ => (w.heap.size ≤ k_) ∧ k_ ≠ gb293) v7 x7_1) ∧ Aside0 (w'.heap[gb293]? = some (.cells #[.int .i64 a0_0, (.slice A0_1 l0_1.length c0_1)] 31 (0, 0))) ∧ Aside0 (Below w.heap.size w w'))
 case atStart => exact ⟨(y294), (IntKind.u64.wrap (a2 + 1)), zt, H', ⟨Nat.le_refl _⟩, ⟨zn HO296.out⟩, ⟨zk BK293.out⟩, ⟨zb1 HB.out GE293.out⟩⟩
 case round =>
  clear H'
  obtain ⟨x7_1, x8_1, rfl, HA, HK1, HO_7, BK293, HB⟩ := hrel
  cases gk with
  | zero => exact absurd HA.out (by simp [impl_Family_longest.l0])
  | succ k1 =>
   have H := HA.out
   clear HA
   simp only [impl_Family_longest.l0] at H
   replace H := Option.bind_eq_some_iff.mp H
   obtain ⟨t297, A70, H⟩ := H
   replace H : (if x8_1 ≤ t297 then ((impl_Family_chained.f k1 a0_0 l0_1 a1 a2 x8_1).bind fun t298 => (if t298 = true then ((impl_Family_least.f k1 a0_0 l0_1 a1 a2 x8_1).bind fun bt299 => (if bt299.2 = true then ((impl_Family_longest.f k1 a0_0 l0_1 a1 x8_1).bind fun t301 => (if (wrap64 ((t301.length : Int) + 1)) > (x7_1.length : Int) then ((impl_crowd_group.f k1 x8_1).bind fun t304 => ((some (([t304] : List (List Int)) : List (List Int))).bind fun y307 => (if y307.length + t301.length < 5864062014805 then (impl_Family_longest.l0 k1 a1 a2 (y307 ++ t301) (IntKind.u64.wrap (x8_1 + 1)) a0_0 l0_1) else (none)))) else (impl_Family_longest.l0 k1 a1 a2 x7_1 (IntKind.u64.wrap (x8_1 + 1)) a0_0 l0_1))) else (impl_Family_longest.l0 k1 a1 a2 x7_1 (IntKind.u64.wrap (x8_1 + 1)) a0_0 l0_1))) else (impl_Family_longest.l0 k1 a1 a2 x7_1 (IntKind.u64.wrap (x8_1 + 1)) a0_0 l0_1))) else (some x7_1)) = some r := H
   have A7 := Aside0.mk A70
   clear A70
   by_cases c8 : x8_1 ≤ t297
   ·rw [if_pos c8] at H
    have c8b0 : decide (x8_1 ≤ t297) = true := decide_eq_true c8
    clear c8
    replace H := Option.bind_eq_some_iff.mp H
    obtain ⟨t298, A90, H⟩ := H
    replace H : (if t298 = true then ((impl_Family_least.f k1 a0_0 l0_1 a1 a2 x8_1).bind fun bt299 => (if bt299.2 = true then ((impl_Family_longest.f k1 a0_0 l0_1 a1 x8_1).bind fun t301 => (if (wrap64 ((t301.length : Int) + 1)) > (x7_1.length : Int) then ((impl_crowd_group.f k1 x8_1).bind fun t304 => ((some (([t304] : List (List Int)) : List (List Int))).bind fun y307 => (if y307.length + t301.length < 5864062014805 then (impl_Family_longest.l0 k1 a1 a2 (y307 ++ t301) (IntKind.u64.wrap (x8_1 + 1)) a0_0 l0_1) else (none)))) else (impl_Family_longest.l0 k1 a1 a2 x7_1 (IntKind.u64.wrap (x8_1 + 1)) a0_0 l0_1))) else (impl_Family_longest.l0 k1 a1 a2 x7_1 (IntKind.u64.wrap (x8_1 + 1)) a0_0 l0_1))) else (impl_Family_longest.l0 k1 a1 a2 x7_1 (IntKind.u64.wrap (x8_1 + 1)) a0_0 l0_1)) = some r := H
    have A9 := Aside0.mk A90
    clear A90
    by_cases c10 : t298 = true
    ·subst c10
     rw [if_pos rfl] at H
     replace H := Option.bind_eq_some_iff.mp H
     obtain ⟨⟨t299, t300⟩, A110, H⟩ := H
     replace H : (if t300 = true then ((impl_Family_longest.f k1 a0_0 l0_1 a1 x8_1).bind fun t301 => (if (wrap64 ((t301.length : Int) + 1)) > (x7_1.length : Int) then ((impl_crowd_group.f k1 x8_1).bind fun t304 => ((some (([t304] : List (List Int)) : List (List Int))).bind fun y307 => (if y307.length + t301.length < 5864062014805 then (impl_Family_longest.l0 k1 a1 a2 (y307 ++ t301) (IntKind.u64.wrap (x8_1 + 1)) a0_0 l0_1) else (none)))) else (impl_Family_longest.l0 k1 a1 a2 x7_1 (IntKind.u64.wrap (x8_1 + 1)) a0_0 l0_1))) else (impl_Family_longest.l0 k1 a1 a2 x7_1 (IntKind.u64.wrap (x8_1 + 1)) a0_0 l0_1)) = some r := H
     have A11 := Aside0.mk A110
     clear A110
     by_cases c12 : t300 = true
     ·subst c12
      rw [if_pos rfl] at H
      replace H := Option.bind_eq_some_iff.mp H
      obtain ⟨t301, A130, H⟩ := H
      replace H : (if (wrap64 ((t301.length : Int) + 1)) > (x7_1.length : Int) then ((impl_crowd_group.f k1 x8_1).bind fun t304 => ((some (([t304] : List (List Int)) : List (List Int))).bind fun y307 => (if y307.length + t301.length < 5864062014805 then (impl_Family_longest.l0 k1 a1 a2 (y307 ++ t301) (IntKind.u64.wrap (x8_1 + 1)) a0_0 l0_1) else (none)))) else (impl_Family_longest.l0 k1 a1 a2 x7_1 (IntKind.u64.wrap (x8_1 + 1)) a0_0 l0_1)) = some r := H
      have A13 := Aside0.mk A130
      clear A130
      by_cases c14 : (wrap64 ((t301.length : Int) + 1)) > (x7_1.length : Int)
      ·rw [if_pos c14] at H
       have c14b0 : decide ((x7_1.length : Int) < (wrap64 ((t301.length : Int) + 1))) = true := decide_eq_true c14
       clear c14
       replace H := Option.bind_eq_some_iff.mp H
       obtain ⟨t304, A150, H⟩ := H
       replace H : ((some (([t304] : List (List Int)) : List (List Int))).bind fun y307 => (if y307.length + t301.length < 5864062014805 then (impl_Family_longest.l0 k1 a1 a2 (y307 ++ t301) (IntKind.u64.wrap (x8_1 + 1)) a0_0 l0_1) else (none))) = some r := H
       have A15 := Aside0.mk A150
       clear A150
       obtain ⟨y307, hy307⟩ : ∃ y_ : List (List Int), y_ = (([t304] : List (List Int))) := ⟨_, rfl⟩
       replace H : (if y307.length + t301.length < 5864062014805 then (impl_Family_longest.l0 k1 a1 a2 (y307 ++ t301) (IntKind.u64.wrap (x8_1 + 1)) a0_0 l0_1) else (none)) = some r := by first | (rw [hy307]; with_reducible exact H) | (have H2_ := (Option.bind_some _ _).symm.trans H; rw [hy307]; with_reducible exact H2_) | (have H2_ := (Option.bind_some _ _).symm.trans H; with_reducible exact H2_) | with_reducible exact H | (rw [hy307]; exact H) | exact H
       have Ny307 := Aside0.mk hy307
       clear hy307
       by_cases c16 : y307.length + t301.length < 5864062014805
       ·rw [if_pos c16] at H
        have LMc16 := Aside0.mk c16
        clear c16
        obtain ⟨y310, hy310⟩ : ∃ y_ : List (List Int), y_ = (y307 ++ t301) := ⟨_, rfl⟩
        replace H : (impl_Family_longest.l0 k1 a1 a2 y310 (IntKind.u64.wrap (x8_1 + 1)) a0_0 l0_1) = some r := by first | (rw [hy310]; with_reducible exact H) | (have H2_ := (Option.bind_some _ _).symm.trans H; rw [hy310]; with_reducible exact H2_) | (have H2_ := (Option.bind_some _ _).symm.trans H; with_reducible exact H2_) | with_reducible exact H | (rw [hy310]; exact H) | exact H
        have Ny310 := Aside0.mk hy310
        clear hy310
        have H' := Aside0.mk H
        clear H
        have hcz17_0 : wr.cell? ⟨gb293, 0, none⟩ = some (.int .i64 a0_0) := (blk_cell BK293.out 0).trans rfl
        have hcz17_1 : wr.cell? ⟨gb293, 1, none⟩ = some (.slice A0_1 l0_1.length c0_1) := (blk_cell BK293.out 1).trans rfl
        have hfz17_0 := blk_frozen BK293.out 0
        have hfz17_1 := blk_frozen BK293.out 1
        go_wp2_with (first | ((with_reducible refine gate_callee (f := 74) rfl ?_); refine goesL_ (some 18) rfl rfl Try.func74 (by kernel_rfl) rfl #[.int .i64 a0_0] rfl zl ?_; (with_reducible refine (impl_everybody.calls a0_0 t297 _ A7.out).mono ?_); rintro e w' ⟨rfl, ⟨nd, rfl⟩⟩; refine ⟨_, rfl, ?_⟩) | ((with_reducible refine gate_callee (f := 89) rfl ?_); refine goesL_ (some 26) rfl rfl Try.func89 (by kernel_rfl) rfl #[.agg #[.int .i64 a0_0, .slice A0_1 l0_1.length c0_1], .int .u64 a1, .int .u64 a2, .int .u64 x8_1] rfl zl ?_; (with_reducible refine (impl_Family_chained.calls k1 a0_0 _ _ l0_1 a1 a2 x8_1 true _ ?side1 ?side2 A9.out).mono ?_); (case side1 => exact zc (Kd.C_below HR0_1.out (zb1 HB.out GE293.out))); (case side2 => exact HC0_1.out); rintro e w18 ⟨rfl, hb⟩; refine ⟨_, rfl, ?_⟩; have n0_ := Aside0.mk (Kd.N_below (zn HO_7.out) hb); have n1_ := Aside0.mk (blk_below (g := gb293) (o := .cells #[.int .i64 a0_0, .slice A0_1 l0_1.length c0_1] 31 (0, 0)) (zk BK293.out) hb); have n2_ := Aside0.mk (below_step (zb1 HB.out GE293.out) hb); clear HO_7; clear BK293; clear HB; have HO_7 := n0_; have BK293 := n1_; have HB := n2_; clear n0_ n1_ n2_; (try clear hb); (try clear hb2); (try clear hk); (try clear hi); have hcz19_0 : w18.cell? ⟨gb293, 0, none⟩ = some (.int .i64 a0_0) := (blk_cell BK293.out 0).trans rfl; have hcz19_1 : w18.cell? ⟨gb293, 1, none⟩ = some (.slice A0_1 l0_1.length c0_1) := (blk_cell BK293.out 1).trans rfl; have hfz19_0 := blk_frozen BK293.out 0; have hfz19_1 := blk_frozen BK293.out 1) | ((with_reducible refine gate_callee (f := 88) rfl ?_); refine goesL_ (some 33) rfl rfl Try.func88 (by kernel_rfl) rfl #[.agg #[.int .i64 a0_0, .slice A0_1 l0_1.length c0_1], .int .u64 a1, .int .u64 a2, .int .u64 x8_1] rfl zl ?_; (with_reducible refine (impl_Family_least.calls k1 a0_0 _ _ l0_1 a1 a2 x8_1 t299 true _ ?side1 ?side2 A11.out).mono ?_); (case side1 => exact zc (Kd.C_below HR0_1.out HB.out)); (case side2 => exact HC0_1.out); rintro e w20 ⟨rfl, hb⟩; refine ⟨_, rfl, ?_⟩; have n0_ := Aside0.mk (Kd.N_below (zn HO_7.out) hb); have n1_ := Aside0.mk (blk_below (g := gb293) (o := .cells #[.int .i64 a0_0, .slice A0_1 l0_1.length c0_1] 31 (0, 0)) (zk BK293.out) hb); have n2_ := Aside0.mk (below_step (zb1 HB.out GE293.out) hb); clear HO_7; clear BK293; clear HB; have HO_7 := n0_; have BK293 := n1_; have HB := n2_; clear n0_ n1_ n2_; (try clear hb); (try clear hb2); (try clear hk); (try clear hi); have hcz21_0 : w20.cell? ⟨gb293, 0, none⟩ = some (.int .i64 a0_0) := (blk_cell BK293.out 0).trans rfl; have hcz21_1 : w20.cell? ⟨gb293, 1, none⟩ = some (.slice A0_1 l0_1.length c0_1) := (blk_cell BK293.out 1).trans rfl; have hfz21_0 := blk_frozen BK293.out 0; have hfz21_1 := blk_frozen BK293.out 1) | ((with_reducible refine gate_callee (f := 75) rfl ?_); refine goesL_ (some 41) rfl rfl Try.func75 (by kernel_rfl) rfl #[.agg #[.int .i64 a0_0, .slice A0_1 l0_1.length c0_1], .int .u64 a1, .int .u64 x8_1] rfl zl ?_; (with_reducible refine (ih k1 (by have := HK1.out; omega) a0_0 _ _ l0_1 a1 x8_1 t301 _ ?side1 ?side2 A13.out).mono ?_); (case side1 => exact zc (Kd.C_below HR0_1.out HB.out)); (case side2 => exact HC0_1.out); rintro e w22 ⟨v302, rfl, ho0, hb⟩; refine ⟨_, rfl, ?_⟩; have n0_ := Aside0.mk (Kd.N_elder' (zn HO_7.out) (by first | exact Kd.N_base ho0 | exact Kd.S_base ho0) hb); have n1_ := Aside0.mk (Kd.N_lower (Kd.N_mono (ok' := fun k_ => (w.heap.size ≤ k_) ∧ some k_ ≠ (u7 : Value).ownBlock ∧ k_ ≠ gb293) ho0 (fun k_ hk_ => ⟨(Nat.le_trans (below_size (zb1 HB.out GE293.out)) hk_), (Kd.fresh' (Kd.N_lt (zn HO_7.out)) k_ hk_), (Kd.freshB (g := gb293) (o := .cells #[.int .i64 a0_0, .slice A0_1 l0_1.length c0_1] 31 (0, 0)) (zk BK293.out) k_ hk_)⟩)) (below_size (zb1 HB.out GE293.out))); have n2_ := Aside0.mk (blk_below (g := gb293) (o := .cells #[.int .i64 a0_0, .slice A0_1 l0_1.length c0_1] 31 (0, 0)) (zk BK293.out) hb); have n3_ := Aside0.mk (below_step (zb1 HB.out GE293.out) hb); clear HO_7; clear BK293; clear HB; have HO_7 := n0_; have HO303 := n1_; have BK293 := n2_; have HB := n3_; clear n0_ n1_ n2_ n3_; (try clear hb); (try clear hb2); (try clear hk); (try clear hi); (try clear ho0); obtain ⟨Ao23, co23, eo23⟩ := Kd.N_slice HO303.out; subst eo23; obtain ⟨Ao24, co24, eo24⟩ := Kd.N_slice HO_7.out; subst eo24) | ((with_reducible refine gate_callee (f := 78) rfl ?_); refine goesL_ (some 49) rfl rfl Try.func78 (by kernel_rfl) rfl #[.int .u64 x8_1] rfl zl ?_; (with_reducible refine (impl_crowd_group.calls k1 x8_1 t304 _ A15.out).mono ?_); rintro e w25 ⟨v305, rfl, ho0, hb⟩; refine ⟨_, rfl, ?_⟩; have n0_ := Aside0.mk (Kd.N_elder' (zn HO_7.out) (Kd.R_base ho0) hb); have n1_ := Aside0.mk (Kd.N_elder' (zn HO303.out) (Kd.R_base ho0) hb); have n2_ := Aside0.mk (Kd.R_lower (Kd.R_newM (M := fun k_ => (w.heap.size ≤ k_)) ho0 (below_size (zb1 HB.out GE293.out)) (fun k_ h_ => h_)) (below_size (zb1 HB.out GE293.out))); have n3_ := Aside0.mk (blk_below (g := gb293) (o := .cells #[.int .i64 a0_0, .slice A0_1 l0_1.length c0_1] 31 (0, 0)) (zk BK293.out) hb); have n4_ := Aside0.mk (below_step (zb1 HB.out GE293.out) hb); clear HO_7; clear HO303; clear BK293; clear HB; have HO_7 := n0_; have HO303 := n1_; have HO306 := n2_; have BK293 := n3_; have HB := n4_; clear n0_ n1_ n2_ n3_ n4_; (try clear hb); (try clear hb2); (try clear hk); (try clear hi); (try clear ho0); obtain ⟨Ao26, co26, eo26⟩ := Kd.R_slice HO306.out; subst eo26) | ((with_reducible refine gate_dst (N := 50) rfl ?_); refine Kd.N_lit (Kd.slice 2 (Kd.int .i64)) _ 26 ?hg (N' := 50) ?hd (xs := ([t304] : List (List Int))) (inner := [.slice Ao26 t304.length co26]) (ok := (fun k_ => (w.heap.size ≤ k_) ∧ some k_ ≠ (.slice Ao24 x7_1.length co24 : Value).ownBlock ∧ some k_ ≠ (.slice Ao23 t301.length co23 : Value).ownBlock ∧ k_ ≠ gb293)) (okp := (fun k_ => (w.heap.size ≤ k_) ∧ some k_ ≠ (.slice Ao24 x7_1.length co24 : Value).ownBlock ∧ some k_ ≠ (.slice Ao23 t301.length co23 : Value).ownBlock ∧ k_ ≠ gb293)) ?hr ?hp (fun _ hk => hk) ((show ∀ k_, w25.heap.size ≤ k_ → (fun k_ => (w.heap.size ≤ k_) ∧ some k_ ≠ (.slice Ao24 x7_1.length co24 : Value).ownBlock ∧ some k_ ≠ (.slice Ao23 t301.length co23 : Value).ownBlock ∧ k_ ≠ gb293) k_ from fun k_ hk => ⟨(Nat.le_trans (below_size (zb1 HB.out GE293.out)) hk), Kd.fresh' (Kd.N_lt (zn HO_7.out)) k_ hk, Kd.fresh' (Kd.N_lt (zn HO303.out)) k_ hk, Kd.freshB (g := gb293) (o := .cells #[.int .i64 a0_0, .slice A0_1 l0_1.length c0_1] 31 (0, 0)) (zk BK293.out) k_ hk⟩) _ (Nat.le_refl _)) (Below.refl _ _) (Nat.le_refl _) (by simp) ?_; (case hd => rfl); (case hg => rfl); (case hr => first | (go_simp; done) | (go_simp; rfl)); (case hp => exact (Reps.one (show Kd.FK (Kd.slice 2 (Kd.int .i64)) _ _ t304 [.slice Ao26 t304.length co26] from (Kd.FK_slice_mk (Kd.R_reads' (Kd.R_mono (ok' := (fun k_ => (w.heap.size ≤ k_) ∧ some k_ ≠ (.slice Ao24 x7_1.length co24 : Value).ownBlock ∧ some k_ ≠ (.slice Ao23 t301.length co23 : Value).ownBlock ∧ k_ ≠ gb293)) (Kd.R_types (Kd.R_apart' (Kd.R_apart' (HO306.out) (Kd.N_typed HO_7.out) (by decide)) (Kd.N_typed HO303.out) (by decide)) BK293.out (by decide)) (fun k_ hk => ⟨hk.1.1.1.1, ⟨hk.1.1.2, ⟨hk.1.2, hk.2⟩⟩⟩))).2.1 (Kd.R_F (Kd.R_mono (ok' := (fun k_ => (w.heap.size ≤ k_) ∧ some k_ ≠ (.slice Ao24 x7_1.length co24 : Value).ownBlock ∧ some k_ ≠ (.slice Ao23 t301.length co23 : Value).ownBlock ∧ k_ ≠ gb293)) (Kd.R_types (Kd.R_apart' (Kd.R_apart' (HO306.out) (Kd.N_typed HO_7.out) (by decide)) (Kd.N_typed HO303.out) (by decide)) BK293.out (by decide)) (fun k_ hk => ⟨hk.1.1.1.1, ⟨hk.1.1.2, ⟨hk.1.2, hk.2⟩⟩⟩))))) (Reps.none _ _))); intro v308 w27 ho28 hb hg_ hnew_; clear hg_ hnew_; (first | rw [← Ny307.out] at ho28 | (simp only [Int.reduceToNat] at ho28; rw [← Ny307.out] at ho28)); have n0_ := Aside0.mk (Kd.N_elder' (zn HO_7.out) (by first | exact Kd.N_base ho28 | exact Kd.S_base ho28) hb); have n1_ := Aside0.mk (Kd.N_elder' (zn HO303.out) (by first | exact Kd.N_base ho28 | exact Kd.S_base ho28) hb); have n2_ := Aside0.mk (Kd.N_lower ho28 (below_size (zb1 HB.out GE293.out))); have n3_ := Aside0.mk (blk_below (g := gb293) (o := .cells #[.int .i64 a0_0, .slice A0_1 l0_1.length c0_1] 31 (0, 0)) (zk BK293.out) hb); have n4_ := Aside0.mk (below_step (zb1 HB.out GE293.out) hb); clear HO_7; clear HO303; clear BK293; clear HB; clear HO306; have HO_7 := n0_; have HO303 := n1_; have HO309 := n2_; have BK293 := n3_; have HB := n4_; clear n0_ n1_ n2_ n3_ n4_; clear hb ho28) | ((with_reducible refine gate_builtin (b := .append) (xs := #[.tmp 50, .tmp 51]) rfl ?_); at_builtin; refine Kd.N_append_rows (Kd.slice 2 (Kd.int .i64)) (w0 := w) w.heap.size rfl (.tmp 50) (.tmp 51) 22 26 (.slice none 0 0) 24 rfl Try.underlying22 info26 rfl (by decide) (by omega) v308 y307 t301 _ _ _ (fun k_ => (w.heap.size ≤ k_) ∧ some k_ ≠ (.slice Ao24 x7_1.length co24 : Value).ownBlock ∧ k_ ≠ gb293) (fun k_ => ((fun k_ => (w.heap.size ≤ k_) ∧ some k_ ≠ (.slice Ao24 x7_1.length co24 : Value).ownBlock ∧ k_ ≠ gb293)) k_ ∧ some k_ ≠ (v308 : Value).ownBlock) rfl rfl ?aO ?aR (fun _ hk => hk) ?aF ?aB ?aS ?aL ?_; (case aR => exact (by skip; exact Kd.N_F (Kd.N_mono (ok' := (fun k_ => ((fun k_ => (w.heap.size ≤ k_) ∧ some k_ ≠ (.slice Ao24 x7_1.length co24 : Value).ownBlock ∧ k_ ≠ gb293)) k_ ∧ some k_ ≠ (v308 : Value).ownBlock)) (HO303.out) (fun k_ hk => ⟨⟨hk.1.1.1, ⟨hk.1.1.2.1, hk.1.1.2.2⟩⟩, hk.2⟩)))); (case aB => exact (zb1 HB.out GE293.out)); (case aF => exact (fun k_ hk => ⟨(Nat.le_trans (below_size (zb1 HB.out GE293.out)) hk), Kd.fresh' (Kd.N_lt (zn HO_7.out)) k_ hk, Kd.freshB (g := gb293) (o := .cells #[.int .i64 a0_0, .slice A0_1 l0_1.length c0_1] 31 (0, 0)) (zk BK293.out) k_ hk⟩)); (case aO => exact (by (with_reducible repeat (first | apply Kd.N_alloc | apply Kd.N_drewN | apply Kd.N_drew)); exact Kd.N_mono HO309.out (fun _ hk => ⟨hk.1, ⟨hk.2.1, hk.2.2.2⟩⟩))); (case aS => exact (below_size (zb1 HB.out GE293.out))); (case aL => have := LMc16.out; omega); intro v311 w29 ho hb hg hat; rw [← Ny310.out] at ho; have n0_ := Aside0.mk (Kd.N_afterv (ok := (fun k_ => (w.heap.size ≤ k_) ∧ some k_ ≠ (.slice Ao23 t301.length co23 : Value).ownBlock ∧ k_ ≠ gb293)) (by (with_reducible repeat (first | apply Kd.N_alloc | apply Kd.N_drewN | apply Kd.N_drew)); exact Kd.N_mono HO_7.out (fun _ hk => ⟨⟨hk.1.1.1.1, ⟨hk.1.1.2, hk.1.1.1.2⟩⟩, hk.2⟩)) hg hat); have n1_ := Aside0.mk (blk_grown (g := gb293) (o := .cells #[.int .i64 a0_0, .slice A0_1 l0_1.length c0_1] 31 (0, 0)) (zk BK293.out) hg (Kd.N_ne HO309.out BK293.out (by decide))); have n2_ := Aside0.mk (Kd.N_afterv (ok := (fun k_ => (w.heap.size ≤ k_) ∧ some k_ ≠ (.slice Ao24 x7_1.length co24 : Value).ownBlock ∧ k_ ≠ gb293)) (by (with_reducible repeat (first | apply Kd.N_alloc | apply Kd.N_drewN | apply Kd.N_drew)); exact Kd.N_mono HO303.out (fun _ hk => ⟨⟨hk.1.1.1, ⟨hk.1.1.2.1, hk.1.1.2.2⟩⟩, hk.2⟩)) hg hat); have n3_ := Aside0.mk (hb); have n4_ := Aside0.mk (ho); clear HO_7; clear BK293; clear HO303; clear HB; clear HO309; have HO_7 := n0_; have BK293 := n1_; have HO303 := n2_; have HB := n3_; have HO312 := n4_; clear n0_ n1_ n2_ n3_ n4_; clear ho hb hg hat))
        go_roundg k1
        case measure => have := HK1.out; omega
        case rel => exact ⟨(y310), (IntKind.u64.wrap (x8_1 + 1)), zt, H', ⟨by have := HK1.out; omega⟩, ⟨by (with_reducible repeat (first | apply Kd.N_alloc | apply Kd.N_drewN | apply Kd.N_drew)); exact Kd.N_mono HO312.out (fun _ hk => ⟨hk.1, hk.2.2⟩)⟩, ⟨zk BK293.out⟩, ⟨zb1 HB.out GE293.out⟩⟩
       ·rw [if_neg c16] at H
        exact absurd H (by simp)
      ·rw [if_neg c14] at H
       have c14b0 : decide ((x7_1.length : Int) < (wrap64 ((t301.length : Int) + 1))) = false := decide_eq_false c14
       clear c14
       have H' := Aside0.mk H
       clear H
       have hcz30_0 : wr.cell? ⟨gb293, 0, none⟩ = some (.int .i64 a0_0) := (blk_cell BK293.out 0).trans rfl
       have hcz30_1 : wr.cell? ⟨gb293, 1, none⟩ = some (.slice A0_1 l0_1.length c0_1) := (blk_cell BK293.out 1).trans rfl
       have hfz30_0 := blk_frozen BK293.out 0
       have hfz30_1 := blk_frozen BK293.out 1
       go_wp2_with (first | ((with_reducible refine gate_callee (f := 74) rfl ?_); refine goesL_ (some 18) rfl rfl Try.func74 (by kernel_rfl) rfl #[.int .i64 a0_0] rfl zl ?_; (with_reducible refine (impl_everybody.calls a0_0 t297 _ A7.out).mono ?_); rintro e w' ⟨rfl, ⟨nd, rfl⟩⟩; refine ⟨_, rfl, ?_⟩) | ((with_reducible refine gate_callee (f := 89) rfl ?_); refine goesL_ (some 26) rfl rfl Try.func89 (by kernel_rfl) rfl #[.agg #[.int .i64 a0_0, .slice A0_1 l0_1.length c0_1], .int .u64 a1, .int .u64 a2, .int .u64 x8_1] rfl zl ?_; (with_reducible refine (impl_Family_chained.calls k1 a0_0 _ _ l0_1 a1 a2 x8_1 true _ ?side1 ?side2 A9.out).mono ?_); (case side1 => exact zc (Kd.C_below HR0_1.out (zb1 HB.out GE293.out))); (case side2 => exact HC0_1.out); rintro e w31 ⟨rfl, hb⟩; refine ⟨_, rfl, ?_⟩; have n0_ := Aside0.mk (Kd.N_below (zn HO_7.out) hb); have n1_ := Aside0.mk (blk_below (g := gb293) (o := .cells #[.int .i64 a0_0, .slice A0_1 l0_1.length c0_1] 31 (0, 0)) (zk BK293.out) hb); have n2_ := Aside0.mk (below_step (zb1 HB.out GE293.out) hb); clear HO_7; clear BK293; clear HB; have HO_7 := n0_; have BK293 := n1_; have HB := n2_; clear n0_ n1_ n2_; (try clear hb); (try clear hb2); (try clear hk); (try clear hi); have hcz32_0 : w31.cell? ⟨gb293, 0, none⟩ = some (.int .i64 a0_0) := (blk_cell BK293.out 0).trans rfl; have hcz32_1 : w31.cell? ⟨gb293, 1, none⟩ = some (.slice A0_1 l0_1.length c0_1) := (blk_cell BK293.out 1).trans rfl; have hfz32_0 := blk_frozen BK293.out 0; have hfz32_1 := blk_frozen BK293.out 1) | ((with_reducible refine gate_callee (f := 88) rfl ?_); refine goesL_ (some 33) rfl rfl Try.func88 (by kernel_rfl) rfl #[.agg #[.int .i64 a0_0, .slice A0_1 l0_1.length c0_1], .int .u64 a1, .int .u64 a2, .int .u64 x8_1] rfl zl ?_; (with_reducible refine (impl_Family_least.calls k1 a0_0 _ _ l0_1 a1 a2 x8_1 t299 true _ ?side1 ?side2 A11.out).mono ?_); (case side1 => exact zc (Kd.C_below HR0_1.out HB.out)); (case side2 => exact HC0_1.out); rintro e w33 ⟨rfl, hb⟩; refine ⟨_, rfl, ?_⟩; have n0_ := Aside0.mk (Kd.N_below (zn HO_7.out) hb); have n1_ := Aside0.mk (blk_below (g := gb293) (o := .cells #[.int .i64 a0_0, .slice A0_1 l0_1.length c0_1] 31 (0, 0)) (zk BK293.out) hb); have n2_ := Aside0.mk (below_step (zb1 HB.out GE293.out) hb); clear HO_7; clear BK293; clear HB; have HO_7 := n0_; have BK293 := n1_; have HB := n2_; clear n0_ n1_ n2_; (try clear hb); (try clear hb2); (try clear hk); (try clear hi); have hcz34_0 : w33.cell? ⟨gb293, 0, none⟩ = some (.int .i64 a0_0) := (blk_cell BK293.out 0).trans rfl; have hcz34_1 : w33.cell? ⟨gb293, 1, none⟩ = some (.slice A0_1 l0_1.length c0_1) := (blk_cell BK293.out 1).trans rfl; have hfz34_0 := blk_frozen BK293.out 0; have hfz34_1 := blk_frozen BK293.out 1) | ((with_reducible refine gate_callee (f := 75) rfl ?_); refine goesL_ (some 41) rfl rfl Try.func75 (by kernel_rfl) rfl #[.agg #[.int .i64 a0_0, .slice A0_1 l0_1.length c0_1], .int .u64 a1, .int .u64 x8_1] rfl zl ?_; (with_reducible refine (ih k1 (by have := HK1.out; omega) a0_0 _ _ l0_1 a1 x8_1 t301 _ ?side1 ?side2 A13.out).mono ?_); (case side1 => exact zc (Kd.C_below HR0_1.out HB.out)); (case side2 => exact HC0_1.out); rintro e w35 ⟨v302, rfl, ho0, hb⟩; refine ⟨_, rfl, ?_⟩; have n0_ := Aside0.mk (Kd.N_elder' (zn HO_7.out) (by first | exact Kd.N_base ho0 | exact Kd.S_base ho0) hb); have n1_ := Aside0.mk (Kd.N_lower (Kd.N_mono (ok' := fun k_ => (w.heap.size ≤ k_) ∧ some k_ ≠ (u7 : Value).ownBlock ∧ k_ ≠ gb293) ho0 (fun k_ hk_ => ⟨(Nat.le_trans (below_size (zb1 HB.out GE293.out)) hk_), (Kd.fresh' (Kd.N_lt (zn HO_7.out)) k_ hk_), (Kd.freshB (g := gb293) (o := .cells #[.int .i64 a0_0, .slice A0_1 l0_1.length c0_1] 31 (0, 0)) (zk BK293.out) k_ hk_)⟩)) (below_size (zb1 HB.out GE293.out))); have n2_ := Aside0.mk (blk_below (g := gb293) (o := .cells #[.int .i64 a0_0, .slice A0_1 l0_1.length c0_1] 31 (0, 0)) (zk BK293.out) hb); have n3_ := Aside0.mk (below_step (zb1 HB.out GE293.out) hb); clear HO_7; clear BK293; clear HB; have HO_7 := n0_; have HO303 := n1_; have BK293 := n2_; have HB := n3_; clear n0_ n1_ n2_ n3_; (try clear hb); (try clear hb2); (try clear hk); (try clear hi); (try clear ho0); obtain ⟨Ao36, co36, eo36⟩ := Kd.N_slice HO303.out; subst eo36; obtain ⟨Ao37, co37, eo37⟩ := Kd.N_slice HO_7.out; subst eo37))
       go_roundg k1
       case measure => have := HK1.out; omega
       case rel => exact ⟨(x7_1), (IntKind.u64.wrap (x8_1 + 1)), zt, H', ⟨by have := HK1.out; omega⟩, ⟨by (with_reducible repeat (first | apply Kd.N_alloc | apply Kd.N_drewN | apply Kd.N_drew)); exact Kd.N_mono HO_7.out (fun _ hk => ⟨hk.1.1, hk.1.2⟩)⟩, ⟨zk BK293.out⟩, ⟨zb1 HB.out GE293.out⟩⟩
     ·replace c12 := Bool.eq_false_iff.mpr c12
      subst c12
      rw [if_neg (show ¬ (false = true) by decide)] at H
      have H' := Aside0.mk H
      clear H
      have hcz38_0 : wr.cell? ⟨gb293, 0, none⟩ = some (.int .i64 a0_0) := (blk_cell BK293.out 0).trans rfl
      have hcz38_1 : wr.cell? ⟨gb293, 1, none⟩ = some (.slice A0_1 l0_1.length c0_1) := (blk_cell BK293.out 1).trans rfl
      have hfz38_0 := blk_frozen BK293.out 0
      have hfz38_1 := blk_frozen BK293.out 1
      go_wp2_with (first | ((with_reducible refine gate_callee (f := 74) rfl ?_); refine goesL_ (some 18) rfl rfl Try.func74 (by kernel_rfl) rfl #[.int .i64 a0_0] rfl zl ?_; (with_reducible refine (impl_everybody.calls a0_0 t297 _ A7.out).mono ?_); rintro e w' ⟨rfl, ⟨nd, rfl⟩⟩; refine ⟨_, rfl, ?_⟩) | ((with_reducible refine gate_callee (f := 89) rfl ?_); refine goesL_ (some 26) rfl rfl Try.func89 (by kernel_rfl) rfl #[.agg #[.int .i64 a0_0, .slice A0_1 l0_1.length c0_1], .int .u64 a1, .int .u64 a2, .int .u64 x8_1] rfl zl ?_; (with_reducible refine (impl_Family_chained.calls k1 a0_0 _ _ l0_1 a1 a2 x8_1 true _ ?side1 ?side2 A9.out).mono ?_); (case side1 => exact zc (Kd.C_below HR0_1.out (zb1 HB.out GE293.out))); (case side2 => exact HC0_1.out); rintro e w39 ⟨rfl, hb⟩; refine ⟨_, rfl, ?_⟩; have n0_ := Aside0.mk (Kd.N_below (zn HO_7.out) hb); have n1_ := Aside0.mk (blk_below (g := gb293) (o := .cells #[.int .i64 a0_0, .slice A0_1 l0_1.length c0_1] 31 (0, 0)) (zk BK293.out) hb); have n2_ := Aside0.mk (below_step (zb1 HB.out GE293.out) hb); clear HO_7; clear BK293; clear HB; have HO_7 := n0_; have BK293 := n1_; have HB := n2_; clear n0_ n1_ n2_; (try clear hb); (try clear hb2); (try clear hk); (try clear hi); have hcz40_0 : w39.cell? ⟨gb293, 0, none⟩ = some (.int .i64 a0_0) := (blk_cell BK293.out 0).trans rfl; have hcz40_1 : w39.cell? ⟨gb293, 1, none⟩ = some (.slice A0_1 l0_1.length c0_1) := (blk_cell BK293.out 1).trans rfl; have hfz40_0 := blk_frozen BK293.out 0; have hfz40_1 := blk_frozen BK293.out 1) | ((with_reducible refine gate_callee (f := 88) rfl ?_); refine goesL_ (some 33) rfl rfl Try.func88 (by kernel_rfl) rfl #[.agg #[.int .i64 a0_0, .slice A0_1 l0_1.length c0_1], .int .u64 a1, .int .u64 a2, .int .u64 x8_1] rfl zl ?_; (with_reducible refine (impl_Family_least.calls k1 a0_0 _ _ l0_1 a1 a2 x8_1 t299 false _ ?side1 ?side2 A11.out).mono ?_); (case side1 => exact zc (Kd.C_below HR0_1.out HB.out)); (case side2 => exact HC0_1.out); rintro e w41 ⟨rfl, hb⟩; refine ⟨_, rfl, ?_⟩; have n0_ := Aside0.mk (Kd.N_below (zn HO_7.out) hb); have n1_ := Aside0.mk (blk_below (g := gb293) (o := .cells #[.int .i64 a0_0, .slice A0_1 l0_1.length c0_1] 31 (0, 0)) (zk BK293.out) hb); have n2_ := Aside0.mk (below_step (zb1 HB.out GE293.out) hb); clear HO_7; clear BK293; clear HB; have HO_7 := n0_; have BK293 := n1_; have HB := n2_; clear n0_ n1_ n2_; (try clear hb); (try clear hb2); (try clear hk); (try clear hi)))
      go_roundg k1
      case measure => have := HK1.out; omega
      case rel => exact ⟨(x7_1), (IntKind.u64.wrap (x8_1 + 1)), zt, H', ⟨by have := HK1.out; omega⟩, ⟨zn HO_7.out⟩, ⟨zk BK293.out⟩, ⟨zb1 HB.out GE293.out⟩⟩
    ·replace c10 := Bool.eq_false_iff.mpr c10
     subst c10
     rw [if_neg (show ¬ (false = true) by decide)] at H
     have H' := Aside0.mk H
     clear H
     have hcz42_0 : wr.cell? ⟨gb293, 0, none⟩ = some (.int .i64 a0_0) := (blk_cell BK293.out 0).trans rfl
     have hcz42_1 : wr.cell? ⟨gb293, 1, none⟩ = some (.slice A0_1 l0_1.length c0_1) := (blk_cell BK293.out 1).trans rfl
     have hfz42_0 := blk_frozen BK293.out 0
     have hfz42_1 := blk_frozen BK293.out 1
     go_wp2_with (first | ((with_reducible refine gate_callee (f := 74) rfl ?_); refine goesL_ (some 18) rfl rfl Try.func74 (by kernel_rfl) rfl #[.int .i64 a0_0] rfl zl ?_; (with_reducible refine (impl_everybody.calls a0_0 t297 _ A7.out).mono ?_); rintro e w' ⟨rfl, ⟨nd, rfl⟩⟩; refine ⟨_, rfl, ?_⟩) | ((with_reducible refine gate_callee (f := 89) rfl ?_); refine goesL_ (some 26) rfl rfl Try.func89 (by kernel_rfl) rfl #[.agg #[.int .i64 a0_0, .slice A0_1 l0_1.length c0_1], .int .u64 a1, .int .u64 a2, .int .u64 x8_1] rfl zl ?_; (with_reducible refine (impl_Family_chained.calls k1 a0_0 _ _ l0_1 a1 a2 x8_1 false _ ?side1 ?side2 A9.out).mono ?_); (case side1 => exact zc (Kd.C_below HR0_1.out (zb1 HB.out GE293.out))); (case side2 => exact HC0_1.out); rintro e w43 ⟨rfl, hb⟩; refine ⟨_, rfl, ?_⟩; have n0_ := Aside0.mk (Kd.N_below (zn HO_7.out) hb); have n1_ := Aside0.mk (blk_below (g := gb293) (o := .cells #[.int .i64 a0_0, .slice A0_1 l0_1.length c0_1] 31 (0, 0)) (zk BK293.out) hb); have n2_ := Aside0.mk (below_step (zb1 HB.out GE293.out) hb); clear HO_7; clear BK293; clear HB; have HO_7 := n0_; have BK293 := n1_; have HB := n2_; clear n0_ n1_ n2_; (try clear hb); (try clear hb2); (try clear hk); (try clear hi)))
     go_roundg k1
     case measure => have := HK1.out; omega
     case rel => exact ⟨(x7_1), (IntKind.u64.wrap (x8_1 + 1)), zt, H', ⟨by have := HK1.out; omega⟩, ⟨zn HO_7.out⟩, ⟨zk BK293.out⟩, ⟨zb1 HB.out GE293.out⟩⟩
   ·rw [if_neg c8] at H
    have c8b0 : decide (x8_1 ≤ t297) = false := decide_eq_false c8
    clear c8
    obtain rfl := Option.some.inj H
    have hcz44_0 : wr.cell? ⟨gb293, 0, none⟩ = some (.int .i64 a0_0) := (blk_cell BK293.out 0).trans rfl
    have hcz44_1 : wr.cell? ⟨gb293, 1, none⟩ = some (.slice A0_1 l0_1.length c0_1) := (blk_cell BK293.out 1).trans rfl
    have hfz44_0 := blk_frozen BK293.out 0
    have hfz44_1 := blk_frozen BK293.out 1
    go_wp2_with (first | ((with_reducible refine gate_callee (f := 74) rfl ?_); refine goesL_ (some 18) rfl rfl Try.func74 (by kernel_rfl) rfl #[.int .i64 a0_0] rfl zl ?_; (with_reducible refine (impl_everybody.calls a0_0 t297 _ A7.out).mono ?_); rintro e w' ⟨rfl, ⟨nd, rfl⟩⟩; refine ⟨_, rfl, ?_⟩))
    go_ret
    exact ⟨_, ze, by (with_reducible repeat (first | apply Kd.N_alloc | apply Kd.N_drewN | apply Kd.N_drew)); exact Kd.N_mono HO_7.out (fun _ hk => hk.1), zb1 HB.out GE293.out⟩
open Go.RowKit Go.Proofs.YtmbeijjkfmgkpaaW.PrintWords Go.Proofs.YtmbeijjkfmgkpaaW.PrintLast Go.Proofs.YtmbeijjkfmgkpaaW.PrintMore
attribute [local go_sem] max2_int min2_int max_two min_two max_three min_three max_four min_four
set_option linter.unusedVariables false
set_option linter.unusedSimpArgs false
def impl_Family_number.f (k : Nat) (a0_0 : Int) (l0_1 : List (List Int)) (a1 : Int) (a2 : Int) : Option (Int) := (impl_Family_opens.f k a0_0 l0_1 a1).bind fun t314 => (if t314 = true then (some (wrap64 (a2 + 1))) else (some a2))
set_option maxHeartbeats 8000000 in
set_option maxRecDepth 100000 in
theorem impl_Family_number.calls (k : Nat) (a0_0 : Int) (A0_1 : Option Addr) (c0_1 : Nat) (l0_1 : List (List Int)) (a1 : Int) (a2 : Int) (r : Int) (w : World) (hr0_1 : Kd.C (Kd.slice 2 (Kd.int .i64)) w A0_1 l0_1.length l0_1) (hc0_1 : l0_1.length ≤ c0_1) (h : impl_Family_number.f k a0_0 l0_1 a1 a2 = some r) :
  Calls Try.prog 76 #[.agg #[.int .i64 a0_0, .slice A0_1 l0_1.length c0_1], .int .u64 a1, .int .i64 a2] w fun e w' => e = .returned (.int .i64 r) ∧ Below w.heap.size w w' := by
 have hu31 := Try.underlying31
 have HR0_1 := Aside0.mk hr0_1
 have HC0_1 := Aside0.mk hc0_1
 clear hr0_1 hc0_1
 have HB := Aside0.mk (Below.refl w.heap.size w)
 have H : ((impl_Family_opens.f k a0_0 l0_1 a1).bind fun t314 => (if t314 = true then (some (wrap64 (a2 + 1))) else (some a2))) = some r := h
 clear h
 replace H := Option.bind_eq_some_iff.mp H
 obtain ⟨t314, A40, H⟩ := H
 replace H : (if t314 = true then (some (wrap64 (a2 + 1))) else (some a2)) = some r := H
 have A4 := Aside0.mk A40
 clear A40
 by_cases c5 : t314 = true
 ·subst c5
  rw [if_pos rfl] at H
  obtain rfl := Option.some.inj H
  go_enter Try.func76, Try.ntmps76
  go_wp2_with (first | ((with_reducible refine gate_dst (N := 3) rfl ?_); refine box_event ?hg (N := 3) ?hd (cs := #[.int .i64 a0_0, .slice A0_1 l0_1.length c0_1]) (t := 31) ?hr ?_; (case hd => rfl); (case hg => rfl); (case hr => first | (go_simp; done) | (go_simp; rfl)); intro gb313 hg w6 hbox hb; have n0_ := Aside0.mk (below_step (zb0 HB.out) hb); have n1_ := Aside0.mk (hbox); have n2_ := Aside0.mk ((by rw [hg]; exact (below_size (zb0 HB.out)) : w.heap.size ≤ gb313)); have n3_ := Aside0.mk ((by rw [hg]; exact (below_size (zb0 HB.out)) : w.heap.size ≤ gb313)); clear HB; have HB := n0_; have BK313 := n1_; have GW313 := n2_; have GE313 := n3_; clear n0_ n1_ n2_ n3_; clear hb hbox hg; have hcz7_0 : w6.cell? ⟨gb313, 0, none⟩ = some (.int .i64 a0_0) := (blk_cell BK313.out 0).trans rfl; have hcz7_1 : w6.cell? ⟨gb313, 1, none⟩ = some (.slice A0_1 l0_1.length c0_1) := (blk_cell BK313.out 1).trans rfl; have hfz7_0 := blk_frozen BK313.out 0; have hfz7_1 := blk_frozen BK313.out 1) | ((with_reducible refine gate_callee (f := 121) rfl ?_); refine goesL_ (some 9) rfl rfl Try.func121 (by kernel_rfl) rfl #[.agg #[.int .i64 a0_0, .slice A0_1 l0_1.length c0_1], .int .u64 a1] rfl zl ?_; (with_reducible refine (impl_Family_opens.calls k a0_0 _ _ l0_1 a1 true _ ?side1 ?side2 A4.out).mono ?_); (case side1 => exact zc (Kd.C_below HR0_1.out HB.out)); (case side2 => exact HC0_1.out); rintro e w8 ⟨rfl, hb⟩; refine ⟨_, rfl, ?_⟩; have n0_ := Aside0.mk (blk_below (g := gb313) (o := .cells #[.int .i64 a0_0, .slice A0_1 l0_1.length c0_1] 31 (0, 0)) (zk BK313.out) hb); have n1_ := Aside0.mk (below_step (zb1 HB.out GE313.out) hb); clear BK313; clear HB; have BK313 := n0_; have HB := n1_; clear n0_ n1_; (try clear hb); (try clear hb2); (try clear hk); (try clear hi)))
  go_ret
  exact ⟨ze, zb1 HB.out GE313.out⟩
 ·replace c5 := Bool.eq_false_iff.mpr c5
  subst c5
  rw [if_neg (show ¬ (false = true) by decide)] at H
  obtain rfl := Option.some.inj H
  go_enter Try.func76, Try.ntmps76
  go_wp2_with (first | ((with_reducible refine gate_dst (N := 3) rfl ?_); refine box_event ?hg (N := 3) ?hd (cs := #[.int .i64 a0_0, .slice A0_1 l0_1.length c0_1]) (t := 31) ?hr ?_; (case hd => rfl); (case hg => rfl); (case hr => first | (go_simp; done) | (go_simp; rfl)); intro gb313 hg w9 hbox hb; have n0_ := Aside0.mk (below_step (zb0 HB.out) hb); have n1_ := Aside0.mk (hbox); have n2_ := Aside0.mk ((by rw [hg]; exact (below_size (zb0 HB.out)) : w.heap.size ≤ gb313)); have n3_ := Aside0.mk ((by rw [hg]; exact (below_size (zb0 HB.out)) : w.heap.size ≤ gb313)); clear HB; have HB := n0_; have BK313 := n1_; have GW313 := n2_; have GE313 := n3_; clear n0_ n1_ n2_ n3_; clear hb hbox hg; have hcz10_0 : w9.cell? ⟨gb313, 0, none⟩ = some (.int .i64 a0_0) := (blk_cell BK313.out 0).trans rfl; have hcz10_1 : w9.cell? ⟨gb313, 1, none⟩ = some (.slice A0_1 l0_1.length c0_1) := (blk_cell BK313.out 1).trans rfl; have hfz10_0 := blk_frozen BK313.out 0; have hfz10_1 := blk_frozen BK313.out 1) | ((with_reducible refine gate_callee (f := 121) rfl ?_); refine goesL_ (some 9) rfl rfl Try.func121 (by kernel_rfl) rfl #[.agg #[.int .i64 a0_0, .slice A0_1 l0_1.length c0_1], .int .u64 a1] rfl zl ?_; (with_reducible refine (impl_Family_opens.calls k a0_0 _ _ l0_1 a1 false _ ?side1 ?side2 A4.out).mono ?_); (case side1 => exact zc (Kd.C_below HR0_1.out HB.out)); (case side2 => exact HC0_1.out); rintro e w11 ⟨rfl, hb⟩; refine ⟨_, rfl, ?_⟩; have n0_ := Aside0.mk (blk_below (g := gb313) (o := .cells #[.int .i64 a0_0, .slice A0_1 l0_1.length c0_1] 31 (0, 0)) (zk BK313.out) hb); have n1_ := Aside0.mk (below_step (zb1 HB.out GE313.out) hb); clear BK313; clear HB; have BK313 := n0_; have HB := n1_; clear n0_ n1_; (try clear hb); (try clear hb2); (try clear hk); (try clear hi)))
  go_ret
  exact ⟨ze, zb1 HB.out GE313.out⟩
end Go.Proofs.Ytmbeijjkfmgkpaa.Q
