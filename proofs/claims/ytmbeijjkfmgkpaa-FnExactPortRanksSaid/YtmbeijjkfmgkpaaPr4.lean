/- For every family the law FnExactPortRanks returns true: the program's ranks of ports are the reference's, its argument stays as it was, and what it returns leads to no memory that the caller wrote; no condition. (4 of 6) Put together by a program of mine from texts of mine, from texts that the kit's print wrote for this claim and from the print's words; what is not reached is left out. -/
import Derived.Ground.NamesProg
import Derived.Ground.SlsfProg
import Derived.Shelf.Abstract
import Derived.Shelf.SlSortCmp.Whole1
import Derived.Shelf.Small.Bits
import Derived.Sort.Grow
import Derived.Test.YtmbeijjkfmgkpaaPr3
set_option linter.unusedVariables false
set_option linter.unusedSimpArgs false
namespace Go.Proofs.Ytmbeijjkfmgkpaa.Pure
set_option linter.unusedVariables false
open Go.RowKit Go.Proofs.Ytmbeijjkfmgkpaa.Q Go.Proofs.YtmbeijjkfmgkpaaW.PrintWords Go.Proofs.YtmbeijjkfmgkpaaW.PrintLast
namespace Ex
def incl (a b : List Int) : Bool := Go.bits .and .u64 (maskOf b) (maskOf a) == maskOf a
abbrev G (gs : List (List Int)) (t : Nat) : List Int := rd_L1 gs (t : Int)
theorem and64All : (List.range 128).all (fun x => (List.range 128).all fun y => Go.bits .and .i64 ((x : Nat) : Int) ((y : Nat) : Int) == Go.bits .and .u64 ((y : Nat) : Int) ((x : Nat) : Int)) = true := by decide +kernel
theorem and64 (x y : Int) (hx : 0 ≤ x ∧ x < 128) (hy : 0 ≤ y ∧ y < 128) : Go.bits .and .i64 x y = Go.bits .and .u64 y x := by
  obtain ⟨a, rfl⟩ := Int.eq_ofNat_of_zero_le hx.1
  obtain ⟨b, rfl⟩ := Int.eq_ofNat_of_zero_le hy.1
  have h := List.all_eq_true.1 (List.all_eq_true.1 and64All a (List.mem_range.2 (by omega))) b (List.mem_range.2 (by omega))
  simpa using h
theorem within_eq (a b : List Int) (ha : a ∈ lists 7) (hb : b ∈ lists 7) (k : Nat) (hk : 20 ≤ k) : spec_l01Within.f k a b = some (incl a b) := by
  have h1 := crowd7 a ha k hk
  have h2 := crowd7 b hb k hk
  unfold spec_l01Within.f
  rw [h1.2.2.1, Option.bind_some, h2.2.2.1, Option.bind_some, and64 _ _ ⟨h1.2.2.2.1, h1.2.2.2.2.1⟩ ⟨h2.2.2.2.1, h2.2.2.2.2.1⟩]
  rfl
theorem contains_f (a b : List Int) : impl_crowd_contains.f (maskOf b) (maskOf a) = some (incl a b) := rfl
def NoIn (gs : List (List Int)) (t j : Nat) : Prop := incl (G gs t) (G gs j) = false ∧ incl (G gs j) (G gs t) = false
def P (n : Int) (gs : List (List Int)) (t : Nat) : Prop := Grp n (G gs t) ∧ (0 < t → lt (rd_L1 gs ((t : Int) - 1)) (G gs t) = true) ∧ ∀ j, j < t → NoIn gs t j
theorem pred (gs : List (List Int)) (t : Nat) (h : 0 < t) : rd_L1 gs ((t : Int) - 1) = G gs (t - 1) := by
  rw [show (t : Int) - 1 = ((t - 1 : Nat) : Int) by omega]
theorem valid_l1 (n : Int) (gs : List (List Int)) (hl : gs.length < 100000000) (i : Nat) (hi : i < gs.length) (hg : ∀ t, t ≤ i → G gs t ∈ lists 7) : ∀ (d j : Nat), j + d = i → ∀ k, d + 25 ≤ k →
  ((∀ t, j ≤ t → t < i → NoIn gs i t) ∧ impl_ValidFamily.l1 k (G gs i) gs (gs.length : Int) i (gs.take i) ((gs.take i).length : Int) j n gs = impl_ValidFamily.l0 (k - d - 1) gs (gs.length : Int) ((i + 1 : Nat) : Int) n gs) ∨
  ((∃ t, t < i ∧ ¬ NoIn gs i t) ∧ impl_ValidFamily.l1 k (G gs i) gs (gs.length : Int) i (gs.take i) ((gs.take i).length : Int) j n gs = some false) := by
 have ht : (gs.take i).length = i := by rw [List.length_take]; omega
 intro d
 induction d with
 | zero =>
  intro j hj k hk
  obtain ⟨k, rfl⟩ : ∃ m, k = m + 1 := ⟨k - 1, by omega⟩
  refine .inl ⟨fun t h1 h2 => by omega, ?_⟩
  conv => lhs; unfold impl_ValidFamily.l1
  rw [if_neg (by rw [ht]; omega), wr i (by omega)]
  rfl
 | succ d ih =>
  intro j hj k hk
  obtain ⟨k, rfl⟩ : ∃ m, k = m + 1 := ⟨k - 1, by omega⟩
  have hrd : rd_L1 (gs.take i) (j : Int) = G gs j := by
   simp only [rd_L1, G, Int.toNat_natCast, List.getD_eq_getElem?_getD]
   rw [List.getElem?_take_of_lt (by omega)]
  have e1 := (crowd7 (G gs j) (hg j (by omega)) k (by omega)).1
  have e2 := (crowd7 (G gs i) (hg i (by omega)) k (by omega)).1
  have step : impl_ValidFamily.l1 (k + 1) (G gs i) gs (gs.length : Int) i (gs.take i) ((gs.take i).length : Int) j n gs =
    (if incl (G gs i) (G gs j) = true then some false else if incl (G gs j) (G gs i) = true then some false else impl_ValidFamily.l1 k (G gs i) gs (gs.length : Int) i (gs.take i) ((gs.take i).length : Int) ((j + 1 : Nat) : Int) n gs) := by
   conv => lhs; unfold impl_ValidFamily.l1
   rw [if_pos (by rw [ht]; omega), if_pos (by omega), if_pos (by rw [ht]; omega), hrd, e1, Option.bind_some, e2, Option.bind_some, contains_f, Option.bind_some, contains_f, Option.bind_some, wr j (by omega)]
  rw [step]
  by_cases c1 : incl (G gs i) (G gs j) = true
  ·exact .inr ⟨⟨j, by omega, fun h => by rw [h.1] at c1; exact absurd c1 (by decide)⟩, by rw [if_pos c1]⟩
  ·rw [if_neg c1]
   by_cases c2 : incl (G gs j) (G gs i) = true
   ·exact .inr ⟨⟨j, by omega, fun h => by rw [h.2] at c2; exact absurd c2 (by decide)⟩, by rw [if_pos c2]⟩
   ·rw [if_neg c2]
    rcases ih (j + 1) (by omega) k (by omega) with ⟨h, e⟩ | ⟨h, e⟩
    ·refine .inl ⟨fun t h1 h2 => ?_, by rw [e, show k + 1 - (d + 1) - 1 = k - d - 1 by omega]⟩
     rcases Nat.lt_or_eq_of_le h1 with h3 | rfl
     ·exact h t h3 h2
     ·exact ⟨by simpa using c1, by simpa using c2⟩
    ·exact .inr ⟨h, e⟩
theorem valid_l0 (n : Int) (hn : 1 ≤ n ∧ n ≤ 7) (gs : List (List Int)) (B : Nat) (hB : B < 100000000) (hl : gs.length < 100000000) (hr : ∀ g ∈ gs, g.length ≤ B) :
  ∀ (d i : Nat), i + d = gs.length → (∀ t, t < i → Grp n (G gs t)) → ∀ k, d * (gs.length + 4) + B + 30 ≤ k →
   ∃ b, impl_ValidFamily.l0 k gs (gs.length : Int) i n gs = some b ∧ (b = true ↔ ∀ t, i ≤ t → t < gs.length → P n gs t) := by
 intro d
 induction d with
 | zero =>
  intro i hi hg k hk
  obtain ⟨k, rfl⟩ : ∃ m, k = m + 1 := ⟨k - 1, by omega⟩
  conv => rhs; unfold impl_ValidFamily.l0
  refine ⟨true, by rw [if_neg (by omega)], by simp; intro t h1 h2; omega⟩
 | succ d ih =>
  intro i hi hg k hk
  rw [Nat.add_mul] at hk
  obtain ⟨k, rfl⟩ : ∃ m, k = m + 2 := ⟨k - 2, by omega⟩
  have hil : i < gs.length := by omega
  have hx : (G gs i).length ≤ B := by rw [G, rdL_at hil]; exact hr _ (List.getElem_mem _)
  obtain ⟨b1, e1, hb1⟩ := isGroup_f n hn (G gs i) (by omega) (k + 1) (by omega)
  have hj1 : ∀ x40 : Bool, impl_ValidFamily.j1 (k + 1) i (G gs i) gs (gs.length : Int) i x40 n gs = if x40 = true then some false else impl_ValidFamily.l1 k (G gs i) gs (gs.length : Int) i (gs.take i) ((gs.take i).length : Int) 0 n gs := by
   intro x40
   conv => lhs; unfold impl_ValidFamily.j1
   by_cases c : x40 = true
   ·rw [if_pos c, if_pos c]
   ·rw [if_neg c, if_neg c, if_pos (by omega), if_pos (by omega), Option.bind_some, Int.toNat_natCast]
  have hl0 : impl_ValidFamily.l0 (k + 2) gs (gs.length : Int) i n gs = if b1 = true then (if i > 0 then ((slices_Compare_int64_int64.f (k + 1) (rd_L1 gs ((i : Int) - 1)) (G gs i)).bind fun t233 => impl_ValidFamily.j1 (k + 1) i (G gs i) gs (gs.length : Int) i (decide (t233 ≥ 0)) n gs) else impl_ValidFamily.j1 (k + 1) i (G gs i) gs (gs.length : Int) i false n gs) else impl_ValidFamily.j1 (k + 1) i (G gs i) gs (gs.length : Int) i true n gs := by
   conv => lhs; unfold impl_ValidFamily.l0
   rw [if_pos (by omega), if_pos (by omega), if_pos (by omega)]
   rw [show rd_L1 gs (i : Int) = G gs i from rfl, e1, Option.bind_some]
   by_cases c : b1 = true
   ·rw [if_pos c, if_pos c]
    by_cases c0 : i > 0
    ·rw [if_pos (by omega), wp1 i (by omega), if_pos (by omega), if_pos (by omega), if_pos c0]
    ·rw [if_neg (by omega), if_neg c0]
   ·rw [if_neg c, if_neg c]
  rw [hl0, all_step hil]
  by_cases c : b1 = true
  ·rw [if_pos c]
   have hGi := hb1.1 c
   have hall : ∀ t, t ≤ i → Grp n (G gs t) := fun t ht => by
    rcases Nat.lt_or_eq_of_le ht with h | rfl
    ·exact hg t h
    ·exact hGi
   have h7 : ∀ t, t ≤ i → G gs t ∈ lists 7 := fun t ht => grp7 n hn _ (hall t ht)
   have fin : (0 < i → lt (rd_L1 gs ((i : Int) - 1)) (G gs i) = true) → ∃ b, impl_ValidFamily.l1 k (G gs i) gs (gs.length : Int) i (gs.take i) ((gs.take i).length : Int) 0 n gs = some b ∧ (b = true ↔ P n gs i ∧ ∀ j, i + 1 ≤ j → j < gs.length → P n gs j) := by
    intro hlt
    rcases valid_l1 n gs hl i hil h7 i 0 (by omega) k (by omega) with ⟨h, e⟩ | ⟨⟨t, ht, h⟩, e⟩
    ·obtain ⟨b, e2, hb⟩ := ih (i + 1) (by omega) (fun t ht => hall t (by omega)) (k - i - 1) (by omega)
     rw [show ((0 : Nat) : Int) = 0 from rfl] at e
     refine ⟨b, by rw [e, e2], ?_⟩
     rw [hb]
     exact ⟨fun f => ⟨⟨hGi, hlt, fun j hj => h j (by omega) hj⟩, f⟩, fun f => f.2⟩
    ·rw [show ((0 : Nat) : Int) = 0 from rfl] at e
     exact ⟨false, e, by simp only [Bool.false_eq_true, false_iff]; rintro ⟨⟨_, _, f⟩, _⟩; exact h (f t ht)⟩
   by_cases c0 : i > 0
   ·rw [if_pos c0]
    obtain ⟨cc, ec, hc, _⟩ := cmp7 (rd_L1 gs ((i : Int) - 1)) (G gs i) (by rw [pred gs i c0]; exact h7 _ (by omega)) (h7 i (by omega)) (k + 1) (by omega)
    rw [ec, Option.bind_some, hj1]
    by_cases c1 : cc ≥ 0
    ·rw [if_pos (decide_eq_true c1)]
     exact ⟨false, rfl, by simp only [Bool.false_eq_true, false_iff]; rintro ⟨⟨_, f, _⟩, _⟩; have := hc.2 (f c0); omega⟩
    ·rw [if_neg (by rw [decide_eq_false c1]; simp)]
     exact fin fun _ => hc.1 (by omega)
   ·rw [if_neg c0, hj1, if_neg (by simp)]
    exact fin fun h => absurd h c0
  ·rw [if_neg c, hj1, if_pos rfl]
   exact ⟨false, rfl, by simp only [Bool.false_eq_true, false_iff]; rintro ⟨⟨f, _⟩, _⟩; exact c (hb1.2 f)⟩
def Qt (n : Int) (gs : List (List Int)) (t : Nat) : Prop := Grp n (G gs t) ∧ (0 < t → lt (rd_L1 gs ((t : Int) - 1)) (G gs t) = true)
theorem ok_l0 (n : Int) (hn : 1 ≤ n ∧ n ≤ 7) (gs : List (List Int)) (B : Nat) (hB : B < 100000000) (hl : gs.length < 100000000) (hr : ∀ g ∈ gs, g.length ≤ B) :
  ∀ (d i : Nat), i + d = gs.length → (∀ t, t < i → Grp n (G gs t)) → ∀ k, d + B + 30 ≤ k →
   ((∀ t, i ≤ t → t < gs.length → Qt n gs t) ∧ spec_l01Ok.l0 k i n gs = spec_l01Ok.l1 (k - d - 1) 0 n gs) ∨ ((∃ t, t < gs.length ∧ ¬ Qt n gs t) ∧ spec_l01Ok.l0 k i n gs = some false) := by
 intro d
 induction d with
 | zero =>
  intro i hi hg k hk
  obtain ⟨k, rfl⟩ : ∃ m, k = m + 1 := ⟨k - 1, by omega⟩
  refine .inl ⟨fun t h1 h2 => by omega, ?_⟩
  conv => lhs; unfold spec_l01Ok.l0
  rw [if_neg (by omega)]
  rfl
 | succ d ih =>
  intro i hi hg k hk
  obtain ⟨k, rfl⟩ : ∃ m, k = m + 1 := ⟨k - 1, by omega⟩
  have hil : i < gs.length := by omega
  have hx : (G gs i).length ≤ B := by rw [G, rdL_at hil]; exact hr _ (List.getElem_mem _)
  obtain ⟨b1, e1, hb1⟩ := group_f n hn (G gs i) (by omega) k (by omega)
  have hl0 : spec_l01Ok.l0 (k + 1) i n gs = if b1 = true then (if i > 0 then ((spec_l01Before.f k (rd_L1 gs ((i : Int) - 1)) (G gs i)).bind fun t123 => if t123 = true then spec_l01Ok.l0 k ((i + 1 : Nat) : Int) n gs else some false) else spec_l01Ok.l0 k ((i + 1 : Nat) : Int) n gs) else some false := by
   conv => lhs; unfold spec_l01Ok.l0
   rw [if_pos (by omega), if_pos (by omega)]
   rw [show rd_L1 gs (i : Int) = G gs i from rfl, e1, Option.bind_some]
   by_cases c : b1 = true
   ·rw [if_pos c, if_pos c]
    by_cases c0 : i > 0
    ·rw [if_pos (by omega), wp1 i (by omega), if_pos (by omega), if_pos (by omega), if_pos c0, wr i (by omega)]
    ·rw [if_neg (by omega), if_neg c0, wr i (by omega)]
   ·rw [if_neg c, if_neg c]
  rw [hl0]
  by_cases c : b1 = true
  ·rw [if_pos c]
   have hGi := hb1.1 c
   have hall : ∀ t, t < i + 1 → Grp n (G gs t) := fun t ht => by
    rcases Nat.lt_or_eq_of_le (Nat.le_of_lt_succ ht) with h | rfl
    ·exact hg t h
    ·exact hGi
   have go_on : Qt n gs i → ((∀ t, i ≤ t → t < gs.length → Qt n gs t) ∧ spec_l01Ok.l0 k ((i + 1 : Nat) : Int) n gs = spec_l01Ok.l1 (k + 1 - (d + 1) - 1) 0 n gs) ∨ ((∃ t, t < gs.length ∧ ¬ Qt n gs t) ∧ spec_l01Ok.l0 k ((i + 1 : Nat) : Int) n gs = some false) := by
    intro hq
    rcases ih (i + 1) (by omega) hall k (by omega) with ⟨h, e⟩ | ⟨h, e⟩
    ·exact .inl ⟨(all_step hil).2 ⟨hq, h⟩, by rw [e, show k + 1 - (d + 1) - 1 = k - d - 1 by omega]⟩
    ·exact .inr ⟨h, e⟩
   by_cases c0 : i > 0
   ·rw [if_pos c0]
    obtain ⟨_, _, _, eb⟩ := cmp7 (rd_L1 gs ((i : Int) - 1)) (G gs i) (by rw [pred gs i c0]; exact grp7 n hn _ (hall _ (by omega))) (grp7 n hn _ hGi) k (by omega)
    rw [eb, Option.bind_some]
    by_cases c1 : lt (rd_L1 gs ((i : Int) - 1)) (G gs i) = true
    ·rw [if_pos c1]
     exact go_on ⟨hGi, fun _ => c1⟩
    ·rw [if_neg c1]
     exact .inr ⟨⟨i, hil, fun f => c1 (f.2 c0)⟩, rfl⟩
   ·rw [if_neg c0]
    exact go_on ⟨hGi, fun h => absurd h c0⟩
  ·rw [if_neg c]
   exact .inr ⟨⟨i, hil, fun f => c (hb1.2 f.1)⟩, rfl⟩
theorem ok_l2 (n : Int) (gs : List (List Int)) (hl : gs.length < 100000000) (hg : ∀ t, t < gs.length → G gs t ∈ lists 7) (i : Nat) (hi : i < gs.length) : ∀ (d j : Nat), j + d = gs.length → ∀ k, d + 25 ≤ k →
  ((∀ t, j ≤ t → t < gs.length → t ≠ i → incl (G gs i) (G gs t) = false) ∧ spec_l01Ok.l2 k i j n gs = spec_l01Ok.l1 (k - d - 1) ((i + 1 : Nat) : Int) n gs) ∨
  ((∃ t, t < gs.length ∧ t ≠ i ∧ incl (G gs i) (G gs t) = true) ∧ spec_l01Ok.l2 k i j n gs = some false) := by
 intro d
 induction d with
 | zero =>
  intro j hj k hk
  obtain ⟨k, rfl⟩ : ∃ m, k = m + 1 := ⟨k - 1, by omega⟩
  refine .inl ⟨fun t h1 h2 => by omega, ?_⟩
  conv => lhs; unfold spec_l01Ok.l2
  rw [if_neg (by omega), wr i (by omega)]
  rfl
 | succ d ih =>
  intro j hj k hk
  obtain ⟨k, rfl⟩ : ∃ m, k = m + 1 := ⟨k - 1, by omega⟩
  have step : spec_l01Ok.l2 (k + 1) i j n gs = if i = j then spec_l01Ok.l2 k i ((j + 1 : Nat) : Int) n gs else if incl (G gs i) (G gs j) = true then some false else spec_l01Ok.l2 k i ((j + 1 : Nat) : Int) n gs := by
   conv => lhs; unfold spec_l01Ok.l2
   rw [if_pos (by omega), wr j (by omega)]
   by_cases c : i = j
   ·rw [if_pos (by omega), if_pos c]
   ·rw [if_neg (by omega), if_pos (by omega), if_pos (by omega), if_pos (by omega), within_eq _ _ (hg i hi) (hg j (by omega)) k (by omega), Option.bind_some, if_neg c]
  rw [step]
  have on : (j ≠ i → incl (G gs i) (G gs j) = false) → ((∀ t, j ≤ t → t < gs.length → t ≠ i → incl (G gs i) (G gs t) = false) ∧ spec_l01Ok.l2 k i ((j + 1 : Nat) : Int) n gs = spec_l01Ok.l1 (k + 1 - (d + 1) - 1) ((i + 1 : Nat) : Int) n gs) ∨
    ((∃ t, t < gs.length ∧ t ≠ i ∧ incl (G gs i) (G gs t) = true) ∧ spec_l01Ok.l2 k i ((j + 1 : Nat) : Int) n gs = some false) := by
   intro hq
   rcases ih (j + 1) (by omega) k (by omega) with ⟨h, e⟩ | ⟨h, e⟩
   ·refine .inl ⟨fun t h1 h2 h3 => ?_, by rw [e, show k + 1 - (d + 1) - 1 = k - d - 1 by omega]⟩
    rcases Nat.lt_or_eq_of_le h1 with h4 | rfl
    ·exact h t h4 h2 h3
    ·exact hq h3
   ·exact .inr ⟨h, e⟩
  by_cases c : i = j
  ·rw [if_pos c]
   exact on fun h => absurd c.symm h
  ·rw [if_neg c]
   by_cases c1 : incl (G gs i) (G gs j) = true
   ·rw [if_pos c1]
    exact .inr ⟨⟨j, by omega, fun h => c h.symm, c1⟩, rfl⟩
   ·rw [if_neg c1]
    exact on fun _ => by simpa using c1
theorem ok_l1 (n : Int) (gs : List (List Int)) (hl : gs.length < 100000000) (hg : ∀ t, t < gs.length → G gs t ∈ lists 7) : ∀ (d i : Nat), i + d = gs.length → ∀ k, d * (gs.length + 4) + 30 ≤ k →
    ∃ b, spec_l01Ok.l1 k i n gs = some b ∧ (b = true ↔ ∀ s, i ≤ s → s < gs.length → ∀ t, t < gs.length → t ≠ s → incl (G gs s) (G gs t) = false) := by
  intro d
  induction d with
  | zero =>
    intro i hi k hk
    obtain ⟨k, rfl⟩ : ∃ m, k = m + 1 := ⟨k - 1, by omega⟩
    conv => rhs; unfold spec_l01Ok.l1
    exact ⟨true, by rw [if_neg (by omega)], by simp; intro t h1 h2; omega⟩
  | succ d ih =>
    intro i hi k hk
    rw [Nat.add_mul] at hk
    obtain ⟨k, rfl⟩ : ∃ m, k = m + 1 := ⟨k - 1, by omega⟩
    have hil : i < gs.length := by omega
    have step : spec_l01Ok.l1 (k + 1) i n gs = spec_l01Ok.l2 k i 0 n gs := by
      conv => lhs; unfold spec_l01Ok.l1
      rw [if_pos (by omega)]
    rw [step, all_step hil]
    rcases ok_l2 n gs hl hg i hil gs.length 0 (by omega) k (by omega) with ⟨h, e⟩ | ⟨⟨t, ht, h1, h2⟩, e⟩
    · obtain ⟨b, e2, hb⟩ := ih (i + 1) (by omega) (k - gs.length - 1) (by omega)
      rw [show ((0 : Nat) : Int) = 0 from rfl] at e
      refine ⟨b, by rw [e, e2], ?_⟩
      rw [hb]
      exact ⟨fun f => ⟨fun t h1 h2 => h t (by omega) h1 h2, f⟩, fun f => f.2⟩
    · rw [show ((0 : Nat) : Int) = 0 from rfl] at e
      exact ⟨false, e, by simp only [Bool.false_eq_true, false_iff]; rintro ⟨f, _⟩; rw [f t ht h1] at h2; exact absurd h2 (by decide)⟩
def Valid (n : Int) (gs : List (List Int)) : Prop := (1 ≤ n ∧ n ≤ 7) ∧ ∀ t, t < gs.length → P n gs t
theorem valid_both (n : Int) (gs : List (List Int)) (B : Nat) (hB : B < 100000000) (hl : gs.length < 100000000) (hr : ∀ g ∈ gs, g.length ≤ B) (k : Nat) (hk : gs.length * (gs.length + 4) + gs.length + B + 70 ≤ k) :
  ∃ b, impl_ValidFamily.f k n gs = some b ∧ spec_ValidFamily.f k n gs = some b ∧ (b = true ↔ Valid n gs) := by
 by_cases hn : 1 ≤ n ∧ n ≤ 7
 ·obtain ⟨b, e, hb⟩ := valid_l0 n hn gs B hB hl hr gs.length 0 (by omega) (fun t h => by omega) k (by omega)
  rw [show ((0 : Nat) : Int) = 0 from rfl] at e
  refine ⟨b, ?_, ?_, ?_⟩
  ·unfold impl_ValidFamily.f
   rw [within_f, Option.bind_some, if_pos (decide_eq_true hn)]
   exact e
  ·unfold spec_ValidFamily.f spec_l01Ok.f
   rw [in_f, Option.bind_some, if_pos (decide_eq_true hn)]
   rcases ok_l0 n hn gs B hB hl hr gs.length 0 (by omega) (fun t h => by omega) k (by omega) with ⟨h, e2⟩ | ⟨⟨t, ht, h⟩, e2⟩
   ·rw [show ((0 : Nat) : Int) = 0 from rfl] at e2
    have hg : ∀ t, t < gs.length → G gs t ∈ lists 7 := fun t ht => grp7 n hn _ (h t (by omega) ht).1
    obtain ⟨b2, e3, hb2⟩ := ok_l1 n gs hl hg gs.length 0 (by omega) (k - gs.length - 1) (by omega)
    rw [show ((0 : Nat) : Int) = 0 from rfl] at e3
    rw [e2, e3, Option.bind_some]
    congr 1
    rw [Bool.eq_iff_iff, hb, hb2]
    constructor
    ·intro f t _ ht
     refine ⟨(h t (by omega) ht).1, (h t (by omega) ht).2, fun j hj => ⟨f t (by omega) ht j (by omega) (by omega), f j (by omega) (by omega) t ht (by omega)⟩⟩
    ·intro f s _ hs t ht hne
     rcases Nat.lt_or_ge t s with c | c
     ·exact ((f s (by omega) hs).2.2 t c).1
     ·exact ((f t (by omega) ht).2.2 s (by omega)).2
   ·rw [show ((0 : Nat) : Int) = 0 from rfl] at e2
    rw [e2, Option.bind_some]
    congr 1
    rw [Bool.eq_iff_iff, hb]
    simp only [Bool.false_eq_true, false_iff]
    intro f
    exact h ⟨(f t (by omega) ht).1, (f t (by omega) ht).2.1⟩
  ·rw [hb]
   exact ⟨fun f => ⟨hn, fun t ht => f t (by omega) ht⟩, fun f t _ ht => f.2 t ht⟩
 ·refine ⟨false, ?_, ?_, ?_⟩
  ·unfold impl_ValidFamily.f
   rw [within_f, Option.bind_some, if_neg (by rw [decide_eq_false hn]; simp)]
  ·unfold spec_ValidFamily.f spec_l01Ok.f
   rw [in_f, Option.bind_some, if_neg (by rw [decide_eq_false hn]; simp)]
   rfl
  ·simp only [Bool.false_eq_true, false_iff]
   exact fun f => hn f.1
theorem code_both (n : Int) (gs : List (List Int)) (B : Nat) (hB : B < 100000000) (hl : gs.length < 100000000) (hr : ∀ g ∈ gs, g.length ≤ B) (k : Nat) (hk : gs.length * (gs.length + 4) + gs.length + B + 70 ≤ k) :
    ∃ c, impl_rankedCode.f k n gs = some c ∧ spec_l07Family.f k n gs = some c ∧ (c = 0 → Valid n gs ∧ n ≤ 5 ∧ 0 < gs.length ∧ 0 < (G gs 0).length) := by
  obtain ⟨b, e1, e2, hb⟩ := valid_both n gs B hB hl hr k hk
  unfold impl_rankedCode.f spec_l07Family.f
  rw [e1, e2, Option.bind_some]
  by_cases c : b = true
  · rw [if_pos c]
    by_cases c5 : n > 5
    · rw [if_pos c5]; exact ⟨3, rfl, rfl, fun h => absurd h (by decide)⟩
    · rw [if_neg c5]
      by_cases c0 : (gs.length : Int) = 0
      · rw [if_pos c0]; exact ⟨4, rfl, rfl, fun h => absurd h (by decide)⟩
      · rw [if_neg c0, if_pos (by omega)]
        by_cases cg : ((rd_L1 gs 0).length : Int) = 0
        · rw [if_pos cg]; exact ⟨4, rfl, rfl, fun h => absurd h (by decide)⟩
        · rw [if_neg cg]
          exact ⟨0, rfl, rfl, fun _ => ⟨hb.1 c, by omega, by omega, by have : G gs 0 = rd_L1 gs 0 := rfl; rw [this]; omega⟩⟩
  · rw [if_neg c]; exact ⟨1, rfl, rfl, fun h => absurd h (by decide)⟩
end Ex
end Go.Proofs.Ytmbeijjkfmgkpaa.Pure
namespace Go.Proofs.Ytmbeijjkfmgkpaa.Q
open Go.RowKit Go.Proofs.YtmbeijjkfmgkpaaW.PrintWords Go.Proofs.YtmbeijjkfmgkpaaW.PrintLast Go.Proofs.YtmbeijjkfmgkpaaW.PrintMore
attribute [local go_sem] max2_int min2_int max_two min_two max_three min_three max_four min_four
set_option linter.unusedVariables false
set_option linter.unusedSimpArgs false
def fidx {α : Type} (p : α → Bool) : List α → Int
  | [] => -1
  | x :: l => if p x = true then 0 else if fidx p l < 0 then -1 else fidx p l + 1
theorem fidx_any {α : Type} (p : α → Bool) (l : List α) : decide (fidx p l ≥ 0) = l.any p := by
  induction l with
  | nil => rfl
  | cons x l ih =>
    rw [List.any_cons, ← ih]
    simp only [fidx]
    by_cases hp : p x = true
    · simp [hp]
    · by_cases h : fidx p l < 0
      · simp [hp, h]
      · simp [hp, h]; omega
theorem fidx_hit {α : Type} (p : α → Bool) (l : List α) (z : α) : ∀ i : Nat, i < l.length → p (l.getD i z) = true → (∀ j, j < i → p (l.getD j z) = false) → fidx p l = i := by
  induction l with
  | nil => intro i hi; simp at hi
  | cons x l ih =>
    intro i hi hp hj
    cases i with
    | zero => simp only [List.getD_cons_zero] at hp; simp [fidx, hp]
    | succ i =>
      have h0 : p x = false := by simpa using hj 0 (by omega)
      have h1 := ih i (by simpa using hi) (by simpa using hp) (fun j h => by simpa using hj (j + 1) (by omega))
      have h2 : ¬ ((i : Int) < 0) := by omega
      simp [fidx, h0, h1, h2]
theorem fidx_miss {α : Type} (p : α → Bool) (l : List α) (z : α) (h : ∀ j, j < l.length → p (l.getD j z) = false) : fidx p l = -1 := by
  induction l with
  | nil => rfl
  | cons x l ih =>
    have h0 : p x = false := by simpa using h 0 (by simp)
    have h1 := ih (fun j hj => by simpa using h (j + 1) (by simpa using hj))
    simp [fidx, h0, h1]
set_option maxHeartbeats 2000000 in
theorem idxSets_calls (l : List Int) (p : Int → Bool) (g : Nat) (rb lb : Array Value) (eg : ∀ args w, (callFunc g args).run Try.prog w = .ok (.enter g args) w) (A0 : Option Addr) (c0 : Nat) (w : World) (hr0 : Kd.C (Kd.int .u64) w A0 l.length l) (hc0 : l.length ≤ c0)
  (hp : ∀ x, x ∈ l → ∀ (W : World), Drawn0 w W → Calls Try.prog g (rb ++ #[.int .u64 x] ++ lb) W fun e w' => e = .returned (.bool (p x)) ∧ Drawn0 W w') :
  Calls Try.prog 149 #[.slice A0 l.length c0, .func (.func g) rb lb] w fun e w' => e = .returned (.int .i64 (fidx p l)) ∧ Drawn0 w w' := by
 have hmax : l.length ≤ 9223372036854775807 := hr0.2.1
 have HR0 := Aside0.mk hr0
 have HP := Aside0.mk hp
 clear hr0 hp hc0
 go_enter Try.func149, Try.ntmps149
 go_wp2
 go_loopg [5, 8] l.length (fun gg _ s8 wr => ∃ kk : Nat, kk ≤ l.length ∧ l.length - kk ≤ gg ∧ s8 = .int .i64 kk ∧ Aside0 (Drawn0 w wr) ∧ Aside0 (∀ j, j < kk → p (l.getD j 0) = false))
 case atStart => exact ⟨0, Nat.zero_le _, by omega, rfl, ⟨Drawn0.refl w⟩, ⟨fun j hj => absurd hj (Nat.not_lt_zero _)⟩⟩
 case round =>
  obtain ⟨kk, hkk, hg, rfl, HB, HA⟩ := hrel
  by_cases hlt : kk < l.length
  ·have hltz : (kk : Int) < (l.length : Int) := by omega
   obtain ⟨ad, e1, hx⟩ := Kd.at_int HR0.out (kk : Int) (by omega) hltz
   subst e1
   have hrd : rd l (kk : Int) = l.getD kk 0 := by simp [rd]
   rw [hrd] at hx
   replace hx := pw_cell_below HB.out.below hx
   have hmem : l.getD kk 0 ∈ l := by rw [List.getD_eq_getElem?_getD, List.getElem?_eq_getElem hlt]; exact List.getElem_mem hlt
   have hcall := Aside0.mk (HP.out _ hmem wr HB.out)
   simp only [Int.toNat_natCast] at hx
   generalize hy : l.getD kk 0 = y at hx hcall hmem
   have HY := Aside0.mk hy
   clear hy hrd
   cases hq : p y with
   | true =>
    have HQ := Aside0.mk hq
    have hcall2 := Aside0.mk (show Calls Try.prog g (rb ++ #[.int .u64 y] ++ lb) wr fun e w' => e = .returned (.bool true) ∧ Drawn0 wr w' from by rw [← hq]; exact hcall.out)
    clear hcall hq
    go_wp2_with fail
    refine hcall2.out.mono ?_
    rintro e w' ⟨rfl, ⟨⟨n9, rfl⟩⟩⟩
    clear hcall2 HP eg
    go_wp2
    go_ret
    refine ⟨?_, HB.out.step _⟩
    rw [fidx_hit p l 0 kk hlt (by rw [HY.out]; exact HQ.out) HA.out]
    rfl
   | false =>
    have HQ := Aside0.mk hq
    have hcall2 := Aside0.mk (show Calls Try.prog g (rb ++ #[.int .u64 y] ++ lb) wr fun e w' => e = .returned (.bool false) ∧ Drawn0 wr w' from by rw [← hq]; exact hcall.out)
    clear hcall hq
    go_wp2_with fail
    refine hcall2.out.mono ?_
    rintro e w' ⟨rfl, ⟨⟨n9, rfl⟩⟩⟩
    clear hcall2 HP eg
    go_wp2
    go_roundg (l.length - (kk + 1))
    case measure => omega
    case rel =>
     refine ⟨kk + 1, by omega, by omega, by go_num, ⟨HB.out.step _⟩, ⟨fun j hj => ?_⟩⟩
     by_cases e : j = kk
     ·subst e
      rw [HY.out]; exact HQ.out
     ·exact HA.out j (by omega)
  ·have hltz : ¬ (kk : Int) < (l.length : Int) := by omega
   have : kk = l.length := by omega
   subst this
   go_wp2
   go_ret
   refine ⟨?_, HB.out⟩
   rw [fidx_miss p l 0 HA.out]
   rfl
set_option maxHeartbeats 1000000 in
theorem containsSets_calls (l : List Int) (p : Int → Bool) (g : Nat) (rb lb : Array Value) (eg : ∀ args w, (callFunc g args).run Try.prog w = .ok (.enter g args) w) (A0 : Option Addr) (c0 : Nat) (w : World) (hr0 : Kd.C (Kd.int .u64) w A0 l.length l) (hc0 : l.length ≤ c0)
    (hp : ∀ x, x ∈ l → ∀ (W : World), Drawn0 w W → Calls Try.prog g (rb ++ #[.int .u64 x] ++ lb) W fun e w' => e = .returned (.bool (p x)) ∧ Drawn0 W w') :
    Calls Try.prog 103 #[.slice A0 l.length c0, .func (.func g) rb lb] w fun e w' => e = .returned (.bool (l.any p)) ∧ Drawn0 w w' := by
  have HC := Aside0.mk (idxSets_calls l p g rb lb eg A0 c0 w hr0 hc0 hp)
  clear hr0 hp hc0 eg
  rw [← fidx_any]
  go_enter Try.func103, Try.ntmps103
  go_wp2_with fail
  refine HC.out.mono ?_
  rintro e w' ⟨rfl, hb⟩
  clear HC
  go_wp2
  go_ret
  exact ⟨rfl, hb⟩
def anyIn.f (k : Nat) (l : List Int) (a : Int) : Option Bool := some (l.any fun d => Go.bits .and .u64 a d == d)
theorem anyIn.mono : ∀ a0 a1 k, LeO (anyIn.f k a0 a1) (anyIn.f (k + 1) a0 a1) := fun _ _ _ => LeO.refl _
theorem anyIn_calls (k : Nat) (A0 : Option Addr) (c0 : Nat) (l0 : List Int) (a1 : Int) (r : Bool) (w : World) (hr0 : Kd.C (Kd.int .u64) w A0 l0.length l0) (hc0 : l0.length ≤ c0) (h : anyIn.f k l0 a1 = some r) :
    Calls Try.prog 103 #[.slice A0 l0.length c0, .func (.func 94) #[.int .u64 a1] #[]] w fun e w' => e = .returned (.bool r) ∧ Drawn0 w w' := by
  obtain rfl := Option.some.inj h
  exact containsSets_calls l0 (fun d => Go.bits .and .u64 a1 d == d) 94 #[.int .u64 a1] #[] (enters_of Try.func94 (by kernel_rfl) rfl) A0 c0 w hr0 hc0 (fun x _ W _ => impl_crowd_contains.calls a1 x _ W rfl)
def impl_crowd_166.l0 : Nat → List Int → Int → Int → Int → Option (Int)
  | 0, _, _, _, _ => none
  | k + 1, x0, x1, x7, x8 => if x8 < x7 then (if 0 ≤ x8 then (if x8 < (x0.length : Int) then (if x1 = (rd x0 x8) then (some x8) else (impl_crowd_166.l0 k x0 x1 x7 (wrap64 (x8 + 1)))) else (none)) else (none)) else (some (-1))
def impl_crowd_166.f (k : Nat) (l0 : List Int) (a1 : Int) : Option (Int) := impl_crowd_166.l0 k l0 a1 (l0.length : Int) 0
theorem impl_crowd_166.mono_l : ∀ k, (∀ y0 y1 y2 y3, LeO (impl_crowd_166.l0 k y0 y1 y2 y3) (impl_crowd_166.l0 (k + 1) y0 y1 y2 y3))
  | 0 => fun _ _ _ _ r h => by simp [impl_crowd_166.l0] at h
  | k + 1 => by
    have ih0 := impl_crowd_166.mono_l k
    · intro y0 y1 y2 y3
      unfold impl_crowd_166.l0
      repeat' first
      | (with_reducible exact ih0 _ _ _ _)
      | (with_reducible exact LeO.refl _)
      | (with_reducible exact LeO.none _)
      | (with_reducible refine LeO.ite ?_ ?_)
      | (with_reducible refine LeO.bind ?_ (fun _ => ?_))
      | exact ih0 _ _ _ _
      | exact LeO.none _
      | refine LeO.ite ?_ ?_
      | refine LeO.bind ?_ (fun _ => ?_)
theorem impl_crowd_166.mono : ∀ a0 a1 k, LeO (impl_crowd_166.f k a0 a1) (impl_crowd_166.f (k + 1) a0 a1) := by
  intro a0 a1 k
  have ih0 := impl_crowd_166.mono_l k
  unfold impl_crowd_166.f
  repeat' first
      | (with_reducible exact ih0 _ _ _ _)
      | (with_reducible exact LeO.refl _)
      | (with_reducible exact LeO.none _)
      | (with_reducible refine LeO.ite ?_ ?_)
      | (with_reducible refine LeO.bind ?_ (fun _ => ?_))
      | exact ih0 _ _ _ _
      | exact LeO.none _
      | refine LeO.ite ?_ ?_
      | refine LeO.bind ?_ (fun _ => ?_)
set_option maxHeartbeats 8000000 in
set_option maxRecDepth 100000 in
theorem impl_crowd_166.calls (k : Nat) (A0 : Option Addr) (c0 : Nat) (l0 : List Int) (a1 : Int) (r : Int) (w : World) (hr0 : Kd.C (Kd.int .u64) w A0 l0.length l0) (hc0 : l0.length ≤ c0) (h : impl_crowd_166.f k l0 a1 = some r) :
  Calls Try.prog 166 #[.slice A0 l0.length c0, .int .u64 a1] w fun e w' => e = .returned (.int .i64 r) ∧ Drawn0 w w' := by
 have HR0 := Aside0.mk hr0
 have HC0 := Aside0.mk hc0
 clear hr0 hc0
 have H : (impl_crowd_166.l0 k l0 a1 (l0.length : Int) 0) = some r := h
 clear h
 have H' := Aside0.mk H
 clear H
 go_enter Try.func166, Try.ntmps166
 go_wp2
 go_loopg [8] k (fun kq v8 w' => ∃ (x8_1 : Int), v8 = .int .i64 x8_1 ∧ Aside0 (impl_crowd_166.l0 kq l0 a1 (l0.length : Int) x8_1 = some r) ∧ Aside0 (kq ≤ k) ∧ Drawn0 w w')
 case atStart => exact ⟨(0), zt, H', ⟨Nat.le_refl _⟩, by repeat (first | exact Drawn0.refl _ | apply Drawn0.step)⟩
 case round =>
  clear H'
  obtain ⟨x8_1, rfl, HA, HK1, ⟨m1, rfl⟩⟩ := hrel
  cases gk with
  | zero => exact absurd HA.out (by simp [impl_crowd_166.l0])
  | succ k1 =>
   have H := HA.out
   clear HA
   simp only [impl_crowd_166.l0] at H
   by_cases c3 : x8_1 < (l0.length : Int)
   ·rw [if_pos c3] at H
    have c3b0 : decide (x8_1 < (l0.length : Int)) = true := decide_eq_true c3
    clear c3
    by_cases c4 : 0 ≤ x8_1
    ·rw [if_pos c4] at H
     have c4b0 : decide (0 ≤ x8_1) = true := decide_eq_true c4
     clear c4
     by_cases c5 : x8_1 < (l0.length : Int)
     ·rw [if_pos c5] at H
      have c5b0 : decide (x8_1 < (l0.length : Int)) = true := decide_eq_true c5
      clear c5
      by_cases c6 : a1 = (rd l0 x8_1)
      ·rw [if_pos c6] at H
       have c6b0 : (a1 == (rd l0 x8_1)) = true := beq_iff_eq.mpr c6
       have c6b1 : (a1 != (rd l0 x8_1)) = false := bne_eq_false_iff_eq.mpr c6
       clear c6
       obtain rfl := Option.some.inj H
       have p682 : 0 ≤ (x8_1 : Int) := of_decide_eq_true zq
       have q682 : x8_1 < (l0.length : Int) := of_decide_eq_true zq
       obtain ⟨ad682, e682, hx682_0⟩ := Kd.at_int HR0.out x8_1 p682 q682
       cases e682
       replace p682 := eq_true p682
       replace q682 := eq_true q682
       go_wp2
       go_ret
       exact ⟨by first | rfl | (simp; done) | (simp [*]; done), by repeat (first | exact Drawn0.refl _ | apply Drawn0.step)⟩
      ·rw [if_neg c6] at H
       have c6b0 : (a1 == (rd l0 x8_1)) = false := beq_eq_false_iff_ne.mpr c6
       have c6b1 : (a1 != (rd l0 x8_1)) = true := bne_iff_ne.mpr c6
       have H' := Aside0.mk H
       clear H
       have p682 : 0 ≤ (x8_1 : Int) := of_decide_eq_true zq
       have q682 : x8_1 < (l0.length : Int) := of_decide_eq_true zq
       obtain ⟨ad682, e682, hx682_0⟩ := Kd.at_int HR0.out x8_1 p682 q682
       cases e682
       replace p682 := eq_true p682
       replace q682 := eq_true q682
       go_wp2
       go_roundg k1
       case measure => have := HK1.out; omega
       case rel => exact ⟨(wrap64 (x8_1 + 1)), zt, H', ⟨by have := HK1.out; omega⟩, by repeat (first | exact Drawn0.refl _ | apply Drawn0.step)⟩
     ·rw [if_neg c5] at H
      exact absurd H (by simp)
    ·rw [if_neg c4] at H
     exact absurd H (by simp)
   ·rw [if_neg c3] at H
    have c3b0 : decide (x8_1 < (l0.length : Int)) = false := decide_eq_false c3
    clear c3
    obtain rfl := Option.some.inj H
    go_wp2
    go_ret
    exact ⟨by first | rfl | (simp; done) | (simp [*]; done), by repeat (first | exact Drawn0.refl _ | apply Drawn0.step)⟩
def impl_crowd_144.f (k : Nat) (l0 : List Int) (a1 : Int) : Option (Bool) := (impl_crowd_166.f k l0 a1).bind fun t683 => (some (decide (t683 ≥ 0)))
theorem impl_crowd_144.mono : ∀ a0 a1 k, LeO (impl_crowd_144.f k a0 a1) (impl_crowd_144.f (k + 1) a0 a1) := by
  intro a0 a1 k
  unfold impl_crowd_144.f
  repeat' first
      | (with_reducible exact impl_crowd_166.mono _ _ _)
      | (with_reducible exact LeO.refl _)
      | (with_reducible exact LeO.none _)
      | (with_reducible refine LeO.ite ?_ ?_)
      | (with_reducible refine LeO.bind ?_ (fun _ => ?_))
      | exact impl_crowd_166.mono _ _ _
      | exact LeO.none _
      | refine LeO.ite ?_ ?_
      | refine LeO.bind ?_ (fun _ => ?_)
set_option maxHeartbeats 8000000 in
set_option maxRecDepth 100000 in
theorem impl_crowd_144.calls (k : Nat) (A0 : Option Addr) (c0 : Nat) (l0 : List Int) (a1 : Int) (r : Bool) (w : World) (hr0 : Kd.C (Kd.int .u64) w A0 l0.length l0) (hc0 : l0.length ≤ c0) (h : impl_crowd_144.f k l0 a1 = some r) :
    Calls Try.prog 144 #[.slice A0 l0.length c0, .int .u64 a1] w fun e w' => e = .returned (.bool r) ∧ Drawn0 w w' := by
  have HR0 := Aside0.mk hr0
  have HC0 := Aside0.mk hc0
  clear hr0 hc0
  have H : ((impl_crowd_166.f k l0 a1).bind fun t683 => (some (decide (t683 ≥ 0)))) = some r := h
  clear h
  replace H := Option.bind_eq_some_iff.mp H
  obtain ⟨t683, A30, H⟩ := H
  replace H : (some (decide (t683 ≥ 0))) = some r := H
  have A3 := Aside0.mk A30
  clear A30
  obtain rfl := Option.some.inj H
  go_enter Try.func144, Try.ntmps144
  go_wp2_with (first | ((with_reducible refine gate_callee (f := 166) rfl ?_); refine goesL_ (some 7) rfl rfl Try.func166 (by kernel_rfl) rfl #[.slice A0 l0.length c0, .int .u64 a1] rfl zl ?_; (with_reducible refine (impl_crowd_166.calls k _ _ l0 a1 t683 _ ?side1 ?side2 A3.out).mono ?_); (case side1 => exact zc HR0.out); (case side2 => exact HC0.out); rintro e w' ⟨rfl, ⟨nd, rfl⟩⟩; refine ⟨_, rfl, ?_⟩))
  go_ret
  exact ⟨by first | rfl | (simp; done) | (simp [*]; done), by repeat (first | exact Drawn0.refl _ | apply Drawn0.step)⟩
def partOf (c d : Int) : Bool := d != 0 && (d != c && Go.bits .and .u64 c d == d)
set_option maxHeartbeats 1000000 in
theorem circuits1_calls (c d : Int) (B : Addr) (w : World) (hB : w.cell? B = some (.int .u64 c)) :
    Calls Try.prog 145 #[.int .u64 d, .pointer (some B)] w fun e w' => e = .returned (.bool (partOf c d)) ∧ Drawn0 w w' := by
  go_enter Try.func145, Try.ntmps145
  by_cases c1 : d = 0
  · have HP := Aside0.mk (show partOf c d = false by simp [partOf, c1])
    subst c1
    go_wp2
    go_ret
    exact ⟨by rw [HP.out]; rfl, Drawn0.refl _⟩
  · by_cases c2 : d = c
    · have HP := Aside0.mk (show partOf c d = false by simp [partOf, c2])
      subst c2
      go_wp2
      go_ret
      exact ⟨by rw [HP.out]; rfl, Drawn0.refl _⟩
    · have HP := Aside0.mk (show partOf c d = (d != 0 && d != c && Go.bits .and .u64 c d == d) by unfold partOf; rw [Bool.and_assoc])
      go_wp2
      go_ret
      exact ⟨by rw [HP.out]; rfl, Drawn0.refl _⟩
def impl_crowd_has.f (a0 : Int) (a1 : Int) : Option (Bool) := if 0 ≤ a1 then (some ((Go.bits .and .u64 (shr .u64 a0 a1) 1) == 1)) else (none)
set_option maxHeartbeats 8000000 in
set_option maxRecDepth 100000 in
theorem impl_crowd_has.calls (a0 : Int) (a1 : Int) (r : Bool) (w : World) (h : impl_crowd_has.f a0 a1 = some r) :
    Calls Try.prog 137 #[.int .u64 a0, .int .i64 a1] w fun e w' => e = .returned (.bool r) ∧ Drawn0 w w' := by
  have H : (if 0 ≤ a1 then (some ((Go.bits .and .u64 (shr .u64 a0 a1) 1) == 1)) else (none)) = some r := h
  clear h
  by_cases c3 : 0 ≤ a1
  · rw [if_pos c3] at H
    have c3b0 := eq_true c3
    have c3b1 : decide (0 ≤ a1) = true := decide_eq_true c3
    clear c3
    obtain ⟨ji4, hji4⟩ : ∃ j_ : Int, (shr .u64 a0 a1) = j_ := ⟨_, rfl⟩
    replace H : (some ((Go.bits .and .u64 (ji4) 1) == 1)) = some r := by first | (rw [hji4] at H; exact H) | (simp only [hji4] at H ⊢; exact H)
    have hji4_ : (a0 / 2 ^ min a1.toNat 64) = ji4 := hji4
    have hji4z : a1 ≤ 64 → (a0 / 2 ^ a1.toNat) = ji4 := shr_small hji4
    obtain rfl := Option.some.inj H
    go_enter Try.func137, Try.ntmps137
    go_wp2
    go_ret
    exact ⟨by first | rfl | (simp; done) | (simp only [← hji4] <;> (first | rfl | simp)) | (simp [*]; done), by repeat (first | exact Drawn0.refl _ | apply Drawn0.step)⟩
  · rw [if_neg c3] at H
    exact absurd H (by simp)
def impl_crowd_group.l0 : Nat → Int → List Int → Int → Option (List Int)
  | 0, _, _, _ => none
  | k + 1, x0, x3, x4 => if x4 < 7 then ((impl_crowd_has.f x0 x4).bind fun t249 => (if t249 = true then (if x3.length < 17592186044416 then (impl_crowd_group.l0 k x0 (x3 ++ [x4]) (wrap64 (x4 + 1))) else (none)) else (impl_crowd_group.l0 k x0 x3 (wrap64 (x4 + 1))))) else (some x3)
def impl_crowd_group.f (k : Nat) (a0 : Int) : Option (List Int) := impl_crowd_group.l0 k a0 (([] : List Int)) 0
theorem impl_crowd_group.mono_l : ∀ k, (∀ y0 y1 y2, LeO (impl_crowd_group.l0 k y0 y1 y2) (impl_crowd_group.l0 (k + 1) y0 y1 y2))
  | 0 => fun _ _ _ r h => by simp [impl_crowd_group.l0] at h
  | k + 1 => by
    have ih0 := impl_crowd_group.mono_l k
    · intro y0 y1 y2
      unfold impl_crowd_group.l0
      repeat' first
      | (with_reducible exact ih0 _ _ _)
      | (with_reducible exact LeO.refl _)
      | (with_reducible exact LeO.none _)
      | (with_reducible refine LeO.ite ?_ ?_)
      | (with_reducible refine LeO.bind ?_ (fun _ => ?_))
      | exact ih0 _ _ _
      | exact LeO.none _
      | refine LeO.ite ?_ ?_
      | refine LeO.bind ?_ (fun _ => ?_)
theorem impl_crowd_group.mono : ∀ a0 k, LeO (impl_crowd_group.f k a0) (impl_crowd_group.f (k + 1) a0) := by
  intro a0 k
  have ih0 := impl_crowd_group.mono_l k
  unfold impl_crowd_group.f
  repeat' first
      | (with_reducible exact ih0 _ _ _)
      | (with_reducible exact LeO.refl _)
      | (with_reducible exact LeO.none _)
      | (with_reducible refine LeO.ite ?_ ?_)
      | (with_reducible refine LeO.bind ?_ (fun _ => ?_))
      | exact ih0 _ _ _
      | exact LeO.none _
      | refine LeO.ite ?_ ?_
      | refine LeO.bind ?_ (fun _ => ?_)
set_option maxHeartbeats 8000000 in
set_option maxRecDepth 100000 in
theorem impl_crowd_group.calls (k : Nat) (a0 : Int) (r : List Int) (w : World) (h : impl_crowd_group.f k a0 = some r) :
  Calls Try.prog 78 #[.int .u64 a0] w fun e w' => ∃ v0_ : Value, e = .returned (v0_) ∧ Kd.R (Kd.int .i64) 2 w' w.heap.size (fun _ => True) v0_ r ∧ Below w.heap.size w w' := by
 have HB := Aside0.mk (Below.refl w.heap.size w)
 have H : (impl_crowd_group.l0 k a0 (([] : List Int)) 0) = some r := h
 clear h
 obtain ⟨y246, hy246⟩ : ∃ y_ : List Int, y_ = (([] : List Int)) := ⟨_, rfl⟩
 replace H : (impl_crowd_group.l0 k a0 y246 0) = some r := by first | (rw [hy246]; with_reducible exact H) | (have H2_ := (Option.bind_some _ _).symm.trans H; rw [hy246]; with_reducible exact H2_) | (have H2_ := (Option.bind_some _ _).symm.trans H; with_reducible exact H2_) | with_reducible exact H | (rw [hy246]; exact H) | exact H
 have Ny246 := Aside0.mk hy246
 clear hy246
 have H' := Aside0.mk H
 clear H
 go_enter Try.func78, Try.ntmps78
 go_wp2_with (first | ((with_reducible refine gate_dst (N := 5) rfl ?_); refine Kd.R_lit (Kd.int .i64) _ 2 ?hg (N := 5) ?hd (xs := ([] : List Int)) (inner := []) (ok := fun _ => True) (okp := fun _ => True) ?hr ?hp (fun _ hk => hk) trivial (Below.refl _ _) (Nat.le_refl _) (by simp) ?_; (case hd => rfl); (case hg => rfl); (case hr => first | (go_simp; done) | (go_simp; rfl)); (case hp => exact (Reps.none _ _)); intro v247 w2 ho3 hb hg_ hnew_; clear hg_ hnew_; (first | rw [← Ny246.out] at ho3 | (simp only [Int.reduceToNat] at ho3; rw [← Ny246.out] at ho3)); have n0_ := Aside0.mk (Kd.R_lower ho3 (below_size (zb0 HB.out))); have n1_ := Aside0.mk (below_step (zb0 HB.out) hb); clear HB; have HO248 := n0_; have HB := n1_; clear n0_ n1_; clear hb ho3))
 go_loopg [3, 4] k (fun kq v3 v4 w' => ∃ (x3_1 : List Int) (x4_1 : Int), v4 = .int .i64 x4_1 ∧ Aside0 (impl_crowd_group.l0 kq a0 x3_1 x4_1 = some r) ∧ Aside0 (kq ≤ k) ∧ Aside0 (Kd.R (Kd.int .i64) 2 w' w.heap.size (fun _ => True) v3 x3_1) ∧ Aside0 (Below w.heap.size w w'))
 case atStart => exact ⟨(y246), (0), zt, H', ⟨Nat.le_refl _⟩, ⟨zr HO248.out⟩, ⟨zb0 HB.out⟩⟩
 case round =>
  clear H'
  obtain ⟨x3_1, x4_1, rfl, HA, HK1, HO_3, HB⟩ := hrel
  cases gk with
  | zero => exact absurd HA.out (by simp [impl_crowd_group.l0])
  | succ k1 =>
   have H := HA.out
   clear HA
   simp only [impl_crowd_group.l0] at H
   by_cases c4 : x4_1 < 7
   ·rw [if_pos c4] at H
    have c4b0 : decide (x4_1 < 7) = true := decide_eq_true c4
    clear c4
    replace H := Option.bind_eq_some_iff.mp H
    obtain ⟨t249, A50, H⟩ := H
    replace H : (if t249 = true then (if x3_1.length < 17592186044416 then (impl_crowd_group.l0 k1 a0 (x3_1 ++ [x4_1]) (wrap64 (x4_1 + 1))) else (none)) else (impl_crowd_group.l0 k1 a0 x3_1 (wrap64 (x4_1 + 1)))) = some r := H
    have A5 := Aside0.mk A50
    clear A50
    by_cases c6 : t249 = true
    ·subst c6
     rw [if_pos rfl] at H
     by_cases c7 : x3_1.length < 17592186044416
     ·rw [if_pos c7] at H
      have LMc7 := Aside0.mk c7
      clear c7
      obtain ⟨y250, hy250⟩ : ∃ y_ : List Int, y_ = (x3_1 ++ [x4_1]) := ⟨_, rfl⟩
      replace H : (impl_crowd_group.l0 k1 a0 y250 (wrap64 (x4_1 + 1))) = some r := by first | (rw [hy250]; with_reducible exact H) | (have H2_ := (Option.bind_some _ _).symm.trans H; rw [hy250]; with_reducible exact H2_) | (have H2_ := (Option.bind_some _ _).symm.trans H; with_reducible exact H2_) | with_reducible exact H | (rw [hy250]; exact H) | exact H
      have Ny250 := Aside0.mk hy250
      clear hy250
      have H' := Aside0.mk H
      clear H
      go_wp2_with (first | ((with_reducible refine gate_callee (f := 137) rfl ?_); refine goesL_ (some 12) rfl rfl Try.func137 (by kernel_rfl) rfl #[.int .u64 a0, .int .i64 x4_1] rfl zl ?_; (with_reducible refine (impl_crowd_has.calls a0 x4_1 true _ A5.out).mono ?_); rintro e w' ⟨rfl, ⟨nd, rfl⟩⟩; refine ⟨_, rfl, ?_⟩) | ((with_reducible refine gate_builtin (b := .append) (xs := #[.tmp 13, .tmp 15]) rfl ?_); at_builtin; refine Kd.R_append (Kd.int .i64) (w0 := w) w.heap.size rfl (.tmp 13) (.tmp 15) 26 2 (.int .i64 0) 8 rfl Try.underlying26 info2 rfl (by decide) (by omega) u3 x3_1 x4_1 [.int .i64 x4_1] (fun _ => True) (fun _ => False) rfl rfl ?aP (fun _ hk => hk.elim) ?aF ?aO ?aB ?aS ?aL ?_; (case aP => exact rfl); (case aB => exact (zb0 HB.out)); (case aF => exact (fun _ _ => trivial)); (case aO => exact (zr HO_3.out)); (case aS => exact (below_size (zb0 HB.out))); (case aL => have := LMc7.out; omega); intro v251 w8 ho hb hg hat; rw [← Ny250.out] at ho; have n0_ := Aside0.mk (hb); have n1_ := Aside0.mk (ho); clear HB; clear HO_3; have HB := n0_; have HO252 := n1_; clear n0_ n1_; clear ho hb hg hat))
      go_roundg k1
      case measure => have := HK1.out; omega
      case rel => exact ⟨(y250), (wrap64 (x4_1 + 1)), zt, H', ⟨by have := HK1.out; omega⟩, ⟨zr HO252.out⟩, ⟨zb0 HB.out⟩⟩
     ·rw [if_neg c7] at H
      exact absurd H (by simp)
    ·replace c6 := Bool.eq_false_iff.mpr c6
     subst c6
     rw [if_neg (show ¬ (false = true) by decide)] at H
     have H' := Aside0.mk H
     clear H
     go_wp2_with (first | ((with_reducible refine gate_callee (f := 137) rfl ?_); refine goesL_ (some 12) rfl rfl Try.func137 (by kernel_rfl) rfl #[.int .u64 a0, .int .i64 x4_1] rfl zl ?_; (with_reducible refine (impl_crowd_has.calls a0 x4_1 false _ A5.out).mono ?_); rintro e w' ⟨rfl, ⟨nd, rfl⟩⟩; refine ⟨_, rfl, ?_⟩))
     go_roundg k1
     case measure => have := HK1.out; omega
     case rel => exact ⟨(x3_1), (wrap64 (x4_1 + 1)), zt, H', ⟨by have := HK1.out; omega⟩, ⟨zr HO_3.out⟩, ⟨zb0 HB.out⟩⟩
   ·rw [if_neg c4] at H
    have c4b0 : decide (x4_1 < 7) = false := decide_eq_false c4
    clear c4
    obtain rfl := Option.some.inj H
    go_wp2
    go_ret
    exact ⟨_, ze, by (with_reducible repeat (first | apply Kd.R_alloc | apply Kd.R_drewN | apply Kd.R_drew)); exact HO_3.out, zb0 HB.out⟩
def bits_OnesCount64.f (a0 : Int) : Option (Int) := some (Go.bits .and .i64 (wrap64 (IntKind.u64.wrap ((IntKind.u64.wrap ((IntKind.u64.wrap ((Go.bits .and .u64 (IntKind.u64.wrap (((IntKind.u64.wrap ((Go.bits .and .u64 ((IntKind.u64.wrap ((Go.bits .and .u64 (a0 / 2) 6148914691236517205) + (Go.bits .and .u64 a0 6148914691236517205))) / 4) 3689348814741910323) + (Go.bits .and .u64 (IntKind.u64.wrap ((Go.bits .and .u64 (a0 / 2) 6148914691236517205) + (Go.bits .and .u64 a0 6148914691236517205))) 3689348814741910323))) / 16) + (IntKind.u64.wrap ((Go.bits .and .u64 ((IntKind.u64.wrap ((Go.bits .and .u64 (a0 / 2) 6148914691236517205) + (Go.bits .and .u64 a0 6148914691236517205))) / 4) 3689348814741910323) + (Go.bits .and .u64 (IntKind.u64.wrap ((Go.bits .and .u64 (a0 / 2) 6148914691236517205) + (Go.bits .and .u64 a0 6148914691236517205))) 3689348814741910323))))) 1085102592571150095) + ((Go.bits .and .u64 (IntKind.u64.wrap (((IntKind.u64.wrap ((Go.bits .and .u64 ((IntKind.u64.wrap ((Go.bits .and .u64 (a0 / 2) 6148914691236517205) + (Go.bits .and .u64 a0 6148914691236517205))) / 4) 3689348814741910323) + (Go.bits .and .u64 (IntKind.u64.wrap ((Go.bits .and .u64 (a0 / 2) 6148914691236517205) + (Go.bits .and .u64 a0 6148914691236517205))) 3689348814741910323))) / 16) + (IntKind.u64.wrap ((Go.bits .and .u64 ((IntKind.u64.wrap ((Go.bits .and .u64 (a0 / 2) 6148914691236517205) + (Go.bits .and .u64 a0 6148914691236517205))) / 4) 3689348814741910323) + (Go.bits .and .u64 (IntKind.u64.wrap ((Go.bits .and .u64 (a0 / 2) 6148914691236517205) + (Go.bits .and .u64 a0 6148914691236517205))) 3689348814741910323))))) 1085102592571150095) / 256))) + ((IntKind.u64.wrap ((Go.bits .and .u64 (IntKind.u64.wrap (((IntKind.u64.wrap ((Go.bits .and .u64 ((IntKind.u64.wrap ((Go.bits .and .u64 (a0 / 2) 6148914691236517205) + (Go.bits .and .u64 a0 6148914691236517205))) / 4) 3689348814741910323) + (Go.bits .and .u64 (IntKind.u64.wrap ((Go.bits .and .u64 (a0 / 2) 6148914691236517205) + (Go.bits .and .u64 a0 6148914691236517205))) 3689348814741910323))) / 16) + (IntKind.u64.wrap ((Go.bits .and .u64 ((IntKind.u64.wrap ((Go.bits .and .u64 (a0 / 2) 6148914691236517205) + (Go.bits .and .u64 a0 6148914691236517205))) / 4) 3689348814741910323) + (Go.bits .and .u64 (IntKind.u64.wrap ((Go.bits .and .u64 (a0 / 2) 6148914691236517205) + (Go.bits .and .u64 a0 6148914691236517205))) 3689348814741910323))))) 1085102592571150095) + ((Go.bits .and .u64 (IntKind.u64.wrap (((IntKind.u64.wrap ((Go.bits .and .u64 ((IntKind.u64.wrap ((Go.bits .and .u64 (a0 / 2) 6148914691236517205) + (Go.bits .and .u64 a0 6148914691236517205))) / 4) 3689348814741910323) + (Go.bits .and .u64 (IntKind.u64.wrap ((Go.bits .and .u64 (a0 / 2) 6148914691236517205) + (Go.bits .and .u64 a0 6148914691236517205))) 3689348814741910323))) / 16) + (IntKind.u64.wrap ((Go.bits .and .u64 ((IntKind.u64.wrap ((Go.bits .and .u64 (a0 / 2) 6148914691236517205) + (Go.bits .and .u64 a0 6148914691236517205))) / 4) 3689348814741910323) + (Go.bits .and .u64 (IntKind.u64.wrap ((Go.bits .and .u64 (a0 / 2) 6148914691236517205) + (Go.bits .and .u64 a0 6148914691236517205))) 3689348814741910323))))) 1085102592571150095) / 256))) / 65536))) + ((IntKind.u64.wrap ((IntKind.u64.wrap ((Go.bits .and .u64 (IntKind.u64.wrap (((IntKind.u64.wrap ((Go.bits .and .u64 ((IntKind.u64.wrap ((Go.bits .and .u64 (a0 / 2) 6148914691236517205) + (Go.bits .and .u64 a0 6148914691236517205))) / 4) 3689348814741910323) + (Go.bits .and .u64 (IntKind.u64.wrap ((Go.bits .and .u64 (a0 / 2) 6148914691236517205) + (Go.bits .and .u64 a0 6148914691236517205))) 3689348814741910323))) / 16) + (IntKind.u64.wrap ((Go.bits .and .u64 ((IntKind.u64.wrap ((Go.bits .and .u64 (a0 / 2) 6148914691236517205) + (Go.bits .and .u64 a0 6148914691236517205))) / 4) 3689348814741910323) + (Go.bits .and .u64 (IntKind.u64.wrap ((Go.bits .and .u64 (a0 / 2) 6148914691236517205) + (Go.bits .and .u64 a0 6148914691236517205))) 3689348814741910323))))) 1085102592571150095) + ((Go.bits .and .u64 (IntKind.u64.wrap (((IntKind.u64.wrap ((Go.bits .and .u64 ((IntKind.u64.wrap ((Go.bits .and .u64 (a0 / 2) 6148914691236517205) + (Go.bits .and .u64 a0 6148914691236517205))) / 4) 3689348814741910323) + (Go.bits .and .u64 (IntKind.u64.wrap ((Go.bits .and .u64 (a0 / 2) 6148914691236517205) + (Go.bits .and .u64 a0 6148914691236517205))) 3689348814741910323))) / 16) + (IntKind.u64.wrap ((Go.bits .and .u64 ((IntKind.u64.wrap ((Go.bits .and .u64 (a0 / 2) 6148914691236517205) + (Go.bits .and .u64 a0 6148914691236517205))) / 4) 3689348814741910323) + (Go.bits .and .u64 (IntKind.u64.wrap ((Go.bits .and .u64 (a0 / 2) 6148914691236517205) + (Go.bits .and .u64 a0 6148914691236517205))) 3689348814741910323))))) 1085102592571150095) / 256))) + ((IntKind.u64.wrap ((Go.bits .and .u64 (IntKind.u64.wrap (((IntKind.u64.wrap ((Go.bits .and .u64 ((IntKind.u64.wrap ((Go.bits .and .u64 (a0 / 2) 6148914691236517205) + (Go.bits .and .u64 a0 6148914691236517205))) / 4) 3689348814741910323) + (Go.bits .and .u64 (IntKind.u64.wrap ((Go.bits .and .u64 (a0 / 2) 6148914691236517205) + (Go.bits .and .u64 a0 6148914691236517205))) 3689348814741910323))) / 16) + (IntKind.u64.wrap ((Go.bits .and .u64 ((IntKind.u64.wrap ((Go.bits .and .u64 (a0 / 2) 6148914691236517205) + (Go.bits .and .u64 a0 6148914691236517205))) / 4) 3689348814741910323) + (Go.bits .and .u64 (IntKind.u64.wrap ((Go.bits .and .u64 (a0 / 2) 6148914691236517205) + (Go.bits .and .u64 a0 6148914691236517205))) 3689348814741910323))))) 1085102592571150095) + ((Go.bits .and .u64 (IntKind.u64.wrap (((IntKind.u64.wrap ((Go.bits .and .u64 ((IntKind.u64.wrap ((Go.bits .and .u64 (a0 / 2) 6148914691236517205) + (Go.bits .and .u64 a0 6148914691236517205))) / 4) 3689348814741910323) + (Go.bits .and .u64 (IntKind.u64.wrap ((Go.bits .and .u64 (a0 / 2) 6148914691236517205) + (Go.bits .and .u64 a0 6148914691236517205))) 3689348814741910323))) / 16) + (IntKind.u64.wrap ((Go.bits .and .u64 ((IntKind.u64.wrap ((Go.bits .and .u64 (a0 / 2) 6148914691236517205) + (Go.bits .and .u64 a0 6148914691236517205))) / 4) 3689348814741910323) + (Go.bits .and .u64 (IntKind.u64.wrap ((Go.bits .and .u64 (a0 / 2) 6148914691236517205) + (Go.bits .and .u64 a0 6148914691236517205))) 3689348814741910323))))) 1085102592571150095) / 256))) / 65536))) / 4294967296)))) 127)
set_option maxHeartbeats 8000000 in
set_option maxRecDepth 100000 in
theorem bits_OnesCount64.calls (a0 : Int) (r : Int) (w : World) (h : bits_OnesCount64.f a0 = some r) :
  Calls Try.prog 162 #[.int .u64 a0] w fun e w' => e = .returned (.int .i64 r) ∧ Drawn0 w w' := by
 have H : (some (Go.bits .and .i64 (wrap64 (IntKind.u64.wrap ((IntKind.u64.wrap ((IntKind.u64.wrap ((Go.bits .and .u64 (IntKind.u64.wrap (((IntKind.u64.wrap ((Go.bits .and .u64 ((IntKind.u64.wrap ((Go.bits .and .u64 (a0 / 2) 6148914691236517205) + (Go.bits .and .u64 a0 6148914691236517205))) / 4) 3689348814741910323) + (Go.bits .and .u64 (IntKind.u64.wrap ((Go.bits .and .u64 (a0 / 2) 6148914691236517205) + (Go.bits .and .u64 a0 6148914691236517205))) 3689348814741910323))) / 16) + (IntKind.u64.wrap ((Go.bits .and .u64 ((IntKind.u64.wrap ((Go.bits .and .u64 (a0 / 2) 6148914691236517205) + (Go.bits .and .u64 a0 6148914691236517205))) / 4) 3689348814741910323) + (Go.bits .and .u64 (IntKind.u64.wrap ((Go.bits .and .u64 (a0 / 2) 6148914691236517205) + (Go.bits .and .u64 a0 6148914691236517205))) 3689348814741910323))))) 1085102592571150095) + ((Go.bits .and .u64 (IntKind.u64.wrap (((IntKind.u64.wrap ((Go.bits .and .u64 ((IntKind.u64.wrap ((Go.bits .and .u64 (a0 / 2) 6148914691236517205) + (Go.bits .and .u64 a0 6148914691236517205))) / 4) 3689348814741910323) + (Go.bits .and .u64 (IntKind.u64.wrap ((Go.bits .and .u64 (a0 / 2) 6148914691236517205) + (Go.bits .and .u64 a0 6148914691236517205))) 3689348814741910323))) / 16) + (IntKind.u64.wrap ((Go.bits .and .u64 ((IntKind.u64.wrap ((Go.bits .and .u64 (a0 / 2) 6148914691236517205) + (Go.bits .and .u64 a0 6148914691236517205))) / 4) 3689348814741910323) + (Go.bits .and .u64 (IntKind.u64.wrap ((Go.bits .and .u64 (a0 / 2) 6148914691236517205) + (Go.bits .and .u64 a0 6148914691236517205))) 3689348814741910323))))) 1085102592571150095) / 256))) + ((IntKind.u64.wrap ((Go.bits .and .u64 (IntKind.u64.wrap (((IntKind.u64.wrap ((Go.bits .and .u64 ((IntKind.u64.wrap ((Go.bits .and .u64 (a0 / 2) 6148914691236517205) + (Go.bits .and .u64 a0 6148914691236517205))) / 4) 3689348814741910323) + (Go.bits .and .u64 (IntKind.u64.wrap ((Go.bits .and .u64 (a0 / 2) 6148914691236517205) + (Go.bits .and .u64 a0 6148914691236517205))) 3689348814741910323))) / 16) + (IntKind.u64.wrap ((Go.bits .and .u64 ((IntKind.u64.wrap ((Go.bits .and .u64 (a0 / 2) 6148914691236517205) + (Go.bits .and .u64 a0 6148914691236517205))) / 4) 3689348814741910323) + (Go.bits .and .u64 (IntKind.u64.wrap ((Go.bits .and .u64 (a0 / 2) 6148914691236517205) + (Go.bits .and .u64 a0 6148914691236517205))) 3689348814741910323))))) 1085102592571150095) + ((Go.bits .and .u64 (IntKind.u64.wrap (((IntKind.u64.wrap ((Go.bits .and .u64 ((IntKind.u64.wrap ((Go.bits .and .u64 (a0 / 2) 6148914691236517205) + (Go.bits .and .u64 a0 6148914691236517205))) / 4) 3689348814741910323) + (Go.bits .and .u64 (IntKind.u64.wrap ((Go.bits .and .u64 (a0 / 2) 6148914691236517205) + (Go.bits .and .u64 a0 6148914691236517205))) 3689348814741910323))) / 16) + (IntKind.u64.wrap ((Go.bits .and .u64 ((IntKind.u64.wrap ((Go.bits .and .u64 (a0 / 2) 6148914691236517205) + (Go.bits .and .u64 a0 6148914691236517205))) / 4) 3689348814741910323) + (Go.bits .and .u64 (IntKind.u64.wrap ((Go.bits .and .u64 (a0 / 2) 6148914691236517205) + (Go.bits .and .u64 a0 6148914691236517205))) 3689348814741910323))))) 1085102592571150095) / 256))) / 65536))) + ((IntKind.u64.wrap ((IntKind.u64.wrap ((Go.bits .and .u64 (IntKind.u64.wrap (((IntKind.u64.wrap ((Go.bits .and .u64 ((IntKind.u64.wrap ((Go.bits .and .u64 (a0 / 2) 6148914691236517205) + (Go.bits .and .u64 a0 6148914691236517205))) / 4) 3689348814741910323) + (Go.bits .and .u64 (IntKind.u64.wrap ((Go.bits .and .u64 (a0 / 2) 6148914691236517205) + (Go.bits .and .u64 a0 6148914691236517205))) 3689348814741910323))) / 16) + (IntKind.u64.wrap ((Go.bits .and .u64 ((IntKind.u64.wrap ((Go.bits .and .u64 (a0 / 2) 6148914691236517205) + (Go.bits .and .u64 a0 6148914691236517205))) / 4) 3689348814741910323) + (Go.bits .and .u64 (IntKind.u64.wrap ((Go.bits .and .u64 (a0 / 2) 6148914691236517205) + (Go.bits .and .u64 a0 6148914691236517205))) 3689348814741910323))))) 1085102592571150095) + ((Go.bits .and .u64 (IntKind.u64.wrap (((IntKind.u64.wrap ((Go.bits .and .u64 ((IntKind.u64.wrap ((Go.bits .and .u64 (a0 / 2) 6148914691236517205) + (Go.bits .and .u64 a0 6148914691236517205))) / 4) 3689348814741910323) + (Go.bits .and .u64 (IntKind.u64.wrap ((Go.bits .and .u64 (a0 / 2) 6148914691236517205) + (Go.bits .and .u64 a0 6148914691236517205))) 3689348814741910323))) / 16) + (IntKind.u64.wrap ((Go.bits .and .u64 ((IntKind.u64.wrap ((Go.bits .and .u64 (a0 / 2) 6148914691236517205) + (Go.bits .and .u64 a0 6148914691236517205))) / 4) 3689348814741910323) + (Go.bits .and .u64 (IntKind.u64.wrap ((Go.bits .and .u64 (a0 / 2) 6148914691236517205) + (Go.bits .and .u64 a0 6148914691236517205))) 3689348814741910323))))) 1085102592571150095) / 256))) + ((IntKind.u64.wrap ((Go.bits .and .u64 (IntKind.u64.wrap (((IntKind.u64.wrap ((Go.bits .and .u64 ((IntKind.u64.wrap ((Go.bits .and .u64 (a0 / 2) 6148914691236517205) + (Go.bits .and .u64 a0 6148914691236517205))) / 4) 3689348814741910323) + (Go.bits .and .u64 (IntKind.u64.wrap ((Go.bits .and .u64 (a0 / 2) 6148914691236517205) + (Go.bits .and .u64 a0 6148914691236517205))) 3689348814741910323))) / 16) + (IntKind.u64.wrap ((Go.bits .and .u64 ((IntKind.u64.wrap ((Go.bits .and .u64 (a0 / 2) 6148914691236517205) + (Go.bits .and .u64 a0 6148914691236517205))) / 4) 3689348814741910323) + (Go.bits .and .u64 (IntKind.u64.wrap ((Go.bits .and .u64 (a0 / 2) 6148914691236517205) + (Go.bits .and .u64 a0 6148914691236517205))) 3689348814741910323))))) 1085102592571150095) + ((Go.bits .and .u64 (IntKind.u64.wrap (((IntKind.u64.wrap ((Go.bits .and .u64 ((IntKind.u64.wrap ((Go.bits .and .u64 (a0 / 2) 6148914691236517205) + (Go.bits .and .u64 a0 6148914691236517205))) / 4) 3689348814741910323) + (Go.bits .and .u64 (IntKind.u64.wrap ((Go.bits .and .u64 (a0 / 2) 6148914691236517205) + (Go.bits .and .u64 a0 6148914691236517205))) 3689348814741910323))) / 16) + (IntKind.u64.wrap ((Go.bits .and .u64 ((IntKind.u64.wrap ((Go.bits .and .u64 (a0 / 2) 6148914691236517205) + (Go.bits .and .u64 a0 6148914691236517205))) / 4) 3689348814741910323) + (Go.bits .and .u64 (IntKind.u64.wrap ((Go.bits .and .u64 (a0 / 2) 6148914691236517205) + (Go.bits .and .u64 a0 6148914691236517205))) 3689348814741910323))))) 1085102592571150095) / 256))) / 65536))) / 4294967296)))) 127)) = some r := h
 clear h
 obtain rfl := Option.some.inj H
 go_enter Try.func162, Try.ntmps162
 go_wp2
 go_ret
 exact ⟨by first | rfl | (simp; done) | (simp [*]; done), by repeat (first | exact Drawn0.refl _ | apply Drawn0.step)⟩
def bits_OnesCount.f (a0 : Int) : Option (Int) := (bits_OnesCount64.f a0).bind fun t315 => (some t315)
set_option maxHeartbeats 8000000 in
set_option maxRecDepth 100000 in
theorem bits_OnesCount.calls (a0 : Int) (r : Int) (w : World) (h : bits_OnesCount.f a0 = some r) :
    Calls Try.prog 136 #[.int .u64 a0] w fun e w' => e = .returned (.int .i64 r) ∧ Drawn0 w w' := by
  have H : ((bits_OnesCount64.f a0).bind fun t315 => (some t315)) = some r := h
  clear h
  replace H := Option.bind_eq_some_iff.mp H
  obtain ⟨t315, A20, H⟩ := H
  replace H : (some t315) = some r := H
  have A2 := Aside0.mk A20
  clear A20
  obtain rfl := Option.some.inj H
  go_enter Try.func136, Try.ntmps136
  go_wp2_with (first | ((with_reducible refine gate_callee (f := 162) rfl ?_); refine goesL_ (some 7) rfl rfl Try.func162 (by kernel_rfl) rfl #[.int .u64 a0] rfl zl ?_; (with_reducible refine (bits_OnesCount64.calls a0 t315 _ A2.out).mono ?_); rintro e w' ⟨rfl, ⟨nd, rfl⟩⟩; refine ⟨_, rfl, ?_⟩))
  go_ret
  exact ⟨by first | rfl | (simp; done) | (simp [*]; done), by repeat (first | exact Drawn0.refl _ | apply Drawn0.step)⟩
def impl_crowd_size.f (a0 : Int) : Option (Int) := (bits_OnesCount.f a0).bind fun t316 => (some t316)
set_option maxHeartbeats 8000000 in
set_option maxRecDepth 100000 in
theorem impl_crowd_size.calls (a0 : Int) (r : Int) (w : World) (h : impl_crowd_size.f a0 = some r) :
    Calls Try.prog 77 #[.int .u64 a0] w fun e w' => e = .returned (.int .i64 r) ∧ Drawn0 w w' := by
  have H : ((bits_OnesCount.f a0).bind fun t316 => (some t316)) = some r := h
  clear h
  replace H := Option.bind_eq_some_iff.mp H
  obtain ⟨t316, A20, H⟩ := H
  replace H : (some t316) = some r := H
  have A2 := Aside0.mk A20
  clear A20
  obtain rfl := Option.some.inj H
  go_enter Try.func77, Try.ntmps77
  go_wp2_with (first | ((with_reducible refine gate_callee (f := 136) rfl ?_); refine goesL_ (some 4) rfl rfl Try.func136 (by kernel_rfl) rfl #[.int .u64 a0] rfl zl ?_; (with_reducible refine (bits_OnesCount.calls a0 t316 _ A2.out).mono ?_); rintro e w' ⟨rfl, ⟨nd, rfl⟩⟩; refine ⟨_, rfl, ?_⟩))
  go_ret
  exact ⟨by first | rfl | (simp; done) | (simp [*]; done), by repeat (first | exact Drawn0.refl _ | apply Drawn0.step)⟩
def groupOf (c : Int) : List Int := (impl_crowd_group.f 8 c).getD []
theorem group_all : ∀ c : Nat, c < 128 → impl_crowd_group.f 8 c = some (groupOf c) := by decide +kernel
theorem cmp64_f (x y : Int) : cmp_Compare_int64.f x y = some (if x < y then -1 else if y < x then 1 else 0) := by
  unfold cmp_Compare_int64.f cmp_isNaN_int64.f
  by_cases c1 : x < y
  · simp [c1]
  · by_cases c2 : y < x <;> simp [c1, c2]
theorem rowCmp_f (a b : List Int) (ha : a.length ≤ 9223372036854775807) : ∀ (m i k : Nat), a.length = i + m → i ≤ b.length → m < k → slices_Compare_int64_int64.l0 k a b a (a.length : Int) (i : Int) = some (rowCmp (a.drop i) (b.drop i)) := by
  intro m
  induction m with
  | zero =>
    intro i k h1 h2 h3
    obtain ⟨k, rfl⟩ : ∃ k', k = k' + 1 := ⟨k - 1, by omega⟩
    unfold slices_Compare_int64_int64.l0
    rw [if_neg (by omega), List.drop_eq_nil_of_le (by omega : a.length ≤ i)]
    by_cases hb : i = b.length
    · rw [if_neg (by omega), List.drop_eq_nil_of_le (by omega : b.length ≤ i)]; rfl
    · rw [if_pos (by omega), List.drop_eq_getElem_cons (by omega : i < b.length)]; rfl
  | succ m ih =>
    intro i k h1 h2 h3
    obtain ⟨k, rfl⟩ : ∃ k', k = k' + 1 := ⟨k - 1, by omega⟩
    unfold slices_Compare_int64_int64.l0
    rw [if_pos (by omega), if_pos (by omega), if_pos (by omega), List.drop_eq_getElem_cons (by omega : i < a.length)]
    by_cases hb : i = b.length
    · rw [if_pos (by omega), List.drop_eq_nil_of_le (by omega : b.length ≤ i)]; rfl
    · have hib : i < b.length := by omega
      have e1 : rd a (i : Int) = a[i] := by simp [rd, List.getD_eq_getElem?_getD, List.getElem?_eq_getElem (by omega : i < a.length)]
      have e2 : rd b (i : Int) = b[i] := by simp [rd, List.getD_eq_getElem?_getD, List.getElem?_eq_getElem hib]
      rw [if_neg (by omega), if_pos (by omega), cmp64_f, Option.bind_some, List.drop_eq_getElem_cons hib, e1, e2]
      simp only [rowCmp]
      rw [show wrap64 ((i : Int) + 1) = ((i + 1 : Nat) : Int) by unfold wrap64; omega, ih (i + 1) k (by omega) (by omega) (by omega)]
      by_cases c1 : a[i] < b[i]
      · simp [c1]
      · by_cases c2 : b[i] < a[i]
        · simp [c1, c2]
        · simp [c1, c2]
theorem rowCmp_calls (A0 : Option Addr) (c0 : Nat) (l0 : List Int) (A1 : Option Addr) (c1 : Nat) (l1 : List Int) (w : World) (hr0 : Kd.C (Kd.int .i64) w A0 l0.length l0) (hc0 : l0.length ≤ c0) (hr1 : Kd.C (Kd.int .i64) w A1 l1.length l1) (hc1 : l1.length ≤ c1) :
    Calls Try.prog 148 #[.slice A0 l0.length c0, .slice A1 l1.length c1] w fun e w' => e = .returned (.int .i64 (rowCmp l0 l1)) ∧ Drawn0 w w' :=
  slices_Compare_int64_int64.calls (l0.length + 1) A0 c0 l0 A1 c1 l1 _ w hr0 hc0 hr1 hc1 (by
    have := rowCmp_f l0 l1 hr0.2.1 l0.length 0 (l0.length + 1) (by omega) (by omega) (by omega)
    simpa [slices_Compare_int64_int64.f] using this)
theorem append_drawn {P : Program} (w : World) (base : Nat) (t ty e : TypeId) (i : TypeInfo) (z : Value) (size bytes : Nat) (ht : P.underlying t = some (.slice e)) (hi : P.info? e = some i) (hz : i.zero = some z)
    (hsize : i.size = size) (hby : i.bytes = bytes) (v : Value) (n : Nat) (xs : List Value) (hown : w.ownsRow base e size v n xs)
    (a : Addr) (m c : Nat) (news : List Value) (hl : news.length = m * size) (hnews : ∀ j u, news[j]? = some u → w.cell? (a.add j) = some u) (h1 : ∀ u ∈ news, u.oneCell' = true)
    (h63 : n + m ≤ maxLen) (hbytes : (n + m) * bytes ≤ 140737488355328) (hm : 0 < m) :
    ∀ v' w', (Builtin.append_ #[t, t] ty #[v, .slice (some a) m c]).run P w = .ok v' w' → w.drawn ≤ w'.drawn := by
  subst hsize
  subst hby
  intro v' w' he
  have h63' : n + m ≤ 9223372036854775807 := by simp only [maxLen] at h63; omega
  rcases hown.2 with ⟨rfl, rfl⟩ | ⟨g, cap, cur, rfl, hbg, hg, hnc, hcm, hcs, htake⟩
  · have hr := run_append_nil (P := P) w t ty e i z ht hi hz a m c news hl hnews hm (by omega) (by have hb := hbytes; simp only [Nat.zero_add] at hb; omega)
    rw [hr] at he
    injection he with _ he
    subst he
    exact Nat.le_succ _
  · by_cases hroom : n + m ≤ cap
    · have hfit : n * i.size + news.length ≤ cur.size := by rw [hl, hcs, ← Nat.add_mul]; exact Nat.mul_le_mul_right _ hroom
      have hr := run_append_room (P := P) w t ty e i ht hi g n cap cur hg a m c news hl hnews h1 hroom hfit
      rw [hr] at he
      injection he with _ he
      subst he
      exact Nat.le_refl _
    · have holds : ∀ j u, xs[j]? = some u → w.cell? ((⟨g, 0, none⟩ : Addr).add j) = some u := hown.cells (g := g) rfl
      have hr := run_append_grow (P := P) w t ty e i z ht hi hz ⟨g, 0, none⟩ n cap xs hown.1 holds a m c news hl hnews (by omega) (by omega) (growslice_fits (by omega) hbytes)
      rw [hr] at he
      injection he with _ he
      subst he
      exact Nat.le_succ _
theorem R_appendD {P : Program} {ops : Array Oper} {rest : List Oper} {o : Oper} {a : Act} {Q : Exit → Act → World → Prop} {α : Type} (d : Kd α) {w0 W : World} (base : Nat) (hgd : o.guard = none) (s x : Operand) (t e : TypeId) (z : Value) (bytes : Nat)
  (ho : o.op = .call { callee := .builtin .append, args := #[s, x], argTypes := #[t, t] })
  (ht : P.underlying t = some (.slice e)) (hinfo : (P.info? e).map (fun i => (i.zero, i.size, i.bytes)) = some (some z, d.sz, bytes)) (hz : z.cells.size = d.sz) (hs0 : 0 < d.sz) (hb0 : 0 < bytes)
  (v : Value) (xs : List α) (p : α) (cs : List Value) (ok okp : Nat → Prop) (hs : a.eval s = v) (hx : a.eval x = .slice (some ⟨W.heap.size, 0, none⟩) 1 1) (hp : d.M W base okp p cs) (hokp : ∀ k, okp k → ok k ∧ some k ≠ v.ownBlock) (hfresh : ∀ k, W.heap.size ≤ k → ok k)
  (HO : d.R e W base ok v xs) (HB : Below base w0 W) (hbase : base ≤ W.heap.size) (hl : (xs.length + 1) * bytes ≤ 140737488355328)
  (h : ∀ v1 w1, d.R e w1 base ok v1 (xs ++ [p]) → Below base w0 w1 → W.grownBy w1 v.ownBlock → (v1.ownBlock = v.ownBlock ∨ ∃ b, v1.ownBlock = some b ∧ W.heap.size ≤ b) → W.drawn ≤ w1.drawn → wpList P ops Q rest (a.put o.dst v1) w1) :
  wpList P ops Q (o :: rest) a (W.alloc (.cells cs.toArray e)) := by
 obtain ⟨h0, inner, hown, hr⟩ := HO
 obtain ⟨i0, hi, hzz⟩ := Option.map_eq_some_iff.1 hinfo
 simp only [Prod.mk.injEq] at hzz
 obtain ⟨hz0, hz1, hz2⟩ := hzz
 have hlen : xs.length + 1 ≤ 140737488355328 := Nat.le_trans (Nat.le_mul_of_pos_right _ hb0) hl
 have hcl : cs.length = 1 * d.sz := by rw [d.K_len (d.K_of_M hp)]; simp
 have hnews : ∀ j u, cs[j]? = some u → (W.alloc (.cells cs.toArray e)).cell? ((⟨W.heap.size, 0, none⟩ : Addr).add j) = some u := by simpa using World.news_of_block (cs := cs.toArray) (t := e) (fr := (0, 0)) (heap_alloc_new W (.cells cs.toArray e))
 have h63 : xs.length + 1 ≤ maxLen := by simp only [maxLen]; omega
 refine wpList_plain hgd fun _ hK => ?_
 obtain ⟨v1, w1, hrun, hown1, hg1, _, hat⟩ := run_append_own_at (P := P) (W.alloc (.cells cs.toArray e)) base t o.type e i0 z d.sz bytes ht hi hz0 hz1 hz2 hz hs0 v xs.length inner (hown.alloc _) ⟨W.heap.size, 0, none⟩ 1 1 cs hcl hnews (d.K_one (d.K_of_M hp)) h63 hl (by simp; omega)
 have hd := append_drawn (P := P) (W.alloc (.cells cs.toArray e)) base t o.type e i0 z d.sz bytes ht hi hz0 hz1 hz2 v xs.length inner (hown.alloc _) ⟨W.heap.size, 0, none⟩ 1 1 cs hcl hnews (d.K_one (d.K_of_M hp)) h63 hl (by omega) v1 w1 hrun
 have hat' : v1.ownBlock = v.ownBlock ∨ ∃ b, v1.ownBlock = some b ∧ W.heap.size ≤ b := by
  rcases hat with hat | hat
  ·exact .inl hat
  ·exact .inr ⟨_, hat, by simp⟩
 have hg2 := World.grownBy.trans (World.grownBy_alloc W _ _) hg1
 unfold Oper.wp execOp
 simp only [ho, resolve, invoke, builtin, Sem.run_bind, Sem.run_pure, Result.andThen_ok, List.map_toArray, List.map_cons, List.map_nil, hs, hx, hrun]
 exact hK _ _ (h v1 w1 (Kd.R_appended h0 hr hp hokp hfresh hown1 hg2 hat') ((HB.alloc hbase _).grown hg1 (by simp; omega) (own_base hown)) hg2 hat' hd)
theorem R_litD {P : Program} {ops : Array Oper} {rest : List Oper} {o : Oper} {a : Act} {Q : Exit → Act → World → Prop} {α : Type} (d : Kd α) {w0 W : World} (base e : Nat) (hgd : o.guard = none) {N : Tmp} (_hd : o.dst = some N) {xs : List α} {inner : List Value} {ok okp : Nat → Prop}
    (hrun : (execOp a.eval o).run P W = .ok (.value (.slice (some ⟨W.heap.size, 0, none⟩) xs.length xs.length)) (W.alloc (.cells inner.toArray e)))
    (hrep : Reps (d.M W base okp) d.sz xs inner) (hok : ∀ k, okp k → ok k) (hfresh : ok W.heap.size) (HB : Below base w0 W) (hbase : base ≤ W.heap.size) (hm : xs.length ≤ 9223372036854775807)
    (h : ∀ v1 w1, d.R e w1 base ok v1 xs → Below base w0 w1 → W.grownBy w1 none → (∃ b, v1.ownBlock = some b ∧ W.heap.size ≤ b) → W.drawn ≤ w1.drawn → wpList P ops Q rest (a.put o.dst v1) w1) : wpList P ops Q (o :: rest) a W := by
  refine Kd.event_run hgd hrun (h _ _ ⟨fun k hk => ?_, inner, ?_, ?_⟩ (HB.alloc hbase _) (World.grownBy_alloc W _ none) ⟨W.heap.size, by simp [Value.ownBlock], Nat.le_refl _⟩ (Nat.le_refl _))
  · have : W.heap.size = k := by simpa [Value.ownBlock] using hk
    subst this
    exact hfresh
  · have h2 := World.ownsRow_lit (base := base) (e := e) (size := d.sz) W inner.toArray xs.length hbase (by simpa [maxLen] using hm) (by simpa using hrep.1)
    simpa using h2
  · refine hrep.imp_ (fun p c hp => d.M_mono (fun k hk => ⟨hok k hk.1, fun he => ?_⟩) (Kd.M_below (d.M_bound hp) (below_alloc (Below.refl _ _) _)))
    have h3 : k = W.heap.size := by simpa [Value.ownBlock] using he
    have := hk.2.2.1
    omega
set_option maxHeartbeats 8000000 in
set_option maxRecDepth 100000 in
theorem groupD_calls (k : Nat) (a0 : Int) (r : List Int) (w : World) (h : impl_crowd_group.f k a0 = some r) :
  Calls Try.prog 78 #[.int .u64 a0] w fun e w' => ∃ v0_ : Value, e = .returned (v0_) ∧ Kd.R (Kd.int .i64) 2 w' w.heap.size (fun _ => True) v0_ r ∧ Below w.heap.size w w' ∧ w.drawn ≤ w'.drawn := by
 have HB := Aside0.mk (Below.refl w.heap.size w)
 have H : (impl_crowd_group.l0 k a0 (([] : List Int)) 0) = some r := h
 clear h
 obtain ⟨y246, hy246⟩ : ∃ y_ : List Int, y_ = (([] : List Int)) := ⟨_, rfl⟩
 replace H : (impl_crowd_group.l0 k a0 y246 0) = some r := by first | (rw [hy246]; with_reducible exact H) | (have H2_ := (Option.bind_some _ _).symm.trans H; rw [hy246]; with_reducible exact H2_) | (have H2_ := (Option.bind_some _ _).symm.trans H; with_reducible exact H2_) | with_reducible exact H | (rw [hy246]; exact H) | exact H
 have Ny246 := Aside0.mk hy246
 clear hy246
 have H' := Aside0.mk H
 clear H
 go_enter Try.func78, Try.ntmps78
 go_wp2_with (first | ((with_reducible refine gate_dst (N := 5) rfl ?_); refine R_litD (Kd.int .i64) _ 2 ?hg (N := 5) ?hd (xs := ([] : List Int)) (inner := []) (ok := fun _ => True) (okp := fun _ => True) ?hr ?hp (fun _ hk => hk) trivial (Below.refl _ _) (Nat.le_refl _) (by simp) ?_; (case hd => rfl); (case hg => rfl); (case hr => first | (go_simp; done) | (go_simp; rfl)); (case hp => exact (Reps.none _ _)); intro v247 w2 ho3 hb hg_ hnew_ hdr_; have HDM := Aside0.mk (show w.drawn ≤ w2.drawn from hdr_); clear hdr_ hg_ hnew_; (first | rw [← Ny246.out] at ho3 | (simp only [Int.reduceToNat] at ho3; rw [← Ny246.out] at ho3)); have n0_ := Aside0.mk (Kd.R_lower ho3 (below_size (zb0 HB.out))); have n1_ := Aside0.mk (below_step (zb0 HB.out) hb); clear HB; have HO248 := n0_; have HB := n1_; clear n0_ n1_; clear hb ho3))
 go_loopg [3, 4] k (fun kq v3 v4 w' => ∃ (x3_1 : List Int) (x4_1 : Int), v4 = .int .i64 x4_1 ∧ Aside0 (impl_crowd_group.l0 kq a0 x3_1 x4_1 = some r) ∧ Aside0 (kq ≤ k) ∧ Aside0 (Kd.R (Kd.int .i64) 2 w' w.heap.size (fun _ => True) v3 x3_1) ∧ Aside0 (Below w.heap.size w w') ∧ Aside0 (w.drawn ≤ w'.drawn))
 case atStart => exact ⟨(y246), (0), zt, H', ⟨Nat.le_refl _⟩, ⟨zr HO248.out⟩, ⟨zb0 HB.out⟩, ⟨by have := HDM.out; first | exact this | (simp only [World.drewN, World.drew]; omega)⟩⟩
 case round =>
  clear H'
  obtain ⟨x3_1, x4_1, rfl, HA, HK1, HO_3, HB, HDM⟩ := hrel
  cases gk with
  | zero => exact absurd HA.out (by simp [impl_crowd_group.l0])
  | succ k1 =>
   have H := HA.out
   clear HA
   simp only [impl_crowd_group.l0] at H
   by_cases c4 : x4_1 < 7
   ·rw [if_pos c4] at H
    have c4b0 : decide (x4_1 < 7) = true := decide_eq_true c4
    clear c4
    replace H := Option.bind_eq_some_iff.mp H
    obtain ⟨t249, A50, H⟩ := H
    replace H : (if t249 = true then (if x3_1.length < 17592186044416 then (impl_crowd_group.l0 k1 a0 (x3_1 ++ [x4_1]) (wrap64 (x4_1 + 1))) else (none)) else (impl_crowd_group.l0 k1 a0 x3_1 (wrap64 (x4_1 + 1)))) = some r := H
    have A5 := Aside0.mk A50
    clear A50
    by_cases c6 : t249 = true
    ·subst c6
     rw [if_pos rfl] at H
     by_cases c7 : x3_1.length < 17592186044416
     ·rw [if_pos c7] at H
      have LMc7 := Aside0.mk c7
      clear c7
      obtain ⟨y250, hy250⟩ : ∃ y_ : List Int, y_ = (x3_1 ++ [x4_1]) := ⟨_, rfl⟩
      replace H : (impl_crowd_group.l0 k1 a0 y250 (wrap64 (x4_1 + 1))) = some r := by first | (rw [hy250]; with_reducible exact H) | (have H2_ := (Option.bind_some _ _).symm.trans H; rw [hy250]; with_reducible exact H2_) | (have H2_ := (Option.bind_some _ _).symm.trans H; with_reducible exact H2_) | with_reducible exact H | (rw [hy250]; exact H) | exact H
      have Ny250 := Aside0.mk hy250
      clear hy250
      have H' := Aside0.mk H
      clear H
      go_wp2_with (first | ((with_reducible refine gate_callee (f := 137) rfl ?_); refine goesL_ (some 12) rfl rfl Try.func137 (by kernel_rfl) rfl #[.int .u64 a0, .int .i64 x4_1] rfl zl ?_; (with_reducible refine (impl_crowd_has.calls a0 x4_1 true _ A5.out).mono ?_); rintro e w' ⟨rfl, ⟨nd, rfl⟩⟩; refine ⟨_, rfl, ?_⟩) | ((with_reducible refine gate_builtin (b := .append) (xs := #[.tmp 13, .tmp 15]) rfl ?_); at_builtin; refine R_appendD (Kd.int .i64) (w0 := w) w.heap.size rfl (.tmp 13) (.tmp 15) 26 2 (.int .i64 0) 8 rfl Try.underlying26 info2 rfl (by decide) (by omega) u3 x3_1 x4_1 [.int .i64 x4_1] (fun _ => True) (fun _ => False) rfl rfl ?aP (fun _ hk => hk.elim) ?aF ?aO ?aB ?aS ?aL ?_; (case aP => exact rfl); (case aB => exact (zb0 HB.out)); (case aF => exact (fun _ _ => trivial)); (case aO => exact (zr HO_3.out)); (case aS => exact (below_size (zb0 HB.out))); (case aL => have := LMc7.out; omega); intro v251 w8 ho hb hg hat hdr_; have nd_ := Aside0.mk (show w.drawn ≤ w8.drawn from by have := HDM.out; simp only [World.drewN, World.drew] at hdr_ ⊢; omega); clear HDM; have HDM := nd_; clear nd_ hdr_; rw [← Ny250.out] at ho; have n0_ := Aside0.mk (hb); have n1_ := Aside0.mk (ho); clear HB; clear HO_3; have HB := n0_; have HO252 := n1_; clear n0_ n1_; clear ho hb hg hat))
      go_roundg k1
      case measure => have := HK1.out; omega
      case rel => exact ⟨(y250), (wrap64 (x4_1 + 1)), zt, H', ⟨by have := HK1.out; omega⟩, ⟨zr HO252.out⟩, ⟨zb0 HB.out⟩, ⟨by have := HDM.out; first | exact this | (simp only [World.drewN, World.drew]; omega)⟩⟩
     ·rw [if_neg c7] at H
      exact absurd H (by simp)
    ·replace c6 := Bool.eq_false_iff.mpr c6
     subst c6
     rw [if_neg (show ¬ (false = true) by decide)] at H
     have H' := Aside0.mk H
     clear H
     go_wp2_with (first | ((with_reducible refine gate_callee (f := 137) rfl ?_); refine goesL_ (some 12) rfl rfl Try.func137 (by kernel_rfl) rfl #[.int .u64 a0, .int .i64 x4_1] rfl zl ?_; (with_reducible refine (impl_crowd_has.calls a0 x4_1 false _ A5.out).mono ?_); rintro e w' ⟨rfl, ⟨nd, rfl⟩⟩; refine ⟨_, rfl, ?_⟩))
     go_roundg k1
     case measure => have := HK1.out; omega
     case rel => exact ⟨(x3_1), (wrap64 (x4_1 + 1)), zt, H', ⟨by have := HK1.out; omega⟩, ⟨zr HO_3.out⟩, ⟨zb0 HB.out⟩, ⟨by have := HDM.out; first | exact this | (simp only [World.drewN, World.drew]; omega)⟩⟩
   ·rw [if_neg c4] at H
    have c4b0 : decide (x4_1 < 7) = false := decide_eq_false c4
    clear c4
    obtain rfl := Option.some.inj H
    go_wp2
    go_ret
    exact ⟨_, ze, by (with_reducible repeat (first | apply Kd.R_alloc | apply Kd.R_drewN | apply Kd.R_drew)); exact HO_3.out, zb0 HB.out, by have := HDM.out; first | exact this | (simp only [World.drewN, World.drew]; omega)⟩
theorem grow_of_below {w w' : World} (h : Below w.heap.size w w') (hd : w.drawn ≤ w'.drawn) : ∃ q os', w' = Sort.grow (w.drewN q) os' := by
  refine ⟨w'.drawn - w.drawn, w'.heap.extract w.heap.size w'.heap.size, ?_⟩
  have h1 : w'.heap = w.heap ++ w'.heap.extract w.heap.size w'.heap.size := by
    apply Array.ext_getElem?
    intro i
    by_cases hi : i < w.heap.size
    · rw [Array.getElem?_append_left hi]; exact h.block i hi
    · rw [Array.getElem?_append_right (by omega), Array.getElem?_extract]
      have := h.size
      split
      · congr 1; omega
      · rename_i hc
        rw [Array.getElem?_eq_none (by omega)]
  obtain ⟨heap, tape, drawn, os, output⟩ := w
  obtain ⟨heap', tape', drawn', os', output'⟩ := w'
  have e1 := h.os
  have e2 := h.tape
  have e3 := h.output
  simp only at e1 e2 e3 h1 hd
  subst e1 e2 e3
  simp only [Sort.grow, World.drewN, World.mk.injEq, true_and, and_true]
  exact ⟨h1, by omega⟩
set_option maxHeartbeats 1000000 in
theorem cmpSets_calls (a b : Nat) (ha : a < 128) (hb : b < 128) (w : World) :
    Calls Try.prog 147 #[.int .u64 a, .int .u64 b] w fun e w' => e = .returned (.int .i64 (rowCmp (groupOf a) (groupOf b))) ∧ ∃ q os', w' = Sort.grow (w.drewN q) os' := by
  have HA := Aside0.mk (group_all a ha)
  have HB_ := Aside0.mk (group_all b hb)
  have HB := Aside0.mk (Below.refl w.heap.size w)
  have HDM := Aside0.mk (Nat.le_refl w.drawn)
  go_enter Try.func147, Try.ntmps147
  go_wp2_with fail
  refine (groupD_calls 8 a (groupOf a) _ HA.out).mono ?_
  rintro e w1 ⟨v1, rfl, ho1, hb1, hd1⟩
  obtain ⟨A1, c1, e1⟩ := Kd.R_slice ho1
  subst e1
  go_wp2_with fail
  refine (groupD_calls 8 b (groupOf b) _ HB_.out).mono ?_
  rintro e w2 ⟨v2, rfl, ho2, hb2, hd2⟩
  obtain ⟨A2, c2, e2⟩ := Kd.R_slice ho2
  subst e2
  have R1 := Kd.R_reads' (show (Kd.int .i64).R 2 w2 w.heap.size (fun _ => True) (.slice A1 (groupOf a).length c1) (groupOf a) from Kd.R_step ho1 (fun k _ hlt => hb2.block k hlt))
  have R2 := Kd.R_reads' ho2
  go_wp2_with fail
  refine (rowCmp_calls A1 c1 _ A2 c2 _ w2 R1.2.2 R1.2.1 R2.2.2 R2.2.1).mono ?_
  rintro e w3 ⟨rfl, ⟨n, rfl⟩⟩
  go_wp2
  go_ret
  exact ⟨rfl, grow_of_below (pw_below_drewN (below_step hb1 hb2) _) (by show w.drawn ≤ w2.drawn + n; omega)⟩
def sortCrowds_ren : Go.Shelf.Ren := ⟨fun | 6 => 146 | 15 => 168 | 14 => 167 | 28 => 183 | 29 => 184 | 20 => 175 | 21 => 176 | 22 => 177 | 23 => 178 | 24 => 179 | 25 => 180 | 26 => 181 | 27 => 182 | 46 => 194 | 47 => 195 | 48 => 196 | 49 => 197 | 50 => 198 | 57 => 202 | n => n, fun | 22 => 124 | 24 => 97 | 25 => 160 | 3 => 3 | 39 => 57 | 0 => 0 | 53 => 169 | 55 => 151 | 4 => 4 | 46 => 181 | 45 => 180 | 50 => 185 | 5 => 5 | 9 => 9 | 66 => 192 | 70 => 196 | 76 => 200 | 77 => 201 | n => n, fun | n => n⟩
theorem sortCrowds_lay : Go.Proofs.SlLaysF.n6 Try.prog sortCrowds_ren := {
 mixed := by kernel_rfl
 f6 := ⟨Try.f146.name, by decide, Try.func146.trans (congrArg some (by kernel_rfl))⟩
 f14 := ⟨Try.f167.name, by decide, Try.func167.trans (congrArg some (by kernel_rfl))⟩
 f15 := Try.func168.trans (congrArg some (by kernel_rfl))
 f20 := ⟨Try.f175.name, by decide, Try.func175.trans (congrArg some (by kernel_rfl))⟩
 f21 := ⟨Try.f176.name, by decide, Try.func176.trans (congrArg some (by kernel_rfl))⟩
 f22 := ⟨Try.f177.name, by decide, Try.func177.trans (congrArg some (by kernel_rfl))⟩
 f23 := ⟨Try.f178.name, by decide, Try.func178.trans (congrArg some (by kernel_rfl))⟩
 f24 := ⟨Try.f179.name, by decide, Try.func179.trans (congrArg some (by kernel_rfl))⟩
 f25 := ⟨Try.f180.name, by decide, Try.func180.trans (congrArg some (by kernel_rfl))⟩
 f26 := ⟨Try.f181.name, by decide, Try.func181.trans (congrArg some (by kernel_rfl))⟩
 f27 := ⟨Try.f182.name, by decide, Try.func182.trans (congrArg some (by kernel_rfl))⟩
 f28 := Try.func183.trans (congrArg some (by kernel_rfl))
 f29 := Try.func184.trans (congrArg some (by kernel_rfl))
 f46 := ⟨Try.f194.name, by decide, Try.func194.trans (congrArg some (by kernel_rfl))⟩
 f47 := Try.func195.trans (congrArg some (by kernel_rfl))
 f48 := Try.func196.trans (congrArg some (by kernel_rfl))
 f49 := ⟨Try.f197.name, by decide, Try.func197.trans (congrArg some (by kernel_rfl))⟩
 f50 := ⟨Try.f198.name, by decide, Try.func198.trans (congrArg some (by kernel_rfl))⟩
 f57 := ⟨Try.f202.name, by decide, Try.func202.trans (congrArg some (by kernel_rfl))⟩
 t0 := Try.underlying0
 a0 := Try.isAgg0
 z0 := Try.sizeOf0
 v0 := Try.zeroValue0
 t3 := Try.underlying3
 a3 := Try.isAgg3
 z3 := Try.sizeOf3
 v3 := Try.zeroValue3
 t4 := Try.underlying4
 a4 := Try.isAgg4
 z4 := Try.sizeOf4
 v4 := Try.zeroValue4
 t5 := Try.underlying5
 a5 := Try.isAgg5
 z5 := Try.sizeOf5
 v5 := Try.zeroValue5
 t9 := Try.underlying9
 a9 := Try.isAgg9
 z9 := Try.sizeOf9
 v9 := Try.zeroValue9
 t22 := Try.underlying124
 a22 := Try.isAgg124
 z22 := Try.sizeOf124
 v22 := Try.zeroValue124
 a24 := Try.isAgg97
 z24 := Try.sizeOf97
 t25 := Try.underlying160
 a25 := Try.isAgg160
 z25 := Try.sizeOf160
 v25 := Try.zeroValue160
 t39 := Try.underlying57
 a39 := Try.isAgg57
 z39 := Try.sizeOf57
 v39 := Try.zeroValue57
 t45 := Try.underlying180
 a45 := Try.isAgg180
 z45 := Try.sizeOf180
 v45 := Try.zeroValue180
 t46 := Try.underlying181
 a46 := Try.isAgg181
 z46 := Try.sizeOf181
 v46 := Try.zeroValue181
 t50 := Try.underlying185
 a50 := Try.isAgg185
 z50 := Try.sizeOf185
 v50 := Try.zeroValue185
 t53 := Try.underlying169
 a53 := Try.isAgg169
 z53 := Try.sizeOf169
 v53 := Try.zeroValue169
 t55 := Try.underlying151
 a55 := Try.isAgg151
 z55 := Try.sizeOf151
 v55 := Try.zeroValue151
 t66 := Try.underlying192
 a66 := Try.isAgg192
 z66 := Try.sizeOf192
 v66 := Try.zeroValue192
 t70 := Try.underlying196
 a70 := Try.isAgg196
 z70 := Try.sizeOf196
 v70 := Try.zeroValue196
 t76 := Try.underlying200
 a76 := Try.isAgg200
 z76 := Try.sizeOf200
 v76 := Try.zeroValue200
 t77 := Try.underlying201
 a77 := Try.isAgg201
 z77 := Try.sizeOf201
 v77 := Try.zeroValue201 }
def setLt (a b : Int) : Bool := ltOf rowCmp (groupOf a) (groupOf b)
theorem setLt_swo : Sort.SWO setLt := ⟨fun _ => rowCmp_swo.irrefl _, fun _ _ _ => rowCmp_swo.trans _ _ _, fun _ _ _ => rowCmp_swo.ntrans _ _ _⟩
theorem groupOf_back : ∀ c : Nat, c < 128 → impl_crowdOf.f 8 (groupOf c) = some (c : Int) := by decide +kernel
theorem groupOf_inj (a b : Int) (ha : 0 ≤ a ∧ a < 128) (hb : 0 ≤ b ∧ b < 128) (h : groupOf a = groupOf b) : a = b := by
  have h1 := groupOf_back a.toNat (by omega)
  have h2 := groupOf_back b.toNat (by omega)
  rw [show ((a.toNat : Nat) : Int) = a by omega] at h1
  rw [show ((b.toNat : Nat) : Int) = b by omega, ← h, h1] at h2
  exact Option.some.inj h2
theorem sortSets_R (v : Value) (l : List Int) (hn : l.length < 4611686018427387904) (hall : ∀ x, x ∈ l → 0 ≤ x ∧ x < 128) (base : Nat) (ok : Nat → Prop) (w : World) (h : Kd.R (Kd.int .u64) 97 w base ok v l) :
  Calls Try.prog 146 #[v, .func (.func 147) #[] #[]] w fun e w' => e = .returned (.tuple #[]) ∧ Kd.R (Kd.int .u64) 97 w' base ok v (sortBy setLt l) ∧ w.grownBy w' v.ownBlock := by
 obtain ⟨h0, inner, ho, hr⟩ := h
 have hin : inner = l.map fun x => Value.int .u64 x := by
  apply List.ext_getElem?
  intro j
  have hil : inner.length = l.length := by have h9 : inner.length = l.length * 1 := ho.1; omega
  by_cases hj : j < l.length
  ·have hm := hr.2 j l[j] (List.getElem?_eq_getElem hj)
   have e2 : (inner.drop (j * 1)).take 1 = [Value.int .u64 l[j]] := hm
   have e3 : ((inner.drop (j * 1)).take 1)[0]? = some (Value.int .u64 l[j]) := by rw [e2]; rfl
   simp [hj] at e3 ⊢
   exact e3
  ·simp [hj]; omega
 have back : ∀ (W : World) (r : List Int) (vals : List Value), r.length = l.length → vals = r.map (fun x => Value.int .u64 x) → W.ownsRow base 97 1 v l.length vals → Kd.R (Kd.int .u64) 97 W base ok v r := by
  rintro W r vals hl rfl hw
  refine ⟨h0, _, by rw [hl]; exact hw, by simp [Kd.int, Kd.scalar], fun j p hp => ?_⟩
  obtain ⟨hj, rfl⟩ := List.getElem?_eq_some_iff.1 hp
  show ((r.map fun x => Value.int .u64 x).drop (j * 1)).take 1 = [Value.int .u64 r[j]]
  rw [Nat.mul_one, List.drop_eq_getElem_cons (by simpa using hj)]
  simp
 rcases ho.2 with ⟨rfl, hl⟩ | ⟨g, cap, cur, rfl, _⟩
 ·obtain rfl := List.eq_nil_of_length_eq_zero hl
  refine (AnyF.slices_SortFunc_none (P := Try.prog) (ρ := sortCrowds_ren) { sortCrowds_lay with } none 0 _ w).mono ?_
  rintro e w' ⟨rfl, rfl⟩
  exact ⟨rfl, back _ [] _ rfl hin ho, World.grownBy.refl _ _⟩
 ·have eg : ∀ args w, (callFunc 147 args).run Try.prog w = .ok (.enter 147 args) w := enters_of Try.func147 (by kernel_rfl) rfl
  have hat : ∀ i, i < l.length → inner.getD i undef = Value.int .u64 (l.getD i 0) := fun i hi => by
   rw [hin]; simp [List.getD_eq_getElem?_getD, hi]
  have hb : ∀ i, i < l.length → 0 ≤ l.getD i 0 ∧ l.getD i 0 < 128 := fun i hi => hall _ (by rw [List.getD_eq_getElem?_getD, List.getElem?_eq_getElem hi]; exact List.getElem_mem hi)
  refine (sortOwn_calls sortCrowds_lay (fun i j => rowCmp (groupOf (l.getD i 0)) (groupOf (l.getD j 0))) ⟨fun x => rowCmp_swo.irrefl _, fun x y z => rowCmp_swo.trans _ _ _, fun x y z => rowCmp_swo.ntrans _ _ _⟩ 147 #[] eg ho (fun i hi => ?_) (fun i j hi hj W hW => ?_) hn).mono ?_
  ·rw [hat i hi]; rfl
  ·rw [hat i hi, hat j hj]
   have b1 := hb i hi
   have b2 := hb j hj
   have := cmpSets_calls (l.getD i 0).toNat (l.getD j 0).toNat (by omega) (by omega) W
   rwa [show (((l.getD i 0).toNat : Nat) : Int) = l.getD i 0 by omega, show (((l.getD j 0).toNat : Nat) : Int) = l.getD j 0 by omega] at this
  ·rintro e w' ⟨rfl, is, hperm, hpw, ho', hg⟩
   have hlen : is.length = l.length := by rw [hperm.length_eq, List.length_range]
   have hlt : ∀ i, i ∈ is → i < l.length := fun i hi => by simpa using hperm.mem_iff.1 hi
   have hmem : (is.map fun i => l.getD i 0).Perm l := by
    have h1 : ((List.range l.length).map fun i => l.getD i 0) = l := by
     apply List.ext_getElem?
     intro j
     by_cases hj : j < l.length
     ·simp [hj, List.getD_eq_getElem?_getD]
     ·simp [hj]
    have h2 := hperm.map (fun i => l.getD i 0)
    rwa [h1] at h2
   have hrows : (is.map fun i => l.getD i 0) = sortBy setLt l := by
    refine sortBy_unique' setLt_swo l _ (fun x y hx hy h1 h2 => groupOf_inj x y (hall x hx) (hall y hy) (rowCmp_eq _ _ h1 h2)) hmem ?_
    rw [List.pairwise_map]
    exact hpw.imp (fun h => by simpa [setLt, ltOf] using h)
   refine ⟨rfl, ?_, hg⟩
   rw [← hrows]
   refine back _ _ _ (by rw [List.length_map]; exact hlen) ?_ ho'
   rw [List.map_map]
   apply List.map_congr_left
   intro i hi
   exact hat i (hlt i hi)
def anyPart.f (k : Nat) (l : List Int) (c : Int) : Option Bool := some (l.any (partOf c))
theorem anyPart.mono : ∀ a0 a1 k, LeO (anyPart.f k a0 a1) (anyPart.f (k + 1) a0 a1) := fun _ _ _ => LeO.refl _
theorem anyPart_calls (k : Nat) (A0 : Option Addr) (c0 : Nat) (l0 : List Int) (a1 : Int) (B : Addr) (r : Bool) (w : World) (hr0 : Kd.C (Kd.int .u64) w A0 l0.length l0) (hc0 : l0.length ≤ c0) (hB : w.cell? B = some (.int .u64 a1)) (h : anyPart.f k l0 a1 = some r) :
    Calls Try.prog 103 #[.slice A0 l0.length c0, .func (.func 145) #[] #[.pointer (some B)]] w fun e w' => e = .returned (.bool r) ∧ Drawn0 w w' := by
  obtain rfl := Option.some.inj h
  exact containsSets_calls l0 (partOf a1) 145 #[] #[.pointer (some B)] (enters_of Try.func145 (by kernel_rfl) rfl) A0 c0 w hr0 hc0 (fun x _ W hW => circuits1_calls a1 x B W (pw_cell_below hW.below hB))
mutual
def impl_Family_circuits.l0 : Nat → List Int → List (List Int) → Int → Int → Int → List (List Int) → Option (List Int)
 | 0, _, _, _, _, _, _ => none
 | k + 1, x3, x19, x20, x21, x685000, x685001 => if x21 < x20 then (if 0 ≤ x21 then (if x21 < (x19.length : Int) then ((impl_crowdOf.f k (rd_L1 x19 x21)).bind fun t689 => (if x3.length < 17592186044416 then (impl_Family_circuits.l0 k (x3 ++ [t689]) x19 x20 (wrap64 (x21 + 1)) x685000 x685001) else (none))) else (none)) else (none)) else (impl_Family_circuits.l1 k x3 (([] : List Int)) x3 (x3.length : Int) 0 x685000 x685001)
def impl_Family_circuits.l1 : Nat → List Int → List Int → List Int → Int → Int → Int → List (List Int) → Option (List Int)
 | 0, _, _, _, _, _, _, _ => none
 | k + 1, x3, x6, x32, x33, x34, x685000, x685001 => if x34 < x33 then (if 0 ≤ x34 then (if x34 < (x32.length : Int) then (if 0 ≤ x685000 then (if x6.length < 17592186044416 then (if x34 ≤ (x3.length : Int) then ((some (x3.take (x34 : Int).toNat : List Int)).bind fun y700 => (impl_Family_circuits.l2 k x3 (x6 ++ [Go.bits .or .u64 (rd x32 x34) (shl .u64 1 x685000)]) (rd x32 x34) x32 x33 x34 y700 (y700.length : Int) 0 x685000 x685001)) else (none)) else (none)) else (none)) else (none)) else (none)) else (impl_Family_circuits.l4 k x6 (([] : List Int)) x6 (x6.length : Int) 0)
def impl_Family_circuits.l2 : Nat → List Int → List Int → Int → List Int → Int → Int → List Int → Int → Int → Int → List (List Int) → Option (List Int)
 | 0, _, _, _, _, _, _, _, _, _, _, _ => none
 | k + 1, x3, x6, x8, x32, x33, x34, x49, x50, x51, x685000, x685001 => if x51 < x50 then (if 0 ≤ x51 then (if x51 < (x49.length : Int) then (impl_Family_circuits.l3 k x3 x6 x8 (rd x49 x51) (Go.bits .or .u64 x8 (rd x49 x51)) x32 x33 x34 x49 x50 x51 x3 (x3.length : Int) 0 x685000 x685001) else (none)) else (none)) else (impl_Family_circuits.l1 k x3 x6 x32 x33 (wrap64 (x34 + 1)) x685000 x685001)
def impl_Family_circuits.l3 : Nat → List Int → List Int → Int → Int → Int → List Int → Int → Int → List Int → Int → Int → List Int → Int → Int → Int → List (List Int) → Option (List Int)
 | 0, _, _, _, _, _, _, _, _, _, _, _, _, _, _, _, _ => none
 | k + 1, x3, x6, x8, x10, x11, x32, x33, x34, x49, x50, x51, x58, x59, x60, x685000, x685001 => if x60 < x59 then (if 0 ≤ x60 then (if x60 < (x58.length : Int) then ((impl_crowd_contains.f (Go.bits .or .u64 x8 x10) (rd x58 x60)).bind fun t706 => (if t706 = true then (impl_Family_circuits.l3 k x3 x6 x8 x10 (Go.bits .and .u64 x11 (rd x58 x60)) x32 x33 x34 x49 x50 x51 x58 x59 (wrap64 (x60 + 1)) x685000 x685001) else (impl_Family_circuits.l3 k x3 x6 x8 x10 x11 x32 x33 x34 x49 x50 x51 x58 x59 (wrap64 (x60 + 1)) x685000 x685001))) else (none)) else (none)) else (if x6.length < 17592186044416 then (impl_Family_circuits.l2 k x3 (x6 ++ [Go.bits .andNot .u64 (Go.bits .or .u64 x8 x10) x11]) x8 x32 x33 x34 x49 x50 (wrap64 (x51 + 1)) x685000 x685001) else (none))
def impl_Family_circuits.l4 : Nat → List Int → List Int → List Int → Int → Int → Option (List Int)
 | 0, _, _, _, _, _ => none
 | k + 1, x6, x14, x84, x85, x86 => if x86 < x85 then (if 0 ≤ x86 then (if x86 < (x84.length : Int) then (if (rd x84 x86) = 0 then (impl_Family_circuits.l4 k x6 x14 x84 x85 (wrap64 (x86 + 1))) else ((impl_crowd_144.f k x14 (rd x84 x86)).bind fun t714 => (if t714 = true then (impl_Family_circuits.l4 k x6 x14 x84 x85 (wrap64 (x86 + 1))) else ((anyPart.f k x6 (rd x84 x86)).bind fun t715 => (if t715 = true then (impl_Family_circuits.l4 k x6 x14 x84 x85 (wrap64 (x86 + 1))) else (if x14.length < 17592186044416 then (impl_Family_circuits.l4 k x6 (x14 ++ [rd x84 x86]) x84 x85 (wrap64 (x86 + 1))) else (none))))))) else (none)) else (none)) else (if x14.length < 4611686018427387904 ∧ x14.all (fun z => decide (0 ≤ z ∧ z < 128)) = true then (some (sortBy setLt x14)) else none)
end
def impl_Family_circuits.f (k : Nat) (a0_0 : Int) (l0_1 : List (List Int)) : Option (List Int) := impl_Family_circuits.l0 k (([] : List Int)) l0_1 (l0_1.length : Int) 0 a0_0 l0_1
theorem impl_Family_circuits.mono_l : ∀ k, (∀ y0 y1 y2 y3 y4 y5, LeO (impl_Family_circuits.l0 k y0 y1 y2 y3 y4 y5) (impl_Family_circuits.l0 (k + 1) y0 y1 y2 y3 y4 y5)) ∧ (∀ y0 y1 y2 y3 y4 y5 y6, LeO (impl_Family_circuits.l1 k y0 y1 y2 y3 y4 y5 y6) (impl_Family_circuits.l1 (k + 1) y0 y1 y2 y3 y4 y5 y6)) ∧ (∀ y0 y1 y2 y3 y4 y5 y6 y7 y8 y9 y10, LeO (impl_Family_circuits.l2 k y0 y1 y2 y3 y4 y5 y6 y7 y8 y9 y10) (impl_Family_circuits.l2 (k + 1) y0 y1 y2 y3 y4 y5 y6 y7 y8 y9 y10)) ∧ (∀ y0 y1 y2 y3 y4 y5 y6 y7 y8 y9 y10 y11 y12 y13 y14 y15, LeO (impl_Family_circuits.l3 k y0 y1 y2 y3 y4 y5 y6 y7 y8 y9 y10 y11 y12 y13 y14 y15) (impl_Family_circuits.l3 (k + 1) y0 y1 y2 y3 y4 y5 y6 y7 y8 y9 y10 y11 y12 y13 y14 y15)) ∧ (∀ y0 y1 y2 y3 y4, LeO (impl_Family_circuits.l4 k y0 y1 y2 y3 y4) (impl_Family_circuits.l4 (k + 1) y0 y1 y2 y3 y4))
 | 0 => ⟨fun _ _ _ _ _ _ r h => by simp [impl_Family_circuits.l0] at h, fun _ _ _ _ _ _ _ r h => by simp [impl_Family_circuits.l1] at h, fun _ _ _ _ _ _ _ _ _ _ _ r h => by simp [impl_Family_circuits.l2] at h, fun _ _ _ _ _ _ _ _ _ _ _ _ _ _ _ _ r h => by simp [impl_Family_circuits.l3] at h, fun _ _ _ _ _ r h => by simp [impl_Family_circuits.l4] at h⟩
 | k + 1 => by
  obtain ⟨ih0, ih1, ih2, ih3, ih4⟩ := impl_Family_circuits.mono_l k
  refine ⟨?_, ?_, ?_, ?_, ?_⟩
  ·intro y0 y1 y2 y3 y4 y5
   unfold impl_Family_circuits.l0
   repeat' first
   | (with_reducible exact ih0 _ _ _ _ _ _)
   | (with_reducible exact ih1 _ _ _ _ _ _ _)
   | (with_reducible exact ih2 _ _ _ _ _ _ _ _ _ _ _)
   | (with_reducible exact ih3 _ _ _ _ _ _ _ _ _ _ _ _ _ _ _ _)
   | (with_reducible exact ih4 _ _ _ _ _)
   | (with_reducible exact impl_crowdOf.mono _ _)
   | (with_reducible exact impl_crowd_144.mono _ _ _)
   | (with_reducible exact anyPart.mono _ _ _)
   | (with_reducible exact LeO.refl _)
   | (with_reducible exact LeO.none _)
   | (with_reducible refine LeO.ite ?_ ?_)
   | (with_reducible refine LeO.bind ?_ (fun _ => ?_))
   | exact ih0 _ _ _ _ _ _
   | exact ih1 _ _ _ _ _ _ _
   | exact ih2 _ _ _ _ _ _ _ _ _ _ _
   | exact ih3 _ _ _ _ _ _ _ _ _ _ _ _ _ _ _ _
   | exact ih4 _ _ _ _ _
   | exact impl_crowdOf.mono _ _
   | exact impl_crowd_144.mono _ _ _
   | exact anyPart.mono _ _ _
   | exact LeO.none _
   | refine LeO.ite ?_ ?_
   | refine LeO.bind ?_ (fun _ => ?_)
  ·intro y0 y1 y2 y3 y4 y5 y6
   unfold impl_Family_circuits.l1
   repeat' first
   | (with_reducible exact ih0 _ _ _ _ _ _)
   | (with_reducible exact ih1 _ _ _ _ _ _ _)
   | (with_reducible exact ih2 _ _ _ _ _ _ _ _ _ _ _)
   | (with_reducible exact ih3 _ _ _ _ _ _ _ _ _ _ _ _ _ _ _ _)
   | (with_reducible exact ih4 _ _ _ _ _)
   | (with_reducible exact impl_crowdOf.mono _ _)
   | (with_reducible exact impl_crowd_144.mono _ _ _)
   | (with_reducible exact anyPart.mono _ _ _)
   | (with_reducible exact LeO.refl _)
   | (with_reducible exact LeO.none _)
   | (with_reducible refine LeO.ite ?_ ?_)
   | (with_reducible refine LeO.bind ?_ (fun _ => ?_))
   | exact ih0 _ _ _ _ _ _
   | exact ih1 _ _ _ _ _ _ _
   | exact ih2 _ _ _ _ _ _ _ _ _ _ _
   | exact ih3 _ _ _ _ _ _ _ _ _ _ _ _ _ _ _ _
   | exact ih4 _ _ _ _ _
   | exact impl_crowdOf.mono _ _
   | exact impl_crowd_144.mono _ _ _
   | exact anyPart.mono _ _ _
   | exact LeO.none _
   | refine LeO.ite ?_ ?_
   | refine LeO.bind ?_ (fun _ => ?_)
  ·intro y0 y1 y2 y3 y4 y5 y6 y7 y8 y9 y10
   unfold impl_Family_circuits.l2
   repeat' first
   | (with_reducible exact ih0 _ _ _ _ _ _)
   | (with_reducible exact ih1 _ _ _ _ _ _ _)
   | (with_reducible exact ih2 _ _ _ _ _ _ _ _ _ _ _)
   | (with_reducible exact ih3 _ _ _ _ _ _ _ _ _ _ _ _ _ _ _ _)
   | (with_reducible exact ih4 _ _ _ _ _)
   | (with_reducible exact impl_crowdOf.mono _ _)
   | (with_reducible exact impl_crowd_144.mono _ _ _)
   | (with_reducible exact anyPart.mono _ _ _)
   | (with_reducible exact LeO.refl _)
   | (with_reducible exact LeO.none _)
   | (with_reducible refine LeO.ite ?_ ?_)
   | (with_reducible refine LeO.bind ?_ (fun _ => ?_))
   | exact ih0 _ _ _ _ _ _
   | exact ih1 _ _ _ _ _ _ _
   | exact ih2 _ _ _ _ _ _ _ _ _ _ _
   | exact ih3 _ _ _ _ _ _ _ _ _ _ _ _ _ _ _ _
   | exact ih4 _ _ _ _ _
   | exact impl_crowdOf.mono _ _
   | exact impl_crowd_144.mono _ _ _
   | exact anyPart.mono _ _ _
   | exact LeO.none _
   | refine LeO.ite ?_ ?_
   | refine LeO.bind ?_ (fun _ => ?_)
  ·intro y0 y1 y2 y3 y4 y5 y6 y7 y8 y9 y10 y11 y12 y13 y14 y15
   unfold impl_Family_circuits.l3
   repeat' first
   | (with_reducible exact ih0 _ _ _ _ _ _)
   | (with_reducible exact ih1 _ _ _ _ _ _ _)
   | (with_reducible exact ih2 _ _ _ _ _ _ _ _ _ _ _)
   | (with_reducible exact ih3 _ _ _ _ _ _ _ _ _ _ _ _ _ _ _ _)
   | (with_reducible exact ih4 _ _ _ _ _)
   | (with_reducible exact impl_crowdOf.mono _ _)
   | (with_reducible exact impl_crowd_144.mono _ _ _)
   | (with_reducible exact anyPart.mono _ _ _)
   | (with_reducible exact LeO.refl _)
   | (with_reducible exact LeO.none _)
   | (with_reducible refine LeO.ite ?_ ?_)
   | (with_reducible refine LeO.bind ?_ (fun _ => ?_))
   | exact ih0 _ _ _ _ _ _
   | exact ih1 _ _ _ _ _ _ _
   | exact ih2 _ _ _ _ _ _ _ _ _ _ _
   | exact ih3 _ _ _ _ _ _ _ _ _ _ _ _ _ _ _ _
   | exact ih4 _ _ _ _ _
   | exact impl_crowdOf.mono _ _
   | exact impl_crowd_144.mono _ _ _
   | exact anyPart.mono _ _ _
   | exact LeO.none _
   | refine LeO.ite ?_ ?_
   | refine LeO.bind ?_ (fun _ => ?_)
  ·intro y0 y1 y2 y3 y4
   unfold impl_Family_circuits.l4
   repeat' first
   | (with_reducible exact ih0 _ _ _ _ _ _)
   | (with_reducible exact ih1 _ _ _ _ _ _ _)
   | (with_reducible exact ih2 _ _ _ _ _ _ _ _ _ _ _)
   | (with_reducible exact ih3 _ _ _ _ _ _ _ _ _ _ _ _ _ _ _ _)
   | (with_reducible exact ih4 _ _ _ _ _)
   | (with_reducible exact impl_crowdOf.mono _ _)
   | (with_reducible exact impl_crowd_144.mono _ _ _)
   | (with_reducible exact anyPart.mono _ _ _)
   | (with_reducible exact LeO.refl _)
   | (with_reducible exact LeO.none _)
   | (with_reducible refine LeO.ite ?_ ?_)
   | (with_reducible refine LeO.bind ?_ (fun _ => ?_))
   | exact ih0 _ _ _ _ _ _
   | exact ih1 _ _ _ _ _ _ _
   | exact ih2 _ _ _ _ _ _ _ _ _ _ _
   | exact ih3 _ _ _ _ _ _ _ _ _ _ _ _ _ _ _ _
   | exact ih4 _ _ _ _ _
   | exact impl_crowdOf.mono _ _
   | exact impl_crowd_144.mono _ _ _
   | exact anyPart.mono _ _ _
   | exact LeO.none _
   | refine LeO.ite ?_ ?_
   | refine LeO.bind ?_ (fun _ => ?_)
theorem impl_Family_circuits.mono : ∀ a0 a1 k, LeO (impl_Family_circuits.f k a0 a1) (impl_Family_circuits.f (k + 1) a0 a1) := by
  intro a0 a1 k
  obtain ⟨ih0, ih1, ih2, ih3, ih4⟩ := impl_Family_circuits.mono_l k
  unfold impl_Family_circuits.f
  repeat' first
      | (with_reducible exact ih0 _ _ _ _ _ _)
      | (with_reducible exact ih1 _ _ _ _ _ _ _)
      | (with_reducible exact ih2 _ _ _ _ _ _ _ _ _ _ _)
      | (with_reducible exact ih3 _ _ _ _ _ _ _ _ _ _ _ _ _ _ _ _)
      | (with_reducible exact ih4 _ _ _ _ _)
      | (with_reducible exact impl_crowdOf.mono _ _)
      | (with_reducible exact impl_crowd_144.mono _ _ _)
      | (with_reducible exact anyPart.mono _ _ _)
      | (with_reducible exact LeO.refl _)
      | (with_reducible exact LeO.none _)
      | (with_reducible refine LeO.ite ?_ ?_)
      | (with_reducible refine LeO.bind ?_ (fun _ => ?_))
      | exact ih0 _ _ _ _ _ _
      | exact ih1 _ _ _ _ _ _ _
      | exact ih2 _ _ _ _ _ _ _ _ _ _ _
      | exact ih3 _ _ _ _ _ _ _ _ _ _ _ _ _ _ _ _
      | exact ih4 _ _ _ _ _
      | exact impl_crowdOf.mono _ _
      | exact impl_crowd_144.mono _ _ _
      | exact anyPart.mono _ _ _
      | exact LeO.none _
      | refine LeO.ite ?_ ?_
      | refine LeO.bind ?_ (fun _ => ?_)
set_option maxHeartbeats 8000000 in
set_option maxRecDepth 100000 in
theorem impl_Family_circuits.calls (k : Nat) (a0_0 : Int) (A0_1 : Option Addr) (c0_1 : Nat) (l0_1 : List (List Int)) (r : List Int) (w : World) (hr0_1 : Kd.C (Kd.slice 2 (Kd.int .i64)) w A0_1 l0_1.length l0_1) (hc0_1 : l0_1.length ≤ c0_1) (h : impl_Family_circuits.f k a0_0 l0_1 = some r) :
  Calls Try.prog 102 #[.agg #[.int .i64 a0_0, .slice A0_1 l0_1.length c0_1]] w fun e w' => ∃ v0_ : Value, e = .returned (v0_) ∧ Kd.R (Kd.int .u64) 97 w' w.heap.size (fun _ => True) v0_ r ∧ Below w.heap.size w w' := by
 have hu31 := Try.underlying31
 have HR0_1 := Aside0.mk hr0_1
 have HC0_1 := Aside0.mk hc0_1
 clear hr0_1 hc0_1
 have HB := Aside0.mk (Below.refl w.heap.size w)
 have H : (impl_Family_circuits.l0 k (([] : List Int)) l0_1 (l0_1.length : Int) 0 a0_0 l0_1) = some r := h
 clear h
 obtain ⟨y685, hy685⟩ : ∃ y_ : List Int, y_ = (([] : List Int)) := ⟨_, rfl⟩
 replace H : (impl_Family_circuits.l0 k y685 l0_1 (l0_1.length : Int) 0 a0_0 l0_1) = some r := by first | (rw [hy685]; with_reducible exact H) | (have H2_ := (Option.bind_some _ _).symm.trans H; rw [hy685]; with_reducible exact H2_) | (have H2_ := (Option.bind_some _ _).symm.trans H; with_reducible exact H2_) | with_reducible exact H | (rw [hy685]; exact H) | exact H
 have Ny685 := Aside0.mk hy685
 clear hy685
 have H' := Aside0.mk H
 clear H
 go_enter Try.func102, Try.ntmps102
 go_wp2_with (first | ((with_reducible refine gate_dst (N := 1) rfl ?_); refine box_event ?hg (N := 1) ?hd (cs := #[.int .i64 a0_0, .slice A0_1 l0_1.length c0_1]) (t := 31) ?hr ?_; (case hd => rfl); (case hg => rfl); (case hr => first | (go_simp; done) | (go_simp; rfl)); intro gb684 hg w2 hbox hb; have n0_ := Aside0.mk (below_step (zb0 HB.out) hb); have n1_ := Aside0.mk (hbox); have n2_ := Aside0.mk ((by rw [hg]; exact (below_size (zb0 HB.out)) : w.heap.size ≤ gb684)); have n3_ := Aside0.mk ((by rw [hg]; exact (below_size (zb0 HB.out)) : w.heap.size ≤ gb684)); clear HB; have HB := n0_; have BK684 := n1_; have GW684 := n2_; have GE684 := n3_; clear n0_ n1_ n2_ n3_; clear hb hbox hg) | ((with_reducible refine gate_dst (N := 17) rfl ?_); refine Kd.R_lit (Kd.int .u64) _ 97 ?hg (N := 17) ?hd (xs := ([] : List Int)) (inner := []) (ok := fun _ => True) (okp := fun _ => True) ?hr ?hp (fun _ hk => hk) trivial (Below.refl _ _) (Nat.le_refl _) (by simp) ?_; (case hd => rfl); (case hg => rfl); (case hr => first | (go_simp; done) | (go_simp; rfl)); (case hp => exact (Reps.none _ _)); intro v686 w3 ho4 hb hg_ hnew_; clear hg_ hnew_; (first | rw [← Ny685.out] at ho4 | (simp only [Int.reduceToNat] at ho4; rw [← Ny685.out] at ho4)); have n0_ := Aside0.mk (Kd.R_lower ho4 (below_size (zb1 HB.out GE684.out))); have n1_ := Aside0.mk (blk_below (g := gb684) (o := .cells #[.int .i64 a0_0, .slice A0_1 l0_1.length c0_1] 31 (0, 0)) (zk BK684.out) hb); have n2_ := Aside0.mk (below_step (zb1 HB.out GE684.out) hb); clear BK684; clear HB; have HO687 := n0_; have BK684 := n1_; have HB := n2_; clear n0_ n1_ n2_; clear hb ho4; have hcz5_0 : w3.cell? ⟨gb684, 0, none⟩ = some (.int .i64 a0_0) := (blk_cell BK684.out 0).trans rfl; have hcz5_1 : w3.cell? ⟨gb684, 1, none⟩ = some (.slice A0_1 l0_1.length c0_1) := (blk_cell BK684.out 1).trans rfl; have hfz5_0 := blk_frozen BK684.out 0; have hfz5_1 := blk_frozen BK684.out 1))
 go_loopg [3, 21] k (fun kq v3 v21 w' => ∃ (x3_1 : List Int) (x21_1 : Int), v21 = .int .i64 x21_1 ∧ Aside0 (impl_Family_circuits.l0 kq x3_1 l0_1 (l0_1.length : Int) x21_1 a0_0 l0_1 = some r) ∧ Aside0 (kq ≤ k) ∧ Aside0 (Kd.R (Kd.int .u64) 97 w' w.heap.size (fun _ => True) v3 x3_1) ∧ Aside0 (w'.heap[gb684]? = some (.cells #[.int .i64 a0_0, (.slice A0_1 l0_1.length c0_1)] 31 (0, 0))) ∧ Aside0 (Below w.heap.size w w'))
 case atStart => exact ⟨(y685), (0), zt, H', ⟨Nat.le_refl _⟩, ⟨zr HO687.out⟩, ⟨zk BK684.out⟩, ⟨zb1 HB.out GE684.out⟩⟩
 case round =>
  clear H'
  obtain ⟨x3_1, x21_1, rfl, HA, HK1, HO_3, BK684, HB⟩ := hrel
  cases gk with
  | zero => exact absurd HA.out (by simp [impl_Family_circuits.l0])
  | succ k1 =>
   have H := HA.out
   clear HA
   simp only [impl_Family_circuits.l0] at H
   by_cases c6 : x21_1 < (l0_1.length : Int)
   ·rw [if_pos c6] at H
    have c6b0 : decide (x21_1 < (l0_1.length : Int)) = true := decide_eq_true c6
    clear c6
    by_cases c7 : 0 ≤ x21_1
    ·rw [if_pos c7] at H
     have c7b0 : decide (0 ≤ x21_1) = true := decide_eq_true c7
     clear c7
     by_cases c8 : x21_1 < (l0_1.length : Int)
     ·rw [if_pos c8] at H
      have c8b0 : decide (x21_1 < (l0_1.length : Int)) = true := decide_eq_true c8
      clear c8
      replace H := Option.bind_eq_some_iff.mp H
      obtain ⟨t689, A90, H⟩ := H
      replace H : (if x3_1.length < 17592186044416 then (impl_Family_circuits.l0 k1 (x3_1 ++ [t689]) l0_1 (l0_1.length : Int) (wrap64 (x21_1 + 1)) a0_0 l0_1) else (none)) = some r := H
      have A9 := Aside0.mk A90
      clear A90
      by_cases c10 : x3_1.length < 17592186044416
      ·rw [if_pos c10] at H
       have LMc10 := Aside0.mk c10
       clear c10
       obtain ⟨y690, hy690⟩ : ∃ y_ : List Int, y_ = (x3_1 ++ [t689]) := ⟨_, rfl⟩
       replace H : (impl_Family_circuits.l0 k1 y690 l0_1 (l0_1.length : Int) (wrap64 (x21_1 + 1)) a0_0 l0_1) = some r := by first | (rw [hy690]; with_reducible exact H) | (have H2_ := (Option.bind_some _ _).symm.trans H; rw [hy690]; with_reducible exact H2_) | (have H2_ := (Option.bind_some _ _).symm.trans H; with_reducible exact H2_) | with_reducible exact H | (rw [hy690]; exact H) | exact H
       have Ny690 := Aside0.mk hy690
       clear hy690
       have H' := Aside0.mk H
       clear H
       have p688 : 0 ≤ (x21_1 : Int) := of_decide_eq_true zq
       have q688 : x21_1 < (l0_1.length : Int) := of_decide_eq_true zq
       obtain ⟨ad688, A688_0, c688_0, e688, hx688_0, hl688_0, hi688_0⟩ := at_L1 HR0_1.out x21_1 p688 q688
       cases e688
       replace hx688_0 := (HB.out.cell (World.block_lt_of_cell? w _ hx688_0)).trans hx688_0
       have HR688_0 := Aside0.mk hi688_0
       have HC688_0 := Aside0.mk hl688_0
       clear hi688_0 hl688_0
       replace p688 := eq_true p688
       replace q688 := eq_true q688
       go_wp2_with (first | ((with_reducible refine gate_callee (f := 86) rfl ?_); refine goesL_ (some 27) rfl rfl Try.func86 (by kernel_rfl) rfl #[.slice A688_0 (rd_L1 l0_1 x21_1).length c688_0] rfl zl ?_; (with_reducible refine (impl_crowdOf.calls k1 _ _ (rd_L1 l0_1 x21_1) t689 _ ?side1 ?side2 A9.out).mono ?_); (case side1 => exact zc (Kd.C_below HR688_0.out HB.out)); (case side2 => exact HC688_0.out); rintro e w' ⟨rfl, ⟨nd, rfl⟩⟩; refine ⟨_, rfl, ?_⟩) | ((with_reducible refine gate_builtin (b := .append) (xs := #[.tmp 25, .tmp 28]) rfl ?_); at_builtin; refine Kd.R_append (Kd.int .u64) (w0 := w) w.heap.size rfl (.tmp 25) (.tmp 28) 124 97 (.int .u64 0) 8 rfl Try.underlying124 info97 rfl (by decide) (by omega) u3 x3_1 t689 [.int .u64 t689] (fun _ => True) (fun _ => False) rfl (by first | rfl | (go_simp; done) | (simp; done)) ?aP (fun _ hk => hk.elim) ?aF ?aO ?aB ?aS ?aL ?_; (case aP => exact rfl); (case aB => exact (zb1 HB.out GE684.out)); (case aF => exact (fun _ _ => trivial)); (case aO => exact (zr HO_3.out)); (case aS => exact (below_size (zb1 HB.out GE684.out))); (case aL => have := LMc10.out; omega); intro v691 w11 ho hb hg hat; rw [← Ny690.out] at ho; have n0_ := Aside0.mk (blk_grown (g := gb684) (o := .cells #[.int .i64 a0_0, .slice (some ad688) l0_1.length c0_1] 31 (0, 0)) (zk BK684.out) hg (Kd.R_ne HO_3.out BK684.out (by decide))); have n1_ := Aside0.mk (hb); have n2_ := Aside0.mk (ho); clear BK684; clear HB; clear HO_3; have BK684 := n0_; have HB := n1_; have HO692 := n2_; clear n0_ n1_ n2_; clear ho hb hg hat))
       go_roundg k1
       case measure => have := HK1.out; omega
       case rel => exact ⟨(y690), (wrap64 (x21_1 + 1)), zt, H', ⟨by have := HK1.out; omega⟩, ⟨zr HO692.out⟩, ⟨zk BK684.out⟩, ⟨zb1 HB.out GE684.out⟩⟩
      ·rw [if_neg c10] at H
       exact absurd H (by simp)
     ·rw [if_neg c8] at H
      exact absurd H (by simp)
    ·rw [if_neg c7] at H
     exact absurd H (by simp)
   ·rw [if_neg c6] at H
    have c6b0 : decide (x21_1 < (l0_1.length : Int)) = false := decide_eq_false c6
    clear c6
    obtain ⟨y693, hy693⟩ : ∃ y_ : List Int, y_ = (([] : List Int)) := ⟨_, rfl⟩
    replace H : (impl_Family_circuits.l1 k1 x3_1 y693 x3_1 (x3_1.length : Int) 0 a0_0 l0_1) = some r := by first | (rw [hy693]; with_reducible exact H) | (have H2_ := (Option.bind_some _ _).symm.trans H; rw [hy693]; with_reducible exact H2_) | (have H2_ := (Option.bind_some _ _).symm.trans H; with_reducible exact H2_) | with_reducible exact H | (rw [hy693]; exact H) | exact H
    have Ny693 := Aside0.mk hy693
    clear hy693
    have H' := Aside0.mk H
    clear H
    go_wp2_with (first | ((with_reducible refine gate_dst (N := 31) rfl ?_); refine Kd.R_lit (Kd.int .u64) _ 97 ?hg (N := 31) ?hd (xs := ([] : List Int)) (inner := []) (ok := fun _ => True) (okp := fun _ => True) ?hr ?hp (fun _ hk => hk) trivial (Below.refl _ _) (Nat.le_refl _) (by simp) ?_; (case hd => rfl); (case hg => rfl); (case hr => first | (go_simp; done) | (go_simp; rfl)); (case hp => exact (Reps.none _ _)); intro v694 w12 ho13 hb hg_ hnew_; clear hg_ hnew_; (first | rw [← Ny693.out] at ho13 | (simp only [Int.reduceToNat] at ho13; rw [← Ny693.out] at ho13)); have n0_ := Aside0.mk (Kd.R_elder' (zr HO_3.out) (Kd.R_base ho13) hb); have n1_ := Aside0.mk (Kd.R_lower (Kd.R_new' ho13 (Kd.R_lt (zr HO_3.out))) (below_size (zb1 HB.out GE684.out))); have n2_ := Aside0.mk (blk_below (g := gb684) (o := .cells #[.int .i64 a0_0, .slice A0_1 l0_1.length c0_1] 31 (0, 0)) (zk BK684.out) hb); have n3_ := Aside0.mk (below_step (zb1 HB.out GE684.out) hb); clear HO_3; clear BK684; clear HB; have HO_3 := n0_; have HO695 := n1_; have BK684 := n2_; have HB := n3_; clear n0_ n1_ n2_ n3_; clear hb ho13; obtain ⟨Ao14, co14, eo14⟩ := Kd.R_slice HO_3.out; subst eo14))
    go_loopg [6, 34] k1 (fun kq v6 v34 w' => ∃ (x6_2 : List Int) (x34_2 : Int), v34 = .int .i64 x34_2 ∧ Aside0 (impl_Family_circuits.l1 kq x3_1 x6_2 x3_1 (x3_1.length : Int) x34_2 a0_0 l0_1 = some r) ∧ Aside0 (kq ≤ k1) ∧ Aside0 (Kd.R (Kd.int .u64) 97 w' w.heap.size (fun k_ => some k_ ≠ (v6 : Value).ownBlock) (.slice Ao14 x3_1.length co14) x3_1) ∧ Aside0 (Kd.R (Kd.int .u64) 97 w' w.heap.size (fun k_ => some k_ ≠ ((.slice Ao14 x3_1.length co14) : Value).ownBlock ∧ some k_ ≠ ((.slice Ao14 x3_1.length co14) : Value).ownBlock) v6 x6_2) ∧ Aside0 (Kd.R (Kd.int .u64) 97 w' w.heap.size (fun k_ => some k_ ≠ (v6 : Value).ownBlock) (.slice Ao14 x3_1.length co14) x3_1) ∧ Aside0 (w'.heap[gb684]? = some (.cells #[.int .i64 a0_0, (.slice A0_1 l0_1.length c0_1)] 31 (0, 0))) ∧ Aside0 (Below w.heap.size w w'))
    case atStart => exact ⟨(y693), (0), zt, H', ⟨Nat.le_refl _⟩, ⟨by (with_reducible repeat (first | apply Kd.R_alloc | apply Kd.R_drewN | apply Kd.R_drew)); exact Kd.R_mono HO_3.out (fun _ hk => hk.2)⟩, ⟨by (with_reducible repeat (first | apply Kd.R_alloc | apply Kd.R_drewN | apply Kd.R_drew)); exact Kd.R_mono HO695.out (fun _ hk => ⟨hk.2, hk.2⟩)⟩, ⟨by (with_reducible repeat (first | apply Kd.R_alloc | apply Kd.R_drewN | apply Kd.R_drew)); exact Kd.R_mono HO_3.out (fun _ hk => hk.2)⟩, ⟨zk BK684.out⟩, ⟨zb1 HB.out GE684.out⟩⟩
    case round =>
     clear H'
     obtain ⟨x6_2, x34_2, rfl, HA, HK2, HO_3, HO_6, HO_32, BK684, HB⟩ := hrel
     cases gk with
     | zero => exact absurd HA.out (by simp [impl_Family_circuits.l1])
     | succ k2 =>
      have H := HA.out
      clear HA
      simp only [impl_Family_circuits.l1] at H
      by_cases c15 : x34_2 < (x3_1.length : Int)
      ·rw [if_pos c15] at H
       have c15b0 : decide (x34_2 < (x3_1.length : Int)) = true := decide_eq_true c15
       clear c15
       by_cases c16 : 0 ≤ x34_2
       ·rw [if_pos c16] at H
        have c16b0 : decide (0 ≤ x34_2) = true := decide_eq_true c16
        clear c16
        by_cases c17 : x34_2 < (x3_1.length : Int)
        ·rw [if_pos c17] at H
         have c17b0 : decide (x34_2 < (x3_1.length : Int)) = true := decide_eq_true c17
         clear c17
         by_cases c18 : 0 ≤ a0_0
         ·rw [if_pos c18] at H
          have c18b0 := eq_true c18
          have c18b1 : decide (0 ≤ a0_0) = true := decide_eq_true c18
          clear c18
          obtain ⟨ji19, hji19⟩ : ∃ j_ : Int, (shl .u64 1 a0_0) = j_ := ⟨_, rfl⟩
          replace H : (if x6_2.length < 17592186044416 then (if x34_2 ≤ (x3_1.length : Int) then ((some (x3_1.take (x34_2 : Int).toNat : List Int)).bind fun y700 => (impl_Family_circuits.l2 k2 x3_1 (x6_2 ++ [Go.bits .or .u64 (rd x3_1 x34_2) (ji19)]) (rd x3_1 x34_2) x3_1 (x3_1.length : Int) x34_2 y700 (y700.length : Int) 0 a0_0 l0_1)) else (none)) else (none)) = some r := by first | (rw [hji19] at H; exact H) | (simp only [hji19] at H ⊢; exact H)
          have hji19_ : (IntKind.u64.wrap (1 * 2 ^ min a0_0.toNat 64)) = ji19 := hji19
          have hji19z : a0_0 ≤ 64 → (IntKind.u64.wrap (1 * 2 ^ a0_0.toNat)) = ji19 := shl_small hji19
          have hji19u : (IntKind.u64.wrap (2 ^ min a0_0.toNat 64)) = ji19 := by have h_ := hji19_; rw [Int.one_mul] at h_; exact h_
          have hji19v : a0_0 ≤ 64 → (IntKind.u64.wrap (2 ^ a0_0.toNat)) = ji19 := fun hle_ => by have h_ := hji19z hle_; rw [Int.one_mul] at h_; exact h_
          by_cases c20 : x6_2.length < 17592186044416
          ·rw [if_pos c20] at H
           have LMc20 := Aside0.mk c20
           clear c20
           obtain ⟨y697, hy697⟩ : ∃ y_ : List Int, y_ = (x6_2 ++ [Go.bits .or .u64 (rd x3_1 x34_2) (ji19)]) := ⟨_, rfl⟩
           replace H : (if x34_2 ≤ (x3_1.length : Int) then ((some (x3_1.take (x34_2 : Int).toNat : List Int)).bind fun y700 => (impl_Family_circuits.l2 k2 x3_1 y697 (rd x3_1 x34_2) x3_1 (x3_1.length : Int) x34_2 y700 (y700.length : Int) 0 a0_0 l0_1)) else (none)) = some r := by first | (rw [hy697]; with_reducible exact H) | (have H2_ := (Option.bind_some _ _).symm.trans H; rw [hy697]; with_reducible exact H2_) | (have H2_ := (Option.bind_some _ _).symm.trans H; with_reducible exact H2_) | with_reducible exact H | (rw [hy697]; exact H) | exact H
           have Ny697 := Aside0.mk hy697
           clear hy697
           have c21b0 := eq_true (of_decide_eq_true (by first | (with_reducible assumption) | assumption) : 0 ≤ x34_2)
           by_cases c22 : x34_2 ≤ (x3_1.length : Int)
           ·rw [if_pos c22] at H
            have c22b0 := eq_true c22
            have c22b1 : decide (x34_2 ≤ (x3_1.length : Int)) = true := decide_eq_true c22
            clear c22
            obtain ⟨y700, hy700⟩ : ∃ y_ : List Int, y_ = (x3_1.take (x34_2 : Int).toNat) := ⟨_, rfl⟩
            replace H : (impl_Family_circuits.l2 k2 x3_1 y697 (rd x3_1 x34_2) x3_1 (x3_1.length : Int) x34_2 y700 (y700.length : Int) 0 a0_0 l0_1) = some r := by first | (rw [hy700]; with_reducible exact H) | (have H2_ := (Option.bind_some _ _).symm.trans H; rw [hy700]; with_reducible exact H2_) | (have H2_ := (Option.bind_some _ _).symm.trans H; with_reducible exact H2_) | with_reducible exact H | (rw [hy700]; exact H) | exact H
            have Ny700 := Aside0.mk hy700
            clear hy700
            have H' := Aside0.mk H
            clear H
            have p696 : 0 ≤ (x34_2 : Int) := of_decide_eq_true zq
            have q696 : x34_2 < (x3_1.length : Int) := of_decide_eq_true zq
            obtain ⟨ad696, e696, hx696_0⟩ := Kd.at_int (Kd.R_reads' HO_32.out).2.2 x34_2 p696 q696
            cases e696
            replace p696 := eq_true p696
            replace q696 := eq_true q696
            have hcz23_0 : wr.cell? ⟨gb684, 0, none⟩ = some (.int .i64 a0_0) := (blk_cell BK684.out 0).trans rfl
            have hcz23_1 : wr.cell? ⟨gb684, 1, none⟩ = some (.slice A0_1 l0_1.length c0_1) := (blk_cell BK684.out 1).trans rfl
            have hfz23_0 := blk_frozen BK684.out 0
            have hfz23_1 := blk_frozen BK684.out 1
            go_wp2_with (first | ((with_reducible refine gate_builtin (b := .append) (xs := #[.tmp 39, .tmp 45]) rfl ?_); at_builtin; refine Kd.R_append (Kd.int .u64) (w0 := w) w.heap.size rfl (.tmp 39) (.tmp 45) 124 97 (.int .u64 0) 8 rfl Try.underlying124 info97 rfl (by decide) (by omega) u6 x6_2 (Go.bits .or .u64 (rd x3_1 x34_2) (ji19)) [.int .u64 (Go.bits .or .u64 (rd x3_1 x34_2) (ji19))] (fun k_ => some k_ ≠ (.slice (some ad696) x3_1.length co14 : Value).ownBlock ∧ some k_ ≠ (.slice (some ad696) x3_1.length co14 : Value).ownBlock) (fun _ => False) rfl (by first | rfl | (go_simp; done) | (simp; done)) ?aP (fun _ hk => hk.elim) ?aF ?aO ?aB ?aS ?aL ?_; (case aP => exact rfl); (case aB => exact (zb1 HB.out GE684.out)); (case aF => exact (fun k_ hk => ⟨Kd.fresh' (Kd.R_lt (zr HO_3.out)) k_ hk, Kd.fresh' (Kd.R_lt (zr HO_32.out)) k_ hk⟩)); (case aO => exact (zr HO_6.out)); (case aS => exact (below_size (zb1 HB.out GE684.out))); (case aL => have := LMc20.out; omega); intro v698 w24 ho hb hg hat; rw [← Ny697.out] at ho; have n0_ := Aside0.mk (Kd.R_after (ok := (fun _ => True)) (by (with_reducible repeat (first | apply Kd.R_alloc | apply Kd.R_drewN | apply Kd.R_drew)); exact Kd.R_mono HO_3.out (fun _ hk => ⟨trivial, hk⟩)) hg hat); have n1_ := Aside0.mk (Kd.R_after (ok := (fun _ => True)) (by (with_reducible repeat (first | apply Kd.R_alloc | apply Kd.R_drewN | apply Kd.R_drew)); exact Kd.R_mono HO_32.out (fun _ hk => ⟨trivial, hk⟩)) hg hat); have n2_ := Aside0.mk (blk_grown (g := gb684) (o := .cells #[.int .i64 a0_0, .slice A0_1 l0_1.length c0_1] 31 (0, 0)) (zk BK684.out) hg (Kd.R_ne HO_6.out BK684.out (by decide))); have n3_ := Aside0.mk (hb); have n4_ := Aside0.mk (ho); clear HO_3; clear HO_32; clear BK684; clear HB; clear HO_6; have HO_3 := n0_; have HO_32 := n1_; have BK684 := n2_; have HB := n3_; have HO699 := n4_; clear n0_ n1_ n2_ n3_ n4_; clear ho hb hg hat; have q25 : (x34_2 : Int) ≤ ((x3_1.length : Int) : Int) := of_decide_eq_true (by first | (with_reducible assumption) | assumption); obtain ⟨i025, hi025, _, hsz25, _⟩ := info_parts info97; have hroom25 : x3_1.length ≤ co14 := (Kd.R_reads' HO_3.out).2.1; have hC25 : Kd.C (Kd.int .u64) _ (some ad696) x3_1.length x3_1 := (Kd.R_reads' HO_3.out).2.2; have hcut25 := cut_to (P := Try.prog) 124 97 .i64 Try.underlying124 hi025 (some ad696) x3_1.length co14 x34_2 (of_decide_eq_true (by first | (with_reducible assumption) | assumption)) q25 hroom25; have hr25 := Kd.C_take (m := (x34_2 : Int).toNat) hC25 (by omega); have hy25 : y700.length = (x34_2 : Int).toNat := (by rw [Ny700.out, List.length_take]; omega); rw [← Ny700.out] at hr25; rw [← hy25] at hcut25; have HR703 := Aside0.mk hr25; have HC703 := Aside0.mk (show y700.length ≤ co14 from by omega); clear hr25 hC25 hroom25 hi025 hsz25; have KY25 := Aside0.mk hy25; clear hy25; have KL25 := Aside0.mk (show (x34_2 : Int).toNat ≤ x3_1.length from by omega); replace q25 := eq_true q25))
            go_loopg [6, 51] k2 (fun kq v6 v51 w' => ∃ (x6_3 : List Int) (x51_3 : Int), v51 = .int .i64 x51_3 ∧ Aside0 (impl_Family_circuits.l2 kq x3_1 x6_3 (rd x3_1 x34_2) x3_1 (x3_1.length : Int) x34_2 y700 (y700.length : Int) x51_3 a0_0 l0_1 = some r) ∧ Aside0 (kq ≤ k2) ∧ Aside0 (Kd.R (Kd.int .u64) 97 w' w.heap.size (fun k_ => some k_ ≠ (v6 : Value).ownBlock) (.slice (some ad696) x3_1.length co14) x3_1) ∧ Aside0 (Kd.R (Kd.int .u64) 97 w' w.heap.size (fun k_ => some k_ ≠ ((.slice (some ad696) x3_1.length co14) : Value).ownBlock ∧ some k_ ≠ ((.slice (some ad696) x3_1.length co14) : Value).ownBlock) v6 x6_3) ∧ Aside0 (Kd.R (Kd.int .u64) 97 w' w.heap.size (fun k_ => some k_ ≠ (v6 : Value).ownBlock) (.slice (some ad696) x3_1.length co14) x3_1) ∧ Aside0 (w'.heap[gb684]? = some (.cells #[.int .i64 a0_0, (.slice A0_1 l0_1.length c0_1)] 31 (0, 0))) ∧ Aside0 (Kd.C (Kd.int .u64) w' (some ad696) y700.length y700) ∧ Aside0 (Below w.heap.size w w'))
            case atStart => exact ⟨(y697), (0), zt, H', ⟨Nat.le_refl _⟩, ⟨by (with_reducible repeat (first | apply Kd.R_alloc | apply Kd.R_drewN | apply Kd.R_drew)); exact Kd.R_mono HO_3.out (fun _ hk => hk.2)⟩, ⟨zr HO699.out⟩, ⟨by (with_reducible repeat (first | apply Kd.R_alloc | apply Kd.R_drewN | apply Kd.R_drew)); exact Kd.R_mono HO_32.out (fun _ hk => hk.2)⟩, ⟨zk BK684.out⟩, ⟨by repeat (first | (with_reducible exact HR703.out) | (with_reducible refine Kd.C_alloc ?_ _) | (with_reducible refine Kd.C_drewN ?_ _) | (with_reducible refine Kd.C_drew ?_) | exact HR703.out)⟩, ⟨zb1 HB.out GE684.out⟩⟩
            case round =>
             clear H'
             obtain ⟨x6_3, x51_3, rfl, HA, HK3, HO_3, HO_6, HO_32, BK684, HR703, HB⟩ := hrel
             cases gk with
             | zero => exact absurd HA.out (by simp [impl_Family_circuits.l2])
             | succ k3 =>
              have H := HA.out
              clear HA
              simp only [impl_Family_circuits.l2] at H
              by_cases c26 : x51_3 < (y700.length : Int)
              ·rw [if_pos c26] at H
               have c26b0 : decide (x51_3 < (y700.length : Int)) = true := decide_eq_true c26
               clear c26
               by_cases c27 : 0 ≤ x51_3
               ·rw [if_pos c27] at H
                have c27b0 : decide (0 ≤ x51_3) = true := decide_eq_true c27
                clear c27
                by_cases c28 : x51_3 < (y700.length : Int)
                ·rw [if_pos c28] at H
                 have c28b0 : decide (x51_3 < (y700.length : Int)) = true := decide_eq_true c28
                 clear c28
                 have H' := Aside0.mk H
                 clear H
                 have p704 : 0 ≤ (x51_3 : Int) := of_decide_eq_true zq
                 have q704 : x51_3 < (y700.length : Int) := of_decide_eq_true zq
                 obtain ⟨ad704, e704, hx704_0⟩ := Kd.at_int HR703.out x51_3 p704 q704
                 obtain rfl : ad696 = ad704 := (by injection e704)
                 (try replace hx704_0 := (HB.out.cell (World.block_lt_of_cell? w _ hx704_0)).trans hx704_0)
                 replace p704 := eq_true p704
                 replace q704 := eq_true q704
                 go_wp2
                 go_loopg [11, 60] k3 (fun kq v11 v60 w' => ∃ (x11_4 : Int) (x60_4 : Int), v11 = .int .u64 x11_4 ∧ v60 = .int .i64 x60_4 ∧ Aside0 (impl_Family_circuits.l3 kq x3_1 x6_3 (rd x3_1 x34_2) (rd y700 x51_3) x11_4 x3_1 (x3_1.length : Int) x34_2 y700 (y700.length : Int) x51_3 x3_1 (x3_1.length : Int) x60_4 a0_0 l0_1 = some r) ∧ Aside0 (kq ≤ k3) ∧ Aside0 (Kd.R (Kd.int .u64) 97 w' w.heap.size (fun k_ => some k_ ≠ (u6 : Value).ownBlock) (.slice (some ad696) x3_1.length co14) x3_1) ∧ Aside0 (Kd.R (Kd.int .u64) 97 w' w.heap.size (fun k_ => some k_ ≠ ((.slice (some ad696) x3_1.length co14) : Value).ownBlock ∧ some k_ ≠ ((.slice (some ad696) x3_1.length co14) : Value).ownBlock ∧ some k_ ≠ ((.slice (some ad696) x3_1.length co14) : Value).ownBlock) u6 x6_3) ∧ Aside0 (Kd.R (Kd.int .u64) 97 w' w.heap.size (fun k_ => some k_ ≠ (u6 : Value).ownBlock) (.slice (some ad696) x3_1.length co14) x3_1) ∧ Aside0 (Kd.R (Kd.int .u64) 97 w' w.heap.size (fun k_ => some k_ ≠ (u6 : Value).ownBlock) (.slice (some ad696) x3_1.length co14) x3_1) ∧ Aside0 (w'.heap[gb684]? = some (.cells #[.int .i64 a0_0, (.slice A0_1 l0_1.length c0_1)] 31 (0, 0))) ∧ Aside0 (Kd.C (Kd.int .u64) w' (some ad696) y700.length y700) ∧ Aside0 (Below w.heap.size w w'))
                 case atStart => exact ⟨(Go.bits .or .u64 (rd x3_1 x34_2) (rd y700 x51_3)), (0), zt, zt, H', ⟨Nat.le_refl _⟩, ⟨zr HO_3.out⟩, ⟨by (with_reducible repeat (first | apply Kd.R_alloc | apply Kd.R_drewN | apply Kd.R_drew)); exact Kd.R_mono HO_6.out (fun _ hk => ⟨hk.1, ⟨hk.2, hk.1⟩⟩)⟩, ⟨zr HO_32.out⟩, ⟨zr HO_3.out⟩, ⟨zk BK684.out⟩, ⟨by repeat (first | (with_reducible exact HR703.out) | (with_reducible refine Kd.C_alloc ?_ _) | (with_reducible refine Kd.C_drewN ?_ _) | (with_reducible refine Kd.C_drew ?_) | exact HR703.out)⟩, ⟨zb1 HB.out GE684.out⟩⟩
                 case round =>
                  clear H'
                  obtain ⟨x11_4, x60_4, rfl, rfl, HA, HK4, HO_3, HO_6, HO_32, HO_58, BK684, HR703, HB⟩ := hrel
                  cases gk with
                  | zero => exact absurd HA.out (by simp [impl_Family_circuits.l3])
                  | succ k4 =>
                   have H := HA.out
                   clear HA
                   simp only [impl_Family_circuits.l3] at H
                   by_cases c29 : x60_4 < (x3_1.length : Int)
                   ·rw [if_pos c29] at H
                    have c29b0 : decide (x60_4 < (x3_1.length : Int)) = true := decide_eq_true c29
                    clear c29
                    by_cases c30 : 0 ≤ x60_4
                    ·rw [if_pos c30] at H
                     have c30b0 : decide (0 ≤ x60_4) = true := decide_eq_true c30
                     clear c30
                     by_cases c31 : x60_4 < (x3_1.length : Int)
                     ·rw [if_pos c31] at H
                      have c31b0 : decide (x60_4 < (x3_1.length : Int)) = true := decide_eq_true c31
                      clear c31
                      replace H := Option.bind_eq_some_iff.mp H
                      obtain ⟨t706, A320, H⟩ := H
                      replace H : (if t706 = true then (impl_Family_circuits.l3 k4 x3_1 x6_3 (rd x3_1 x34_2) (rd y700 x51_3) (Go.bits .and .u64 x11_4 (rd x3_1 x60_4)) x3_1 (x3_1.length : Int) x34_2 y700 (y700.length : Int) x51_3 x3_1 (x3_1.length : Int) (wrap64 (x60_4 + 1)) a0_0 l0_1) else (impl_Family_circuits.l3 k4 x3_1 x6_3 (rd x3_1 x34_2) (rd y700 x51_3) x11_4 x3_1 (x3_1.length : Int) x34_2 y700 (y700.length : Int) x51_3 x3_1 (x3_1.length : Int) (wrap64 (x60_4 + 1)) a0_0 l0_1)) = some r := H
                      have A32 := Aside0.mk A320
                      clear A320
                      by_cases c33 : t706 = true
                      ·subst c33
                       rw [if_pos rfl] at H
                       have H' := Aside0.mk H
                       clear H
                       have p705 : 0 ≤ (x60_4 : Int) := of_decide_eq_true zq
                       have q705 : x60_4 < (x3_1.length : Int) := of_decide_eq_true zq
                       obtain ⟨ad705, e705, hx705_0⟩ := Kd.at_int (Kd.R_reads' HO_58.out).2.2 x60_4 p705 q705
                       obtain rfl : ad696 = ad705 := (by injection e705)
                       replace p705 := eq_true p705
                       replace q705 := eq_true q705
                       go_wp2_with (first | ((with_reducible refine gate_callee (f := 94) rfl ?_); refine goesL_ (some 68) rfl rfl Try.func94 (by kernel_rfl) rfl #[.int .u64 (Go.bits .or .u64 (rd x3_1 x34_2) (rd y700 x51_3)), .int .u64 (rd x3_1 x60_4)] rfl zl ?_; (with_reducible refine (impl_crowd_contains.calls (Go.bits .or .u64 (rd x3_1 x34_2) (rd y700 x51_3)) (rd x3_1 x60_4) true _ A32.out).mono ?_); rintro e w' ⟨rfl, ⟨nd, rfl⟩⟩; refine ⟨_, rfl, ?_⟩))
                       go_roundg k4
                       case measure => have := HK1.out; have := HK2.out; have := HK3.out; have := HK4.out; omega
                       case rel => exact ⟨(Go.bits .and .u64 x11_4 (rd x3_1 x60_4)), (wrap64 (x60_4 + 1)), zt, zt, H', ⟨by have := HK1.out; have := HK2.out; have := HK3.out; have := HK4.out; omega⟩, ⟨zr HO_3.out⟩, ⟨zr HO_6.out⟩, ⟨zr HO_32.out⟩, ⟨zr HO_58.out⟩, ⟨zk BK684.out⟩, ⟨by repeat (first | (with_reducible exact HR703.out) | (with_reducible refine Kd.C_alloc ?_ _) | (with_reducible refine Kd.C_drewN ?_ _) | (with_reducible refine Kd.C_drew ?_) | exact HR703.out)⟩, ⟨zb1 HB.out GE684.out⟩⟩
                      ·replace c33 := Bool.eq_false_iff.mpr c33
                       subst c33
                       rw [if_neg (show ¬ (false = true) by decide)] at H
                       have H' := Aside0.mk H
                       clear H
                       have p705 : 0 ≤ (x60_4 : Int) := of_decide_eq_true zq
                       have q705 : x60_4 < (x3_1.length : Int) := of_decide_eq_true zq
                       obtain ⟨ad705, e705, hx705_0⟩ := Kd.at_int (Kd.R_reads' HO_58.out).2.2 x60_4 p705 q705
                       obtain rfl : ad696 = ad705 := (by injection e705)
                       replace p705 := eq_true p705
                       replace q705 := eq_true q705
                       go_wp2_with (first | ((with_reducible refine gate_callee (f := 94) rfl ?_); refine goesL_ (some 68) rfl rfl Try.func94 (by kernel_rfl) rfl #[.int .u64 (Go.bits .or .u64 (rd x3_1 x34_2) (rd y700 x51_3)), .int .u64 (rd x3_1 x60_4)] rfl zl ?_; (with_reducible refine (impl_crowd_contains.calls (Go.bits .or .u64 (rd x3_1 x34_2) (rd y700 x51_3)) (rd x3_1 x60_4) false _ A32.out).mono ?_); rintro e w' ⟨rfl, ⟨nd, rfl⟩⟩; refine ⟨_, rfl, ?_⟩))
                       go_roundg k4
                       case measure => have := HK1.out; have := HK2.out; have := HK3.out; have := HK4.out; omega
                       case rel => exact ⟨(x11_4), (wrap64 (x60_4 + 1)), zt, zt, H', ⟨by have := HK1.out; have := HK2.out; have := HK3.out; have := HK4.out; omega⟩, ⟨zr HO_3.out⟩, ⟨zr HO_6.out⟩, ⟨zr HO_32.out⟩, ⟨zr HO_58.out⟩, ⟨zk BK684.out⟩, ⟨by repeat (first | (with_reducible exact HR703.out) | (with_reducible refine Kd.C_alloc ?_ _) | (with_reducible refine Kd.C_drewN ?_ _) | (with_reducible refine Kd.C_drew ?_) | exact HR703.out)⟩, ⟨zb1 HB.out GE684.out⟩⟩
                     ·rw [if_neg c31] at H
                      exact absurd H (by simp)
                    ·rw [if_neg c30] at H
                     exact absurd H (by simp)
                   ·rw [if_neg c29] at H
                    have c29b0 : decide (x60_4 < (x3_1.length : Int)) = false := decide_eq_false c29
                    clear c29
                    by_cases c34 : x6_3.length < 17592186044416
                    ·rw [if_pos c34] at H
                     have LMc34 := Aside0.mk c34
                     clear c34
                     obtain ⟨y707, hy707⟩ : ∃ y_ : List Int, y_ = (x6_3 ++ [Go.bits .andNot .u64 (Go.bits .or .u64 (rd x3_1 x34_2) (rd y700 x51_3)) x11_4]) := ⟨_, rfl⟩
                     replace H : (impl_Family_circuits.l2 k4 x3_1 y707 (rd x3_1 x34_2) x3_1 (x3_1.length : Int) x34_2 y700 (y700.length : Int) (wrap64 (x51_3 + 1)) a0_0 l0_1) = some r := by first | (rw [hy707]; with_reducible exact H) | (have H2_ := (Option.bind_some _ _).symm.trans H; rw [hy707]; with_reducible exact H2_) | (have H2_ := (Option.bind_some _ _).symm.trans H; with_reducible exact H2_) | with_reducible exact H | (rw [hy707]; exact H) | exact H
                     have Ny707 := Aside0.mk hy707
                     clear hy707
                     have H' := Aside0.mk H
                     clear H
                     go_wp2_with (first | ((with_reducible refine gate_builtin (b := .append) (xs := #[.tmp 73, .tmp 79]) rfl ?_); at_builtin; refine Kd.R_append (Kd.int .u64) (w0 := w) w.heap.size rfl (.tmp 73) (.tmp 79) 124 97 (.int .u64 0) 8 rfl Try.underlying124 info97 rfl (by decide) (by omega) u6 x6_3 (Go.bits .andNot .u64 (Go.bits .or .u64 (rd x3_1 x34_2) (rd y700 x51_3)) x11_4) [.int .u64 (Go.bits .andNot .u64 (Go.bits .or .u64 (rd x3_1 x34_2) (rd y700 x51_3)) x11_4)] (fun k_ => some k_ ≠ (.slice (some ad696) x3_1.length co14 : Value).ownBlock ∧ some k_ ≠ (.slice (some ad696) x3_1.length co14 : Value).ownBlock ∧ some k_ ≠ (.slice (some ad696) x3_1.length co14 : Value).ownBlock) (fun _ => False) rfl (by first | rfl | (go_simp; done) | (simp; done)) ?aP (fun _ hk => hk.elim) ?aF ?aO ?aB ?aS ?aL ?_; (case aP => exact rfl); (case aB => exact (zb1 HB.out GE684.out)); (case aF => exact (fun k_ hk => ⟨Kd.fresh' (Kd.R_lt (zr HO_3.out)) k_ hk, Kd.fresh' (Kd.R_lt (zr HO_32.out)) k_ hk, Kd.fresh' (Kd.R_lt (zr HO_58.out)) k_ hk⟩)); (case aO => exact (zr HO_6.out)); (case aS => exact (below_size (zb1 HB.out GE684.out))); (case aL => have := LMc34.out; omega); intro v708 w35 ho hb hg hat; rw [← Ny707.out] at ho; have n0_ := Aside0.mk (Kd.R_after (ok := (fun _ => True)) (by (with_reducible repeat (first | apply Kd.R_alloc | apply Kd.R_drewN | apply Kd.R_drew)); exact Kd.R_mono HO_3.out (fun _ hk => ⟨trivial, hk⟩)) hg hat); have n1_ := Aside0.mk (Kd.R_after (ok := (fun _ => True)) (by (with_reducible repeat (first | apply Kd.R_alloc | apply Kd.R_drewN | apply Kd.R_drew)); exact Kd.R_mono HO_32.out (fun _ hk => ⟨trivial, hk⟩)) hg hat); have n2_ := Aside0.mk (Kd.R_after (ok := (fun _ => True)) (by (with_reducible repeat (first | apply Kd.R_alloc | apply Kd.R_drewN | apply Kd.R_drew)); exact Kd.R_mono HO_58.out (fun _ hk => ⟨trivial, hk⟩)) hg hat); have n3_ := Aside0.mk (blk_grown (g := gb684) (o := .cells #[.int .i64 a0_0, .slice A0_1 l0_1.length c0_1] 31 (0, 0)) (zk BK684.out) hg (Kd.R_ne HO_6.out BK684.out (by decide))); have n4_ := Aside0.mk (hb); have n5_ := Aside0.mk ((show Kd.C (Kd.int .u64) w35 (some ad696) y700.length y700 from by rw [Ny700.out]; exact Kd.C_take (m := (x34_2 : Int).toNat) ((Kd.R_reads' (Kd.R_after (ok := (fun _ => True)) (by (with_reducible repeat (first | apply Kd.R_alloc | apply Kd.R_drewN | apply Kd.R_drew)); exact Kd.R_mono HO_3.out (fun _ hk => ⟨trivial, hk⟩)) hg hat)).2.2) KL25.out)); have n6_ := Aside0.mk (ho); clear HO_3; clear HO_32; clear HO_58; clear BK684; clear HB; clear HR703; clear HO_6; have HO_3 := n0_; have HO_32 := n1_; have HO_58 := n2_; have BK684 := n3_; have HB := n4_; have HR703 := n5_; have HO709 := n6_; clear n0_ n1_ n2_ n3_ n4_ n5_ n6_; clear ho hb hg hat))
                     go_roundg k4
                     case measure => have := HK1.out; have := HK2.out; have := HK3.out; have := HK4.out; omega
                     case rel => exact ⟨(y707), (wrap64 (x51_3 + 1)), zt, H', ⟨by have := HK1.out; have := HK2.out; have := HK3.out; have := HK4.out; omega⟩, ⟨by (with_reducible repeat (first | apply Kd.R_alloc | apply Kd.R_drewN | apply Kd.R_drew)); exact Kd.R_mono HO_3.out (fun _ hk => hk.2)⟩, ⟨by (with_reducible repeat (first | apply Kd.R_alloc | apply Kd.R_drewN | apply Kd.R_drew)); exact Kd.R_mono HO709.out (fun _ hk => ⟨hk.1, hk.2.1⟩)⟩, ⟨by (with_reducible repeat (first | apply Kd.R_alloc | apply Kd.R_drewN | apply Kd.R_drew)); exact Kd.R_mono HO_32.out (fun _ hk => hk.2)⟩, ⟨zk BK684.out⟩, ⟨by repeat (first | (with_reducible exact HR703.out) | (with_reducible refine Kd.C_alloc ?_ _) | (with_reducible refine Kd.C_drewN ?_ _) | (with_reducible refine Kd.C_drew ?_) | exact HR703.out)⟩, ⟨zb1 HB.out GE684.out⟩⟩
                    ·rw [if_neg c34] at H
                     exact absurd H (by simp)
                ·rw [if_neg c28] at H
                 exact absurd H (by simp)
               ·rw [if_neg c27] at H
                exact absurd H (by simp)
              ·rw [if_neg c26] at H
               have c26b0 : decide (x51_3 < (y700.length : Int)) = false := decide_eq_false c26
               clear c26
               have H' := Aside0.mk H
               clear H
               go_wp2
               go_roundg k3
               case measure => have := HK1.out; have := HK2.out; have := HK3.out; omega
               case rel => exact ⟨(x6_3), (wrap64 (x34_2 + 1)), zt, H', ⟨by have := HK1.out; have := HK2.out; have := HK3.out; omega⟩, ⟨zr HO_3.out⟩, ⟨zr HO_6.out⟩, ⟨zr HO_32.out⟩, ⟨zk BK684.out⟩, ⟨zb1 HB.out GE684.out⟩⟩
           ·rw [if_neg c22] at H
            exact absurd H (by simp)
          ·rw [if_neg c20] at H
           exact absurd H (by simp)
         ·rw [if_neg c18] at H
          exact absurd H (by simp)
        ·rw [if_neg c17] at H
         exact absurd H (by simp)
       ·rw [if_neg c16] at H
        exact absurd H (by simp)
      ·rw [if_neg c15] at H
       have c15b0 : decide (x34_2 < (x3_1.length : Int)) = false := decide_eq_false c15
       clear c15
       obtain ⟨y710, hy710⟩ : ∃ y_ : List Int, y_ = (([] : List Int)) := ⟨_, rfl⟩
       replace H : (impl_Family_circuits.l4 k2 x6_2 y710 x6_2 (x6_2.length : Int) 0) = some r := by first | (rw [hy710]; with_reducible exact H) | (have H2_ := (Option.bind_some _ _).symm.trans H; rw [hy710]; with_reducible exact H2_) | (have H2_ := (Option.bind_some _ _).symm.trans H; with_reducible exact H2_) | with_reducible exact H | (rw [hy710]; exact H) | exact H
       have Ny710 := Aside0.mk hy710
       clear hy710
       have H' := Aside0.mk H
       clear H
       go_wp2_with (first | ((with_reducible refine gate_dst (N := 83) rfl ?_); refine Kd.R_lit (Kd.int .u64) _ 97 ?hg (N := 83) ?hd (xs := ([] : List Int)) (inner := []) (ok := fun _ => True) (okp := fun _ => True) ?hr ?hp (fun _ hk => hk) trivial (Below.refl _ _) (Nat.le_refl _) (by simp) ?_; (case hd => rfl); (case hg => rfl); (case hr => first | (go_simp; done) | (go_simp; rfl)); (case hp => exact (Reps.none _ _)); intro v711 w36 ho37 hb hg_ hnew_; clear hg_ hnew_; (first | rw [← Ny710.out] at ho37 | (simp only [Int.reduceToNat] at ho37; rw [← Ny710.out] at ho37)); have n0_ := Aside0.mk (Kd.R_elder' (zr HO_3.out) (Kd.R_base ho37) hb); have n1_ := Aside0.mk (Kd.R_elder' (zr HO_6.out) (Kd.R_base ho37) hb); have n2_ := Aside0.mk (Kd.R_elder' (zr HO_32.out) (Kd.R_base ho37) hb); have n3_ := Aside0.mk (Kd.R_lower (Kd.R_new' (Kd.R_new' (Kd.R_new' ho37 (Kd.R_lt (zr HO_3.out))) (Kd.R_lt (zr HO_6.out))) (Kd.R_lt (zr HO_32.out))) (below_size (zb1 HB.out GE684.out))); have n4_ := Aside0.mk (blk_below (g := gb684) (o := .cells #[.int .i64 a0_0, .slice A0_1 l0_1.length c0_1] 31 (0, 0)) (zk BK684.out) hb); have n5_ := Aside0.mk (below_step (zb1 HB.out GE684.out) hb); clear HO_3; clear HO_6; clear HO_32; clear BK684; clear HB; have HO_3 := n0_; have HO_6 := n1_; have HO_32 := n2_; have HO712 := n3_; have BK684 := n4_; have HB := n5_; clear n0_ n1_ n2_ n3_ n4_ n5_; clear hb ho37; obtain ⟨Ao38, co38, eo38⟩ := Kd.R_slice HO_6.out; subst eo38))
       go_loopg [14, 86] k2 (fun kq v14 v86 w' => ∃ (x14_3 : List Int) (x86_3 : Int), v86 = .int .i64 x86_3 ∧ Aside0 (impl_Family_circuits.l4 kq x6_2 x14_3 x6_2 (x6_2.length : Int) x86_3 = some r) ∧ Aside0 (kq ≤ k2) ∧ Aside0 (Kd.R (Kd.int .u64) 97 w' w.heap.size (fun k_ => some k_ ≠ (v14 : Value).ownBlock) (.slice Ao38 x6_2.length co38) x6_2) ∧ Aside0 (Kd.R (Kd.int .u64) 97 w' w.heap.size (fun k_ => some k_ ≠ ((.slice Ao38 x6_2.length co38) : Value).ownBlock ∧ some k_ ≠ ((.slice Ao38 x6_2.length co38) : Value).ownBlock) v14 x14_3) ∧ Aside0 (Kd.R (Kd.int .u64) 97 w' w.heap.size (fun k_ => some k_ ≠ (v14 : Value).ownBlock) (.slice Ao38 x6_2.length co38) x6_2) ∧ Aside0 (w'.heap[gb684]? = some (.cells #[.int .i64 a0_0, (.slice A0_1 l0_1.length c0_1)] 31 (0, 0))) ∧ Aside0 (Below w.heap.size w w'))
       case atStart => exact ⟨(y710), (0), zt, H', ⟨Nat.le_refl _⟩, ⟨by (with_reducible repeat (first | apply Kd.R_alloc | apply Kd.R_drewN | apply Kd.R_drew)); exact Kd.R_mono HO_6.out (fun _ hk => hk.2)⟩, ⟨by (with_reducible repeat (first | apply Kd.R_alloc | apply Kd.R_drewN | apply Kd.R_drew)); exact Kd.R_mono HO712.out (fun _ hk => ⟨hk.1.2, hk.1.2⟩)⟩, ⟨by (with_reducible repeat (first | apply Kd.R_alloc | apply Kd.R_drewN | apply Kd.R_drew)); exact Kd.R_mono HO_6.out (fun _ hk => hk.2)⟩, ⟨zk BK684.out⟩, ⟨zb1 HB.out GE684.out⟩⟩
       case round =>
        clear H'
        obtain ⟨x14_3, x86_3, rfl, HA, HK3, HO_6, HO_14, HO_84, BK684, HB⟩ := hrel
        cases gk with
        | zero => exact absurd HA.out (by simp [impl_Family_circuits.l4])
        | succ k3 =>
         have H := HA.out
         clear HA
         simp only [impl_Family_circuits.l4] at H
         by_cases c39 : x86_3 < (x6_2.length : Int)
         ·rw [if_pos c39] at H
          have c39b0 : decide (x86_3 < (x6_2.length : Int)) = true := decide_eq_true c39
          clear c39
          by_cases c40 : 0 ≤ x86_3
          ·rw [if_pos c40] at H
           have c40b0 : decide (0 ≤ x86_3) = true := decide_eq_true c40
           clear c40
           by_cases c41 : x86_3 < (x6_2.length : Int)
           ·rw [if_pos c41] at H
            have c41b0 : decide (x86_3 < (x6_2.length : Int)) = true := decide_eq_true c41
            clear c41
            by_cases c42 : (rd x6_2 x86_3) = 0
            ·rw [if_pos c42] at H
             have c42b0 : ((rd x6_2 x86_3) == 0) = true := beq_iff_eq.mpr c42
             have c42b1 : ((rd x6_2 x86_3) != 0) = false := bne_eq_false_iff_eq.mpr c42
             clear c42
             have H' := Aside0.mk H
             clear H
             have p713 : 0 ≤ (x86_3 : Int) := of_decide_eq_true zq
             have q713 : x86_3 < (x6_2.length : Int) := of_decide_eq_true zq
             obtain ⟨ad713, e713, hx713_0⟩ := Kd.at_int (Kd.R_reads' HO_84.out).2.2 x86_3 p713 q713
             cases e713
             replace p713 := eq_true p713
             replace q713 := eq_true q713
             go_wp2
             go_roundg k3
             case measure => have := HK1.out; have := HK2.out; have := HK3.out; omega
             case rel => exact ⟨(x14_3), (wrap64 (x86_3 + 1)), zt, H', ⟨by have := HK1.out; have := HK2.out; have := HK3.out; omega⟩, ⟨zr HO_6.out⟩, ⟨zr HO_14.out⟩, ⟨zr HO_84.out⟩, ⟨zk BK684.out⟩, ⟨zb1 HB.out GE684.out⟩⟩
            ·rw [if_neg c42] at H
             have c42b0 : ((rd x6_2 x86_3) == 0) = false := beq_eq_false_iff_ne.mpr c42
             have c42b1 : ((rd x6_2 x86_3) != 0) = true := bne_iff_ne.mpr c42
             replace H := Option.bind_eq_some_iff.mp H
             obtain ⟨t714, A430, H⟩ := H
             replace H : (if t714 = true then (impl_Family_circuits.l4 k3 x6_2 x14_3 x6_2 (x6_2.length : Int) (wrap64 (x86_3 + 1))) else ((anyPart.f k3 x6_2 (rd x6_2 x86_3)).bind fun t715 => (if t715 = true then (impl_Family_circuits.l4 k3 x6_2 x14_3 x6_2 (x6_2.length : Int) (wrap64 (x86_3 + 1))) else (if x14_3.length < 17592186044416 then (impl_Family_circuits.l4 k3 x6_2 (x14_3 ++ [rd x6_2 x86_3]) x6_2 (x6_2.length : Int) (wrap64 (x86_3 + 1))) else (none))))) = some r := H
             have A43 := Aside0.mk A430
             clear A430
             by_cases c44 : t714 = true
             ·subst c44
              rw [if_pos rfl] at H
              have H' := Aside0.mk H
              clear H
              have p713 : 0 ≤ (x86_3 : Int) := of_decide_eq_true zq
              have q713 : x86_3 < (x6_2.length : Int) := of_decide_eq_true zq
              obtain ⟨ad713, e713, hx713_0⟩ := Kd.at_int (Kd.R_reads' HO_84.out).2.2 x86_3 p713 q713
              cases e713
              replace p713 := eq_true p713
              replace q713 := eq_true q713
              obtain ⟨Ao45, co45, eo45⟩ := Kd.R_slice HO_14.out
              subst eo45
              go_wp2_with (first | (go_at_call 144; (with_reducible refine (impl_crowd_144.calls k3 _ _ x14_3 (rd x6_2 x86_3) true _ ?side1 ?side2 A43.out).mono ?_); (case side1 => repeat (first | exact (Kd.R_reads' HO_14.out).2.2 | (with_reducible refine Kd.C_alloc ?_ _) | (with_reducible refine Kd.C_drewN ?_ _) | (with_reducible refine Kd.C_drew ?_))); (case side2 => exact (Kd.R_reads' HO_14.out).2.1); rintro e w' ⟨rfl, ⟨nd, rfl⟩⟩))
              go_roundg k3
              case measure => have := HK1.out; have := HK2.out; have := HK3.out; omega
              case rel => exact ⟨(x14_3), (wrap64 (x86_3 + 1)), zt, H', ⟨by have := HK1.out; have := HK2.out; have := HK3.out; omega⟩, ⟨zr HO_6.out⟩, ⟨zr HO_14.out⟩, ⟨zr HO_84.out⟩, ⟨zk BK684.out⟩, ⟨zb1 HB.out GE684.out⟩⟩
             ·replace c44 := Bool.eq_false_iff.mpr c44
              subst c44
              rw [if_neg (show ¬ (false = true) by decide)] at H
              replace H := Option.bind_eq_some_iff.mp H
              obtain ⟨t715, A460, H⟩ := H
              replace H : (if t715 = true then (impl_Family_circuits.l4 k3 x6_2 x14_3 x6_2 (x6_2.length : Int) (wrap64 (x86_3 + 1))) else (if x14_3.length < 17592186044416 then (impl_Family_circuits.l4 k3 x6_2 (x14_3 ++ [rd x6_2 x86_3]) x6_2 (x6_2.length : Int) (wrap64 (x86_3 + 1))) else (none))) = some r := H
              have A46 := Aside0.mk A460
              clear A460
              by_cases c47 : t715 = true
              ·subst c47
               rw [if_pos rfl] at H
               have H' := Aside0.mk H
               clear H
               have p713 : 0 ≤ (x86_3 : Int) := of_decide_eq_true zq
               have q713 : x86_3 < (x6_2.length : Int) := of_decide_eq_true zq
               obtain ⟨ad713, e713, hx713_0⟩ := Kd.at_int (Kd.R_reads' HO_84.out).2.2 x86_3 p713 q713
               cases e713
               replace p713 := eq_true p713
               replace q713 := eq_true q713
               obtain ⟨Ao48, co48, eo48⟩ := Kd.R_slice HO_14.out
               subst eo48
               go_wp2_with (first | (go_at_call 144; (with_reducible refine (impl_crowd_144.calls k3 _ _ x14_3 (rd x6_2 x86_3) false _ ?side1 ?side2 A43.out).mono ?_); (case side1 => repeat (first | exact (Kd.R_reads' HO_14.out).2.2 | (with_reducible refine Kd.C_alloc ?_ _) | (with_reducible refine Kd.C_drewN ?_ _) | (with_reducible refine Kd.C_drew ?_))); (case side2 => exact (Kd.R_reads' HO_14.out).2.1); rintro e w' ⟨rfl, ⟨nd, rfl⟩⟩) | (go_at_call 103; (refine (anyPart_calls k3 _ _ x6_2 (rd x6_2 x86_3) _ true _ ?side1 ?side2 ?side3 A46.out).mono ?_); (case side3 => go_simp); (case side1 => repeat (first | exact (Kd.R_reads' HO_6.out).2.2 | (with_reducible refine Kd.C_alloc ?_ _) | (with_reducible refine Kd.C_drewN ?_ _) | (with_reducible refine Kd.C_drew ?_))); (case side2 => exact (Kd.R_reads' HO_6.out).2.1); rintro e w' ⟨rfl, ⟨nd, rfl⟩⟩))
               go_roundg k3
               case measure => have := HK1.out; have := HK2.out; have := HK3.out; omega
               case rel => exact ⟨(x14_3), (wrap64 (x86_3 + 1)), zt, H', ⟨by have := HK1.out; have := HK2.out; have := HK3.out; omega⟩, ⟨zr HO_6.out⟩, ⟨zr HO_14.out⟩, ⟨zr HO_84.out⟩, ⟨zk BK684.out⟩, ⟨zb1 HB.out GE684.out⟩⟩
              ·replace c47 := Bool.eq_false_iff.mpr c47
               subst c47
               rw [if_neg (show ¬ (false = true) by decide)] at H
               by_cases c49 : x14_3.length < 17592186044416
               ·rw [if_pos c49] at H
                have LMc49 := Aside0.mk c49
                clear c49
                obtain ⟨y716, hy716⟩ : ∃ y_ : List Int, y_ = (x14_3 ++ [rd x6_2 x86_3]) := ⟨_, rfl⟩
                replace H : (impl_Family_circuits.l4 k3 x6_2 y716 x6_2 (x6_2.length : Int) (wrap64 (x86_3 + 1))) = some r := by first | (rw [hy716]; with_reducible exact H) | (have H2_ := (Option.bind_some _ _).symm.trans H; rw [hy716]; with_reducible exact H2_) | (have H2_ := (Option.bind_some _ _).symm.trans H; with_reducible exact H2_) | with_reducible exact H | (rw [hy716]; exact H) | exact H
                have Ny716 := Aside0.mk hy716
                clear hy716
                have H' := Aside0.mk H
                clear H
                have p713 : 0 ≤ (x86_3 : Int) := of_decide_eq_true zq
                have q713 : x86_3 < (x6_2.length : Int) := of_decide_eq_true zq
                obtain ⟨ad713, e713, hx713_0⟩ := Kd.at_int (Kd.R_reads' HO_84.out).2.2 x86_3 p713 q713
                cases e713
                replace p713 := eq_true p713
                replace q713 := eq_true q713
                obtain ⟨Ao50, co50, eo50⟩ := Kd.R_slice HO_14.out
                subst eo50
                go_wp2_with (first | (go_at_call 144; (with_reducible refine (impl_crowd_144.calls k3 _ _ x14_3 (rd x6_2 x86_3) false _ ?side1 ?side2 A43.out).mono ?_); (case side1 => repeat (first | exact (Kd.R_reads' HO_14.out).2.2 | (with_reducible refine Kd.C_alloc ?_ _) | (with_reducible refine Kd.C_drewN ?_ _) | (with_reducible refine Kd.C_drew ?_))); (case side2 => exact (Kd.R_reads' HO_14.out).2.1); rintro e w' ⟨rfl, ⟨nd, rfl⟩⟩) | (go_at_call 103; (refine (anyPart_calls k3 _ _ x6_2 (rd x6_2 x86_3) _ false _ ?side1 ?side2 ?side3 A46.out).mono ?_); (case side3 => go_simp); (case side1 => repeat (first | exact (Kd.R_reads' HO_6.out).2.2 | (with_reducible refine Kd.C_alloc ?_ _) | (with_reducible refine Kd.C_drewN ?_ _) | (with_reducible refine Kd.C_drew ?_))); (case side2 => exact (Kd.R_reads' HO_6.out).2.1); rintro e w' ⟨rfl, ⟨nd, rfl⟩⟩) | ((with_reducible refine gate_builtin (b := .append) (xs := #[.tmp 104, .tmp 106]) rfl ?_); at_builtin; refine Kd.R_append (Kd.int .u64) (w0 := w) w.heap.size rfl (.tmp 104) (.tmp 106) 124 97 (.int .u64 0) 8 rfl Try.underlying124 info97 rfl (by decide) (by omega) (.slice Ao50 x14_3.length co50) x14_3 (rd x6_2 x86_3) [.int .u64 (rd x6_2 x86_3)] (fun k_ => some k_ ≠ (.slice (some ad713) x6_2.length co38 : Value).ownBlock ∧ some k_ ≠ (.slice (some ad713) x6_2.length co38 : Value).ownBlock) (fun _ => False) rfl (by first | rfl | (go_simp; done) | (simp; done)) ?aP (fun _ hk => hk.elim) ?aF ?aO ?aB ?aS ?aL ?_; (case aP => exact rfl); (case aB => exact (zb1 HB.out GE684.out)); (case aF => exact (fun k_ hk => ⟨Kd.fresh' (Kd.R_lt (zr HO_6.out)) k_ hk, Kd.fresh' (Kd.R_lt (zr HO_84.out)) k_ hk⟩)); (case aO => exact (zr HO_14.out)); (case aS => exact (below_size (zb1 HB.out GE684.out))); (case aL => have := LMc49.out; omega); intro v717 w51 ho hb hg hat; rw [← Ny716.out] at ho; have n0_ := Aside0.mk (Kd.R_after (ok := (fun _ => True)) (by (with_reducible repeat (first | apply Kd.R_alloc | apply Kd.R_drewN | apply Kd.R_drew)); exact Kd.R_mono HO_6.out (fun _ hk => ⟨trivial, hk⟩)) hg hat); have n1_ := Aside0.mk (Kd.R_after (ok := (fun _ => True)) (by (with_reducible repeat (first | apply Kd.R_alloc | apply Kd.R_drewN | apply Kd.R_drew)); exact Kd.R_mono HO_84.out (fun _ hk => ⟨trivial, hk⟩)) hg hat); have n2_ := Aside0.mk (blk_grown (g := gb684) (o := .cells #[.int .i64 a0_0, .slice A0_1 l0_1.length c0_1] 31 (0, 0)) (zk BK684.out) hg (Kd.R_ne HO_14.out BK684.out (by decide))); have n3_ := Aside0.mk (hb); have n4_ := Aside0.mk (ho); clear HO_6; clear HO_84; clear BK684; clear HB; clear HO_14; have HO_6 := n0_; have HO_84 := n1_; have BK684 := n2_; have HB := n3_; have HO718 := n4_; clear n0_ n1_ n2_ n3_ n4_; clear ho hb hg hat))
                go_roundg k3
                case measure => have := HK1.out; have := HK2.out; have := HK3.out; omega
                case rel => exact ⟨(y716), (wrap64 (x86_3 + 1)), zt, H', ⟨by have := HK1.out; have := HK2.out; have := HK3.out; omega⟩, ⟨by (with_reducible repeat (first | apply Kd.R_alloc | apply Kd.R_drewN | apply Kd.R_drew)); exact Kd.R_mono HO_6.out (fun _ hk => hk.2)⟩, ⟨zr HO718.out⟩, ⟨by (with_reducible repeat (first | apply Kd.R_alloc | apply Kd.R_drewN | apply Kd.R_drew)); exact Kd.R_mono HO_84.out (fun _ hk => hk.2)⟩, ⟨zk BK684.out⟩, ⟨zb1 HB.out GE684.out⟩⟩
               ·rw [if_neg c49] at H
                exact absurd H (by simp)
           ·rw [if_neg c41] at H
            exact absurd H (by simp)
          ·rw [if_neg c40] at H
           exact absurd H (by simp)
         ·rw [if_neg c39] at H
          have c39b0 : decide (x86_3 < (x6_2.length : Int)) = false := decide_eq_false c39
          clear c39
          by_cases c99 : x14_3.length < 4611686018427387904 ∧ x14_3.all (fun z => decide (0 ≤ z ∧ z < 128)) = true
          ·rw [if_pos c99] at H
           have hall : ∀ z, z ∈ x14_3 → 0 ≤ z ∧ z < 128 := fun z hz => by simpa using List.all_eq_true.1 c99.2 z hz
           have hlen := c99.1
           clear c99
           obtain rfl := Option.some.inj H
           go_wp2_with (first | ((with_reducible refine gate_callee (f := 146) rfl ?_); refine goesL_ (some 110) rfl rfl Try.func146 (by kernel_rfl) rfl #[u14, .func (.func 147) #[] #[]] rfl (by (try simp only [List.map_toArray, List.map_cons, List.map_nil]); first | done | rfl) ?_; (refine (sortSets_R _ x14_3 hlen hall w.heap.size _ _ HO_14.out).mono ?_); rintro e w9 ⟨rfl, ho, hg⟩; refine ⟨_, rfl, ?_⟩; have HO9 := Aside0.mk ho; have HG9 := Aside0.mk hg; clear ho hg))
           go_ret
           exact ⟨_, rfl, Kd.R_mono HO9.out (fun _ _ => trivial), pw_below_grown HB.out _ (below_size HB.out) HG9.out (Kd.R_base HO_14.out)⟩
          ·rw [if_neg c99] at H
           exact absurd H (by simp)
end Go.Proofs.Ytmbeijjkfmgkpaa.Q
namespace Go.Proofs.Ytmbeijjkfmgkpaa.Pure
set_option linter.unusedVariables false
open Go.RowKit Go.Proofs.Ytmbeijjkfmgkpaa.Q Go.Proofs.YtmbeijjkfmgkpaaW.PrintWords Go.Proofs.YtmbeijjkfmgkpaaW.PrintLast
namespace Ex
theorem wrb (i : Nat) (h : i < 1000000000000000) : wrap64 ((i : Int) + 1) = ((i + 1 : Nat) : Int) := by unfold wrap64; omega
abbrev bo (x y : Int) : Int := Go.bits .or .u64 x y
abbrev ba (x y : Int) : Int := Go.bits .and .u64 x y
abbrev bn (x y : Int) : Int := Go.bits .andNot .u64 x y
def R7 (x : Int) : Prop := 0 ≤ x ∧ x < 128
def com (L : List Int) (u x : Int) : Int := L.foldl (fun x c => if ba u c == c then ba x c else x) x
def dif (M : List Int) (a b : Int) : Int := bn (bo a b) (com M (bo a b) (bo a b))
def allOf (M : List Int) (s : Int) : Nat → Nat → List Int
  | _, 0 => []
  | i, d + 1 => (bo (rd M (i : Int)) s :: (M.take i).map (dif M (rd M (i : Int)))) ++ allOf M s (i + 1) d
def filt (A : List Int) : List Int → List Int → List Int
  | out, [] => out
  | out, c :: r => if c = 0 then filt A out r else if out.contains c = true then filt A out r else if A.any (partOf c) = true then filt A out r else filt A (out ++ [c]) r
theorem c_l0 (n : Int) (gs : List (List Int)) (hl : gs.length < 10000000) (h7 : ∀ t, t < gs.length → G gs t ∈ lists 7) : ∀ (d i : Nat), i + d = gs.length → ∀ k, d + 25 ≤ k →
    impl_Family_circuits.l0 k ((gs.take i).map maskOf) gs (gs.length : Int) i n gs = impl_Family_circuits.l1 (k - d - 1) (gs.map maskOf) [] (gs.map maskOf) ((gs.map maskOf).length : Int) 0 n gs := by
  intro d
  induction d with
  | zero =>
    intro i hi k hk
    obtain ⟨k, rfl⟩ : ∃ m, k = m + 1 := ⟨k - 1, by omega⟩
    conv => lhs; unfold impl_Family_circuits.l0
    rw [if_neg (by omega), List.take_of_length_le (by omega)]
    rfl
  | succ d ih =>
    intro i hi k hk
    obtain ⟨k, rfl⟩ : ∃ m, k = m + 1 := ⟨k - 1, by omega⟩
    have hil : i < gs.length := by omega
    have e1 := (crowd7 (G gs i) (h7 i hil) k (by omega)).1
    have ht : ((gs.take i).map maskOf) ++ [maskOf (G gs i)] = (gs.take (i + 1)).map maskOf := by
      rw [List.take_succ_eq_append_getElem hil, List.map_append, G, rdL_at hil]; rfl
    conv => lhs; unfold impl_Family_circuits.l0
    rw [if_pos (by omega), if_pos (by omega), if_pos (by omega), show rd_L1 gs (i : Int) = G gs i from rfl, e1, Option.bind_some, if_pos (by rw [List.length_map, List.length_take]; omega), ht, wrb i (by omega), ih (i + 1) (by omega) k (by omega)]
    rw [show k + 1 - (d + 1) - 1 = k - d - 1 by omega]
theorem c_l3 (M : List Int) (hl : M.length < 10000000) (x6 : List Int) (h6 : x6.length < 17592186044416) (x8 x10 : Int) (x32 : List Int) (x33 x34 : Int) (x49 : List Int) (x50 x51 n : Int) (gs : List (List Int)) :
    ∀ (d t : Nat), t + d = M.length → ∀ (x11 : Int) k, d < k →
      impl_Family_circuits.l3 k M x6 x8 x10 x11 x32 x33 x34 x49 x50 x51 M (M.length : Int) t n gs = impl_Family_circuits.l2 (k - d - 1) M (x6 ++ [bn (bo x8 x10) (com (M.drop t) (bo x8 x10) x11)]) x8 x32 x33 x34 x49 x50 (wrap64 (x51 + 1)) n gs := by
  intro d
  induction d with
  | zero =>
    intro t ht x11 k hk
    obtain ⟨k, rfl⟩ : ∃ m, k = m + 1 := ⟨k - 1, by omega⟩
    conv => lhs; unfold impl_Family_circuits.l3
    rw [if_neg (by omega), if_pos h6, List.drop_eq_nil_of_le (by omega)]
    rfl
  | succ d ih =>
    intro t ht x11 k hk
    obtain ⟨k, rfl⟩ : ∃ m, k = m + 1 := ⟨k - 1, by omega⟩
    have htl : t < M.length := by omega
    have hc : com (M.drop t) (bo x8 x10) x11 = com (M.drop (t + 1)) (bo x8 x10) (if ba (bo x8 x10) (rd M (t : Int)) == rd M (t : Int) then ba x11 (rd M (t : Int)) else x11) := by
      rw [List.drop_eq_getElem_cons htl, rd_at htl]; rfl
    conv => lhs; unfold impl_Family_circuits.l3
    rw [if_pos (by omega), if_pos (by omega), if_pos (by omega)]
    rw [show impl_crowd_contains.f (Go.bits .or .u64 x8 x10) (rd M (t : Int)) = some (ba (bo x8 x10) (rd M (t : Int)) == rd M (t : Int)) from rfl, Option.bind_some, hc, wrb t (by omega), show k + 1 - (d + 1) - 1 = k - d - 1 by omega]
    by_cases c : (ba (bo x8 x10) (rd M (t : Int)) == rd M (t : Int)) = true
    · rw [if_pos c, if_pos c]
      exact ih (t + 1) (by omega) _ k (by omega)
    · rw [if_neg c, if_neg c]
      exact ih (t + 1) (by omega) _ k (by omega)
theorem rd_take (M : List Int) (i j : Nat) (h : j < i) : rd (M.take i) (j : Int) = rd M (j : Int) := by
  simp only [rd, Int.toNat_natCast, List.getD_eq_getElem?_getD]
  rw [List.getElem?_take_of_lt h]
theorem c_l2 (M : List Int) (hl : M.length < 10000000) (n : Int) (gs : List (List Int)) (i : Nat) (hi : i < M.length) (R : Nat) : ∀ (d j : Nat), j + d = i → ∀ x6 : List Int, x6.length + d < 17592186044416 →
  ∃ K, ∀ k, K ≤ k → ∃ k', R ≤ k' ∧ impl_Family_circuits.l2 k M x6 (rd M (i : Int)) M (M.length : Int) i (M.take i) ((M.take i).length : Int) j n gs = impl_Family_circuits.l1 k' M (x6 ++ ((M.take i).drop j).map (dif M (rd M (i : Int)))) M (M.length : Int) ((i + 1 : Nat) : Int) n gs := by
 have hti : (M.take i).length = i := by rw [List.length_take]; omega
 intro d
 induction d with
 | zero =>
  intro j hj x6 h6
  refine ⟨R + 1, fun k hk => ?_⟩
  obtain ⟨k, rfl⟩ : ∃ m, k = m + 1 := ⟨k - 1, by omega⟩
  refine ⟨k, by omega, ?_⟩
  conv => lhs; unfold impl_Family_circuits.l2
  rw [if_neg (by rw [hti]; omega), wrb i (by omega), List.drop_eq_nil_of_le (by omega)]
  simp
 | succ d ih =>
  intro j hj x6 h6
  obtain ⟨K, hK⟩ := ih (j + 1) (by omega) (x6 ++ [dif M (rd M (i : Int)) (rd M (j : Int))]) (by simp; omega)
  refine ⟨K + M.length + 3, fun k hk => ?_⟩
  obtain ⟨k, rfl⟩ : ∃ m, k = m + 1 := ⟨k - 1, by omega⟩
  obtain ⟨k', hk', e⟩ := hK (k - M.length - 1) (by omega)
  refine ⟨k', hk', ?_⟩
  have hjl : j < (M.take i).length := by omega
  conv => lhs; unfold impl_Family_circuits.l2
  rw [if_pos (by rw [hti]; omega), if_pos (by omega), if_pos (by rw [hti]; omega), rd_take M i j (by omega)]
  have h3 := c_l3 M hl x6 (by omega) (rd M (i : Int)) (rd M (j : Int)) M (M.length : Int) i (M.take i) ((M.take i).length : Int) j n gs M.length 0 (by omega) (bo (rd M (i : Int)) (rd M (j : Int))) k (by omega)
  rw [show ((0 : Nat) : Int) = 0 from rfl, List.drop_zero, wrb j (by omega)] at h3
  rw [h3]
  rw [show x6 ++ [bn (bo (rd M (i : Int)) (rd M (j : Int))) (com M (bo (rd M (i : Int)) (rd M (j : Int))) (bo (rd M (i : Int)) (rd M (j : Int))))] = x6 ++ [dif M (rd M (i : Int)) (rd M (j : Int))] from rfl, e]
  rw [List.drop_eq_getElem_cons hjl, List.map_cons, List.append_assoc, ← rd_take M i j (by omega), rd_at hjl]
  rfl
theorem c_l1 (M : List Int) (hl : M.length < 2000000) (n : Int) (hn : 0 ≤ n) (gs : List (List Int)) (R : Nat) : ∀ (d i : Nat), i + d = M.length → ∀ x6 : List Int, x6.length + d * (M.length + 1) < 17592186044416 →
    ∃ K, ∀ k, K ≤ k → ∃ k', R ≤ k' ∧ impl_Family_circuits.l1 k M x6 M (M.length : Int) i n gs =
      impl_Family_circuits.l4 k' (x6 ++ allOf M (shl .u64 1 n) i d) [] (x6 ++ allOf M (shl .u64 1 n) i d) ((x6 ++ allOf M (shl .u64 1 n) i d).length : Int) 0 := by
  intro d
  induction d with
  | zero =>
    intro i hi x6 h6
    refine ⟨R + 1, fun k hk => ?_⟩
    obtain ⟨k, rfl⟩ : ∃ m, k = m + 1 := ⟨k - 1, by omega⟩
    refine ⟨k, by omega, ?_⟩
    conv => lhs; unfold impl_Family_circuits.l1
    rw [if_neg (by omega)]
    simp [allOf]
  | succ d ih =>
    intro i hi x6 h6
    rw [Nat.add_mul] at h6
    have hil : i < M.length := by omega
    have hti : (M.take i).length = i := by rw [List.length_take]; omega
    obtain ⟨K, hK⟩ := ih (i + 1) (by omega) ((x6 ++ [bo (rd M (i : Int)) (shl .u64 1 n)]) ++ (M.take i).map (dif M (rd M (i : Int)))) (by simp; omega)
    obtain ⟨K2, hK2⟩ := c_l2 M (by omega) n gs i hil K i 0 (by omega) (x6 ++ [bo (rd M (i : Int)) (shl .u64 1 n)]) (by simp; omega)
    refine ⟨K2 + 1, fun k hk => ?_⟩
    obtain ⟨k, rfl⟩ : ∃ m, k = m + 1 := ⟨k - 1, by omega⟩
    obtain ⟨k2, hk2, e2⟩ := hK2 k (by omega)
    obtain ⟨k', hk', e⟩ := hK k2 hk2
    refine ⟨k', hk', ?_⟩
    conv => lhs; unfold impl_Family_circuits.l1
    rw [if_pos (by omega), if_pos (by omega), if_pos (by omega), if_pos hn, if_pos (by omega), if_pos (by omega), Option.bind_some, Int.toNat_natCast]
    rw [show ((0 : Nat) : Int) = 0 from rfl, List.drop_zero] at e2
    rw [e2, e]
    have hA : x6 ++ [bo (rd M (i : Int)) (shl .u64 1 n)] ++ (M.take i).map (dif M (rd M (i : Int))) ++ allOf M (shl .u64 1 n) (i + 1) d = x6 ++ allOf M (shl .u64 1 n) i (d + 1) := by
      simp [allOf]
    rw [hA]
theorem idx_l0 (l : List Int) (hl : l.length < 100000000000000) (c : Int) : ∀ (d i : Nat), i + d = l.length → ∀ k, d < k → ∃ r, impl_crowd_166.l0 k l c (l.length : Int) i = some r ∧ (r ≥ 0 ↔ c ∈ l.drop i) := by
  intro d
  induction d with
  | zero =>
    intro i hi k hk
    obtain ⟨k, rfl⟩ : ∃ m, k = m + 1 := ⟨k - 1, by omega⟩
    unfold impl_crowd_166.l0
    rw [if_neg (by omega), List.drop_eq_nil_of_le (by omega)]
    exact ⟨-1, rfl, by simp⟩
  | succ d ih =>
    intro i hi k hk
    obtain ⟨k, rfl⟩ : ∃ m, k = m + 1 := ⟨k - 1, by omega⟩
    have hil : i < l.length := by omega
    obtain ⟨r, e, hr⟩ := ih (i + 1) (by omega) k (by omega)
    unfold impl_crowd_166.l0
    rw [if_pos (by omega), if_pos (by omega), if_pos (by omega), wrb i (by omega), List.drop_eq_getElem_cons hil, rd_at hil]
    by_cases h : c = l[i]
    · rw [if_pos h]
      exact ⟨i, rfl, by rw [List.mem_cons]; exact ⟨fun _ => .inl h, fun _ => by omega⟩⟩
    · rw [if_neg h]
      exact ⟨r, e, by rw [hr, List.mem_cons]; exact ⟨.inr, fun h' => h'.resolve_left h⟩⟩
theorem has_f (l : List Int) (hl : l.length < 100000000000000) (c : Int) (k : Nat) (hk : l.length < k) : impl_crowd_144.f k l c = some (l.contains c) := by
  obtain ⟨r, e, hr⟩ := idx_l0 l hl c l.length 0 (by omega) k hk
  unfold impl_crowd_144.f impl_crowd_166.f
  rw [show ((0 : Nat) : Int) = 0 from rfl] at e
  rw [e, Option.bind_some]
  congr 1
  rw [Bool.eq_iff_iff, decide_eq_true_eq, hr]
  simp
theorem c_l4 (A : List Int) (hl : A.length < 10000000000000) (hA : ∀ x ∈ A, R7 x) : ∀ (d t : Nat), t + d = A.length → ∀ out : List Int, out.length ≤ t → (∀ x ∈ out, R7 x) → ∀ k, d + A.length + 2 ≤ k →
    impl_Family_circuits.l4 k A out A (A.length : Int) t = some (sortBy setLt (filt A out (A.drop t))) := by
  intro d
  induction d with
  | zero =>
    intro t ht out ho hR k hk
    obtain ⟨k, rfl⟩ : ∃ m, k = m + 1 := ⟨k - 1, by omega⟩
    unfold impl_Family_circuits.l4
    rw [if_neg (by omega), List.drop_eq_nil_of_le (by omega), if_pos]
    · rfl
    · exact ⟨by omega, by rw [List.all_eq_true]; intro x hx; exact decide_eq_true (hR x hx)⟩
  | succ d ih =>
    intro t ht out ho hR k hk
    obtain ⟨k, rfl⟩ : ∃ m, k = m + 1 := ⟨k - 1, by omega⟩
    have htl : t < A.length := by omega
    unfold impl_Family_circuits.l4
    rw [if_pos (by omega), if_pos (by omega), if_pos (by omega), wrb t (by omega), rd_at htl, List.drop_eq_getElem_cons htl]
    unfold filt
    by_cases c0 : A[t] = 0
    · rw [if_pos c0, if_pos c0]
      exact ih (t + 1) (by omega) out (by omega) hR k (by omega)
    · rw [if_neg c0, if_neg c0, has_f out (by omega) _ k (by omega), Option.bind_some]
      by_cases c1 : out.contains A[t] = true
      · rw [if_pos c1, if_pos c1]
        exact ih (t + 1) (by omega) out (by omega) hR k (by omega)
      · rw [if_neg c1, if_neg c1, show anyPart.f k A A[t] = some (A.any (partOf A[t])) from rfl, Option.bind_some]
        by_cases c2 : A.any (partOf A[t]) = true
        · rw [if_pos c2, if_pos c2]
          exact ih (t + 1) (by omega) out (by omega) hR k (by omega)
        · rw [if_neg c2, if_neg c2, if_pos (by omega)]
          refine ih (t + 1) (by omega) _ (by simp; omega) ?_ k (by omega)
          intro x hx
          rcases List.mem_append.1 hx with hx | hx
          · exact hR x hx
          · rw [List.mem_singleton.1 hx]; exact hA _ (List.getElem_mem _)
theorem allOf_len (M : List Int) (s : Int) : ∀ (d i : Nat), i + d = M.length → (allOf M s i d).length ≤ d * (M.length + 1) := by
  intro d
  induction d with
  | zero => intro i hi; simp [allOf]
  | succ d ih =>
    intro i hi
    have := ih (i + 1) (by omega)
    rw [Nat.add_mul]
    simp only [allOf, List.length_append, List.length_cons, List.length_map, List.length_take]
    omega
def allA (n : Int) (gs : List (List Int)) : List Int := allOf (gs.map maskOf) (shl .u64 1 n) 0 (gs.map maskOf).length
theorem circuits_f (n : Int) (hn : 0 ≤ n) (gs : List (List Int)) (hl : gs.length < 2000000) (h7 : ∀ t, t < gs.length → G gs t ∈ lists 7) (hA : ∀ x ∈ allA n gs, R7 x) :
    ∃ K, ∀ k, K ≤ k → impl_Family_circuits.f k n gs = some (sortBy setLt (filt (allA n gs) [] (allA n gs))) := by
  have hM : (gs.map maskOf).length = gs.length := List.length_map _
  have hp : gs.length * (gs.length + 1) ≤ 2000000 * 2000000 := Nat.mul_le_mul (by omega) (by omega)
  have hAl : (allA n gs).length ≤ gs.length * (gs.length + 1) := by
    have := allOf_len (gs.map maskOf) (shl .u64 1 n) (gs.map maskOf).length 0 (by omega)
    rw [hM] at this
    rw [show allA n gs = allOf (gs.map maskOf) (shl .u64 1 n) 0 gs.length by unfold allA; rw [hM]]
    exact this
  obtain ⟨K, hK⟩ := c_l1 (gs.map maskOf) (by omega) n hn gs ((allA n gs).length + (allA n gs).length + 2) (gs.map maskOf).length 0 (by omega) [] (by rw [hM]; simp; omega)
  refine ⟨K + gs.length + 30, fun k hk => ?_⟩
  have h0 := c_l0 n gs (by omega) h7 gs.length 0 (by omega) k (by omega)
  obtain ⟨k', hk', e⟩ := hK (k - gs.length - 1) (by omega)
  unfold impl_Family_circuits.f
  rw [show ((0 : Nat) : Int) = 0 from rfl] at h0 e
  rw [List.take_zero, List.map_nil] at h0
  rw [h0, e]
  simp only [List.nil_append]
  have h4 := c_l4 (allA n gs) (by omega) hA (allA n gs).length 0 (by omega) [] (by simp) (by simp) k' (by omega)
  rw [show ((0 : Nat) : Int) = 0 from rfl, List.drop_zero] at h4
  exact h4
end Ex
end Go.Proofs.Ytmbeijjkfmgkpaa.Pure
namespace Go.Proofs.Ytmbeijjkfmgkpaa.Q
open Go.RowKit Go.Proofs.YtmbeijjkfmgkpaaW.PrintWords Go.Proofs.YtmbeijjkfmgkpaaW.PrintLast Go.Proofs.YtmbeijjkfmgkpaaW.PrintMore
attribute [local go_sem] max2_int min2_int max_two min_two max_three min_three max_four min_four
set_option linter.unusedVariables false
set_option linter.unusedSimpArgs false
def spec_l07Numbers.l0 : Nat → List (List Int) → List Int → Int → Option (List Int)
  | 0, _, _, _ => none
  | k + 1, x0, x3, x4 => if x4 < (x0.length : Int) then (if 0 ≤ x4 then ((spec_l07Bits.f k (rd_L1 x0 x4)).bind fun t543 => (if x3.length < 17592186044416 then (spec_l07Numbers.l0 k x0 (x3 ++ [t543]) (wrap64 (x4 + 1))) else (none))) else (none)) else (some x3)
def spec_l07Numbers.f (k : Nat) (l0 : List (List Int)) : Option (List Int) := spec_l07Numbers.l0 k l0 (([] : List Int)) 0
theorem spec_l07Numbers.mono_l : ∀ k, (∀ y0 y1 y2, LeO (spec_l07Numbers.l0 k y0 y1 y2) (spec_l07Numbers.l0 (k + 1) y0 y1 y2))
  | 0 => fun _ _ _ r h => by simp [spec_l07Numbers.l0] at h
  | k + 1 => by
    have ih0 := spec_l07Numbers.mono_l k
    · intro y0 y1 y2
      unfold spec_l07Numbers.l0
      repeat' first
      | (with_reducible exact ih0 _ _ _)
      | (with_reducible exact spec_l07Bits.mono _ _)
      | (with_reducible exact LeO.refl _)
      | (with_reducible exact LeO.none _)
      | (with_reducible refine LeO.ite ?_ ?_)
      | (with_reducible refine LeO.bind ?_ (fun _ => ?_))
      | exact ih0 _ _ _
      | exact spec_l07Bits.mono _ _
      | exact LeO.none _
      | refine LeO.ite ?_ ?_
      | refine LeO.bind ?_ (fun _ => ?_)
theorem spec_l07Numbers.mono : ∀ a0 k, LeO (spec_l07Numbers.f k a0) (spec_l07Numbers.f (k + 1) a0) := by
  intro a0 k
  have ih0 := spec_l07Numbers.mono_l k
  unfold spec_l07Numbers.f
  repeat' first
      | (with_reducible exact ih0 _ _ _)
      | (with_reducible exact spec_l07Bits.mono _ _)
      | (with_reducible exact LeO.refl _)
      | (with_reducible exact LeO.none _)
      | (with_reducible refine LeO.ite ?_ ?_)
      | (with_reducible refine LeO.bind ?_ (fun _ => ?_))
      | exact ih0 _ _ _
      | exact spec_l07Bits.mono _ _
      | exact LeO.none _
      | refine LeO.ite ?_ ?_
      | refine LeO.bind ?_ (fun _ => ?_)
set_option maxHeartbeats 8000000 in
set_option maxRecDepth 100000 in
theorem spec_l07Numbers.calls (k : Nat) (A0 : Option Addr) (c0 : Nat) (l0 : List (List Int)) (r : List Int) (w : World) (hr0 : Kd.C (Kd.slice 2 (Kd.int .i64)) w A0 l0.length l0) (hc0 : l0.length ≤ c0) (h : spec_l07Numbers.f k l0 = some r) :
  Calls Try.prog 92 #[.slice A0 l0.length c0] w fun e w' => ∃ v0_ : Value, e = .returned (v0_) ∧ Kd.R (Kd.int .i64) 2 w' w.heap.size (fun _ => True) v0_ r ∧ Below w.heap.size w w' := by
 have HR0 := Aside0.mk hr0
 have HC0 := Aside0.mk hc0
 clear hr0 hc0
 have HB := Aside0.mk (Below.refl w.heap.size w)
 have H : (spec_l07Numbers.l0 k l0 (([] : List Int)) 0) = some r := h
 clear h
 obtain ⟨y539, hy539⟩ : ∃ y_ : List Int, y_ = (([] : List Int)) := ⟨_, rfl⟩
 replace H : (spec_l07Numbers.l0 k l0 y539 0) = some r := by first | (rw [hy539]; with_reducible exact H) | (have H2_ := (Option.bind_some _ _).symm.trans H; rw [hy539]; with_reducible exact H2_) | (have H2_ := (Option.bind_some _ _).symm.trans H; with_reducible exact H2_) | with_reducible exact H | (rw [hy539]; exact H) | exact H
 have Ny539 := Aside0.mk hy539
 clear hy539
 have H' := Aside0.mk H
 clear H
 go_enter Try.func92, Try.ntmps92
 go_wp2_with (first | ((with_reducible refine gate_dst (N := 5) rfl ?_); refine Kd.R_lit (Kd.int .i64) _ 2 ?hg (N := 5) ?hd (xs := ([] : List Int)) (inner := []) (ok := fun _ => True) (okp := fun _ => True) ?hr ?hp (fun _ hk => hk) trivial (Below.refl _ _) (Nat.le_refl _) (by simp) ?_; (case hd => rfl); (case hg => rfl); (case hr => first | (go_simp; done) | (go_simp; rfl)); (case hp => exact (Reps.none _ _)); intro v540 w2 ho3 hb hg_ hnew_; clear hg_ hnew_; (first | rw [← Ny539.out] at ho3 | (simp only [Int.reduceToNat] at ho3; rw [← Ny539.out] at ho3)); have n0_ := Aside0.mk (Kd.R_lower ho3 (below_size (zb0 HB.out))); have n1_ := Aside0.mk (below_step (zb0 HB.out) hb); clear HB; have HO541 := n0_; have HB := n1_; clear n0_ n1_; clear hb ho3))
 go_loopg [3, 4] k (fun kq v3 v4 w' => ∃ (x3_1 : List Int) (x4_1 : Int), v4 = .int .i64 x4_1 ∧ Aside0 (spec_l07Numbers.l0 kq l0 x3_1 x4_1 = some r) ∧ Aside0 (kq ≤ k) ∧ Aside0 (Kd.R (Kd.int .i64) 2 w' w.heap.size (fun _ => True) v3 x3_1) ∧ Aside0 (Below w.heap.size w w'))
 case atStart => exact ⟨(y539), (0), zt, H', ⟨Nat.le_refl _⟩, ⟨zr HO541.out⟩, ⟨zb0 HB.out⟩⟩
 case round =>
  clear H'
  obtain ⟨x3_1, x4_1, rfl, HA, HK1, HO_3, HB⟩ := hrel
  cases gk with
  | zero => exact absurd HA.out (by simp [spec_l07Numbers.l0])
  | succ k1 =>
   have H := HA.out
   clear HA
   simp only [spec_l07Numbers.l0] at H
   by_cases c4 : x4_1 < (l0.length : Int)
   ·rw [if_pos c4] at H
    have c4b0 : decide (x4_1 < (l0.length : Int)) = true := decide_eq_true c4
    clear c4
    by_cases c5 : 0 ≤ x4_1
    ·rw [if_pos c5] at H
     have c5b0 : decide (0 ≤ x4_1) = true := decide_eq_true c5
     clear c5
     replace H := Option.bind_eq_some_iff.mp H
     obtain ⟨t543, A60, H⟩ := H
     replace H : (if x3_1.length < 17592186044416 then (spec_l07Numbers.l0 k1 l0 (x3_1 ++ [t543]) (wrap64 (x4_1 + 1))) else (none)) = some r := H
     have A6 := Aside0.mk A60
     clear A60
     by_cases c7 : x3_1.length < 17592186044416
     ·rw [if_pos c7] at H
      have LMc7 := Aside0.mk c7
      clear c7
      obtain ⟨y544, hy544⟩ : ∃ y_ : List Int, y_ = (x3_1 ++ [t543]) := ⟨_, rfl⟩
      replace H : (spec_l07Numbers.l0 k1 l0 y544 (wrap64 (x4_1 + 1))) = some r := by first | (rw [hy544]; with_reducible exact H) | (have H2_ := (Option.bind_some _ _).symm.trans H; rw [hy544]; with_reducible exact H2_) | (have H2_ := (Option.bind_some _ _).symm.trans H; with_reducible exact H2_) | with_reducible exact H | (rw [hy544]; exact H) | exact H
      have Ny544 := Aside0.mk hy544
      clear hy544
      have H' := Aside0.mk H
      clear H
      have p542 : 0 ≤ (x4_1 : Int) := of_decide_eq_true zq
      have q542 : x4_1 < (l0.length : Int) := of_decide_eq_true zq
      obtain ⟨ad542, A542_0, c542_0, e542, hx542_0, hl542_0, hi542_0⟩ := at_L1 HR0.out x4_1 p542 q542
      cases e542
      replace hx542_0 := (HB.out.cell (World.block_lt_of_cell? w _ hx542_0)).trans hx542_0
      have HR542_0 := Aside0.mk hi542_0
      have HC542_0 := Aside0.mk hl542_0
      clear hi542_0 hl542_0
      replace p542 := eq_true p542
      replace q542 := eq_true q542
      go_wp2_with (first | ((with_reducible refine gate_callee (f := 83) rfl ?_); refine goesL_ (some 17) rfl rfl Try.func83 (by kernel_rfl) rfl #[.slice A542_0 (rd_L1 l0 x4_1).length c542_0] rfl zl ?_; (with_reducible refine (spec_l07Bits.calls k1 _ _ (rd_L1 l0 x4_1) t543 _ ?side1 ?side2 A6.out).mono ?_); (case side1 => exact zc (Kd.C_below HR542_0.out HB.out)); (case side2 => exact HC542_0.out); rintro e w' ⟨rfl, ⟨nd, rfl⟩⟩; refine ⟨_, rfl, ?_⟩) | ((with_reducible refine gate_builtin (b := .append) (xs := #[.tmp 12, .tmp 18]) rfl ?_); at_builtin; refine Kd.R_append (Kd.int .i64) (w0 := w) w.heap.size rfl (.tmp 12) (.tmp 18) 26 2 (.int .i64 0) 8 rfl Try.underlying26 info2 rfl (by decide) (by omega) u3 x3_1 t543 [.int .i64 t543] (fun _ => True) (fun _ => False) rfl rfl ?aP (fun _ hk => hk.elim) ?aF ?aO ?aB ?aS ?aL ?_; (case aP => exact rfl); (case aB => exact (zb0 HB.out)); (case aF => exact (fun _ _ => trivial)); (case aO => exact (zr HO_3.out)); (case aS => exact (below_size (zb0 HB.out))); (case aL => have := LMc7.out; omega); intro v545 w8 ho hb hg hat; rw [← Ny544.out] at ho; have n0_ := Aside0.mk (hb); have n1_ := Aside0.mk (ho); clear HB; clear HO_3; have HB := n0_; have HO546 := n1_; clear n0_ n1_; clear ho hb hg hat))
      go_roundg k1
      case measure => have := HK1.out; omega
      case rel => exact ⟨(y544), (wrap64 (x4_1 + 1)), zt, H', ⟨by have := HK1.out; omega⟩, ⟨zr HO546.out⟩, ⟨zb0 HB.out⟩⟩
     ·rw [if_neg c7] at H
      exact absurd H (by simp)
    ·rw [if_neg c5] at H
     exact absurd H (by simp)
   ·rw [if_neg c4] at H
    have c4b0 : decide (x4_1 < (l0.length : Int)) = false := decide_eq_false c4
    clear c4
    obtain rfl := Option.some.inj H
    go_wp2
    go_ret
    exact ⟨_, ze, by (with_reducible repeat (first | apply Kd.R_alloc | apply Kd.R_drewN | apply Kd.R_drew)); exact HO_3.out, zb0 HB.out⟩
mutual
def spec_l00Put.l0 : Nat → List Int → Int → List Int → Bool → Int → Option (List Int)
  | 0, _, _, _, _, _ => none
  | k + 1, x0, x1, x5, x6, x7 => if x7 < (x0.length : Int) then (if x6 = true then (spec_l00Put.j1 k x0 x1 x5 x6 x7 false) else (if 0 ≤ x7 then (spec_l00Put.j1 k x0 x1 x5 x6 x7 (decide ((rd x0 x7) ≥ x1))) else (none))) else (if x6 = true then (some x5) else (if x5.length < 17592186044416 then (some (x5 ++ [x1])) else (none)))
def spec_l00Put.j1 : Nat → List Int → Int → List Int → Bool → Int → Bool → Option (List Int)
  | 0, _, _, _, _, _, _ => none
  | k + 1, x0, x1, x5, x6, x7, x24 => if x24 = true then (if 0 ≤ x7 then (if x7 < (x0.length : Int) then (if (rd x0 x7) > x1 then (if x5.length < 17592186044416 then ((some (x5 ++ [x1] : List Int)).bind fun y919 => (if y919.length < 17592186044416 then (spec_l00Put.l0 k x0 x1 (y919 ++ [rd x0 x7]) true (wrap64 (x7 + 1))) else (none))) else (none)) else (if x5.length < 17592186044416 then (spec_l00Put.l0 k x0 x1 (x5 ++ [rd x0 x7]) true (wrap64 (x7 + 1))) else (none))) else (none)) else (none)) else (if 0 ≤ x7 then (if x7 < (x0.length : Int) then (if x5.length < 17592186044416 then (spec_l00Put.l0 k x0 x1 (x5 ++ [rd x0 x7]) x6 (wrap64 (x7 + 1))) else (none)) else (none)) else (none))
end
def spec_l00Put.f (k : Nat) (l0 : List Int) (a1 : Int) : Option (List Int) := spec_l00Put.l0 k l0 a1 (([] : List Int)) false 0
theorem spec_l00Put.mono_l : ∀ k, (∀ y0 y1 y2 y3 y4, LeO (spec_l00Put.l0 k y0 y1 y2 y3 y4) (spec_l00Put.l0 (k + 1) y0 y1 y2 y3 y4)) ∧ (∀ y0 y1 y2 y3 y4 y5, LeO (spec_l00Put.j1 k y0 y1 y2 y3 y4 y5) (spec_l00Put.j1 (k + 1) y0 y1 y2 y3 y4 y5))
  | 0 => ⟨fun _ _ _ _ _ r h => by simp [spec_l00Put.l0] at h, fun _ _ _ _ _ _ r h => by simp [spec_l00Put.j1] at h⟩
  | k + 1 => by
    obtain ⟨ih0, ih1⟩ := spec_l00Put.mono_l k
    refine ⟨?_, ?_⟩
    · intro y0 y1 y2 y3 y4
      unfold spec_l00Put.l0
      repeat' first
      | (with_reducible exact ih0 _ _ _ _ _)
      | (with_reducible exact ih1 _ _ _ _ _ _)
      | (with_reducible exact LeO.refl _)
      | (with_reducible exact LeO.none _)
      | (with_reducible refine LeO.ite ?_ ?_)
      | (with_reducible refine LeO.bind ?_ (fun _ => ?_))
      | exact ih0 _ _ _ _ _
      | exact ih1 _ _ _ _ _ _
      | exact LeO.none _
      | refine LeO.ite ?_ ?_
      | refine LeO.bind ?_ (fun _ => ?_)
    · intro y0 y1 y2 y3 y4 y5
      unfold spec_l00Put.j1
      repeat' first
      | (with_reducible exact ih0 _ _ _ _ _)
      | (with_reducible exact ih1 _ _ _ _ _ _)
      | (with_reducible exact LeO.refl _)
      | (with_reducible exact LeO.none _)
      | (with_reducible refine LeO.ite ?_ ?_)
      | (with_reducible refine LeO.bind ?_ (fun _ => ?_))
      | exact ih0 _ _ _ _ _
      | exact ih1 _ _ _ _ _ _
      | exact LeO.none _
      | refine LeO.ite ?_ ?_
      | refine LeO.bind ?_ (fun _ => ?_)
theorem spec_l00Put.mono : ∀ a0 a1 k, LeO (spec_l00Put.f k a0 a1) (spec_l00Put.f (k + 1) a0 a1) := by
  intro a0 a1 k
  obtain ⟨ih0, ih1⟩ := spec_l00Put.mono_l k
  unfold spec_l00Put.f
  repeat' first
      | (with_reducible exact ih0 _ _ _ _ _)
      | (with_reducible exact ih1 _ _ _ _ _ _)
      | (with_reducible exact LeO.refl _)
      | (with_reducible exact LeO.none _)
      | (with_reducible refine LeO.ite ?_ ?_)
      | (with_reducible refine LeO.bind ?_ (fun _ => ?_))
      | exact ih0 _ _ _ _ _
      | exact ih1 _ _ _ _ _ _
      | exact LeO.none _
      | refine LeO.ite ?_ ?_
      | refine LeO.bind ?_ (fun _ => ?_)
set_option maxHeartbeats 8000000 in
set_option maxRecDepth 100000 in
theorem spec_l00Put.calls (k : Nat) (A0 : Option Addr) (c0 : Nat) (l0 : List Int) (a1 : Int) (r : List Int) (w : World) (hr0 : Kd.C (Kd.int .i64) w A0 l0.length l0) (hc0 : l0.length ≤ c0) (h : spec_l00Put.f k l0 a1 = some r) :
  Calls Try.prog 154 #[.slice A0 l0.length c0, .int .i64 a1] w fun e w' => ∃ v0_ : Value, e = .returned (v0_) ∧ Kd.R (Kd.int .i64) 2 w' w.heap.size (fun _ => True) v0_ r ∧ Below w.heap.size w w' := by
 have HR0 := Aside0.mk hr0
 have HC0 := Aside0.mk hc0
 clear hr0 hc0
 have HB := Aside0.mk (Below.refl w.heap.size w)
 have H : (spec_l00Put.l0 k l0 a1 (([] : List Int)) false 0) = some r := h
 clear h
 obtain ⟨y911, hy911⟩ : ∃ y_ : List Int, y_ = (([] : List Int)) := ⟨_, rfl⟩
 replace H : (spec_l00Put.l0 k l0 a1 y911 false 0) = some r := by first | (rw [hy911]; with_reducible exact H) | (have H2_ := (Option.bind_some _ _).symm.trans H; rw [hy911]; with_reducible exact H2_) | (have H2_ := (Option.bind_some _ _).symm.trans H; with_reducible exact H2_) | with_reducible exact H | (rw [hy911]; exact H) | exact H
 have Ny911 := Aside0.mk hy911
 clear hy911
 have H' := Aside0.mk H
 clear H
 go_enter Try.func154, Try.ntmps154
 go_wp2_with (first | ((with_reducible refine gate_dst (N := 8) rfl ?_); refine Kd.R_lit (Kd.int .i64) _ 2 ?hg (N := 8) ?hd (xs := ([] : List Int)) (inner := []) (ok := fun _ => True) (okp := fun _ => True) ?hr ?hp (fun _ hk => hk) trivial (Below.refl _ _) (Nat.le_refl _) (by simp) ?_; (case hd => rfl); (case hg => rfl); (case hr => first | (go_simp; done) | (go_simp; rfl)); (case hp => exact (Reps.none _ _)); intro v912 w3 ho4 hb hg_ hnew_; clear hg_ hnew_; (first | rw [← Ny911.out] at ho4 | (simp only [Int.reduceToNat] at ho4; rw [← Ny911.out] at ho4)); have n0_ := Aside0.mk (Kd.R_lower ho4 (below_size (zb0 HB.out))); have n1_ := Aside0.mk (below_step (zb0 HB.out) hb); clear HB; have HO913 := n0_; have HB := n1_; clear n0_ n1_; clear hb ho4))
 go_loopg [5, 6, 7] k (fun kq v5 v6 v7 w' => ∃ (x5_1 : List Int) (x6_1 : Bool) (x7_1 : Int), v6 = .bool x6_1 ∧ v7 = .int .i64 x7_1 ∧ Aside0 (spec_l00Put.l0 kq l0 a1 x5_1 x6_1 x7_1 = some r) ∧ Aside0 (kq ≤ k) ∧ Aside0 (Kd.R (Kd.int .i64) 2 w' w.heap.size (fun _ => True) v5 x5_1) ∧ Aside0 (Below w.heap.size w w'))
 case atStart => exact ⟨(y911), (false), (0), zt, zt, H', ⟨Nat.le_refl _⟩, ⟨zr HO913.out⟩, ⟨zb0 HB.out⟩⟩
 case round =>
  clear H'
  obtain ⟨x5_1, x6_1, x7_1, rfl, rfl, HA, HK1, HO_5, HB⟩ := hrel
  cases gk with
  | zero => exact absurd HA.out (by simp [spec_l00Put.l0])
  | succ k1 =>
   have H := HA.out
   clear HA
   simp only [spec_l00Put.l0] at H
   by_cases c5 : x7_1 < (l0.length : Int)
   ·rw [if_pos c5] at H
    have c5b0 : decide (x7_1 < (l0.length : Int)) = true := decide_eq_true c5
    clear c5
    have HC6 := Aside0.mk H
    clear H
    go_upto_region 6 with (fail)
    go_cut [24] (fun v24 wc => ∃ (kq : Nat) (x24_5 : Bool), v24 = .bool x24_5 ∧ Aside0 (spec_l00Put.j1 kq l0 a1 x5_1 x6_1 x7_1 x24_5 = some r) ∧ Aside0 (kq ≤ k1) ∧ Aside0 (Kd.R (Kd.int .i64) 2 wc w.heap.size (fun _ => True) u5 x5_1) ∧ Aside0 (Below w.heap.size w wc))
    case first =>
     have H := HC6.out
     clear HC6
     by_cases c7 : x6_1 = true
     ·subst c7
      rw [if_pos rfl] at H
      have H' := Aside0.mk H
      clear H
      go_wp2
      go_meet
      case rel => exact ⟨_, (false), zt, H', ⟨by have := HK1.out; first | omega | exact Nat.le_refl _⟩, ⟨zr HO_5.out⟩, ⟨zb0 HB.out⟩⟩
     ·replace c7 := Bool.eq_false_iff.mpr c7
      subst c7
      rw [if_neg (show ¬ (false = true) by decide)] at H
      by_cases c8 : 0 ≤ x7_1
      ·rw [if_pos c8] at H
       have c8b0 : decide (0 ≤ x7_1) = true := decide_eq_true c8
       clear c8
       (first | rw [c8b0] | (simp only [i64_w, i32_w]; rw [c8b0]) | skip)
       have H' := Aside0.mk H
       clear H
       have p917 : 0 ≤ (x7_1 : Int) := of_decide_eq_true zq
       have q917 : x7_1 < (l0.length : Int) := of_decide_eq_true zq
       obtain ⟨ad917, e917, hx917_0⟩ := Kd.at_int HR0.out x7_1 p917 q917
       cases e917
       replace hx917_0 := (HB.out.cell (World.block_lt_of_cell? w _ hx917_0)).trans hx917_0
       replace p917 := eq_true p917
       replace q917 := eq_true q917
       go_wp2
       go_meet
       case rel => exact ⟨_, (decide ((rd l0 x7_1) ≥ a1)), zt, H', ⟨by have := HK1.out; first | omega | exact Nat.le_refl _⟩, ⟨zr HO_5.out⟩, ⟨zb0 HB.out⟩⟩
      ·rw [if_neg c8] at H
       exact absurd H (by simp)
    case rest =>
     clear HC6
     obtain ⟨kq, x24_5, rfl, HA, HJ5, HO_5, HB⟩ := hcut
     cases kq with
     | zero => exact absurd HA.out (by simp [spec_l00Put.j1])
     | succ kj5 =>
      have H := HA.out
      clear HA
      simp only [spec_l00Put.j1] at H
      by_cases c9 : x24_5 = true
      ·subst c9
       rw [if_pos rfl] at H
       by_cases c10 : 0 ≤ x7_1
       ·rw [if_pos c10] at H
        have c10b0 : decide (0 ≤ x7_1) = true := decide_eq_true c10
        clear c10
        by_cases c11 : x7_1 < (l0.length : Int)
        ·rw [if_pos c11] at H
         have c11b0 : decide (x7_1 < (l0.length : Int)) = true := decide_eq_true c11
         clear c11
         by_cases c12 : (rd l0 x7_1) > a1
         ·rw [if_pos c12] at H
          have c12b0 : decide (a1 < (rd l0 x7_1)) = true := decide_eq_true c12
          clear c12
          by_cases c13 : x5_1.length < 17592186044416
          ·rw [if_pos c13] at H
           have LMc13 := Aside0.mk c13
           clear c13
           obtain ⟨y919, hy919⟩ : ∃ y_ : List Int, y_ = (x5_1 ++ [a1]) := ⟨_, rfl⟩
           replace H : (if y919.length < 17592186044416 then (spec_l00Put.l0 kj5 l0 a1 (y919 ++ [rd l0 x7_1]) true (wrap64 (x7_1 + 1))) else (none)) = some r := by first | (rw [hy919]; with_reducible exact H) | (have H2_ := (Option.bind_some _ _).symm.trans H; rw [hy919]; with_reducible exact H2_) | (have H2_ := (Option.bind_some _ _).symm.trans H; with_reducible exact H2_) | with_reducible exact H | (rw [hy919]; exact H) | exact H
           have Ny919 := Aside0.mk hy919
           clear hy919
           by_cases c14 : y919.length < 17592186044416
           ·rw [if_pos c14] at H
            have LMc14 := Aside0.mk c14
            clear c14
            obtain ⟨y923, hy923⟩ : ∃ y_ : List Int, y_ = (y919 ++ [rd l0 x7_1]) := ⟨_, rfl⟩
            replace H : (spec_l00Put.l0 kj5 l0 a1 y923 true (wrap64 (x7_1 + 1))) = some r := by first | (rw [hy923]; with_reducible exact H) | (have H2_ := (Option.bind_some _ _).symm.trans H; rw [hy923]; with_reducible exact H2_) | (have H2_ := (Option.bind_some _ _).symm.trans H; with_reducible exact H2_) | with_reducible exact H | (rw [hy923]; exact H) | exact H
            have Ny923 := Aside0.mk hy923
            clear hy923
            have H' := Aside0.mk H
            clear H
            have p918 : 0 ≤ (x7_1 : Int) := of_decide_eq_true zq
            have q918 : x7_1 < (l0.length : Int) := of_decide_eq_true zq
            obtain ⟨ad918, e918, hx918_0⟩ := Kd.at_int HR0.out x7_1 p918 q918
            cases e918
            replace hx918_0 := (HB.out.cell (World.block_lt_of_cell? w _ hx918_0)).trans hx918_0
            replace p918 := eq_true p918
            replace q918 := eq_true q918
            go_wp2_with (first | ((with_reducible refine gate_builtin (b := .append) (xs := #[.tmp 31, .tmp 33]) rfl ?_); at_builtin; refine Kd.R_append (Kd.int .i64) (w0 := w) w.heap.size rfl (.tmp 31) (.tmp 33) 26 2 (.int .i64 0) 8 rfl Try.underlying26 info2 rfl (by decide) (by omega) u5 x5_1 a1 [.int .i64 a1] (fun _ => True) (fun _ => False) rfl rfl ?aP (fun _ hk => hk.elim) ?aF ?aO ?aB ?aS ?aL ?_; (case aP => exact rfl); (case aB => exact (zb0 HB.out)); (case aF => exact (fun _ _ => trivial)); (case aO => exact (zr HO_5.out)); (case aS => exact (below_size (zb0 HB.out))); (case aL => have := LMc13.out; omega); intro v920 w15 ho hb hg hat; rw [← Ny919.out] at ho; have n0_ := Aside0.mk (hb); have n1_ := Aside0.mk (ho); clear HB; clear HO_5; have HB := n0_; have HO921 := n1_; clear n0_ n1_; clear ho hb hg hat; have p922 : 0 ≤ (x7_1 : Int) := of_decide_eq_true (by first | (with_reducible assumption) | assumption); have q922 : x7_1 < (l0.length : Int) := of_decide_eq_true (by first | (with_reducible assumption) | assumption); obtain ⟨ad922, e922, hx922_0⟩ := Kd.at_int HR0.out x7_1 p922 q922; obtain rfl : ad918 = ad922 := (by injection e922); replace hx922_0 := (HB.out.cell (World.block_lt_of_cell? w _ hx922_0)).trans hx922_0; replace p922 := eq_true p922; replace q922 := eq_true q922) | ((with_reducible refine gate_builtin (b := .append) (xs := #[.tmp 35, .tmp 40]) rfl ?_); at_builtin; refine Kd.R_append (Kd.int .i64) (w0 := w) w.heap.size rfl (.tmp 35) (.tmp 40) 26 2 (.int .i64 0) 8 rfl Try.underlying26 info2 rfl (by decide) (by omega) v920 y919 (rd l0 x7_1) [.int .i64 (rd l0 x7_1)] (fun _ => True) (fun _ => False) rfl rfl ?aP (fun _ hk => hk.elim) ?aF ?aO ?aB ?aS ?aL ?_; (case aP => exact rfl); (case aB => exact (zb0 HB.out)); (case aF => exact (fun _ _ => trivial)); (case aO => exact (zr HO921.out)); (case aS => exact (below_size (zb0 HB.out))); (case aL => have := LMc14.out; omega); intro v924 w16 ho hb hg hat; rw [← Ny923.out] at ho; have n0_ := Aside0.mk (hb); have n1_ := Aside0.mk (ho); clear HB; clear HO921; have HB := n0_; have HO925 := n1_; clear n0_ n1_; clear ho hb hg hat))
            go_roundg kj5
            case measure => have := HK1.out; have := HJ5.out; omega
            case rel => exact ⟨(y923), (true), (wrap64 (x7_1 + 1)), zt, zt, H', ⟨by have := HK1.out; have := HJ5.out; omega⟩, ⟨zr HO925.out⟩, ⟨zb0 HB.out⟩⟩
           ·rw [if_neg c14] at H
            exact absurd H (by simp)
          ·rw [if_neg c13] at H
           exact absurd H (by simp)
         ·rw [if_neg c12] at H
          have c12b0 : decide (a1 < (rd l0 x7_1)) = false := decide_eq_false c12
          clear c12
          by_cases c17 : x5_1.length < 17592186044416
          ·rw [if_pos c17] at H
           have LMc17 := Aside0.mk c17
           clear c17
           obtain ⟨y927, hy927⟩ : ∃ y_ : List Int, y_ = (x5_1 ++ [rd l0 x7_1]) := ⟨_, rfl⟩
           replace H : (spec_l00Put.l0 kj5 l0 a1 y927 true (wrap64 (x7_1 + 1))) = some r := by first | (rw [hy927]; with_reducible exact H) | (have H2_ := (Option.bind_some _ _).symm.trans H; rw [hy927]; with_reducible exact H2_) | (have H2_ := (Option.bind_some _ _).symm.trans H; with_reducible exact H2_) | with_reducible exact H | (rw [hy927]; exact H) | exact H
           have Ny927 := Aside0.mk hy927
           clear hy927
           have H' := Aside0.mk H
           clear H
           have p918 : 0 ≤ (x7_1 : Int) := of_decide_eq_true zq
           have q918 : x7_1 < (l0.length : Int) := of_decide_eq_true zq
           obtain ⟨ad918, e918, hx918_0⟩ := Kd.at_int HR0.out x7_1 p918 q918
           cases e918
           replace hx918_0 := (HB.out.cell (World.block_lt_of_cell? w _ hx918_0)).trans hx918_0
           replace p918 := eq_true p918
           replace q918 := eq_true q918
           have p926 : 0 ≤ (x7_1 : Int) := of_decide_eq_true zq
           have q926 : x7_1 < (l0.length : Int) := of_decide_eq_true zq
           obtain ⟨ad926, e926, hx926_0⟩ := Kd.at_int HR0.out x7_1 p926 q926
           obtain rfl : ad918 = ad926 := (by injection e926)
           replace hx926_0 := (HB.out.cell (World.block_lt_of_cell? w _ hx926_0)).trans hx926_0
           replace p926 := eq_true p926
           replace q926 := eq_true q926
           go_wp2_with (first | ((with_reducible refine gate_builtin (b := .append) (xs := #[.tmp 35, .tmp 40]) rfl ?_); at_builtin; refine Kd.R_append (Kd.int .i64) (w0 := w) w.heap.size rfl (.tmp 35) (.tmp 40) 26 2 (.int .i64 0) 8 rfl Try.underlying26 info2 rfl (by decide) (by omega) u5 x5_1 (rd l0 x7_1) [.int .i64 (rd l0 x7_1)] (fun _ => True) (fun _ => False) rfl rfl ?aP (fun _ hk => hk.elim) ?aF ?aO ?aB ?aS ?aL ?_; (case aP => exact rfl); (case aB => exact (zb0 HB.out)); (case aF => exact (fun _ _ => trivial)); (case aO => exact (zr HO_5.out)); (case aS => exact (below_size (zb0 HB.out))); (case aL => have := LMc17.out; omega); intro v928 w18 ho hb hg hat; rw [← Ny927.out] at ho; have n0_ := Aside0.mk (hb); have n1_ := Aside0.mk (ho); clear HB; clear HO_5; have HB := n0_; have HO929 := n1_; clear n0_ n1_; clear ho hb hg hat))
           go_roundg kj5
           case measure => have := HK1.out; have := HJ5.out; omega
           case rel => exact ⟨(y927), (true), (wrap64 (x7_1 + 1)), zt, zt, H', ⟨by have := HK1.out; have := HJ5.out; omega⟩, ⟨zr HO929.out⟩, ⟨zb0 HB.out⟩⟩
          ·rw [if_neg c17] at H
           exact absurd H (by simp)
        ·rw [if_neg c11] at H
         exact absurd H (by simp)
       ·rw [if_neg c10] at H
        exact absurd H (by simp)
      ·replace c9 := Bool.eq_false_iff.mpr c9
       subst c9
       rw [if_neg (show ¬ (false = true) by decide)] at H
       by_cases c19 : 0 ≤ x7_1
       ·rw [if_pos c19] at H
        have c19b0 : decide (0 ≤ x7_1) = true := decide_eq_true c19
        clear c19
        by_cases c20 : x7_1 < (l0.length : Int)
        ·rw [if_pos c20] at H
         have c20b0 : decide (x7_1 < (l0.length : Int)) = true := decide_eq_true c20
         clear c20
         by_cases c21 : x5_1.length < 17592186044416
         ·rw [if_pos c21] at H
          have LMc21 := Aside0.mk c21
          clear c21
          obtain ⟨y931, hy931⟩ : ∃ y_ : List Int, y_ = (x5_1 ++ [rd l0 x7_1]) := ⟨_, rfl⟩
          replace H : (spec_l00Put.l0 kj5 l0 a1 y931 x6_1 (wrap64 (x7_1 + 1))) = some r := by first | (rw [hy931]; with_reducible exact H) | (have H2_ := (Option.bind_some _ _).symm.trans H; rw [hy931]; with_reducible exact H2_) | (have H2_ := (Option.bind_some _ _).symm.trans H; with_reducible exact H2_) | with_reducible exact H | (rw [hy931]; exact H) | exact H
          have Ny931 := Aside0.mk hy931
          clear hy931
          have H' := Aside0.mk H
          clear H
          have p930 : 0 ≤ (x7_1 : Int) := of_decide_eq_true zq
          have q930 : x7_1 < (l0.length : Int) := of_decide_eq_true zq
          obtain ⟨ad930, e930, hx930_0⟩ := Kd.at_int HR0.out x7_1 p930 q930
          cases e930
          replace hx930_0 := (HB.out.cell (World.block_lt_of_cell? w _ hx930_0)).trans hx930_0
          replace p930 := eq_true p930
          replace q930 := eq_true q930
          go_wp2_with (first | ((with_reducible refine gate_builtin (b := .append) (xs := #[.tmp 35, .tmp 40]) rfl ?_); at_builtin; refine Kd.R_append (Kd.int .i64) (w0 := w) w.heap.size rfl (.tmp 35) (.tmp 40) 26 2 (.int .i64 0) 8 rfl Try.underlying26 info2 rfl (by decide) (by omega) u5 x5_1 (rd l0 x7_1) [.int .i64 (rd l0 x7_1)] (fun _ => True) (fun _ => False) rfl rfl ?aP (fun _ hk => hk.elim) ?aF ?aO ?aB ?aS ?aL ?_; (case aP => exact rfl); (case aB => exact (zb0 HB.out)); (case aF => exact (fun _ _ => trivial)); (case aO => exact (zr HO_5.out)); (case aS => exact (below_size (zb0 HB.out))); (case aL => have := LMc21.out; omega); intro v932 w22 ho hb hg hat; rw [← Ny931.out] at ho; have n0_ := Aside0.mk (hb); have n1_ := Aside0.mk (ho); clear HB; clear HO_5; have HB := n0_; have HO933 := n1_; clear n0_ n1_; clear ho hb hg hat))
          go_roundg kj5
          case measure => have := HK1.out; have := HJ5.out; omega
          case rel => exact ⟨(y931), (x6_1), (wrap64 (x7_1 + 1)), zt, zt, H', ⟨by have := HK1.out; have := HJ5.out; omega⟩, ⟨zr HO933.out⟩, ⟨zb0 HB.out⟩⟩
         ·rw [if_neg c21] at H
          exact absurd H (by simp)
        ·rw [if_neg c20] at H
         exact absurd H (by simp)
       ·rw [if_neg c19] at H
        exact absurd H (by simp)
   ·rw [if_neg c5] at H
    have c5b0 : decide (x7_1 < (l0.length : Int)) = false := decide_eq_false c5
    clear c5
    by_cases c23 : x6_1 = true
    ·subst c23
     rw [if_pos rfl] at H
     obtain rfl := Option.some.inj H
     go_wp2
     go_ret
     exact ⟨_, ze, by (with_reducible repeat (first | apply Kd.R_alloc | apply Kd.R_drewN | apply Kd.R_drew)); exact HO_5.out, zb0 HB.out⟩
    ·replace c23 := Bool.eq_false_iff.mpr c23
     subst c23
     rw [if_neg (show ¬ (false = true) by decide)] at H
     by_cases c24 : x5_1.length < 17592186044416
     ·rw [if_pos c24] at H
      have LMc24 := Aside0.mk c24
      clear c24
      obtain ⟨y914, hy914⟩ : ∃ y_ : List Int, y_ = (x5_1 ++ [a1]) := ⟨_, rfl⟩
      replace H : (some y914) = some r := by first | (rw [hy914]; with_reducible exact H) | (have H2_ := (Option.bind_some _ _).symm.trans H; rw [hy914]; with_reducible exact H2_) | (have H2_ := (Option.bind_some _ _).symm.trans H; with_reducible exact H2_) | with_reducible exact H | (rw [hy914]; exact H) | exact H
      have Ny914 := Aside0.mk hy914
      clear hy914
      obtain rfl := Option.some.inj H
      go_wp2_with (first | ((with_reducible refine gate_builtin (b := .append) (xs := #[.tmp 44, .tmp 46]) rfl ?_); at_builtin; refine Kd.R_append (Kd.int .i64) (w0 := w) w.heap.size rfl (.tmp 44) (.tmp 46) 26 2 (.int .i64 0) 8 rfl Try.underlying26 info2 rfl (by decide) (by omega) u5 x5_1 a1 [.int .i64 a1] (fun _ => True) (fun _ => False) rfl rfl ?aP (fun _ hk => hk.elim) ?aF ?aO ?aB ?aS ?aL ?_; (case aP => exact rfl); (case aB => exact (zb0 HB.out)); (case aF => exact (fun _ _ => trivial)); (case aO => exact (zr HO_5.out)); (case aS => exact (below_size (zb0 HB.out))); (case aL => have := LMc24.out; omega); intro v915 w25 ho hb hg hat; rw [← Ny914.out] at ho; have n0_ := Aside0.mk (hb); have n1_ := Aside0.mk (ho); clear HB; clear HO_5; have HB := n0_; have HO916 := n1_; clear n0_ n1_; clear ho hb hg hat))
      go_ret
      exact ⟨_, ze, by (with_reducible repeat (first | apply Kd.R_alloc | apply Kd.R_drewN | apply Kd.R_drew)); exact HO916.out, zb0 HB.out⟩
     ·rw [if_neg c24] at H
      exact absurd H (by simp)
open Go.RowKit Go.Proofs.YtmbeijjkfmgkpaaW.PrintWords Go.Proofs.YtmbeijjkfmgkpaaW.PrintLast Go.Proofs.YtmbeijjkfmgkpaaW.PrintMore
attribute [local go_sem] max2_int min2_int max_two min_two max_three min_three max_four min_four
set_option linter.unusedVariables false
set_option linter.unusedSimpArgs false
mutual
def spec_l07Circuits.l0 : Nat → Int → List Int → List Int → Int → Option (List Int × Bool)
 | 0, _, _, _, _ => none
 | k + 1, x4, x5, x6, x7 => if x7 < (x5.length : Int) then (if 0 ≤ x7 then ((spec_l00Put.f k x6 (Go.bits .or .i64 (rd x5 x7) x4)).bind fun t942 => (spec_l07Circuits.l1 k x4 x5 t942 x7 0)) else (none)) else (spec_l07Circuits.l3 k x4 x6 (([] : List Int)) true 0)
def spec_l07Circuits.l1 : Nat → Int → List Int → List Int → Int → Int → Option (List Int × Bool)
 | 0, _, _, _, _, _ => none
 | k + 1, x4, x5, x6, x7, x8 => if x8 < x7 then (if 0 ≤ x7 then (if x7 < (x5.length : Int) then (if 0 ≤ x8 then (if x8 < (x5.length : Int) then (spec_l07Circuits.l2 k x4 x5 x6 x7 x8 (Go.bits .or .i64 (rd x5 x7) (rd x5 x8)) (Go.bits .or .i64 (rd x5 x7) (rd x5 x8)) 0) else (none)) else (none)) else (none)) else (none)) else (spec_l07Circuits.l0 k x4 x5 x6 (wrap64 (x7 + 1)))
def spec_l07Circuits.l2 : Nat → Int → List Int → List Int → Int → Int → Int → Int → Int → Option (List Int × Bool)
 | 0, _, _, _, _, _, _, _, _ => none
 | k + 1, x4, x5, x6, x7, x8, x9, x10, x11 => if x11 < (x5.length : Int) then (if 0 ≤ x11 then (if (Go.bits .and .i64 (rd x5 x11) x9) = (rd x5 x11) then (spec_l07Circuits.l2 k x4 x5 x6 x7 x8 x9 (Go.bits .and .i64 x10 (rd x5 x11)) (wrap64 (x11 + 1))) else (spec_l07Circuits.l2 k x4 x5 x6 x7 x8 x9 x10 (wrap64 (x11 + 1)))) else (none)) else (if x9 = x10 then (spec_l07Circuits.l1 k x4 x5 x6 x7 (wrap64 (x8 + 1))) else ((spec_l00Put.f k x6 (Go.bits .andNot .i64 x9 x10)).bind fun t950 => (spec_l07Circuits.l1 k x4 x5 t950 x7 (wrap64 (x8 + 1)))))
def spec_l07Circuits.l3 : Nat → Int → List Int → List Int → Bool → Int → Option (List Int × Bool)
 | 0, _, _, _, _, _ => none
 | k + 1, x4, x6, x12, x13, x14 => if x14 < (x6.length : Int) then (spec_l07Circuits.l4 k x4 x6 x12 x13 x14 true 0) else (some (x12, x13))
def spec_l07Circuits.j5 : Nat → Int → List Int → List Int → Bool → Int → Bool → Option (List Int × Bool)
 | 0, _, _, _, _, _, _ => none
 | k + 1, x4, x6, x12, x13, x14, x15 => if x15 = true then (if 0 ≤ x14 then (if x14 < (x6.length : Int) then (if x12.length < 17592186044416 then (spec_l07Circuits.l3 k x4 x6 (x12 ++ [rd x6 x14]) x13 (wrap64 (x14 + 1))) else (none)) else (none)) else (none)) else (if 0 ≤ x14 then (if x14 < (x6.length : Int) then (if (Go.bits .and .i64 (rd x6 x14) x4) = 0 then (spec_l07Circuits.l3 k x4 x6 x12 x13 (wrap64 (x14 + 1))) else (spec_l07Circuits.l3 k x4 x6 x12 false (wrap64 (x14 + 1)))) else (none)) else (none))
def spec_l07Circuits.l4 : Nat → Int → List Int → List Int → Bool → Int → Bool → Int → Option (List Int × Bool)
 | 0, _, _, _, _, _, _, _ => none
 | k + 1, x4, x6, x12, x13, x14, x15, x16 => if x16 < (x6.length : Int) then (if x15 = true then (if x16 = x14 then (spec_l07Circuits.l4 k x4 x6 x12 x13 x14 true (wrap64 (x16 + 1))) else (if 0 ≤ x16 then (if 0 ≤ x14 then (if x14 < (x6.length : Int) then (spec_l07Circuits.l4 k x4 x6 x12 x13 x14 ((Go.bits .and .i64 (rd x6 x16) (rd x6 x14)) != (rd x6 x16)) (wrap64 (x16 + 1))) else (none)) else (none)) else (none))) else (spec_l07Circuits.j5 k x4 x6 x12 x13 x14 x15)) else (spec_l07Circuits.j5 k x4 x6 x12 x13 x14 x15)
end
def spec_l07Circuits.f (k : Nat) (a0_0 : Int) (l0_1 : List (List Int)) : Option (List Int × Bool) := if 0 ≤ (IntKind.u64.wrap (a0_0)) then ((spec_l07Numbers.f k l0_1).bind fun t935 => (spec_l07Circuits.l0 k (shl .i64 1 (IntKind.u64.wrap (a0_0))) t935 (([] : List Int)) 0)) else (none)
theorem spec_l07Circuits.mono_l : ∀ k, (∀ y0 y1 y2 y3, LeO (spec_l07Circuits.l0 k y0 y1 y2 y3) (spec_l07Circuits.l0 (k + 1) y0 y1 y2 y3)) ∧ (∀ y0 y1 y2 y3 y4, LeO (spec_l07Circuits.l1 k y0 y1 y2 y3 y4) (spec_l07Circuits.l1 (k + 1) y0 y1 y2 y3 y4)) ∧ (∀ y0 y1 y2 y3 y4 y5 y6 y7, LeO (spec_l07Circuits.l2 k y0 y1 y2 y3 y4 y5 y6 y7) (spec_l07Circuits.l2 (k + 1) y0 y1 y2 y3 y4 y5 y6 y7)) ∧ (∀ y0 y1 y2 y3 y4, LeO (spec_l07Circuits.l3 k y0 y1 y2 y3 y4) (spec_l07Circuits.l3 (k + 1) y0 y1 y2 y3 y4)) ∧ (∀ y0 y1 y2 y3 y4 y5, LeO (spec_l07Circuits.j5 k y0 y1 y2 y3 y4 y5) (spec_l07Circuits.j5 (k + 1) y0 y1 y2 y3 y4 y5)) ∧ (∀ y0 y1 y2 y3 y4 y5 y6, LeO (spec_l07Circuits.l4 k y0 y1 y2 y3 y4 y5 y6) (spec_l07Circuits.l4 (k + 1) y0 y1 y2 y3 y4 y5 y6))
 | 0 => ⟨fun _ _ _ _ r h => by simp [spec_l07Circuits.l0] at h, fun _ _ _ _ _ r h => by simp [spec_l07Circuits.l1] at h, fun _ _ _ _ _ _ _ _ r h => by simp [spec_l07Circuits.l2] at h, fun _ _ _ _ _ r h => by simp [spec_l07Circuits.l3] at h, fun _ _ _ _ _ _ r h => by simp [spec_l07Circuits.j5] at h, fun _ _ _ _ _ _ _ r h => by simp [spec_l07Circuits.l4] at h⟩
 | k + 1 => by
  obtain ⟨ih0, ih1, ih2, ih3, ih4, ih5⟩ := spec_l07Circuits.mono_l k
  refine ⟨?_, ?_, ?_, ?_, ?_, ?_⟩
  ·intro y0 y1 y2 y3
   unfold spec_l07Circuits.l0
   repeat' first
   | (with_reducible exact ih0 _ _ _ _)
   | (with_reducible exact ih1 _ _ _ _ _)
   | (with_reducible exact ih2 _ _ _ _ _ _ _ _)
   | (with_reducible exact ih3 _ _ _ _ _)
   | (with_reducible exact ih4 _ _ _ _ _ _)
   | (with_reducible exact ih5 _ _ _ _ _ _ _)
   | (with_reducible exact spec_l00Put.mono _ _ _)
   | (with_reducible exact spec_l07Numbers.mono _ _)
   | (with_reducible exact LeO.refl _)
   | (with_reducible exact LeO.none _)
   | (with_reducible refine LeO.ite ?_ ?_)
   | (with_reducible refine LeO.bind ?_ (fun _ => ?_))
   | exact ih0 _ _ _ _
   | exact ih1 _ _ _ _ _
   | exact ih2 _ _ _ _ _ _ _ _
   | exact ih3 _ _ _ _ _
   | exact ih4 _ _ _ _ _ _
   | exact ih5 _ _ _ _ _ _ _
   | exact spec_l00Put.mono _ _ _
   | exact spec_l07Numbers.mono _ _
   | exact LeO.none _
   | refine LeO.ite ?_ ?_
   | refine LeO.bind ?_ (fun _ => ?_)
  ·intro y0 y1 y2 y3 y4
   unfold spec_l07Circuits.l1
   repeat' first
   | (with_reducible exact ih0 _ _ _ _)
   | (with_reducible exact ih1 _ _ _ _ _)
   | (with_reducible exact ih2 _ _ _ _ _ _ _ _)
   | (with_reducible exact ih3 _ _ _ _ _)
   | (with_reducible exact ih4 _ _ _ _ _ _)
   | (with_reducible exact ih5 _ _ _ _ _ _ _)
   | (with_reducible exact spec_l00Put.mono _ _ _)
   | (with_reducible exact spec_l07Numbers.mono _ _)
   | (with_reducible exact LeO.refl _)
   | (with_reducible exact LeO.none _)
   | (with_reducible refine LeO.ite ?_ ?_)
   | (with_reducible refine LeO.bind ?_ (fun _ => ?_))
   | exact ih0 _ _ _ _
   | exact ih1 _ _ _ _ _
   | exact ih2 _ _ _ _ _ _ _ _
   | exact ih3 _ _ _ _ _
   | exact ih4 _ _ _ _ _ _
   | exact ih5 _ _ _ _ _ _ _
   | exact spec_l00Put.mono _ _ _
   | exact spec_l07Numbers.mono _ _
   | exact LeO.none _
   | refine LeO.ite ?_ ?_
   | refine LeO.bind ?_ (fun _ => ?_)
  ·intro y0 y1 y2 y3 y4 y5 y6 y7
   unfold spec_l07Circuits.l2
   repeat' first
   | (with_reducible exact ih0 _ _ _ _)
   | (with_reducible exact ih1 _ _ _ _ _)
   | (with_reducible exact ih2 _ _ _ _ _ _ _ _)
   | (with_reducible exact ih3 _ _ _ _ _)
   | (with_reducible exact ih4 _ _ _ _ _ _)
   | (with_reducible exact ih5 _ _ _ _ _ _ _)
   | (with_reducible exact spec_l00Put.mono _ _ _)
   | (with_reducible exact spec_l07Numbers.mono _ _)
   | (with_reducible exact LeO.refl _)
   | (with_reducible exact LeO.none _)
   | (with_reducible refine LeO.ite ?_ ?_)
   | (with_reducible refine LeO.bind ?_ (fun _ => ?_))
   | exact ih0 _ _ _ _
   | exact ih1 _ _ _ _ _
   | exact ih2 _ _ _ _ _ _ _ _
   | exact ih3 _ _ _ _ _
   | exact ih4 _ _ _ _ _ _
   | exact ih5 _ _ _ _ _ _ _
   | exact spec_l00Put.mono _ _ _
   | exact spec_l07Numbers.mono _ _
   | exact LeO.none _
   | refine LeO.ite ?_ ?_
   | refine LeO.bind ?_ (fun _ => ?_)
  ·intro y0 y1 y2 y3 y4
   unfold spec_l07Circuits.l3
   repeat' first
   | (with_reducible exact ih0 _ _ _ _)
   | (with_reducible exact ih1 _ _ _ _ _)
   | (with_reducible exact ih2 _ _ _ _ _ _ _ _)
   | (with_reducible exact ih3 _ _ _ _ _)
   | (with_reducible exact ih4 _ _ _ _ _ _)
   | (with_reducible exact ih5 _ _ _ _ _ _ _)
   | (with_reducible exact spec_l00Put.mono _ _ _)
   | (with_reducible exact spec_l07Numbers.mono _ _)
   | (with_reducible exact LeO.refl _)
   | (with_reducible exact LeO.none _)
   | (with_reducible refine LeO.ite ?_ ?_)
   | (with_reducible refine LeO.bind ?_ (fun _ => ?_))
   | exact ih0 _ _ _ _
   | exact ih1 _ _ _ _ _
   | exact ih2 _ _ _ _ _ _ _ _
   | exact ih3 _ _ _ _ _
   | exact ih4 _ _ _ _ _ _
   | exact ih5 _ _ _ _ _ _ _
   | exact spec_l00Put.mono _ _ _
   | exact spec_l07Numbers.mono _ _
   | exact LeO.none _
   | refine LeO.ite ?_ ?_
   | refine LeO.bind ?_ (fun _ => ?_)
  ·intro y0 y1 y2 y3 y4 y5
   unfold spec_l07Circuits.j5
   repeat' first
   | (with_reducible exact ih0 _ _ _ _)
   | (with_reducible exact ih1 _ _ _ _ _)
   | (with_reducible exact ih2 _ _ _ _ _ _ _ _)
   | (with_reducible exact ih3 _ _ _ _ _)
   | (with_reducible exact ih4 _ _ _ _ _ _)
   | (with_reducible exact ih5 _ _ _ _ _ _ _)
   | (with_reducible exact spec_l00Put.mono _ _ _)
   | (with_reducible exact spec_l07Numbers.mono _ _)
   | (with_reducible exact LeO.refl _)
   | (with_reducible exact LeO.none _)
   | (with_reducible refine LeO.ite ?_ ?_)
   | (with_reducible refine LeO.bind ?_ (fun _ => ?_))
   | exact ih0 _ _ _ _
   | exact ih1 _ _ _ _ _
   | exact ih2 _ _ _ _ _ _ _ _
   | exact ih3 _ _ _ _ _
   | exact ih4 _ _ _ _ _ _
   | exact ih5 _ _ _ _ _ _ _
   | exact spec_l00Put.mono _ _ _
   | exact spec_l07Numbers.mono _ _
   | exact LeO.none _
   | refine LeO.ite ?_ ?_
   | refine LeO.bind ?_ (fun _ => ?_)
  ·intro y0 y1 y2 y3 y4 y5 y6
   unfold spec_l07Circuits.l4
   repeat' first
   | (with_reducible exact ih0 _ _ _ _)
   | (with_reducible exact ih1 _ _ _ _ _)
   | (with_reducible exact ih2 _ _ _ _ _ _ _ _)
   | (with_reducible exact ih3 _ _ _ _ _)
   | (with_reducible exact ih4 _ _ _ _ _ _)
   | (with_reducible exact ih5 _ _ _ _ _ _ _)
   | (with_reducible exact spec_l00Put.mono _ _ _)
   | (with_reducible exact spec_l07Numbers.mono _ _)
   | (with_reducible exact LeO.refl _)
   | (with_reducible exact LeO.none _)
   | (with_reducible refine LeO.ite ?_ ?_)
   | (with_reducible refine LeO.bind ?_ (fun _ => ?_))
   | exact ih0 _ _ _ _
   | exact ih1 _ _ _ _ _
   | exact ih2 _ _ _ _ _ _ _ _
   | exact ih3 _ _ _ _ _
   | exact ih4 _ _ _ _ _ _
   | exact ih5 _ _ _ _ _ _ _
   | exact spec_l00Put.mono _ _ _
   | exact spec_l07Numbers.mono _ _
   | exact LeO.none _
   | refine LeO.ite ?_ ?_
   | refine LeO.bind ?_ (fun _ => ?_)
theorem spec_l07Circuits.mono : ∀ a0 a1 k, LeO (spec_l07Circuits.f k a0 a1) (spec_l07Circuits.f (k + 1) a0 a1) := by
  intro a0 a1 k
  obtain ⟨ih0, ih1, ih2, ih3, ih4, ih5⟩ := spec_l07Circuits.mono_l k
  unfold spec_l07Circuits.f
  repeat' first
      | (with_reducible exact ih0 _ _ _ _)
      | (with_reducible exact ih1 _ _ _ _ _)
      | (with_reducible exact ih2 _ _ _ _ _ _ _ _)
      | (with_reducible exact ih3 _ _ _ _ _)
      | (with_reducible exact ih4 _ _ _ _ _ _)
      | (with_reducible exact ih5 _ _ _ _ _ _ _)
      | (with_reducible exact spec_l00Put.mono _ _ _)
      | (with_reducible exact spec_l07Numbers.mono _ _)
      | (with_reducible exact LeO.refl _)
      | (with_reducible exact LeO.none _)
      | (with_reducible refine LeO.ite ?_ ?_)
      | (with_reducible refine LeO.bind ?_ (fun _ => ?_))
      | exact ih0 _ _ _ _
      | exact ih1 _ _ _ _ _
      | exact ih2 _ _ _ _ _ _ _ _
      | exact ih3 _ _ _ _ _
      | exact ih4 _ _ _ _ _ _
      | exact ih5 _ _ _ _ _ _ _
      | exact spec_l00Put.mono _ _ _
      | exact spec_l07Numbers.mono _ _
      | exact LeO.none _
      | refine LeO.ite ?_ ?_
      | refine LeO.bind ?_ (fun _ => ?_)
set_option maxHeartbeats 8000000 in
set_option maxRecDepth 100000 in
theorem spec_l07Circuits.calls (k : Nat) (g0 : Nat) (a0_0 : Int) (A0_1 : Option Addr) (c0_1 : Nat) (l0_1 : List (List Int)) (r1 : List Int) (r2 : Bool) (w : World) (hb0 : w.heap[g0]? = some (.cells #[.int .i64 a0_0, .slice A0_1 l0_1.length c0_1] 31 (0, 0))) (hr0_1 : Kd.C (Kd.slice 2 (Kd.int .i64)) w A0_1 l0_1.length l0_1) (hc0_1 : l0_1.length ≤ c0_1) (h : spec_l07Circuits.f k a0_0 l0_1 = some (r1, r2)) :
  Calls Try.prog 112 #[.pointer (some ⟨g0, 0, none⟩)] w fun e w' => ∃ v0_ : Value, e = .returned (.tuple #[v0_, .bool r2]) ∧ Kd.R (Kd.int .i64) 2 w' w.heap.size (fun _ => True) v0_ r1 ∧ Below w.heap.size w w' := by
 have HR0_1 := Aside0.mk hr0_1
 have HC0_1 := Aside0.mk hc0_1
 clear hr0_1 hc0_1
 have BK934 := Aside0.mk hb0
 clear hb0
 have HB := Aside0.mk (Below.refl w.heap.size w)
 have H : (if 0 ≤ (IntKind.u64.wrap (a0_0)) then ((spec_l07Numbers.f k l0_1).bind fun t935 => (spec_l07Circuits.l0 k (shl .i64 1 (IntKind.u64.wrap (a0_0))) t935 (([] : List Int)) 0)) else (none)) = some (r1, r2) := h
 clear h
 obtain ⟨ji2, hji2⟩ : ∃ j_ : Int, (IntKind.u64.wrap (a0_0)) = j_ := ⟨_, rfl⟩
 replace H : (if 0 ≤ (ji2) then ((spec_l07Numbers.f k l0_1).bind fun t935 => (spec_l07Circuits.l0 k (shl .i64 1 (ji2)) t935 (([] : List Int)) 0)) else (none)) = some (r1, r2) := by first | (rw [hji2] at H; exact H) | (simp only [hji2] at H ⊢; exact H)
 by_cases c3 : 0 ≤ (ji2)
 ·rw [if_pos c3] at H
  have c3b0 := eq_true c3
  have c3b1 : decide (0 ≤ (ji2)) = true := decide_eq_true c3
  clear c3
  obtain ⟨ji4, hji4⟩ : ∃ j_ : Int, (shl .i64 1 (ji2)) = j_ := ⟨_, rfl⟩
  replace H : ((spec_l07Numbers.f k l0_1).bind fun t935 => (spec_l07Circuits.l0 k ji4 t935 (([] : List Int)) 0)) = some (r1, r2) := by first | (rw [hji4] at H; exact H) | (simp only [hji4] at H ⊢; exact H)
  have hji4_ : (IntKind.i64.wrap (1 * 2 ^ min (ji2).toNat 64)) = ji4 := hji4
  have hji4z : (ji2) ≤ 64 → (IntKind.i64.wrap (1 * 2 ^ (ji2).toNat)) = ji4 := shl_small hji4
  have hji4u : (IntKind.i64.wrap (2 ^ min (ji2).toNat 64)) = ji4 := by have h_ := hji4_; rw [Int.one_mul] at h_; exact h_
  have hji4v : (ji2) ≤ 64 → (IntKind.i64.wrap (2 ^ (ji2).toNat)) = ji4 := fun hle_ => by have h_ := hji4z hle_; rw [Int.one_mul] at h_; exact h_
  have hji4y : (wrap64 (1 * 2 ^ min (ji2).toNat 64)) = ji4 := (i64_w _).symm.trans hji4_
  have hji4x : (ji2) ≤ 64 → (wrap64 (1 * 2 ^ (ji2).toNat)) = ji4 := fun h_ => (i64_w _).symm.trans (hji4z h_)
  replace H := Option.bind_eq_some_iff.mp H
  obtain ⟨t935, A50, H⟩ := H
  replace H : (spec_l07Circuits.l0 k ji4 t935 (([] : List Int)) 0) = some (r1, r2) := H
  have A5 := Aside0.mk A50
  clear A50
  obtain ⟨y938, hy938⟩ : ∃ y_ : List Int, y_ = (([] : List Int)) := ⟨_, rfl⟩
  replace H : (spec_l07Circuits.l0 k ji4 t935 y938 0) = some (r1, r2) := by first | (rw [hy938]; with_reducible exact H) | (have H2_ := (Option.bind_some _ _).symm.trans H; rw [hy938]; with_reducible exact H2_) | (have H2_ := (Option.bind_some _ _).symm.trans H; with_reducible exact H2_) | with_reducible exact H | (rw [hy938]; exact H) | exact H
  have Ny938 := Aside0.mk hy938
  clear hy938
  have H' := Aside0.mk H
  clear H
  have hcz6_0 : w.cell? ⟨g0, 0, none⟩ = some (.int .i64 a0_0) := (blk_cell BK934.out 0).trans rfl
  have hcz6_1 : w.cell? ⟨g0, 1, none⟩ = some (.slice A0_1 l0_1.length c0_1) := (blk_cell BK934.out 1).trans rfl
  have hfz6_0 := blk_frozen BK934.out 0
  have hfz6_1 := blk_frozen BK934.out 1
  go_enter Try.func112, Try.ntmps112
  go_wp2_with (first | (go_at_call 92; (with_reducible refine (spec_l07Numbers.calls k _ _ l0_1 t935 _ ?side1 ?side2 A5.out).mono ?_); (case side1 => exact zc HR0_1.out); (case side2 => exact HC0_1.out); rintro e w7 ⟨v936, rfl, ho0, hb⟩; have n0_ := Aside0.mk (Kd.R_lower ho0 (below_size (zb0 HB.out))); have n1_ := Aside0.mk (blk_below (g := g0) (o := .cells #[.int .i64 a0_0, .slice A0_1 l0_1.length c0_1] 31 (0, 0)) (zk BK934.out) hb); have n2_ := Aside0.mk (below_step (zb0 HB.out) hb); clear BK934; clear HB; have HO937 := n0_; have BK934 := n1_; have HB := n2_; clear n0_ n1_ n2_; (try clear hb); (try clear hb2); (try clear hk); (try clear hi); (try clear ho0)) | ((with_reducible refine gate_dst (N := 28) rfl ?_); refine Kd.R_lit (Kd.int .i64) _ 2 ?hg (N := 28) ?hd (xs := ([] : List Int)) (inner := []) (ok := fun _ => True) (okp := fun _ => True) ?hr ?hp (fun _ hk => hk) trivial (Below.refl _ _) (Nat.le_refl _) (by simp) ?_; (case hd => rfl); (case hg => rfl); (case hr => first | (go_simp; done) | (go_simp; rfl)); (case hp => exact (Reps.none _ _)); intro v939 w8 ho9 hb hg_ hnew_; clear hg_ hnew_; (first | rw [← Ny938.out] at ho9 | (simp only [Int.reduceToNat] at ho9; rw [← Ny938.out] at ho9)); have n0_ := Aside0.mk (Kd.R_elder' (zr HO937.out) (Kd.R_base ho9) hb); have n1_ := Aside0.mk (Kd.R_lower (Kd.R_new' ho9 (Kd.R_lt (zr HO937.out))) (below_size (zb0 HB.out))); have n2_ := Aside0.mk (blk_below (g := g0) (o := .cells #[.int .i64 a0_0, .slice A0_1 l0_1.length c0_1] 31 (0, 0)) (zk BK934.out) hb); have n3_ := Aside0.mk (below_step (zb0 HB.out) hb); clear HO937; clear BK934; clear HB; have HO937 := n0_; have HO940 := n1_; have BK934 := n2_; have HB := n3_; clear n0_ n1_ n2_ n3_; clear hb ho9))
  repeat (go_quiet (first | (go_at_call 92; (with_reducible refine (spec_l07Numbers.calls k _ _ l0_1 t935 _ ?side1 ?side2 A5.out).mono ?_); (case side1 => exact zc HR0_1.out); (case side2 => exact HC0_1.out); rintro e w7 ⟨v936, rfl, ho0, hb⟩; have n0_ := Aside0.mk (Kd.R_lower ho0 (below_size (zb0 HB.out))); have n1_ := Aside0.mk (blk_below (g := g0) (o := .cells #[.int .i64 a0_0, .slice A0_1 l0_1.length c0_1] 31 (0, 0)) (zk BK934.out) hb); have n2_ := Aside0.mk (below_step (zb0 HB.out) hb); clear BK934; clear HB; have HO937 := n0_; have BK934 := n1_; have HB := n2_; clear n0_ n1_ n2_; (try clear hb); (try clear hb2); (try clear hk); (try clear hi); (try clear ho0)) | ((with_reducible refine gate_dst (N := 28) rfl ?_); refine Kd.R_lit (Kd.int .i64) _ 2 ?hg (N := 28) ?hd (xs := ([] : List Int)) (inner := []) (ok := fun _ => True) (okp := fun _ => True) ?hr ?hp (fun _ hk => hk) trivial (Below.refl _ _) (Nat.le_refl _) (by simp) ?_; (case hd => rfl); (case hg => rfl); (case hr => first | (go_simp; done) | (go_simp; rfl)); (case hp => exact (Reps.none _ _)); intro v939 w8 ho9 hb hg_ hnew_; clear hg_ hnew_; (first | rw [← Ny938.out] at ho9 | (simp only [Int.reduceToNat] at ho9; rw [← Ny938.out] at ho9)); have n0_ := Aside0.mk (Kd.R_elder' (zr HO937.out) (Kd.R_base ho9) hb); have n1_ := Aside0.mk (Kd.R_lower (Kd.R_new' ho9 (Kd.R_lt (zr HO937.out))) (below_size (zb0 HB.out))); have n2_ := Aside0.mk (blk_below (g := g0) (o := .cells #[.int .i64 a0_0, .slice A0_1 l0_1.length c0_1] 31 (0, 0)) (zk BK934.out) hb); have n3_ := Aside0.mk (below_step (zb0 HB.out) hb); clear HO937; clear BK934; clear HB; have HO937 := n0_; have HO940 := n1_; have BK934 := n2_; have HB := n3_; clear n0_ n1_ n2_ n3_; clear hb ho9)); try go_wp2_with (first | (go_at_call 92; (with_reducible refine (spec_l07Numbers.calls k _ _ l0_1 t935 _ ?side1 ?side2 A5.out).mono ?_); (case side1 => exact zc HR0_1.out); (case side2 => exact HC0_1.out); rintro e w7 ⟨v936, rfl, ho0, hb⟩; have n0_ := Aside0.mk (Kd.R_lower ho0 (below_size (zb0 HB.out))); have n1_ := Aside0.mk (blk_below (g := g0) (o := .cells #[.int .i64 a0_0, .slice A0_1 l0_1.length c0_1] 31 (0, 0)) (zk BK934.out) hb); have n2_ := Aside0.mk (below_step (zb0 HB.out) hb); clear BK934; clear HB; have HO937 := n0_; have BK934 := n1_; have HB := n2_; clear n0_ n1_ n2_; (try clear hb); (try clear hb2); (try clear hk); (try clear hi); (try clear ho0)) | ((with_reducible refine gate_dst (N := 28) rfl ?_); refine Kd.R_lit (Kd.int .i64) _ 2 ?hg (N := 28) ?hd (xs := ([] : List Int)) (inner := []) (ok := fun _ => True) (okp := fun _ => True) ?hr ?hp (fun _ hk => hk) trivial (Below.refl _ _) (Nat.le_refl _) (by simp) ?_; (case hd => rfl); (case hg => rfl); (case hr => first | (go_simp; done) | (go_simp; rfl)); (case hp => exact (Reps.none _ _)); intro v939 w8 ho9 hb hg_ hnew_; clear hg_ hnew_; (first | rw [← Ny938.out] at ho9 | (simp only [Int.reduceToNat] at ho9; rw [← Ny938.out] at ho9)); have n0_ := Aside0.mk (Kd.R_elder' (zr HO937.out) (Kd.R_base ho9) hb); have n1_ := Aside0.mk (Kd.R_lower (Kd.R_new' ho9 (Kd.R_lt (zr HO937.out))) (below_size (zb0 HB.out))); have n2_ := Aside0.mk (blk_below (g := g0) (o := .cells #[.int .i64 a0_0, .slice A0_1 l0_1.length c0_1] 31 (0, 0)) (zk BK934.out) hb); have n3_ := Aside0.mk (below_step (zb0 HB.out) hb); clear HO937; clear BK934; clear HB; have HO937 := n0_; have HO940 := n1_; have BK934 := n2_; have HB := n3_; clear n0_ n1_ n2_ n3_; clear hb ho9)))
  go_loopg [6, 7] k (fun kq v6 v7 w' => ∃ (x6_1 : List Int) (x7_1 : Int), v7 = .int .i64 x7_1 ∧ Aside0 (spec_l07Circuits.l0 kq ji4 t935 x6_1 x7_1 = some (r1, r2)) ∧ Aside0 (kq ≤ k) ∧ Aside0 (Kd.R (Kd.int .i64) 2 w' w.heap.size (fun k_ => some k_ ≠ (v6 : Value).ownBlock) v936 t935) ∧ Aside0 (Kd.R (Kd.int .i64) 2 w' w.heap.size (fun k_ => some k_ ≠ (v936 : Value).ownBlock) v6 x6_1) ∧ Aside0 (w'.heap[g0]? = some (.cells #[.int .i64 a0_0, (.slice A0_1 l0_1.length c0_1)] 31 (0, 0))) ∧ Aside0 (Below w.heap.size w w'))
  case atStart => exact ⟨(y938), (0), zt, H', ⟨Nat.le_refl _⟩, ⟨by (with_reducible repeat (first | apply Kd.R_alloc | apply Kd.R_drewN | apply Kd.R_drew)); exact Kd.R_mono HO937.out (fun _ hk => hk.2)⟩, ⟨by (with_reducible repeat (first | apply Kd.R_alloc | apply Kd.R_drewN | apply Kd.R_drew)); exact Kd.R_mono HO940.out (fun _ hk => hk.2)⟩, ⟨zk BK934.out⟩, ⟨zb0 HB.out⟩⟩
  case round =>
   clear H'
   obtain ⟨x6_1, x7_1, rfl, HA, HK1, HO_5, HO_6, BK934, HB⟩ := hrel
   cases gk with
   | zero => exact absurd HA.out (by simp [spec_l07Circuits.l0])
   | succ k1 =>
    have H := HA.out
    clear HA
    simp only [spec_l07Circuits.l0] at H
    by_cases c10 : x7_1 < (t935.length : Int)
    ·rw [if_pos c10] at H
     have c10b0 : decide (x7_1 < (t935.length : Int)) = true := decide_eq_true c10
     clear c10
     by_cases c11 : 0 ≤ x7_1
     ·rw [if_pos c11] at H
      have c11b0 : decide (0 ≤ x7_1) = true := decide_eq_true c11
      clear c11
      replace H := Option.bind_eq_some_iff.mp H
      obtain ⟨t942, A120, H⟩ := H
      replace H : (spec_l07Circuits.l1 k1 ji4 t935 t942 x7_1 0) = some (r1, r2) := H
      have A12 := Aside0.mk A120
      clear A120
      have H' := Aside0.mk H
      clear H
      obtain ⟨Ao13, co13, eo13⟩ := Kd.R_slice HO_5.out
      subst eo13
      have p941 : 0 ≤ (x7_1 : Int) := of_decide_eq_true zq
      have q941 : x7_1 < (t935.length : Int) := of_decide_eq_true zq
      obtain ⟨ad941, e941, hx941_0⟩ := Kd.at_int (Kd.R_reads' HO_5.out).2.2 x7_1 p941 q941
      cases e941
      replace p941 := eq_true p941
      replace q941 := eq_true q941
      obtain ⟨Ao14, co14, eo14⟩ := Kd.R_slice HO_6.out
      subst eo14
      go_wp2_with (first | (go_at_call 154; (with_reducible refine (spec_l00Put.calls k1 _ _ x6_1 (Go.bits .or .i64 (rd t935 x7_1) ji4) t942 _ ?side1 ?side2 A12.out).mono ?_); (case side1 => repeat (first | exact (Kd.R_reads' HO_6.out).2.2 | (with_reducible refine Kd.C_alloc ?_ _) | (with_reducible refine Kd.C_drewN ?_ _) | (with_reducible refine Kd.C_drew ?_))); (case side2 => exact (Kd.R_reads' HO_6.out).2.1); rintro e w15 ⟨v943, rfl, ho0, hb⟩; have n0_ := Aside0.mk (Kd.R_elder' (zr HO_5.out) (Kd.R_base ho0) hb); have n1_ := Aside0.mk (Kd.R_elder' (zr HO_6.out) (Kd.R_base ho0) hb); have n2_ := Aside0.mk (Kd.R_lower (Kd.R_new' (Kd.R_new' ho0 (Kd.R_lt (zr HO_5.out))) (Kd.R_lt (zr HO_6.out))) (below_size (zb0 HB.out))); have n3_ := Aside0.mk (blk_below (g := g0) (o := .cells #[.int .i64 a0_0, .slice A0_1 l0_1.length c0_1] 31 (0, 0)) (zk BK934.out) hb); have n4_ := Aside0.mk (below_step (zb0 HB.out) hb); clear HO_5; clear HO_6; clear BK934; clear HB; have HO_5 := n0_; have HO_6 := n1_; have HO944 := n2_; have BK934 := n3_; have HB := n4_; clear n0_ n1_ n2_ n3_ n4_; (try clear hb); (try clear hb2); (try clear hk); (try clear hi); (try clear ho0)))
      repeat (go_quiet (first | (go_at_call 154; (with_reducible refine (spec_l00Put.calls k1 _ _ x6_1 (Go.bits .or .i64 (rd t935 x7_1) ji4) t942 _ ?side1 ?side2 A12.out).mono ?_); (case side1 => repeat (first | exact (Kd.R_reads' HO_6.out).2.2 | (with_reducible refine Kd.C_alloc ?_ _) | (with_reducible refine Kd.C_drewN ?_ _) | (with_reducible refine Kd.C_drew ?_))); (case side2 => exact (Kd.R_reads' HO_6.out).2.1); rintro e w15 ⟨v943, rfl, ho0, hb⟩; have n0_ := Aside0.mk (Kd.R_elder' (zr HO_5.out) (Kd.R_base ho0) hb); have n1_ := Aside0.mk (Kd.R_elder' (zr HO_6.out) (Kd.R_base ho0) hb); have n2_ := Aside0.mk (Kd.R_lower (Kd.R_new' (Kd.R_new' ho0 (Kd.R_lt (zr HO_5.out))) (Kd.R_lt (zr HO_6.out))) (below_size (zb0 HB.out))); have n3_ := Aside0.mk (blk_below (g := g0) (o := .cells #[.int .i64 a0_0, .slice A0_1 l0_1.length c0_1] 31 (0, 0)) (zk BK934.out) hb); have n4_ := Aside0.mk (below_step (zb0 HB.out) hb); clear HO_5; clear HO_6; clear BK934; clear HB; have HO_5 := n0_; have HO_6 := n1_; have HO944 := n2_; have BK934 := n3_; have HB := n4_; clear n0_ n1_ n2_ n3_ n4_; (try clear hb); (try clear hb2); (try clear hk); (try clear hi); (try clear ho0))); try go_wp2_with (first | (go_at_call 154; (with_reducible refine (spec_l00Put.calls k1 _ _ x6_1 (Go.bits .or .i64 (rd t935 x7_1) ji4) t942 _ ?side1 ?side2 A12.out).mono ?_); (case side1 => repeat (first | exact (Kd.R_reads' HO_6.out).2.2 | (with_reducible refine Kd.C_alloc ?_ _) | (with_reducible refine Kd.C_drewN ?_ _) | (with_reducible refine Kd.C_drew ?_))); (case side2 => exact (Kd.R_reads' HO_6.out).2.1); rintro e w15 ⟨v943, rfl, ho0, hb⟩; have n0_ := Aside0.mk (Kd.R_elder' (zr HO_5.out) (Kd.R_base ho0) hb); have n1_ := Aside0.mk (Kd.R_elder' (zr HO_6.out) (Kd.R_base ho0) hb); have n2_ := Aside0.mk (Kd.R_lower (Kd.R_new' (Kd.R_new' ho0 (Kd.R_lt (zr HO_5.out))) (Kd.R_lt (zr HO_6.out))) (below_size (zb0 HB.out))); have n3_ := Aside0.mk (blk_below (g := g0) (o := .cells #[.int .i64 a0_0, .slice A0_1 l0_1.length c0_1] 31 (0, 0)) (zk BK934.out) hb); have n4_ := Aside0.mk (below_step (zb0 HB.out) hb); clear HO_5; clear HO_6; clear BK934; clear HB; have HO_5 := n0_; have HO_6 := n1_; have HO944 := n2_; have BK934 := n3_; have HB := n4_; clear n0_ n1_ n2_ n3_ n4_; (try clear hb); (try clear hb2); (try clear hk); (try clear hi); (try clear ho0))))
      go_loopg [6, 8] k1 (fun kq v6 v8 w' => ∃ (x6_2 : List Int) (x8_2 : Int), v8 = .int .i64 x8_2 ∧ Aside0 (spec_l07Circuits.l1 kq ji4 t935 x6_2 x7_1 x8_2 = some (r1, r2)) ∧ Aside0 (kq ≤ k1) ∧ Aside0 (Kd.R (Kd.int .i64) 2 w' w.heap.size (fun k_ => some k_ ≠ (v6 : Value).ownBlock) (.slice (some ad941) t935.length co13) t935) ∧ Aside0 (Kd.R (Kd.int .i64) 2 w' w.heap.size (fun k_ => some k_ ≠ ((.slice (some ad941) t935.length co13) : Value).ownBlock) v6 x6_2) ∧ Aside0 (w'.heap[g0]? = some (.cells #[.int .i64 a0_0, (.slice A0_1 l0_1.length c0_1)] 31 (0, 0))) ∧ Aside0 (Below w.heap.size w w'))
      case atStart => exact ⟨(t942), (0), zt, H', ⟨Nat.le_refl _⟩, ⟨by (with_reducible repeat (first | apply Kd.R_alloc | apply Kd.R_drewN | apply Kd.R_drew)); exact Kd.R_mono HO_5.out (fun _ hk => hk.2)⟩, ⟨by (with_reducible repeat (first | apply Kd.R_alloc | apply Kd.R_drewN | apply Kd.R_drew)); exact Kd.R_mono HO944.out (fun _ hk => hk.1.2)⟩, ⟨zk BK934.out⟩, ⟨zb0 HB.out⟩⟩
      case round =>
       clear H'
       obtain ⟨x6_2, x8_2, rfl, HA, HK2, HO_5, HO_6, BK934, HB⟩ := hrel
       cases gk with
       | zero => exact absurd HA.out (by simp [spec_l07Circuits.l1])
       | succ k2 =>
        have H := HA.out
        clear HA
        simp only [spec_l07Circuits.l1] at H
        by_cases c16 : x8_2 < x7_1
        ·rw [if_pos c16] at H
         have c16b0 : decide (x8_2 < x7_1) = true := decide_eq_true c16
         clear c16
         by_cases c17 : 0 ≤ x7_1
         ·rw [if_pos c17] at H
          have c17b0 : decide (0 ≤ x7_1) = true := decide_eq_true c17
          clear c17
          by_cases c18 : x7_1 < (t935.length : Int)
          ·rw [if_pos c18] at H
           have c18b0 : decide (x7_1 < (t935.length : Int)) = true := decide_eq_true c18
           clear c18
           by_cases c19 : 0 ≤ x8_2
           ·rw [if_pos c19] at H
            have c19b0 : decide (0 ≤ x8_2) = true := decide_eq_true c19
            clear c19
            by_cases c20 : x8_2 < (t935.length : Int)
            ·rw [if_pos c20] at H
             have c20b0 : decide (x8_2 < (t935.length : Int)) = true := decide_eq_true c20
             clear c20
             have H' := Aside0.mk H
             clear H
             have p945 : 0 ≤ (x7_1 : Int) := of_decide_eq_true zq
             have q945 : x7_1 < (t935.length : Int) := of_decide_eq_true zq
             obtain ⟨ad945, e945, hx945_0⟩ := Kd.at_int (Kd.R_reads' HO_5.out).2.2 x7_1 p945 q945
             obtain rfl : ad941 = ad945 := (by injection e945)
             replace p945 := eq_true p945
             replace q945 := eq_true q945
             have p946 : 0 ≤ (x8_2 : Int) := of_decide_eq_true zq
             have q946 : x8_2 < (t935.length : Int) := of_decide_eq_true zq
             obtain ⟨ad946, e946, hx946_0⟩ := Kd.at_int (Kd.R_reads' HO_5.out).2.2 x8_2 p946 q946
             obtain rfl : ad941 = ad946 := (by injection e946)
             replace p946 := eq_true p946
             replace q946 := eq_true q946
             go_wp2
             repeat (go_quiet (fail); try go_wp2)
             go_loopg [10, 11] k2 (fun kq v10 v11 w' => ∃ (x10_3 : Int) (x11_3 : Int), v10 = .int .i64 x10_3 ∧ v11 = .int .i64 x11_3 ∧ Aside0 (spec_l07Circuits.l2 kq ji4 t935 x6_2 x7_1 x8_2 (Go.bits .or .i64 (rd t935 x7_1) (rd t935 x8_2)) x10_3 x11_3 = some (r1, r2)) ∧ Aside0 (kq ≤ k2) ∧ Aside0 (Kd.R (Kd.int .i64) 2 w' w.heap.size (fun k_ => some k_ ≠ (u6 : Value).ownBlock) (.slice (some ad941) t935.length co13) t935) ∧ Aside0 (Kd.R (Kd.int .i64) 2 w' w.heap.size (fun k_ => some k_ ≠ ((.slice (some ad941) t935.length co13) : Value).ownBlock) u6 x6_2) ∧ Aside0 (w'.heap[g0]? = some (.cells #[.int .i64 a0_0, (.slice A0_1 l0_1.length c0_1)] 31 (0, 0))) ∧ Aside0 (Below w.heap.size w w'))
             case atStart => exact ⟨(Go.bits .or .i64 (rd t935 x7_1) (rd t935 x8_2)), (0), zt, zt, H', ⟨Nat.le_refl _⟩, ⟨zr HO_5.out⟩, ⟨zr HO_6.out⟩, ⟨zk BK934.out⟩, ⟨zb0 HB.out⟩⟩
             case round =>
              clear H'
              obtain ⟨x10_3, x11_3, rfl, rfl, HA, HK3, HO_5, HO_6, BK934, HB⟩ := hrel
              cases gk with
              | zero => exact absurd HA.out (by simp [spec_l07Circuits.l2])
              | succ k3 =>
               have H := HA.out
               clear HA
               simp only [spec_l07Circuits.l2] at H
               by_cases c21 : x11_3 < (t935.length : Int)
               ·rw [if_pos c21] at H
                have c21b0 : decide (x11_3 < (t935.length : Int)) = true := decide_eq_true c21
                clear c21
                by_cases c22 : 0 ≤ x11_3
                ·rw [if_pos c22] at H
                 have c22b0 : decide (0 ≤ x11_3) = true := decide_eq_true c22
                 clear c22
                 by_cases c23 : (Go.bits .and .i64 (rd t935 x11_3) (Go.bits .or .i64 (rd t935 x7_1) (rd t935 x8_2))) = (rd t935 x11_3)
                 ·rw [if_pos c23] at H
                  have c23b0 : ((Go.bits .and .i64 (rd t935 x11_3) (Go.bits .or .i64 (rd t935 x7_1) (rd t935 x8_2))) == (rd t935 x11_3)) = true := beq_iff_eq.mpr c23
                  have c23b1 : ((Go.bits .and .i64 (rd t935 x11_3) (Go.bits .or .i64 (rd t935 x7_1) (rd t935 x8_2))) != (rd t935 x11_3)) = false := bne_eq_false_iff_eq.mpr c23
                  clear c23
                  have H' := Aside0.mk H
                  clear H
                  have p947 : 0 ≤ (x11_3 : Int) := of_decide_eq_true zq
                  have q947 : x11_3 < (t935.length : Int) := of_decide_eq_true zq
                  obtain ⟨ad947, e947, hx947_0⟩ := Kd.at_int (Kd.R_reads' HO_5.out).2.2 x11_3 p947 q947
                  obtain rfl : ad941 = ad947 := (by injection e947)
                  replace p947 := eq_true p947
                  replace q947 := eq_true q947
                  have p948 : 0 ≤ (x11_3 : Int) := of_decide_eq_true zq
                  have q948 : x11_3 < (t935.length : Int) := of_decide_eq_true zq
                  obtain ⟨ad948, e948, hx948_0⟩ := Kd.at_int (Kd.R_reads' HO_5.out).2.2 x11_3 p948 q948
                  obtain rfl : ad941 = ad948 := (by injection e948)
                  replace p948 := eq_true p948
                  replace q948 := eq_true q948
                  have p949 : 0 ≤ (x11_3 : Int) := of_decide_eq_true zq
                  have q949 : x11_3 < (t935.length : Int) := of_decide_eq_true zq
                  obtain ⟨ad949, e949, hx949_0⟩ := Kd.at_int (Kd.R_reads' HO_5.out).2.2 x11_3 p949 q949
                  obtain rfl : ad941 = ad949 := (by injection e949)
                  replace p949 := eq_true p949
                  replace q949 := eq_true q949
                  go_wp2
                  repeat (go_quiet (fail); try go_wp2)
                  go_roundg k3
                  case measure => have := HK1.out; have := HK2.out; have := HK3.out; omega
                  case rel => exact ⟨(Go.bits .and .i64 x10_3 (rd t935 x11_3)), (wrap64 (x11_3 + 1)), zt, zt, H', ⟨by have := HK1.out; have := HK2.out; have := HK3.out; omega⟩, ⟨zr HO_5.out⟩, ⟨zr HO_6.out⟩, ⟨zk BK934.out⟩, ⟨zb0 HB.out⟩⟩
                 ·rw [if_neg c23] at H
                  have c23b0 : ((Go.bits .and .i64 (rd t935 x11_3) (Go.bits .or .i64 (rd t935 x7_1) (rd t935 x8_2))) == (rd t935 x11_3)) = false := beq_eq_false_iff_ne.mpr c23
                  have c23b1 : ((Go.bits .and .i64 (rd t935 x11_3) (Go.bits .or .i64 (rd t935 x7_1) (rd t935 x8_2))) != (rd t935 x11_3)) = true := bne_iff_ne.mpr c23
                  have H' := Aside0.mk H
                  clear H
                  have p947 : 0 ≤ (x11_3 : Int) := of_decide_eq_true zq
                  have q947 : x11_3 < (t935.length : Int) := of_decide_eq_true zq
                  obtain ⟨ad947, e947, hx947_0⟩ := Kd.at_int (Kd.R_reads' HO_5.out).2.2 x11_3 p947 q947
                  obtain rfl : ad941 = ad947 := (by injection e947)
                  replace p947 := eq_true p947
                  replace q947 := eq_true q947
                  have p948 : 0 ≤ (x11_3 : Int) := of_decide_eq_true zq
                  have q948 : x11_3 < (t935.length : Int) := of_decide_eq_true zq
                  obtain ⟨ad948, e948, hx948_0⟩ := Kd.at_int (Kd.R_reads' HO_5.out).2.2 x11_3 p948 q948
                  obtain rfl : ad941 = ad948 := (by injection e948)
                  replace p948 := eq_true p948
                  replace q948 := eq_true q948
                  go_wp2
                  repeat (go_quiet (fail); try go_wp2)
                  go_roundg k3
                  case measure => have := HK1.out; have := HK2.out; have := HK3.out; omega
                  case rel => exact ⟨(x10_3), (wrap64 (x11_3 + 1)), zt, zt, H', ⟨by have := HK1.out; have := HK2.out; have := HK3.out; omega⟩, ⟨zr HO_5.out⟩, ⟨zr HO_6.out⟩, ⟨zk BK934.out⟩, ⟨zb0 HB.out⟩⟩
                ·rw [if_neg c22] at H
                 exact absurd H (by simp)
               ·rw [if_neg c21] at H
                have c21b0 : decide (x11_3 < (t935.length : Int)) = false := decide_eq_false c21
                clear c21
                by_cases c24 : (Go.bits .or .i64 (rd t935 x7_1) (rd t935 x8_2)) = x10_3
                ·rw [if_pos c24] at H
                 have c24b0 : ((Go.bits .or .i64 (rd t935 x7_1) (rd t935 x8_2)) == x10_3) = true := beq_iff_eq.mpr c24
                 have c24b1 : ((Go.bits .or .i64 (rd t935 x7_1) (rd t935 x8_2)) != x10_3) = false := bne_eq_false_iff_eq.mpr c24
                 clear c24
                 have H' := Aside0.mk H
                 clear H
                 go_wp2
                 repeat (go_quiet (fail); try go_wp2)
                 go_roundg k3
                 case measure => have := HK1.out; have := HK2.out; have := HK3.out; omega
                 case rel => exact ⟨(x6_2), (wrap64 (x8_2 + 1)), zt, H', ⟨by have := HK1.out; have := HK2.out; have := HK3.out; omega⟩, ⟨zr HO_5.out⟩, ⟨zr HO_6.out⟩, ⟨zk BK934.out⟩, ⟨zb0 HB.out⟩⟩
                ·rw [if_neg c24] at H
                 have c24b0 : ((Go.bits .or .i64 (rd t935 x7_1) (rd t935 x8_2)) == x10_3) = false := beq_eq_false_iff_ne.mpr c24
                 have c24b1 : ((Go.bits .or .i64 (rd t935 x7_1) (rd t935 x8_2)) != x10_3) = true := bne_iff_ne.mpr c24
                 replace H := Option.bind_eq_some_iff.mp H
                 obtain ⟨t950, A250, H⟩ := H
                 replace H : (spec_l07Circuits.l1 k3 ji4 t935 t950 x7_1 (wrap64 (x8_2 + 1))) = some (r1, r2) := H
                 have A25 := Aside0.mk A250
                 clear A250
                 have H' := Aside0.mk H
                 clear H
                 obtain ⟨Ao26, co26, eo26⟩ := Kd.R_slice HO_6.out
                 subst eo26
                 go_wp2_with (first | (go_at_call 154; (with_reducible refine (spec_l00Put.calls k3 _ _ x6_2 (Go.bits .andNot .i64 (Go.bits .or .i64 (rd t935 x7_1) (rd t935 x8_2)) x10_3) t950 _ ?side1 ?side2 A25.out).mono ?_); (case side1 => repeat (first | exact (Kd.R_reads' HO_6.out).2.2 | (with_reducible refine Kd.C_alloc ?_ _) | (with_reducible refine Kd.C_drewN ?_ _) | (with_reducible refine Kd.C_drew ?_))); (case side2 => exact (Kd.R_reads' HO_6.out).2.1); rintro e w27 ⟨v951, rfl, ho0, hb⟩; have n0_ := Aside0.mk (Kd.R_elder' (zr HO_5.out) (Kd.R_base ho0) hb); have n1_ := Aside0.mk (Kd.R_elder' (zr HO_6.out) (Kd.R_base ho0) hb); have n2_ := Aside0.mk (Kd.R_lower (Kd.R_new' (Kd.R_new' ho0 (Kd.R_lt (zr HO_5.out))) (Kd.R_lt (zr HO_6.out))) (below_size (zb0 HB.out))); have n3_ := Aside0.mk (blk_below (g := g0) (o := .cells #[.int .i64 a0_0, .slice A0_1 l0_1.length c0_1] 31 (0, 0)) (zk BK934.out) hb); have n4_ := Aside0.mk (below_step (zb0 HB.out) hb); clear HO_5; clear HO_6; clear BK934; clear HB; have HO_5 := n0_; have HO_6 := n1_; have HO952 := n2_; have BK934 := n3_; have HB := n4_; clear n0_ n1_ n2_ n3_ n4_; (try clear hb); (try clear hb2); (try clear hk); (try clear hi); (try clear ho0)))
                 repeat (go_quiet (first | (go_at_call 154; (with_reducible refine (spec_l00Put.calls k3 _ _ x6_2 (Go.bits .andNot .i64 (Go.bits .or .i64 (rd t935 x7_1) (rd t935 x8_2)) x10_3) t950 _ ?side1 ?side2 A25.out).mono ?_); (case side1 => repeat (first | exact (Kd.R_reads' HO_6.out).2.2 | (with_reducible refine Kd.C_alloc ?_ _) | (with_reducible refine Kd.C_drewN ?_ _) | (with_reducible refine Kd.C_drew ?_))); (case side2 => exact (Kd.R_reads' HO_6.out).2.1); rintro e w27 ⟨v951, rfl, ho0, hb⟩; have n0_ := Aside0.mk (Kd.R_elder' (zr HO_5.out) (Kd.R_base ho0) hb); have n1_ := Aside0.mk (Kd.R_elder' (zr HO_6.out) (Kd.R_base ho0) hb); have n2_ := Aside0.mk (Kd.R_lower (Kd.R_new' (Kd.R_new' ho0 (Kd.R_lt (zr HO_5.out))) (Kd.R_lt (zr HO_6.out))) (below_size (zb0 HB.out))); have n3_ := Aside0.mk (blk_below (g := g0) (o := .cells #[.int .i64 a0_0, .slice A0_1 l0_1.length c0_1] 31 (0, 0)) (zk BK934.out) hb); have n4_ := Aside0.mk (below_step (zb0 HB.out) hb); clear HO_5; clear HO_6; clear BK934; clear HB; have HO_5 := n0_; have HO_6 := n1_; have HO952 := n2_; have BK934 := n3_; have HB := n4_; clear n0_ n1_ n2_ n3_ n4_; (try clear hb); (try clear hb2); (try clear hk); (try clear hi); (try clear ho0))); try go_wp2_with (first | (go_at_call 154; (with_reducible refine (spec_l00Put.calls k3 _ _ x6_2 (Go.bits .andNot .i64 (Go.bits .or .i64 (rd t935 x7_1) (rd t935 x8_2)) x10_3) t950 _ ?side1 ?side2 A25.out).mono ?_); (case side1 => repeat (first | exact (Kd.R_reads' HO_6.out).2.2 | (with_reducible refine Kd.C_alloc ?_ _) | (with_reducible refine Kd.C_drewN ?_ _) | (with_reducible refine Kd.C_drew ?_))); (case side2 => exact (Kd.R_reads' HO_6.out).2.1); rintro e w27 ⟨v951, rfl, ho0, hb⟩; have n0_ := Aside0.mk (Kd.R_elder' (zr HO_5.out) (Kd.R_base ho0) hb); have n1_ := Aside0.mk (Kd.R_elder' (zr HO_6.out) (Kd.R_base ho0) hb); have n2_ := Aside0.mk (Kd.R_lower (Kd.R_new' (Kd.R_new' ho0 (Kd.R_lt (zr HO_5.out))) (Kd.R_lt (zr HO_6.out))) (below_size (zb0 HB.out))); have n3_ := Aside0.mk (blk_below (g := g0) (o := .cells #[.int .i64 a0_0, .slice A0_1 l0_1.length c0_1] 31 (0, 0)) (zk BK934.out) hb); have n4_ := Aside0.mk (below_step (zb0 HB.out) hb); clear HO_5; clear HO_6; clear BK934; clear HB; have HO_5 := n0_; have HO_6 := n1_; have HO952 := n2_; have BK934 := n3_; have HB := n4_; clear n0_ n1_ n2_ n3_ n4_; (try clear hb); (try clear hb2); (try clear hk); (try clear hi); (try clear ho0))))
                 go_roundg k3
                 case measure => have := HK1.out; have := HK2.out; have := HK3.out; omega
                 case rel => exact ⟨(t950), (wrap64 (x8_2 + 1)), zt, H', ⟨by have := HK1.out; have := HK2.out; have := HK3.out; omega⟩, ⟨by (with_reducible repeat (first | apply Kd.R_alloc | apply Kd.R_drewN | apply Kd.R_drew)); exact Kd.R_mono HO_5.out (fun _ hk => hk.2)⟩, ⟨by (with_reducible repeat (first | apply Kd.R_alloc | apply Kd.R_drewN | apply Kd.R_drew)); exact Kd.R_mono HO952.out (fun _ hk => hk.1.2)⟩, ⟨zk BK934.out⟩, ⟨zb0 HB.out⟩⟩
            ·rw [if_neg c20] at H
             exact absurd H (by simp)
           ·rw [if_neg c19] at H
            exact absurd H (by simp)
          ·rw [if_neg c18] at H
           exact absurd H (by simp)
         ·rw [if_neg c17] at H
          exact absurd H (by simp)
        ·rw [if_neg c16] at H
         have c16b0 : decide (x8_2 < x7_1) = false := decide_eq_false c16
         clear c16
         have H' := Aside0.mk H
         clear H
         go_wp2
         repeat (go_quiet (fail); try go_wp2)
         go_roundg k2
         case measure => have := HK1.out; have := HK2.out; omega
         case rel => exact ⟨(x6_2), (wrap64 (x7_1 + 1)), zt, H', ⟨by have := HK1.out; have := HK2.out; omega⟩, ⟨zr HO_5.out⟩, ⟨zr HO_6.out⟩, ⟨zk BK934.out⟩, ⟨zb0 HB.out⟩⟩
     ·rw [if_neg c11] at H
      exact absurd H (by simp)
    ·rw [if_neg c10] at H
     have c10b0 : decide (x7_1 < (t935.length : Int)) = false := decide_eq_false c10
     clear c10
     obtain ⟨y953, hy953⟩ : ∃ y_ : List Int, y_ = (([] : List Int)) := ⟨_, rfl⟩
     replace H : (spec_l07Circuits.l3 k1 ji4 x6_1 y953 true 0) = some (r1, r2) := by first | (rw [hy953]; with_reducible exact H) | (have H2_ := (Option.bind_some _ _).symm.trans H; rw [hy953]; with_reducible exact H2_) | (have H2_ := (Option.bind_some _ _).symm.trans H; with_reducible exact H2_) | with_reducible exact H | (rw [hy953]; exact H) | exact H
     have Ny953 := Aside0.mk hy953
     clear hy953
     have H' := Aside0.mk H
     clear H
     obtain ⟨Ao28, co28, eo28⟩ := Kd.R_slice HO_5.out
     subst eo28
     go_wp2_with (first | ((with_reducible refine gate_dst (N := 89) rfl ?_); refine Kd.R_lit (Kd.int .i64) _ 2 ?hg (N := 89) ?hd (xs := ([] : List Int)) (inner := []) (ok := fun _ => True) (okp := fun _ => True) ?hr ?hp (fun _ hk => hk) trivial (Below.refl _ _) (Nat.le_refl _) (by simp) ?_; (case hd => rfl); (case hg => rfl); (case hr => first | (go_simp; done) | (go_simp; rfl)); (case hp => exact (Reps.none _ _)); intro v954 w29 ho30 hb hg_ hnew_; clear hg_ hnew_; (first | rw [← Ny953.out] at ho30 | (simp only [Int.reduceToNat] at ho30; rw [← Ny953.out] at ho30)); have n0_ := Aside0.mk (Kd.R_elder' (zr HO_5.out) (Kd.R_base ho30) hb); have n1_ := Aside0.mk (Kd.R_elder' (zr HO_6.out) (Kd.R_base ho30) hb); have n2_ := Aside0.mk (Kd.R_lower (Kd.R_new' (Kd.R_new' ho30 (Kd.R_lt (zr HO_5.out))) (Kd.R_lt (zr HO_6.out))) (below_size (zb0 HB.out))); have n3_ := Aside0.mk (blk_below (g := g0) (o := .cells #[.int .i64 a0_0, .slice A0_1 l0_1.length c0_1] 31 (0, 0)) (zk BK934.out) hb); have n4_ := Aside0.mk (below_step (zb0 HB.out) hb); clear HO_5; clear HO_6; clear BK934; clear HB; have HO_5 := n0_; have HO_6 := n1_; have HO955 := n2_; have BK934 := n3_; have HB := n4_; clear n0_ n1_ n2_ n3_ n4_; clear hb ho30))
     repeat (go_quiet (first | ((with_reducible refine gate_dst (N := 89) rfl ?_); refine Kd.R_lit (Kd.int .i64) _ 2 ?hg (N := 89) ?hd (xs := ([] : List Int)) (inner := []) (ok := fun _ => True) (okp := fun _ => True) ?hr ?hp (fun _ hk => hk) trivial (Below.refl _ _) (Nat.le_refl _) (by simp) ?_; (case hd => rfl); (case hg => rfl); (case hr => first | (go_simp; done) | (go_simp; rfl)); (case hp => exact (Reps.none _ _)); intro v954 w29 ho30 hb hg_ hnew_; clear hg_ hnew_; (first | rw [← Ny953.out] at ho30 | (simp only [Int.reduceToNat] at ho30; rw [← Ny953.out] at ho30)); have n0_ := Aside0.mk (Kd.R_elder' (zr HO_5.out) (Kd.R_base ho30) hb); have n1_ := Aside0.mk (Kd.R_elder' (zr HO_6.out) (Kd.R_base ho30) hb); have n2_ := Aside0.mk (Kd.R_lower (Kd.R_new' (Kd.R_new' ho30 (Kd.R_lt (zr HO_5.out))) (Kd.R_lt (zr HO_6.out))) (below_size (zb0 HB.out))); have n3_ := Aside0.mk (blk_below (g := g0) (o := .cells #[.int .i64 a0_0, .slice A0_1 l0_1.length c0_1] 31 (0, 0)) (zk BK934.out) hb); have n4_ := Aside0.mk (below_step (zb0 HB.out) hb); clear HO_5; clear HO_6; clear BK934; clear HB; have HO_5 := n0_; have HO_6 := n1_; have HO955 := n2_; have BK934 := n3_; have HB := n4_; clear n0_ n1_ n2_ n3_ n4_; clear hb ho30)); try go_wp2_with (first | ((with_reducible refine gate_dst (N := 89) rfl ?_); refine Kd.R_lit (Kd.int .i64) _ 2 ?hg (N := 89) ?hd (xs := ([] : List Int)) (inner := []) (ok := fun _ => True) (okp := fun _ => True) ?hr ?hp (fun _ hk => hk) trivial (Below.refl _ _) (Nat.le_refl _) (by simp) ?_; (case hd => rfl); (case hg => rfl); (case hr => first | (go_simp; done) | (go_simp; rfl)); (case hp => exact (Reps.none _ _)); intro v954 w29 ho30 hb hg_ hnew_; clear hg_ hnew_; (first | rw [← Ny953.out] at ho30 | (simp only [Int.reduceToNat] at ho30; rw [← Ny953.out] at ho30)); have n0_ := Aside0.mk (Kd.R_elder' (zr HO_5.out) (Kd.R_base ho30) hb); have n1_ := Aside0.mk (Kd.R_elder' (zr HO_6.out) (Kd.R_base ho30) hb); have n2_ := Aside0.mk (Kd.R_lower (Kd.R_new' (Kd.R_new' ho30 (Kd.R_lt (zr HO_5.out))) (Kd.R_lt (zr HO_6.out))) (below_size (zb0 HB.out))); have n3_ := Aside0.mk (blk_below (g := g0) (o := .cells #[.int .i64 a0_0, .slice A0_1 l0_1.length c0_1] 31 (0, 0)) (zk BK934.out) hb); have n4_ := Aside0.mk (below_step (zb0 HB.out) hb); clear HO_5; clear HO_6; clear BK934; clear HB; have HO_5 := n0_; have HO_6 := n1_; have HO955 := n2_; have BK934 := n3_; have HB := n4_; clear n0_ n1_ n2_ n3_ n4_; clear hb ho30)))
     go_loopg [12, 13, 14] k1 (fun kq v12 v13 v14 w' => ∃ (x12_2 : List Int) (x13_2 : Bool) (x14_2 : Int), v13 = .bool x13_2 ∧ v14 = .int .i64 x14_2 ∧ Aside0 (spec_l07Circuits.l3 kq ji4 x6_1 x12_2 x13_2 x14_2 = some (r1, r2)) ∧ Aside0 (kq ≤ k1) ∧ Aside0 (Kd.R (Kd.int .i64) 2 w' w.heap.size (fun k_ => some k_ ≠ (v12 : Value).ownBlock) u6 x6_1) ∧ Aside0 (Kd.R (Kd.int .i64) 2 w' w.heap.size (fun k_ => some k_ ≠ (u6 : Value).ownBlock) v12 x12_2) ∧ Aside0 (w'.heap[g0]? = some (.cells #[.int .i64 a0_0, (.slice A0_1 l0_1.length c0_1)] 31 (0, 0))) ∧ Aside0 (Below w.heap.size w w'))
     case atStart => exact ⟨(y953), (true), (0), zt, zt, H', ⟨Nat.le_refl _⟩, ⟨by (with_reducible repeat (first | apply Kd.R_alloc | apply Kd.R_drewN | apply Kd.R_drew)); exact Kd.R_mono HO_6.out (fun _ hk => hk.2)⟩, ⟨by (with_reducible repeat (first | apply Kd.R_alloc | apply Kd.R_drewN | apply Kd.R_drew)); exact Kd.R_mono HO955.out (fun _ hk => hk.2)⟩, ⟨zk BK934.out⟩, ⟨zb0 HB.out⟩⟩
     case round =>
      clear H'
      obtain ⟨x12_2, x13_2, x14_2, rfl, rfl, HA, HK2, HO_6, HO_12, BK934, HB⟩ := hrel
      cases gk with
      | zero => exact absurd HA.out (by simp [spec_l07Circuits.l3])
      | succ k2 =>
       have H := HA.out
       clear HA
       simp only [spec_l07Circuits.l3] at H
       by_cases c31 : x14_2 < (x6_1.length : Int)
       ·rw [if_pos c31] at H
        have c31b0 : decide (x14_2 < (x6_1.length : Int)) = true := decide_eq_true c31
        clear c31
        have HC32 := Aside0.mk H
        clear H
        obtain ⟨Ao33, co33, eo33⟩ := Kd.R_slice HO_6.out
        subst eo33
        go_upto_block 8 with (fail)
        repeat (go_quiet (fail); go_upto_block 8 with (fail))
        go_cut [15] (fun v15 wc => ∃ (kq : Nat) (x15_31 : Bool), v15 = .bool x15_31 ∧ Aside0 (spec_l07Circuits.j5 kq ji4 x6_1 x12_2 x13_2 x14_2 x15_31 = some (r1, r2)) ∧ Aside0 (kq ≤ k2) ∧ Aside0 (Kd.R (Kd.int .i64) 2 wc w.heap.size (fun k_ => some k_ ≠ (u12 : Value).ownBlock) (.slice Ao33 x6_1.length co33) x6_1) ∧ Aside0 (Kd.R (Kd.int .i64) 2 wc w.heap.size (fun k_ => some k_ ≠ ((.slice Ao33 x6_1.length co33) : Value).ownBlock) u12 x12_2) ∧ Aside0 (wc.heap[g0]? = some (.cells #[.int .i64 a0_0, (.slice A0_1 l0_1.length c0_1)] 31 (0, 0))) ∧ Aside0 (Below w.heap.size w wc))
        case first =>
         have H := HC32.out
         clear HC32
         have H' := Aside0.mk H
         clear H
         go_wp2
         repeat (go_quiet (fail); try go_wp2)
         go_loopg [15, 16] k2 (fun kq v15 v16 w' => ∃ (x15_3 : Bool) (x16_3 : Int), v15 = .bool x15_3 ∧ v16 = .int .i64 x16_3 ∧ Aside0 (spec_l07Circuits.l4 kq ji4 x6_1 x12_2 x13_2 x14_2 x15_3 x16_3 = some (r1, r2)) ∧ Aside0 (kq ≤ k2) ∧ Aside0 (Kd.R (Kd.int .i64) 2 w' w.heap.size (fun k_ => some k_ ≠ (u12 : Value).ownBlock) (.slice Ao33 x6_1.length co33) x6_1) ∧ Aside0 (Kd.R (Kd.int .i64) 2 w' w.heap.size (fun k_ => some k_ ≠ ((.slice Ao33 x6_1.length co33) : Value).ownBlock) u12 x12_2) ∧ Aside0 (w'.heap[g0]? = some (.cells #[.int .i64 a0_0, (.slice A0_1 l0_1.length c0_1)] 31 (0, 0))) ∧ Aside0 (Below w.heap.size w w'))
         case atStart => exact ⟨(true), (0), zt, zt, H', ⟨Nat.le_refl _⟩, ⟨zr HO_6.out⟩, ⟨zr HO_12.out⟩, ⟨zk BK934.out⟩, ⟨zb0 HB.out⟩⟩
         case round =>
          clear H'
          obtain ⟨x15_3, x16_3, rfl, rfl, HA, HK3, HO_6, HO_12, BK934, HB⟩ := hrel
          cases gk with
          | zero => exact absurd HA.out (by simp [spec_l07Circuits.l4])
          | succ k3 =>
           have H := HA.out
           clear HA
           simp only [spec_l07Circuits.l4] at H
           by_cases c34 : x16_3 < (x6_1.length : Int)
           ·rw [if_pos c34] at H
            have c34b0 : decide (x16_3 < (x6_1.length : Int)) = true := decide_eq_true c34
            clear c34
            (first | rw [c34b0] | (simp only [i64_w, i32_w]; rw [c34b0]) | skip)
            by_cases c35 : x15_3 = true
            ·subst c35
             rw [if_pos rfl] at H
             by_cases c36 : x16_3 = x14_2
             ·rw [if_pos c36] at H
              have c36b0 : (x16_3 == x14_2) = true := beq_iff_eq.mpr c36
              have c36b1 : (x16_3 != x14_2) = false := bne_eq_false_iff_eq.mpr c36
              clear c36
              have H' := Aside0.mk H
              clear H
              go_wp2
              repeat (go_quiet (fail); try go_wp2)
              go_roundg k3
              case measure => have := HK1.out; have := HK2.out; have := HK3.out; omega
              case rel => exact ⟨(true), (wrap64 (x16_3 + 1)), zt, zt, H', ⟨by have := HK1.out; have := HK2.out; have := HK3.out; omega⟩, ⟨zr HO_6.out⟩, ⟨zr HO_12.out⟩, ⟨zk BK934.out⟩, ⟨zb0 HB.out⟩⟩
             ·rw [if_neg c36] at H
              have c36b0 : (x16_3 == x14_2) = false := beq_eq_false_iff_ne.mpr c36
              have c36b1 : (x16_3 != x14_2) = true := bne_iff_ne.mpr c36
              by_cases c37 : 0 ≤ x16_3
              ·rw [if_pos c37] at H
               have c37b0 : decide (0 ≤ x16_3) = true := decide_eq_true c37
               clear c37
               by_cases c38 : 0 ≤ x14_2
               ·rw [if_pos c38] at H
                have c38b0 : decide (0 ≤ x14_2) = true := decide_eq_true c38
                clear c38
                by_cases c39 : x14_2 < (x6_1.length : Int)
                ·rw [if_pos c39] at H
                 have c39b0 : decide (x14_2 < (x6_1.length : Int)) = true := decide_eq_true c39
                 clear c39
                 have H' := Aside0.mk H
                 clear H
                 have p956 : 0 ≤ (x16_3 : Int) := of_decide_eq_true zq
                 have q956 : x16_3 < (x6_1.length : Int) := of_decide_eq_true zq
                 obtain ⟨ad956, e956, hx956_0⟩ := Kd.at_int (Kd.R_reads' HO_6.out).2.2 x16_3 p956 q956
                 cases e956
                 replace p956 := eq_true p956
                 replace q956 := eq_true q956
                 have p957 : 0 ≤ (x14_2 : Int) := of_decide_eq_true zq
                 have q957 : x14_2 < (x6_1.length : Int) := of_decide_eq_true zq
                 obtain ⟨ad957, e957, hx957_0⟩ := Kd.at_int (Kd.R_reads' HO_6.out).2.2 x14_2 p957 q957
                 obtain rfl : ad956 = ad957 := (by injection e957)
                 replace p957 := eq_true p957
                 replace q957 := eq_true q957
                 have p958 : 0 ≤ (x16_3 : Int) := of_decide_eq_true zq
                 have q958 : x16_3 < (x6_1.length : Int) := of_decide_eq_true zq
                 obtain ⟨ad958, e958, hx958_0⟩ := Kd.at_int (Kd.R_reads' HO_6.out).2.2 x16_3 p958 q958
                 obtain rfl : ad956 = ad958 := (by injection e958)
                 replace p958 := eq_true p958
                 replace q958 := eq_true q958
                 go_wp2
                 repeat (go_quiet (fail); try go_wp2)
                 go_roundg k3
                 case measure => have := HK1.out; have := HK2.out; have := HK3.out; omega
                 case rel => exact ⟨(((Go.bits .and .i64 (rd x6_1 x16_3) (rd x6_1 x14_2)) != (rd x6_1 x16_3))), (wrap64 (x16_3 + 1)), zt, zt, H', ⟨by have := HK1.out; have := HK2.out; have := HK3.out; omega⟩, ⟨zr HO_6.out⟩, ⟨zr HO_12.out⟩, ⟨zk BK934.out⟩, ⟨zb0 HB.out⟩⟩
                ·rw [if_neg c39] at H
                 exact absurd H (by simp)
               ·rw [if_neg c38] at H
                exact absurd H (by simp)
              ·rw [if_neg c37] at H
               exact absurd H (by simp)
            ·replace c35 := Bool.eq_false_iff.mpr c35
             subst c35
             rw [if_neg (show ¬ (false = true) by decide)] at H
             have H' := Aside0.mk H
             clear H
             go_wp2
             repeat (go_quiet (fail); try go_wp2)
             go_meet
             case rel => exact ⟨_, (false), zt, H', ⟨by have := HK1.out; have := HK2.out; have := HK3.out; first | omega | exact Nat.le_refl _⟩, ⟨zr HO_6.out⟩, ⟨zr HO_12.out⟩, ⟨zk BK934.out⟩, ⟨zb0 HB.out⟩⟩
           ·rw [if_neg c34] at H
            have c34b0 : decide (x16_3 < (x6_1.length : Int)) = false := decide_eq_false c34
            clear c34
            (first | rw [c34b0] | (simp only [i64_w, i32_w]; rw [c34b0]) | skip)
            have H' := Aside0.mk H
            clear H
            go_wp2
            repeat (go_quiet (fail); try go_wp2)
            go_meet
            case rel => exact ⟨_, (x15_3), zt, H', ⟨by have := HK1.out; have := HK2.out; have := HK3.out; first | omega | exact Nat.le_refl _⟩, ⟨zr HO_6.out⟩, ⟨zr HO_12.out⟩, ⟨zk BK934.out⟩, ⟨zb0 HB.out⟩⟩
        case rest =>
         clear HC32
         obtain ⟨kq, x15_31, rfl, HA, HJ31, HO_6, HO_12, BK934, HB⟩ := hcut
         cases kq with
         | zero => exact absurd HA.out (by simp [spec_l07Circuits.j5])
         | succ kj31 =>
          have H := HA.out
          clear HA
          simp only [spec_l07Circuits.j5] at H
          by_cases c40 : x15_31 = true
          ·subst c40
           rw [if_pos rfl] at H
           by_cases c41 : 0 ≤ x14_2
           ·rw [if_pos c41] at H
            have c41b0 : decide (0 ≤ x14_2) = true := decide_eq_true c41
            clear c41
            by_cases c42 : x14_2 < (x6_1.length : Int)
            ·rw [if_pos c42] at H
             have c42b0 : decide (x14_2 < (x6_1.length : Int)) = true := decide_eq_true c42
             clear c42
             by_cases c43 : x12_2.length < 17592186044416
             ·rw [if_pos c43] at H
              have LMc43 := Aside0.mk c43
              clear c43
              obtain ⟨y960, hy960⟩ : ∃ y_ : List Int, y_ = (x12_2 ++ [rd x6_1 x14_2]) := ⟨_, rfl⟩
              replace H : (spec_l07Circuits.l3 kj31 ji4 x6_1 y960 x13_2 (wrap64 (x14_2 + 1))) = some (r1, r2) := by first | (rw [hy960]; with_reducible exact H) | (have H2_ := (Option.bind_some _ _).symm.trans H; rw [hy960]; with_reducible exact H2_) | (have H2_ := (Option.bind_some _ _).symm.trans H; with_reducible exact H2_) | with_reducible exact H | (rw [hy960]; exact H) | exact H
              have Ny960 := Aside0.mk hy960
              clear hy960
              have H' := Aside0.mk H
              clear H
              have p959 : 0 ≤ (x14_2 : Int) := of_decide_eq_true zq
              have q959 : x14_2 < (x6_1.length : Int) := of_decide_eq_true zq
              obtain ⟨ad959, e959, hx959_0⟩ := Kd.at_int (Kd.R_reads' HO_6.out).2.2 x14_2 p959 q959
              cases e959
              replace p959 := eq_true p959
              replace q959 := eq_true q959
              go_wp2_with (first | ((with_reducible refine gate_builtin (b := .append) (xs := #[.tmp 125, .tmp 130]) rfl ?_); at_builtin; refine Kd.R_append (Kd.int .i64) (w0 := w) w.heap.size rfl (.tmp 125) (.tmp 130) 26 2 (.int .i64 0) 8 rfl Try.underlying26 info2 rfl (by decide) (by omega) u12 x12_2 (rd x6_1 x14_2) [.int .i64 (rd x6_1 x14_2)] (fun k_ => some k_ ≠ (.slice (some ad959) x6_1.length co33 : Value).ownBlock) (fun _ => False) rfl rfl ?aP (fun _ hk => hk.elim) ?aF ?aO ?aB ?aS ?aL ?_; (case aP => exact rfl); (case aB => exact (zb0 HB.out)); (case aF => exact (fun k_ hk => Kd.fresh' (Kd.R_lt (zr HO_6.out)) k_ hk)); (case aO => exact (zr HO_12.out)); (case aS => exact (below_size (zb0 HB.out))); (case aL => have := LMc43.out; omega); intro v961 w44 ho hb hg hat; rw [← Ny960.out] at ho; have n0_ := Aside0.mk (Kd.R_after (ok := (fun _ => True)) (by (with_reducible repeat (first | apply Kd.R_alloc | apply Kd.R_drewN | apply Kd.R_drew)); exact Kd.R_mono HO_6.out (fun _ hk => ⟨trivial, hk⟩)) hg hat); have n1_ := Aside0.mk (blk_grown (g := g0) (o := .cells #[.int .i64 a0_0, .slice A0_1 l0_1.length c0_1] 31 (0, 0)) (zk BK934.out) hg (Kd.R_ne HO_12.out BK934.out (by decide))); have n2_ := Aside0.mk (hb); have n3_ := Aside0.mk (ho); clear HO_6; clear BK934; clear HB; clear HO_12; have HO_6 := n0_; have BK934 := n1_; have HB := n2_; have HO962 := n3_; clear n0_ n1_ n2_ n3_; clear ho hb hg hat))
              repeat (go_quiet (first | ((with_reducible refine gate_builtin (b := .append) (xs := #[.tmp 125, .tmp 130]) rfl ?_); at_builtin; refine Kd.R_append (Kd.int .i64) (w0 := w) w.heap.size rfl (.tmp 125) (.tmp 130) 26 2 (.int .i64 0) 8 rfl Try.underlying26 info2 rfl (by decide) (by omega) u12 x12_2 (rd x6_1 x14_2) [.int .i64 (rd x6_1 x14_2)] (fun k_ => some k_ ≠ (.slice (some ad959) x6_1.length co33 : Value).ownBlock) (fun _ => False) rfl rfl ?aP (fun _ hk => hk.elim) ?aF ?aO ?aB ?aS ?aL ?_; (case aP => exact rfl); (case aB => exact (zb0 HB.out)); (case aF => exact (fun k_ hk => Kd.fresh' (Kd.R_lt (zr HO_6.out)) k_ hk)); (case aO => exact (zr HO_12.out)); (case aS => exact (below_size (zb0 HB.out))); (case aL => have := LMc43.out; omega); intro v961 w44 ho hb hg hat; rw [← Ny960.out] at ho; have n0_ := Aside0.mk (Kd.R_after (ok := (fun _ => True)) (by (with_reducible repeat (first | apply Kd.R_alloc | apply Kd.R_drewN | apply Kd.R_drew)); exact Kd.R_mono HO_6.out (fun _ hk => ⟨trivial, hk⟩)) hg hat); have n1_ := Aside0.mk (blk_grown (g := g0) (o := .cells #[.int .i64 a0_0, .slice A0_1 l0_1.length c0_1] 31 (0, 0)) (zk BK934.out) hg (Kd.R_ne HO_12.out BK934.out (by decide))); have n2_ := Aside0.mk (hb); have n3_ := Aside0.mk (ho); clear HO_6; clear BK934; clear HB; clear HO_12; have HO_6 := n0_; have BK934 := n1_; have HB := n2_; have HO962 := n3_; clear n0_ n1_ n2_ n3_; clear ho hb hg hat)); try go_wp2_with (first | ((with_reducible refine gate_builtin (b := .append) (xs := #[.tmp 125, .tmp 130]) rfl ?_); at_builtin; refine Kd.R_append (Kd.int .i64) (w0 := w) w.heap.size rfl (.tmp 125) (.tmp 130) 26 2 (.int .i64 0) 8 rfl Try.underlying26 info2 rfl (by decide) (by omega) u12 x12_2 (rd x6_1 x14_2) [.int .i64 (rd x6_1 x14_2)] (fun k_ => some k_ ≠ (.slice (some ad959) x6_1.length co33 : Value).ownBlock) (fun _ => False) rfl rfl ?aP (fun _ hk => hk.elim) ?aF ?aO ?aB ?aS ?aL ?_; (case aP => exact rfl); (case aB => exact (zb0 HB.out)); (case aF => exact (fun k_ hk => Kd.fresh' (Kd.R_lt (zr HO_6.out)) k_ hk)); (case aO => exact (zr HO_12.out)); (case aS => exact (below_size (zb0 HB.out))); (case aL => have := LMc43.out; omega); intro v961 w44 ho hb hg hat; rw [← Ny960.out] at ho; have n0_ := Aside0.mk (Kd.R_after (ok := (fun _ => True)) (by (with_reducible repeat (first | apply Kd.R_alloc | apply Kd.R_drewN | apply Kd.R_drew)); exact Kd.R_mono HO_6.out (fun _ hk => ⟨trivial, hk⟩)) hg hat); have n1_ := Aside0.mk (blk_grown (g := g0) (o := .cells #[.int .i64 a0_0, .slice A0_1 l0_1.length c0_1] 31 (0, 0)) (zk BK934.out) hg (Kd.R_ne HO_12.out BK934.out (by decide))); have n2_ := Aside0.mk (hb); have n3_ := Aside0.mk (ho); clear HO_6; clear BK934; clear HB; clear HO_12; have HO_6 := n0_; have BK934 := n1_; have HB := n2_; have HO962 := n3_; clear n0_ n1_ n2_ n3_; clear ho hb hg hat)))
              go_roundg kj31
              case measure => have := HK1.out; have := HK2.out; have := HJ31.out; omega
              case rel => exact ⟨(y960), (x13_2), (wrap64 (x14_2 + 1)), zt, zt, H', ⟨by have := HK1.out; have := HK2.out; have := HJ31.out; omega⟩, ⟨by (with_reducible repeat (first | apply Kd.R_alloc | apply Kd.R_drewN | apply Kd.R_drew)); exact Kd.R_mono HO_6.out (fun _ hk => hk.2)⟩, ⟨zr HO962.out⟩, ⟨zk BK934.out⟩, ⟨zb0 HB.out⟩⟩
             ·rw [if_neg c43] at H
              exact absurd H (by simp)
            ·rw [if_neg c42] at H
             exact absurd H (by simp)
           ·rw [if_neg c41] at H
            exact absurd H (by simp)
          ·replace c40 := Bool.eq_false_iff.mpr c40
           subst c40
           rw [if_neg (show ¬ (false = true) by decide)] at H
           by_cases c45 : 0 ≤ x14_2
           ·rw [if_pos c45] at H
            have c45b0 : decide (0 ≤ x14_2) = true := decide_eq_true c45
            clear c45
            by_cases c46 : x14_2 < (x6_1.length : Int)
            ·rw [if_pos c46] at H
             have c46b0 : decide (x14_2 < (x6_1.length : Int)) = true := decide_eq_true c46
             clear c46
             by_cases c47 : (Go.bits .and .i64 (rd x6_1 x14_2) ji4) = 0
             ·rw [if_pos c47] at H
              have c47b0 : ((Go.bits .and .i64 (rd x6_1 x14_2) ji4) == 0) = true := beq_iff_eq.mpr c47
              have c47b1 : ((Go.bits .and .i64 (rd x6_1 x14_2) ji4) != 0) = false := bne_eq_false_iff_eq.mpr c47
              clear c47
              have H' := Aside0.mk H
              clear H
              have p963 : 0 ≤ (x14_2 : Int) := of_decide_eq_true zq
              have q963 : x14_2 < (x6_1.length : Int) := of_decide_eq_true zq
              obtain ⟨ad963, e963, hx963_0⟩ := Kd.at_int (Kd.R_reads' HO_6.out).2.2 x14_2 p963 q963
              cases e963
              replace p963 := eq_true p963
              replace q963 := eq_true q963
              go_wp2
              repeat (go_quiet (fail); try go_wp2)
              go_roundg kj31
              case measure => have := HK1.out; have := HK2.out; have := HJ31.out; omega
              case rel => exact ⟨(x12_2), (x13_2), (wrap64 (x14_2 + 1)), zt, zt, H', ⟨by have := HK1.out; have := HK2.out; have := HJ31.out; omega⟩, ⟨zr HO_6.out⟩, ⟨zr HO_12.out⟩, ⟨zk BK934.out⟩, ⟨zb0 HB.out⟩⟩
             ·rw [if_neg c47] at H
              have c47b0 : ((Go.bits .and .i64 (rd x6_1 x14_2) ji4) == 0) = false := beq_eq_false_iff_ne.mpr c47
              have c47b1 : ((Go.bits .and .i64 (rd x6_1 x14_2) ji4) != 0) = true := bne_iff_ne.mpr c47
              have H' := Aside0.mk H
              clear H
              have p963 : 0 ≤ (x14_2 : Int) := of_decide_eq_true zq
              have q963 : x14_2 < (x6_1.length : Int) := of_decide_eq_true zq
              obtain ⟨ad963, e963, hx963_0⟩ := Kd.at_int (Kd.R_reads' HO_6.out).2.2 x14_2 p963 q963
              cases e963
              replace p963 := eq_true p963
              replace q963 := eq_true q963
              go_wp2
              repeat (go_quiet (fail); try go_wp2)
              go_roundg kj31
              case measure => have := HK1.out; have := HK2.out; have := HJ31.out; omega
              case rel => exact ⟨(x12_2), (false), (wrap64 (x14_2 + 1)), zt, zt, H', ⟨by have := HK1.out; have := HK2.out; have := HJ31.out; omega⟩, ⟨zr HO_6.out⟩, ⟨zr HO_12.out⟩, ⟨zk BK934.out⟩, ⟨zb0 HB.out⟩⟩
            ·rw [if_neg c46] at H
             exact absurd H (by simp)
           ·rw [if_neg c45] at H
            exact absurd H (by simp)
       ·rw [if_neg c31] at H
        have c31b0 : decide (x14_2 < (x6_1.length : Int)) = false := decide_eq_false c31
        clear c31
        simp only [Option.some.injEq, Prod.mk.injEq] at H
        obtain ⟨rfl, rfl⟩ := H
        obtain ⟨Ao48, co48, eo48⟩ := Kd.R_slice HO_6.out
        subst eo48
        go_wp2
        repeat (go_quiet (fail); try go_wp2)
        go_ret2
        exact ⟨_, by first | rfl | (simp [errW_none, errW_some] <;> rfl) | (simp only [← hji2, ← hji4]; first | rfl | (simp [errW_none, errW_some] <;> rfl)) | (simp [*, errW_none, errW_some] <;> rfl), by (with_reducible repeat (first | apply Kd.R_alloc | apply Kd.R_drewN | apply Kd.R_drew)); exact Kd.R_mono HO_12.out (fun _ hk => trivial), zb0 HB.out⟩
 ·rw [if_neg c3] at H
  exact absurd H (by simp)
end Go.Proofs.Ytmbeijjkfmgkpaa.Q
