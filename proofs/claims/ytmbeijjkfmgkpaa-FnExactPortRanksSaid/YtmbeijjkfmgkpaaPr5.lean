/- For every family the law FnExactPortRanks returns true: the program's ranks of ports are the reference's, its argument stays as it was, and what it returns leads to no memory that the caller wrote; no condition. (5 of 6) Put together by a program of mine from texts of mine, from texts that the kit's print wrote for this claim and from the print's words; what is not reached is left out. -/
import Derived.Test.YtmbeijjkfmgkpaaPr4
set_option linter.unusedVariables false
set_option linter.unusedSimpArgs false
namespace Go.Proofs.Ytmbeijjkfmgkpaa.Pure
set_option linter.unusedVariables false
open Go.RowKit Go.Proofs.Ytmbeijjkfmgkpaa.Q Go.Proofs.YtmbeijjkfmgkpaaW.PrintWords Go.Proofs.YtmbeijjkfmgkpaaW.PrintLast
namespace Ex
def opOk (x y : Nat) : Bool := Go.bits .or .i64 (x : Int) (y : Int) == bo x y && Go.bits .and .i64 (x : Int) (y : Int) == ba x y && Go.bits .andNot .i64 (x : Int) (y : Int) == bn x y && bo x y == ((x ||| y : Nat) : Int) && ba x y == ((x &&& y : Nat) : Int) && decide (0 ≤ bn x y) && decide (bn x y < 128) && (!(ba x y == (y : Int)) || (bn x y == 0) == (x == y))
theorem opAll : (List.range 128).all (fun x => (List.range 128).all fun y => opOk x y) = true := by decide +kernel
structure Op2 (x y : Int) : Prop where
  or64 : Go.bits .or .i64 x y = bo x y
  and64 : Go.bits .and .i64 x y = ba x y
  not64 : Go.bits .andNot .i64 x y = bn x y
  or : bo x y = ((x.toNat ||| y.toNat : Nat) : Int)
  and : ba x y = ((x.toNat &&& y.toNat : Nat) : Int)
  rn : R7 (bn x y)
  zero : ba x y = y → (bn x y = 0 ↔ x = y)
theorem op2 {x y : Int} (hx : R7 x) (hy : R7 y) : Op2 x y := by
  obtain ⟨a, rfl⟩ := Int.eq_ofNat_of_zero_le hx.1
  obtain ⟨b, rfl⟩ := Int.eq_ofNat_of_zero_le hy.1
  have ha := hx.2
  have hb := hy.2
  have h := List.all_eq_true.1 (List.all_eq_true.1 opAll a (List.mem_range.2 (by omega))) b (List.mem_range.2 (by omega))
  unfold opOk at h
  simp only [Bool.and_eq_true, beq_iff_eq, decide_eq_true_eq, Bool.or_eq_true, Bool.not_eq_true'] at h
  obtain ⟨⟨⟨⟨⟨⟨⟨h1, h2⟩, h3⟩, h4⟩, h5⟩, h6⟩, h7⟩, h8⟩ := h
  refine ⟨h1, h2, h3, h4, h5, ⟨h6, h7⟩, fun e => ?_⟩
  rcases h8 with h8 | h8
  · rw [beq_eq_false_iff_ne] at h8; exact absurd e h8
  · rw [Bool.eq_iff_iff, beq_iff_eq, beq_iff_eq] at h8
    rw [h8]
    exact ⟨fun h => congrArg _ h, fun h => by omega⟩
theorem ror {x y : Int} (hx : R7 x) (hy : R7 y) : R7 (bo x y) := by
  rw [(op2 hx hy).or]
  have : x.toNat ||| y.toNat < 2 ^ 7 := Nat.or_lt_two_pow (by have := hx.2; have := hx.1; omega) (by have := hy.2; have := hy.1; omega)
  exact ⟨Int.natCast_nonneg _, by omega⟩
theorem rand {x y : Int} (hx : R7 x) (hy : R7 y) : R7 (ba x y) := by
  rw [(op2 hx hy).and]
  have : x.toNat &&& y.toNat ≤ x.toNat := Nat.and_le_left
  have := hx.2
  have := hx.1
  exact ⟨Int.natCast_nonneg _, by omega⟩
theorem band_comm {x y : Int} (hx : R7 x) (hy : R7 y) : ba x y = ba y x := by
  rw [(op2 hx hy).and, (op2 hy hx).and, Nat.and_comm]
theorem band_assoc {x y z : Int} (hx : R7 x) (hy : R7 y) (hz : R7 z) : ba x (ba y z) = ba (ba x y) z := by
  rw [(op2 hx (rand hy hz)).and, (op2 (rand hx hy) hz).and, (op2 hy hz).and, (op2 hx hy).and]
  simp only [Int.toNat_natCast]
  rw [Nat.and_assoc]
theorem band_self {x : Int} (hx : R7 x) : ba x x = x := by
  rw [(op2 hx hx).and, Nat.and_self, Int.toNat_of_nonneg hx.1]
theorem com_ok (L : List Int) (hL : ∀ c ∈ L, R7 c) (u : Int) (hu : R7 u) : ∀ x, R7 x → ba u x = x → R7 (com L u x) ∧ ba u (com L u x) = com L u x := by
  induction L with
  | nil => intro x hx h; exact ⟨hx, h⟩
  | cons c L ih =>
    intro x hx h
    have hc := hL c (by simp)
    have e : com (c :: L) u x = com L u (if ba u c == c then ba x c else x) := rfl
    rw [e]
    refine ih (fun d hd => hL d (by simp [hd])) _ ?_ ?_
    · split
      · exact rand hx hc
      · exact hx
    · split
      · rw [band_assoc hu hx hc, h]
      · exact h
def Srt (l : List Int) : Prop := l.Pairwise (· < ·) ∧ ∀ y ∈ l, R7 y
theorem pw_len : ∀ (l : List Int) (lo hi : Int), l.Pairwise (· < ·) → (∀ y ∈ l, lo ≤ y ∧ y < hi) → l.length ≤ (hi - lo).toNat := by
  intro l
  induction l with
  | nil => intro lo hi _ _; simp
  | cons x l ih =>
    intro lo hi hp hb
    rw [List.pairwise_cons] at hp
    have hx := hb x (by simp)
    have := ih (x + 1) hi hp.2 (fun y hy => ⟨by have := hp.1 y hy; omega, (hb y (by simp [hy])).2⟩)
    rw [List.length_cons]
    omega
theorem Srt.len {l : List Int} (h : Srt l) : l.length ≤ 128 := by
  have := pw_len l 0 128 h.1 (fun y hy => h.2 y hy)
  simpa using this
def ins (x : Int) : List Int → List Int
  | [] => [x]
  | y :: l => if y ≥ x then (if y > x then x :: y :: l else y :: l) else y :: ins x l
theorem mem_ins (x y : Int) : ∀ l, y ∈ ins x l ↔ y = x ∨ y ∈ l := by
  intro l
  induction l with
  | nil => simp [ins]
  | cons z l ih =>
    unfold ins
    split
    · split
      · simp
      · have : z = x := by omega
        subst this
        simp
    · simp only [List.mem_cons, ih]
      constructor
      · rintro (h | h | h)
        · exact .inr (.inl h)
        · exact .inl h
        · exact .inr (.inr h)
      · rintro (h | h | h)
        · exact .inr (.inl h)
        · exact .inl h
        · exact .inr (.inr h)
theorem srt_ins {x : Int} {l : List Int} (hx : R7 x) (h : Srt l) : Srt (ins x l) := by
  refine ⟨?_, fun y hy => by rcases (mem_ins x y l).1 hy with rfl | hy; exact hx; exact h.2 y hy⟩
  have hp := h.1
  clear h
  induction l with
  | nil => simp [ins]
  | cons z l ih =>
    rw [List.pairwise_cons] at hp
    unfold ins
    split
    · split
      · rename_i h1 h2
        rw [List.pairwise_cons, List.pairwise_cons]
        refine ⟨fun y hy => ?_, hp⟩
        rcases List.mem_cons.1 hy with rfl | hy
        · exact h2
        · have := hp.1 y hy; omega
      · rw [List.pairwise_cons]; exact hp
    · rename_i h1
      rw [List.pairwise_cons]
      refine ⟨fun y hy => ?_, ih hp.2⟩
      rcases (mem_ins x y l).1 hy with rfl | hy
      · omega
      · exact hp.1 y hy
theorem put_done (l : List Int) (hl : l.length < 1000000) (x : Int) : ∀ (d i : Nat), i + d = l.length → ∀ x5 : List Int, x5.length + d < 10000000 → ∀ k, 2 * d < k → spec_l00Put.l0 k l x x5 true i = some (x5 ++ l.drop i) := by
  intro d
  induction d with
  | zero =>
    intro i hi x5 h5 k hk
    obtain ⟨k, rfl⟩ : ∃ m, k = m + 1 := ⟨k - 1, by omega⟩
    unfold spec_l00Put.l0
    rw [if_neg (by omega), if_pos rfl, List.drop_eq_nil_of_le (by omega), List.append_nil]
  | succ d ih =>
    intro i hi x5 h5 k hk
    obtain ⟨k, rfl⟩ : ∃ m, k = m + 2 := ⟨k - 2, by omega⟩
    have hil : i < l.length := by omega
    have step : spec_l00Put.l0 (k + 2) l x x5 true i = spec_l00Put.l0 k l x (x5 ++ [l[i]]) true ((i + 1 : Nat) : Int) := by
      conv => lhs; unfold spec_l00Put.l0
      rw [if_pos (by omega), if_pos rfl]
      conv => lhs; unfold spec_l00Put.j1
      rw [if_neg (by simp), if_pos (by omega), if_pos (by omega), if_pos (by omega), rd_at hil, wr i (by omega)]
    rw [step, ih (i + 1) (by omega) _ (by simp; omega) k (by omega), List.drop_eq_getElem_cons hil, List.append_assoc]
    rfl
theorem put_l0 (l : List Int) (hl : l.length < 1000000) (x : Int) : ∀ (d i : Nat), i + d = l.length → ∀ x5 : List Int, x5.length + d + 2 < 10000000 → ∀ k, 2 * d < k → spec_l00Put.l0 k l x x5 false i = some (x5 ++ ins x (l.drop i)) := by
 intro d
 induction d with
 | zero =>
  intro i hi x5 h5 k hk
  obtain ⟨k, rfl⟩ : ∃ m, k = m + 1 := ⟨k - 1, by omega⟩
  unfold spec_l00Put.l0
  rw [if_neg (by omega), if_neg (by simp), if_pos (by omega), List.drop_eq_nil_of_le (by omega)]
  rfl
 | succ d ih =>
  intro i hi x5 h5 k hk
  obtain ⟨k, rfl⟩ : ∃ m, k = m + 2 := ⟨k - 2, by omega⟩
  have hil : i < l.length := by omega
  have step : spec_l00Put.l0 (k + 2) l x x5 false i = if l[i] ≥ x then (if l[i] > x then spec_l00Put.l0 k l x (x5 ++ [x] ++ [l[i]]) true ((i + 1 : Nat) : Int) else spec_l00Put.l0 k l x (x5 ++ [l[i]]) true ((i + 1 : Nat) : Int)) else spec_l00Put.l0 k l x (x5 ++ [l[i]]) false ((i + 1 : Nat) : Int) := by
   conv => lhs; unfold spec_l00Put.l0
   rw [if_pos (by omega), if_neg (by simp), if_pos (by omega), rd_at hil]
   conv => lhs; unfold spec_l00Put.j1
   by_cases c : l[i] ≥ x
   ·rw [if_pos (decide_eq_true c), if_pos (by omega), if_pos (by omega), rd_at hil, if_pos c, wr i (by omega)]
    by_cases c2 : l[i] > x
    ·rw [if_pos c2, if_pos c2, if_pos (by omega), Option.bind_some, if_pos (by simp; omega)]
    ·rw [if_neg c2, if_neg c2, if_pos (by omega)]
   ·rw [if_neg (by rw [decide_eq_false c]; simp), if_pos (by omega), if_pos (by omega), if_pos (by omega), rd_at hil, if_neg c, wr i (by omega)]
  rw [step, List.drop_eq_getElem_cons hil]
  unfold ins
  by_cases c : l[i] ≥ x
  ·rw [if_pos c, if_pos c]
   by_cases c2 : l[i] > x
   ·rw [if_pos c2, if_pos c2, put_done l hl x d (i + 1) (by omega) _ (by simp; omega) k (by omega)]
    simp
   ·rw [if_neg c2, if_neg c2, put_done l hl x d (i + 1) (by omega) _ (by simp; omega) k (by omega)]
    simp
  ·rw [if_neg c, if_neg c, ih (i + 1) (by omega) _ (by simp; omega) k (by omega)]
   simp
theorem put_f (l : List Int) (h : Srt l) (x : Int) (k : Nat) (hk : 300 ≤ k) : spec_l00Put.f k l x = some (ins x l) := by
  have hl := h.len
  unfold spec_l00Put.f
  have := put_l0 l (by omega) x l.length 0 (by omega) [] (by simp; omega) k (by omega)
  rw [show ((0 : Nat) : Int) = 0 from rfl] at this
  rw [this]
  simp
theorem n_l0 (n : Int) (gs : List (List Int)) (hl : gs.length < 10000000) (h7 : ∀ t, t < gs.length → G gs t ∈ lists 7) : ∀ (d i : Nat), i + d = gs.length → ∀ k, d + 25 ≤ k →
    spec_l07Numbers.l0 k gs ((gs.take i).map maskOf) i = some (gs.map maskOf) := by
  intro d
  induction d with
  | zero =>
    intro i hi k hk
    obtain ⟨k, rfl⟩ : ∃ m, k = m + 1 := ⟨k - 1, by omega⟩
    unfold spec_l07Numbers.l0
    rw [if_neg (by omega), List.take_of_length_le (by omega)]
  | succ d ih =>
    intro i hi k hk
    obtain ⟨k, rfl⟩ : ∃ m, k = m + 1 := ⟨k - 1, by omega⟩
    have hil : i < gs.length := by omega
    have e1 := (crowd7 (G gs i) (h7 i hil) k (by omega)).2.1
    have ht : ((gs.take i).map maskOf) ++ [maskOf (G gs i)] = (gs.take (i + 1)).map maskOf := by
      rw [List.take_succ_eq_append_getElem hil, List.map_append, G, rdL_at hil]; rfl
    unfold spec_l07Numbers.l0
    rw [if_pos (by omega), if_pos (by omega), show rd_L1 gs (i : Int) = G gs i from rfl, e1, Option.bind_some, if_pos (by rw [List.length_map, List.length_take]; omega), ht, wr i (by omega)]
    exact ih (i + 1) (by omega) k (by omega)
theorem numbers_f (gs : List (List Int)) (hl : gs.length < 10000000) (h7 : ∀ t, t < gs.length → G gs t ∈ lists 7) (k : Nat) (hk : gs.length + 25 ≤ k) : spec_l07Numbers.f k gs = some (gs.map maskOf) := by
  unfold spec_l07Numbers.f
  have := n_l0 0 gs hl h7 gs.length 0 (by omega) k hk
  rw [show ((0 : Nat) : Int) = 0 from rfl, List.take_zero, List.map_nil] at this
  exact this
theorem rd_mem {M : List Int} {t : Nat} (h : t < M.length) : rd M (t : Int) ∈ M := by rw [rd_at h]; exact List.getElem_mem _
theorem s_l2 (s : Int) (M : List Int) (hl : M.length < 2000000) (hM : ∀ c ∈ M, R7 c) (x6 : List Int) (h6 : Srt x6) (i j : Nat) (hj : j < 2000000) (u : Int) (hu : R7 u) (R : Nat) : ∀ (d t : Nat), t + d = M.length → ∀ x, R7 x → ba u x = x → ∀ k, d + 300 + R < k →
  ∃ k', R ≤ k' ∧ spec_l07Circuits.l2 k s M x6 i j u x t = spec_l07Circuits.l1 k' s M (if u = com (M.drop t) u x then x6 else ins (bn u (com (M.drop t) u x)) x6) i ((j + 1 : Nat) : Int) := by
 intro d
 induction d with
 | zero =>
  intro t ht x hx hux k hk
  obtain ⟨k, rfl⟩ : ∃ m, k = m + 1 := ⟨k - 1, by omega⟩
  refine ⟨k, by omega, ?_⟩
  conv => lhs; unfold spec_l07Circuits.l2
  rw [if_neg (by omega), List.drop_eq_nil_of_le (by omega), wr j (by omega)]
  have hc : com [] u x = x := rfl
  rw [hc]
  by_cases c : u = x
  ·rw [if_pos c, if_pos c]
  ·rw [if_neg c, if_neg c, (op2 hu hx).not64, put_f x6 h6 _ k (by omega), Option.bind_some]
 | succ d ih =>
  intro t ht x hx hux k hk
  obtain ⟨k, rfl⟩ : ∃ m, k = m + 1 := ⟨k - 1, by omega⟩
  have htl : t < M.length := by omega
  have hm := hM _ (rd_mem htl)
  have hc : com (M.drop t) u x = com (M.drop (t + 1)) u (if ba u (rd M (t : Int)) == rd M (t : Int) then ba x (rd M (t : Int)) else x) := by
   rw [List.drop_eq_getElem_cons htl, rd_at htl]; rfl
  have step : spec_l07Circuits.l2 (k + 1) s M x6 i j u x t = spec_l07Circuits.l2 k s M x6 i j u (if ba u (rd M (t : Int)) == rd M (t : Int) then ba x (rd M (t : Int)) else x) ((t + 1 : Nat) : Int) := by
   conv => lhs; unfold spec_l07Circuits.l2
   rw [if_pos (by omega), if_pos (by omega), wr t (by omega), (op2 hm hu).and64, band_comm hm hu, (op2 hx hm).and64]
   by_cases c : ba u (rd M (t : Int)) = rd M (t : Int)
   ·rw [if_pos c, if_pos (beq_iff_eq.2 c)]
   ·rw [if_neg c, if_neg (by rw [beq_iff_eq]; exact c)]
  rw [step, hc]
  refine ih (t + 1) (by omega) _ ?_ ?_ k (by omega)
  ·split
   ·exact rand hx hm
   ·exact hx
  ·split
   ·rw [band_assoc hu hx hm, hux]
   ·exact hux
theorem s_l1 (s : Int) (M : List Int) (hl : M.length < 2000000) (hM : ∀ c ∈ M, R7 c) (i : Nat) (hi : i < M.length) (R : Nat) : ∀ (d j : Nat), j + d = i → ∃ K, ∀ x6, Srt x6 → ∀ k, K ≤ k →
  ∃ k' X, R ≤ k' ∧ Srt X ∧ (∀ y, y ∈ X ↔ y ∈ x6 ∨ (y ≠ 0 ∧ y ∈ ((M.take i).drop j).map (dif M (rd M (i : Int))))) ∧ spec_l07Circuits.l1 k s M x6 i j = spec_l07Circuits.l0 k' s M X ((i + 1 : Nat) : Int) := by
 have hti : (M.take i).length = i := by rw [List.length_take]; omega
 intro d
 induction d with
 | zero =>
  intro j hj
  refine ⟨R + 1, fun x6 h6 k hk => ?_⟩
  obtain ⟨k, rfl⟩ : ∃ m, k = m + 1 := ⟨k - 1, by omega⟩
  refine ⟨k, x6, by omega, h6, fun y => by rw [List.drop_eq_nil_of_le (by omega)]; simp, ?_⟩
  conv => lhs; unfold spec_l07Circuits.l1
  rw [if_neg (by omega), wr i (by omega)]
 | succ d ih =>
  intro j hj
  obtain ⟨K, hK⟩ := ih (j + 1) (by omega)
  refine ⟨K + M.length + 310, fun x6 h6 k hk => ?_⟩
  obtain ⟨k, rfl⟩ : ∃ m, k = m + 1 := ⟨k - 1, by omega⟩
  have hjl : j < (M.take i).length := by omega
  have ha := hM _ (rd_mem hi)
  have hb := hM _ (rd_mem (show j < M.length by omega))
  have hu := ror ha hb
  obtain ⟨k2, hk2, e2⟩ := s_l2 s M hl hM x6 h6 i j (by omega) (bo (rd M (i : Int)) (rd M (j : Int))) hu K M.length 0 (by omega) _ hu (band_self hu) k (by omega)
  rw [show ((0 : Nat) : Int) = 0 from rfl, List.drop_zero] at e2
  have hcom := com_ok M hM _ hu _ hu (band_self hu)
  have hz := (op2 hu hcom.1).zero hcom.2
  have hX : Srt (if bo (rd M (i : Int)) (rd M (j : Int)) = com M (bo (rd M (i : Int)) (rd M (j : Int))) (bo (rd M (i : Int)) (rd M (j : Int))) then x6 else ins (bn (bo (rd M (i : Int)) (rd M (j : Int))) (com M (bo (rd M (i : Int)) (rd M (j : Int))) (bo (rd M (i : Int)) (rd M (j : Int))))) x6) := by
   split
   ·exact h6
   ·exact srt_ins (op2 hu hcom.1).rn h6
  obtain ⟨k', X, hk', hXs, hXm, e⟩ := hK _ hX k2 hk2
  refine ⟨k', X, hk', hXs, fun y => ?_, ?_⟩
  ·rw [hXm, List.drop_eq_getElem_cons hjl, List.map_cons, List.mem_cons]
   have hdj : dif M (rd M (i : Int)) ((M.take i)[j]) = dif M (rd M (i : Int)) (rd M (j : Int)) := by rw [← rd_at hjl, rd_take M i j (by omega)]
   rw [hdj]
   have hd : dif M (rd M (i : Int)) (rd M (j : Int)) = bn (bo (rd M (i : Int)) (rd M (j : Int))) (com M (bo (rd M (i : Int)) (rd M (j : Int))) (bo (rd M (i : Int)) (rd M (j : Int)))) := rfl
   rw [← hd] at hz ⊢
   by_cases c : bo (rd M (i : Int)) (rd M (j : Int)) = com M (bo (rd M (i : Int)) (rd M (j : Int))) (bo (rd M (i : Int)) (rd M (j : Int)))
   ·rw [if_pos c]
    have h0 := hz.2 c
    constructor
    ·rintro (h | ⟨h1, h2⟩)
     ·exact .inl h
     ·exact .inr ⟨h1, .inr h2⟩
    ·rintro (h | ⟨h1, h2 | h2⟩)
     ·exact .inl h
     ·exact absurd (h2.trans h0) h1
     ·exact .inr ⟨h1, h2⟩
   ·rw [if_neg c, mem_ins]
    have h0 : dif M (rd M (i : Int)) (rd M (j : Int)) ≠ 0 := fun h => c (hz.1 h)
    constructor
    ·rintro ((h | h) | ⟨h1, h2⟩)
     ·exact .inr ⟨by rw [h]; exact h0, .inl h⟩
     ·exact .inl h
     ·exact .inr ⟨h1, .inr h2⟩
    ·rintro (h | ⟨h1, h2 | h2⟩)
     ·exact .inl (.inr h)
     ·exact .inl (.inl h2)
     ·exact .inr ⟨h1, h2⟩
  ·conv => lhs; unfold spec_l07Circuits.l1
   rw [if_pos (by omega), if_pos (by omega), if_pos (by omega), if_pos (by omega), if_pos (by omega), (op2 ha hb).or64, e2, e]
theorem s_l0 (s : Int) (hs : R7 s) (M : List Int) (hl : M.length < 2000000) (hM : ∀ c ∈ M, R7 c) (hb0 : ∀ c ∈ M, bo c s ≠ 0) (R : Nat) : ∀ (d i : Nat), i + d = M.length → ∃ K, ∀ x6, Srt x6 → ∀ k, K ≤ k →
    ∃ k' X, R ≤ k' ∧ Srt X ∧ (∀ y, y ∈ X ↔ y ∈ x6 ∨ (y ≠ 0 ∧ y ∈ allOf M s i d)) ∧ spec_l07Circuits.l0 k s M x6 i = spec_l07Circuits.l3 k' s X [] true 0 := by
  intro d
  induction d with
  | zero =>
    intro i hi
    refine ⟨R + 1, fun x6 h6 k hk => ?_⟩
    obtain ⟨k, rfl⟩ : ∃ m, k = m + 1 := ⟨k - 1, by omega⟩
    refine ⟨k, x6, by omega, h6, fun y => by simp [allOf], ?_⟩
    conv => lhs; unfold spec_l07Circuits.l0
    rw [if_neg (by omega)]
  | succ d ih =>
    intro i hi
    have hil : i < M.length := by omega
    obtain ⟨K, hK⟩ := ih (i + 1) (by omega)
    obtain ⟨K1, hK1⟩ := s_l1 s M hl hM i hil K i 0 (by omega)
    refine ⟨K1 + 310, fun x6 h6 k hk => ?_⟩
    obtain ⟨k, rfl⟩ : ∃ m, k = m + 1 := ⟨k - 1, by omega⟩
    have ha := hM _ (rd_mem hil)
    obtain ⟨k1, X1, hk1, hS1, hm1, e1⟩ := hK1 (ins (bo (rd M (i : Int)) s) x6) (srt_ins (ror ha hs) h6) k (by omega)
    obtain ⟨k', X, hk', hS, hm, e⟩ := hK X1 hS1 k1 hk1
    refine ⟨k', X, hk', hS, fun y => ?_, ?_⟩
    · rw [hm, hm1, mem_ins, List.drop_zero]
      simp only [allOf, List.mem_append, List.mem_cons]
      have h0 := hb0 _ (rd_mem hil)
      constructor
      · rintro (((h | h) | ⟨h1, h2⟩) | ⟨h1, h2⟩)
        · exact .inr ⟨by rw [h]; exact h0, .inl (.inl h)⟩
        · exact .inl h
        · exact .inr ⟨h1, .inl (.inr h2)⟩
        · exact .inr ⟨h1, .inr h2⟩
      · rintro (h | ⟨h1, (h2 | h2) | h2⟩)
        · exact .inl (.inl (.inr h))
        · exact .inl (.inl (.inl h2))
        · exact .inl (.inr ⟨h1, h2⟩)
        · exact .inr ⟨h1, h2⟩
    · conv => lhs; unfold spec_l07Circuits.l0
      rw [show ((0 : Nat) : Int) = 0 from rfl] at e1
      rw [if_pos (by omega), if_pos (by omega), (op2 ha hs).or64, put_f x6 h6 _ k (by omega), Option.bind_some, e1, e]
def MX (X : List Int) (c : Int) : Bool := X.all fun d => d == c || (Go.bits .and .i64 d c != d)
theorem s_l4 (s : Int) (X : List Int) (hX : Srt X) (o : List Int) (w : Bool) (i : Nat) (hi : i < X.length) (R : Nat) : ∀ (d j : Nat), j + d = X.length → ∀ k, d + R + 3 < k →
  ∃ k' b, R ≤ k' ∧ spec_l07Circuits.l4 k s X o w i true j = spec_l07Circuits.j5 k' s X o w i b ∧ (b = true ↔ ∀ t, j ≤ t → t < X.length → t ≠ i → Go.bits .and .i64 (rd X (t : Int)) (rd X (i : Int)) ≠ rd X (t : Int)) := by
 have hl := hX.len
 intro d
 induction d with
 | zero =>
  intro j hj k hk
  obtain ⟨k, rfl⟩ : ∃ m, k = m + 1 := ⟨k - 1, by omega⟩
  refine ⟨k, true, by omega, ?_, by simp; intro t h1 h2; omega⟩
  conv => lhs; unfold spec_l07Circuits.l4
  rw [if_neg (by omega)]
 | succ d ih =>
  intro j hj k hk
  obtain ⟨k, rfl⟩ : ∃ m, k = m + 1 := ⟨k - 1, by omega⟩
  have hjl : j < X.length := by omega
  obtain ⟨k', b, hk', e, hb⟩ := ih (j + 1) (by omega) k (by omega)
  rw [all_step (P := fun t => t ≠ i → Go.bits .and .i64 (rd X (t : Int)) (rd X (i : Int)) ≠ rd X (t : Int)) hjl]
  by_cases c : j = i
  ·refine ⟨k', b, hk', ?_, by rw [hb]; exact ⟨fun h => ⟨fun h1 => absurd c h1, h⟩, fun h => h.2⟩⟩
   conv => lhs; unfold spec_l07Circuits.l4
   rw [if_pos (by omega), if_pos rfl, if_pos (by omega), wr j (by omega), e]
  ·have step : spec_l07Circuits.l4 (k + 1) s X o w i true j = spec_l07Circuits.l4 k s X o w i (Go.bits .and .i64 (rd X (j : Int)) (rd X (i : Int)) != rd X (j : Int)) ((j + 1 : Nat) : Int) := by
    conv => lhs; unfold spec_l07Circuits.l4
    rw [if_pos (by omega), if_pos rfl, if_neg (by omega), if_pos (by omega), if_pos (by omega), if_pos (by omega), wr j (by omega)]
   rw [step]
   by_cases c2 : Go.bits .and .i64 (rd X (j : Int)) (rd X (i : Int)) = rd X (j : Int)
   ·rw [bne_eq_false_iff_eq.2 c2]
    obtain ⟨k, rfl⟩ : ∃ m, k = m + 1 := ⟨k - 1, by omega⟩
    refine ⟨k, false, by omega, ?_, by simp only [Bool.false_eq_true, false_iff]; rintro ⟨h, _⟩; exact h c c2⟩
    conv => lhs; unfold spec_l07Circuits.l4
    by_cases c3 : ((j + 1 : Nat) : Int) < (X.length : Int)
    ·rw [if_pos c3, if_neg (by simp)]
    ·rw [if_neg c3]
   ·rw [bne_iff_ne.2 c2]
    exact ⟨k', b, hk', e, by rw [hb]; exact ⟨fun h => ⟨fun _ => c2, h⟩, fun h => h.2⟩⟩
theorem pw_ne {X : List Int} (h : X.Pairwise (· < ·)) {a b : Nat} (ha : a < X.length) (hb : b < X.length) (hab : a ≠ b) : X[a] ≠ X[b] := by
  rw [List.pairwise_iff_getElem] at h
  rcases Nat.lt_or_gt_of_ne hab with c | c
  · have := h a b ha hb c; omega
  · have := h b a hb ha c; omega
theorem s_l3 (s : Int) (X : List Int) (hX : Srt X) : ∀ (d i : Nat), i + d = X.length → ∃ K, ∀ (o : List Int) (w : Bool), o.length ≤ i → ∀ k, K ≤ k →
  spec_l07Circuits.l3 k s X o w i = some (o ++ (X.drop i).filter (MX X), w && (X.drop i).all fun c => MX X c || (Go.bits .and .i64 c s == 0)) := by
 have hl := hX.len
 intro d
 induction d with
 | zero =>
  intro i hi
  refine ⟨1, fun o w ho k hk => ?_⟩
  obtain ⟨k, rfl⟩ : ∃ m, k = m + 1 := ⟨k - 1, by omega⟩
  unfold spec_l07Circuits.l3
  rw [if_neg (by omega), List.drop_eq_nil_of_le (by omega)]
  simp
 | succ d ih =>
  intro i hi
  have hil : i < X.length := by omega
  obtain ⟨K, hK⟩ := ih (i + 1) (by omega)
  refine ⟨K + X.length + 10, fun o w ho k hk => ?_⟩
  obtain ⟨k, rfl⟩ : ∃ m, k = m + 1 := ⟨k - 1, by omega⟩
  obtain ⟨k', b, hk', e, hb⟩ := s_l4 s X hX o w i hil (K + 1) X.length 0 (by omega) k (by omega)
  rw [show ((0 : Nat) : Int) = 0 from rfl] at e
  have hbM : b = MX X X[i] := by
   rw [Bool.eq_iff_iff, hb]
   unfold MX
   rw [List.all_eq_true]
   constructor
   ·intro h x hx
    obtain ⟨t, ht, rfl⟩ := List.getElem_of_mem hx
    by_cases c : t = i
    ·subst c; simp
    ·have := h t (by omega) ht c
     rw [rd_at ht, rd_at hil] at this
     rw [bne_iff_ne.2 this]; simp
   ·intro h t _ ht hne
    have := h X[t] (List.getElem_mem _)
    rw [rd_at ht, rd_at hil]
    simp only [Bool.or_eq_true, beq_iff_eq, bne_iff_ne] at this
    rcases this with h1 | h1
    ·exact absurd h1 (pw_ne hX.1 ht hil hne)
    ·exact h1
  conv => lhs; unfold spec_l07Circuits.l3
  rw [if_pos (by omega), e]
  obtain ⟨k', rfl⟩ : ∃ m, k' = m + 1 := ⟨k' - 1, by omega⟩
  conv => lhs; unfold spec_l07Circuits.j5
  rw [List.drop_eq_getElem_cons hil, List.filter_cons, List.all_cons, ← hbM]
  by_cases c : b = true
  ·rw [if_pos c, if_pos (by omega), if_pos (by omega), if_pos (by omega), wr i (by omega), hK _ w (by simp; omega) k' (by omega), rd_at hil, c]
   simp
  ·rw [if_neg c, if_pos (by omega), if_pos (by omega), wr i (by omega), rd_at hil]
   have cf : b = false := by simpa using c
   rw [cf]
   by_cases c2 : Go.bits .and .i64 X[i] s = 0
   ·rw [if_pos c2, hK o w (by omega) k' (by omega), c2]
    simp
   ·rw [if_neg c2, hK o false (by omega) k' (by omega), beq_eq_false_iff_ne.2 c2]
    simp
end Ex
end Go.Proofs.Ytmbeijjkfmgkpaa.Pure
namespace Go.Proofs.Ytmbeijjkfmgkpaa.Q
open Go.RowKit Go.Proofs.YtmbeijjkfmgkpaaW.PrintWords Go.Proofs.YtmbeijjkfmgkpaaW.PrintLast Go.Proofs.YtmbeijjkfmgkpaaW.PrintMore
attribute [local go_sem] max2_int min2_int max_two min_two max_three min_three max_four min_four
set_option linter.unusedVariables false
set_option linter.unusedSimpArgs false
mutual
def impl_Family_isPort.l0 : Nat → List Int → List (List Int) → Int → Int → Int → List (List Int) → Option (Bool)
 | 0, _, _, _, _, _, _ => none
 | k + 1, x3, x16, x17, x18, x720000, x720001 => if x18 < x17 then (if 0 ≤ x18 then (if x18 < (x16.length : Int) then ((impl_crowdOf.f k (rd_L1 x16 x18)).bind fun t724 => (if 0 ≤ x720000 then ((impl_crowd_144.f k x3 (Go.bits .or .u64 t724 (shl .u64 1 x720000))).bind fun t725 => (if t725 = true then (impl_Family_isPort.l0 k x3 x16 x17 (wrap64 (x18 + 1)) x720000 x720001) else (some false))) else (none))) else (none)) else (none)) else (impl_Family_isPort.l1 k x3 x3 (x3.length : Int) 0)
def impl_Family_isPort.l1 : Nat → List Int → List Int → Int → Int → Option (Bool)
 | 0, _, _, _, _ => none
 | k + 1, x3, x32, x33, x34 => if x34 < x33 then (if 0 ≤ x34 then (if x34 < (x32.length : Int) then (if x34 ≤ (x3.length : Int) then ((some (x3.take (x34 : Int).toNat : List Int)).bind fun y727 => (impl_Family_isPort.l2 k x3 (rd x32 x34) x32 x33 x34 y727 (y727.length : Int) 0)) else (none)) else (none)) else (none)) else (some true)
def impl_Family_isPort.l2 : Nat → List Int → Int → List Int → Int → Int → List Int → Int → Int → Option (Bool)
 | 0, _, _, _, _, _, _, _, _ => none
 | k + 1, x3, x7, x32, x33, x34, x41, x42, x43 => if x43 < x42 then (if 0 ≤ x43 then (if x43 < (x41.length : Int) then ((impl_crowd_group.f k (Go.bits .and .u64 x7 (rd x41 x43))).bind fun t732 => (impl_Family_isPort.l3 k x3 x7 (rd x41 x43) x32 x33 x34 x41 x42 x43 t732 (t732.length : Int) 0)) else (none)) else (none)) else (impl_Family_isPort.l1 k x3 x32 x33 (wrap64 (x34 + 1)))
def impl_Family_isPort.l3 : Nat → List Int → Int → Int → List Int → Int → Int → List Int → Int → Int → List Int → Int → Int → Option (Bool)
 | 0, _, _, _, _, _, _, _, _, _, _, _, _ => none
 | k + 1, x3, x7, x9, x32, x33, x34, x41, x42, x43, x50, x51, x52 => if x52 < x51 then (if 0 ≤ x52 then (if x52 < (x50.length : Int) then (if 0 ≤ (rd x50 x52) then ((anyIn.f k x3 (Go.bits .andNot .u64 (Go.bits .or .u64 x7 x9) (shl .u64 1 (rd x50 x52)))).bind fun t736 => (if t736 = true then (impl_Family_isPort.l3 k x3 x7 x9 x32 x33 x34 x41 x42 x43 x50 x51 (wrap64 (x52 + 1))) else (some false))) else (none)) else (none)) else (none)) else (impl_Family_isPort.l2 k x3 x7 x32 x33 x34 x41 x42 (wrap64 (x43 + 1)))
end
def impl_Family_isPort.f (k : Nat) (a0_0 : Int) (l0_1 : List (List Int)) : Option (Bool) := (impl_Family_circuits.f k a0_0 l0_1).bind fun t720 => (impl_Family_isPort.l0 k t720 l0_1 (l0_1.length : Int) 0 a0_0 l0_1)
theorem impl_Family_isPort.mono_l : ∀ k, (∀ y0 y1 y2 y3 y4 y5, LeO (impl_Family_isPort.l0 k y0 y1 y2 y3 y4 y5) (impl_Family_isPort.l0 (k + 1) y0 y1 y2 y3 y4 y5)) ∧ (∀ y0 y1 y2 y3, LeO (impl_Family_isPort.l1 k y0 y1 y2 y3) (impl_Family_isPort.l1 (k + 1) y0 y1 y2 y3)) ∧ (∀ y0 y1 y2 y3 y4 y5 y6 y7, LeO (impl_Family_isPort.l2 k y0 y1 y2 y3 y4 y5 y6 y7) (impl_Family_isPort.l2 (k + 1) y0 y1 y2 y3 y4 y5 y6 y7)) ∧ (∀ y0 y1 y2 y3 y4 y5 y6 y7 y8 y9 y10 y11, LeO (impl_Family_isPort.l3 k y0 y1 y2 y3 y4 y5 y6 y7 y8 y9 y10 y11) (impl_Family_isPort.l3 (k + 1) y0 y1 y2 y3 y4 y5 y6 y7 y8 y9 y10 y11))
 | 0 => ⟨fun _ _ _ _ _ _ r h => by simp [impl_Family_isPort.l0] at h, fun _ _ _ _ r h => by simp [impl_Family_isPort.l1] at h, fun _ _ _ _ _ _ _ _ r h => by simp [impl_Family_isPort.l2] at h, fun _ _ _ _ _ _ _ _ _ _ _ _ r h => by simp [impl_Family_isPort.l3] at h⟩
 | k + 1 => by
  obtain ⟨ih0, ih1, ih2, ih3⟩ := impl_Family_isPort.mono_l k
  refine ⟨?_, ?_, ?_, ?_⟩
  ·intro y0 y1 y2 y3 y4 y5
   unfold impl_Family_isPort.l0
   repeat' first
   | (with_reducible exact ih0 _ _ _ _ _ _)
   | (with_reducible exact ih1 _ _ _ _)
   | (with_reducible exact ih2 _ _ _ _ _ _ _ _)
   | (with_reducible exact ih3 _ _ _ _ _ _ _ _ _ _ _ _)
   | (with_reducible exact impl_Family_circuits.mono _ _ _)
   | (with_reducible exact impl_crowdOf.mono _ _)
   | (with_reducible exact impl_crowd_144.mono _ _ _)
   | (with_reducible exact anyIn.mono _ _ _)
   | (with_reducible exact impl_crowd_group.mono _ _)
   | (with_reducible exact LeO.refl _)
   | (with_reducible exact LeO.none _)
   | (with_reducible refine LeO.ite ?_ ?_)
   | (with_reducible refine LeO.bind ?_ (fun _ => ?_))
   | exact ih0 _ _ _ _ _ _
   | exact ih1 _ _ _ _
   | exact ih2 _ _ _ _ _ _ _ _
   | exact ih3 _ _ _ _ _ _ _ _ _ _ _ _
   | exact impl_Family_circuits.mono _ _ _
   | exact impl_crowdOf.mono _ _
   | exact impl_crowd_144.mono _ _ _
   | exact anyIn.mono _ _ _
   | exact impl_crowd_group.mono _ _
   | exact LeO.none _
   | refine LeO.ite ?_ ?_
   | refine LeO.bind ?_ (fun _ => ?_)
  ·intro y0 y1 y2 y3
   unfold impl_Family_isPort.l1
   repeat' first
   | (with_reducible exact ih0 _ _ _ _ _ _)
   | (with_reducible exact ih1 _ _ _ _)
   | (with_reducible exact ih2 _ _ _ _ _ _ _ _)
   | (with_reducible exact ih3 _ _ _ _ _ _ _ _ _ _ _ _)
   | (with_reducible exact impl_Family_circuits.mono _ _ _)
   | (with_reducible exact impl_crowdOf.mono _ _)
   | (with_reducible exact impl_crowd_144.mono _ _ _)
   | (with_reducible exact anyIn.mono _ _ _)
   | (with_reducible exact impl_crowd_group.mono _ _)
   | (with_reducible exact LeO.refl _)
   | (with_reducible exact LeO.none _)
   | (with_reducible refine LeO.ite ?_ ?_)
   | (with_reducible refine LeO.bind ?_ (fun _ => ?_))
   | exact ih0 _ _ _ _ _ _
   | exact ih1 _ _ _ _
   | exact ih2 _ _ _ _ _ _ _ _
   | exact ih3 _ _ _ _ _ _ _ _ _ _ _ _
   | exact impl_Family_circuits.mono _ _ _
   | exact impl_crowdOf.mono _ _
   | exact impl_crowd_144.mono _ _ _
   | exact anyIn.mono _ _ _
   | exact impl_crowd_group.mono _ _
   | exact LeO.none _
   | refine LeO.ite ?_ ?_
   | refine LeO.bind ?_ (fun _ => ?_)
  ·intro y0 y1 y2 y3 y4 y5 y6 y7
   unfold impl_Family_isPort.l2
   repeat' first
   | (with_reducible exact ih0 _ _ _ _ _ _)
   | (with_reducible exact ih1 _ _ _ _)
   | (with_reducible exact ih2 _ _ _ _ _ _ _ _)
   | (with_reducible exact ih3 _ _ _ _ _ _ _ _ _ _ _ _)
   | (with_reducible exact impl_Family_circuits.mono _ _ _)
   | (with_reducible exact impl_crowdOf.mono _ _)
   | (with_reducible exact impl_crowd_144.mono _ _ _)
   | (with_reducible exact anyIn.mono _ _ _)
   | (with_reducible exact impl_crowd_group.mono _ _)
   | (with_reducible exact LeO.refl _)
   | (with_reducible exact LeO.none _)
   | (with_reducible refine LeO.ite ?_ ?_)
   | (with_reducible refine LeO.bind ?_ (fun _ => ?_))
   | exact ih0 _ _ _ _ _ _
   | exact ih1 _ _ _ _
   | exact ih2 _ _ _ _ _ _ _ _
   | exact ih3 _ _ _ _ _ _ _ _ _ _ _ _
   | exact impl_Family_circuits.mono _ _ _
   | exact impl_crowdOf.mono _ _
   | exact impl_crowd_144.mono _ _ _
   | exact anyIn.mono _ _ _
   | exact impl_crowd_group.mono _ _
   | exact LeO.none _
   | refine LeO.ite ?_ ?_
   | refine LeO.bind ?_ (fun _ => ?_)
  ·intro y0 y1 y2 y3 y4 y5 y6 y7 y8 y9 y10 y11
   unfold impl_Family_isPort.l3
   repeat' first
   | (with_reducible exact ih0 _ _ _ _ _ _)
   | (with_reducible exact ih1 _ _ _ _)
   | (with_reducible exact ih2 _ _ _ _ _ _ _ _)
   | (with_reducible exact ih3 _ _ _ _ _ _ _ _ _ _ _ _)
   | (with_reducible exact impl_Family_circuits.mono _ _ _)
   | (with_reducible exact impl_crowdOf.mono _ _)
   | (with_reducible exact impl_crowd_144.mono _ _ _)
   | (with_reducible exact anyIn.mono _ _ _)
   | (with_reducible exact impl_crowd_group.mono _ _)
   | (with_reducible exact LeO.refl _)
   | (with_reducible exact LeO.none _)
   | (with_reducible refine LeO.ite ?_ ?_)
   | (with_reducible refine LeO.bind ?_ (fun _ => ?_))
   | exact ih0 _ _ _ _ _ _
   | exact ih1 _ _ _ _
   | exact ih2 _ _ _ _ _ _ _ _
   | exact ih3 _ _ _ _ _ _ _ _ _ _ _ _
   | exact impl_Family_circuits.mono _ _ _
   | exact impl_crowdOf.mono _ _
   | exact impl_crowd_144.mono _ _ _
   | exact anyIn.mono _ _ _
   | exact impl_crowd_group.mono _ _
   | exact LeO.none _
   | refine LeO.ite ?_ ?_
   | refine LeO.bind ?_ (fun _ => ?_)
theorem impl_Family_isPort.mono : ∀ a0 a1 k, LeO (impl_Family_isPort.f k a0 a1) (impl_Family_isPort.f (k + 1) a0 a1) := by
  intro a0 a1 k
  obtain ⟨ih0, ih1, ih2, ih3⟩ := impl_Family_isPort.mono_l k
  unfold impl_Family_isPort.f
  repeat' first
      | (with_reducible exact ih0 _ _ _ _ _ _)
      | (with_reducible exact ih1 _ _ _ _)
      | (with_reducible exact ih2 _ _ _ _ _ _ _ _)
      | (with_reducible exact ih3 _ _ _ _ _ _ _ _ _ _ _ _)
      | (with_reducible exact impl_Family_circuits.mono _ _ _)
      | (with_reducible exact impl_crowdOf.mono _ _)
      | (with_reducible exact impl_crowd_144.mono _ _ _)
      | (with_reducible exact anyIn.mono _ _ _)
      | (with_reducible exact impl_crowd_group.mono _ _)
      | (with_reducible exact LeO.refl _)
      | (with_reducible exact LeO.none _)
      | (with_reducible refine LeO.ite ?_ ?_)
      | (with_reducible refine LeO.bind ?_ (fun _ => ?_))
      | exact ih0 _ _ _ _ _ _
      | exact ih1 _ _ _ _
      | exact ih2 _ _ _ _ _ _ _ _
      | exact ih3 _ _ _ _ _ _ _ _ _ _ _ _
      | exact impl_Family_circuits.mono _ _ _
      | exact impl_crowdOf.mono _ _
      | exact impl_crowd_144.mono _ _ _
      | exact anyIn.mono _ _ _
      | exact impl_crowd_group.mono _ _
      | exact LeO.none _
      | refine LeO.ite ?_ ?_
      | refine LeO.bind ?_ (fun _ => ?_)
set_option maxHeartbeats 8000000 in
set_option maxRecDepth 100000 in
theorem impl_Family_isPort.calls (k : Nat) (a0_0 : Int) (A0_1 : Option Addr) (c0_1 : Nat) (l0_1 : List (List Int)) (r : Bool) (w : World) (hr0_1 : Kd.C (Kd.slice 2 (Kd.int .i64)) w A0_1 l0_1.length l0_1) (hc0_1 : l0_1.length ≤ c0_1) (h : impl_Family_isPort.f k a0_0 l0_1 = some r) :
  Calls Try.prog 101 #[.agg #[.int .i64 a0_0, .slice A0_1 l0_1.length c0_1]] w fun e w' => e = .returned (.bool r) ∧ Below w.heap.size w w' := by
 have hu31 := Try.underlying31
 have HR0_1 := Aside0.mk hr0_1
 have HC0_1 := Aside0.mk hc0_1
 clear hr0_1 hc0_1
 have HB := Aside0.mk (Below.refl w.heap.size w)
 have H : ((impl_Family_circuits.f k a0_0 l0_1).bind fun t720 => (impl_Family_isPort.l0 k t720 l0_1 (l0_1.length : Int) 0 a0_0 l0_1)) = some r := h
 clear h
 replace H := Option.bind_eq_some_iff.mp H
 obtain ⟨t720, A20, H⟩ := H
 replace H : (impl_Family_isPort.l0 k t720 l0_1 (l0_1.length : Int) 0 a0_0 l0_1) = some r := H
 have A2 := Aside0.mk A20
 clear A20
 have H' := Aside0.mk H
 clear H
 go_enter Try.func101, Try.ntmps101
 go_wp2_with (first | ((with_reducible refine gate_dst (N := 1) rfl ?_); refine box_event ?hg (N := 1) ?hd (cs := #[.int .i64 a0_0, .slice A0_1 l0_1.length c0_1]) (t := 31) ?hr ?_; (case hd => rfl); (case hg => rfl); (case hr => first | (go_simp; done) | (go_simp; rfl)); intro gb719 hg w3 hbox hb; have n0_ := Aside0.mk (below_step (zb0 HB.out) hb); have n1_ := Aside0.mk (hbox); have n2_ := Aside0.mk ((by rw [hg]; exact (below_size (zb0 HB.out)) : w.heap.size ≤ gb719)); have n3_ := Aside0.mk ((by rw [hg]; exact (below_size (zb0 HB.out)) : w.heap.size ≤ gb719)); clear HB; have HB := n0_; have BK719 := n1_; have GW719 := n2_; have GE719 := n3_; clear n0_ n1_ n2_ n3_; clear hb hbox hg; have hcz4_0 : w3.cell? ⟨gb719, 0, none⟩ = some (.int .i64 a0_0) := (blk_cell BK719.out 0).trans rfl; have hcz4_1 : w3.cell? ⟨gb719, 1, none⟩ = some (.slice A0_1 l0_1.length c0_1) := (blk_cell BK719.out 1).trans rfl; have hfz4_0 := blk_frozen BK719.out 0; have hfz4_1 := blk_frozen BK719.out 1) | (go_at_call 102; (with_reducible refine (impl_Family_circuits.calls k a0_0 _ _ l0_1 t720 _ ?side1 ?side2 A2.out).mono ?_); (case side1 => exact zc (Kd.C_below HR0_1.out HB.out)); (case side2 => exact HC0_1.out); rintro e w5 ⟨v721, rfl, ho0, hb⟩; have n0_ := Aside0.mk (Kd.R_lower ho0 (below_size (zb1 HB.out GE719.out))); have n1_ := Aside0.mk (blk_below (g := gb719) (o := .cells #[.int .i64 a0_0, .slice A0_1 l0_1.length c0_1] 31 (0, 0)) (zk BK719.out) hb); have n2_ := Aside0.mk (below_step (zb1 HB.out GE719.out) hb); clear BK719; clear HB; have HO722 := n0_; have BK719 := n1_; have HB := n2_; clear n0_ n1_ n2_; (try clear hb); (try clear hb2); (try clear hk); (try clear hi); (try clear ho0); have hcz6_0 : w5.cell? ⟨gb719, 0, none⟩ = some (.int .i64 a0_0) := (blk_cell BK719.out 0).trans rfl; have hcz6_1 : w5.cell? ⟨gb719, 1, none⟩ = some (.slice A0_1 l0_1.length c0_1) := (blk_cell BK719.out 1).trans rfl; have hfz6_0 := blk_frozen BK719.out 0; have hfz6_1 := blk_frozen BK719.out 1))
 repeat (go_quiet (first | ((with_reducible refine gate_dst (N := 1) rfl ?_); refine box_event ?hg (N := 1) ?hd (cs := #[.int .i64 a0_0, .slice A0_1 l0_1.length c0_1]) (t := 31) ?hr ?_; (case hd => rfl); (case hg => rfl); (case hr => first | (go_simp; done) | (go_simp; rfl)); intro gb719 hg w3 hbox hb; have n0_ := Aside0.mk (below_step (zb0 HB.out) hb); have n1_ := Aside0.mk (hbox); have n2_ := Aside0.mk ((by rw [hg]; exact (below_size (zb0 HB.out)) : w.heap.size ≤ gb719)); have n3_ := Aside0.mk ((by rw [hg]; exact (below_size (zb0 HB.out)) : w.heap.size ≤ gb719)); clear HB; have HB := n0_; have BK719 := n1_; have GW719 := n2_; have GE719 := n3_; clear n0_ n1_ n2_ n3_; clear hb hbox hg; have hcz4_0 : w3.cell? ⟨gb719, 0, none⟩ = some (.int .i64 a0_0) := (blk_cell BK719.out 0).trans rfl; have hcz4_1 : w3.cell? ⟨gb719, 1, none⟩ = some (.slice A0_1 l0_1.length c0_1) := (blk_cell BK719.out 1).trans rfl; have hfz4_0 := blk_frozen BK719.out 0; have hfz4_1 := blk_frozen BK719.out 1) | (go_at_call 102; (with_reducible refine (impl_Family_circuits.calls k a0_0 _ _ l0_1 t720 _ ?side1 ?side2 A2.out).mono ?_); (case side1 => exact zc (Kd.C_below HR0_1.out HB.out)); (case side2 => exact HC0_1.out); rintro e w5 ⟨v721, rfl, ho0, hb⟩; have n0_ := Aside0.mk (Kd.R_lower ho0 (below_size (zb1 HB.out GE719.out))); have n1_ := Aside0.mk (blk_below (g := gb719) (o := .cells #[.int .i64 a0_0, .slice A0_1 l0_1.length c0_1] 31 (0, 0)) (zk BK719.out) hb); have n2_ := Aside0.mk (below_step (zb1 HB.out GE719.out) hb); clear BK719; clear HB; have HO722 := n0_; have BK719 := n1_; have HB := n2_; clear n0_ n1_ n2_; (try clear hb); (try clear hb2); (try clear hk); (try clear hi); (try clear ho0); have hcz6_0 : w5.cell? ⟨gb719, 0, none⟩ = some (.int .i64 a0_0) := (blk_cell BK719.out 0).trans rfl; have hcz6_1 : w5.cell? ⟨gb719, 1, none⟩ = some (.slice A0_1 l0_1.length c0_1) := (blk_cell BK719.out 1).trans rfl; have hfz6_0 := blk_frozen BK719.out 0; have hfz6_1 := blk_frozen BK719.out 1)); try go_wp2_with (first | ((with_reducible refine gate_dst (N := 1) rfl ?_); refine box_event ?hg (N := 1) ?hd (cs := #[.int .i64 a0_0, .slice A0_1 l0_1.length c0_1]) (t := 31) ?hr ?_; (case hd => rfl); (case hg => rfl); (case hr => first | (go_simp; done) | (go_simp; rfl)); intro gb719 hg w3 hbox hb; have n0_ := Aside0.mk (below_step (zb0 HB.out) hb); have n1_ := Aside0.mk (hbox); have n2_ := Aside0.mk ((by rw [hg]; exact (below_size (zb0 HB.out)) : w.heap.size ≤ gb719)); have n3_ := Aside0.mk ((by rw [hg]; exact (below_size (zb0 HB.out)) : w.heap.size ≤ gb719)); clear HB; have HB := n0_; have BK719 := n1_; have GW719 := n2_; have GE719 := n3_; clear n0_ n1_ n2_ n3_; clear hb hbox hg; have hcz4_0 : w3.cell? ⟨gb719, 0, none⟩ = some (.int .i64 a0_0) := (blk_cell BK719.out 0).trans rfl; have hcz4_1 : w3.cell? ⟨gb719, 1, none⟩ = some (.slice A0_1 l0_1.length c0_1) := (blk_cell BK719.out 1).trans rfl; have hfz4_0 := blk_frozen BK719.out 0; have hfz4_1 := blk_frozen BK719.out 1) | (go_at_call 102; (with_reducible refine (impl_Family_circuits.calls k a0_0 _ _ l0_1 t720 _ ?side1 ?side2 A2.out).mono ?_); (case side1 => exact zc (Kd.C_below HR0_1.out HB.out)); (case side2 => exact HC0_1.out); rintro e w5 ⟨v721, rfl, ho0, hb⟩; have n0_ := Aside0.mk (Kd.R_lower ho0 (below_size (zb1 HB.out GE719.out))); have n1_ := Aside0.mk (blk_below (g := gb719) (o := .cells #[.int .i64 a0_0, .slice A0_1 l0_1.length c0_1] 31 (0, 0)) (zk BK719.out) hb); have n2_ := Aside0.mk (below_step (zb1 HB.out GE719.out) hb); clear BK719; clear HB; have HO722 := n0_; have BK719 := n1_; have HB := n2_; clear n0_ n1_ n2_; (try clear hb); (try clear hb2); (try clear hk); (try clear hi); (try clear ho0); have hcz6_0 : w5.cell? ⟨gb719, 0, none⟩ = some (.int .i64 a0_0) := (blk_cell BK719.out 0).trans rfl; have hcz6_1 : w5.cell? ⟨gb719, 1, none⟩ = some (.slice A0_1 l0_1.length c0_1) := (blk_cell BK719.out 1).trans rfl; have hfz6_0 := blk_frozen BK719.out 0; have hfz6_1 := blk_frozen BK719.out 1)))
 go_loopg [18] k (fun kq v18 w' => ∃ (x18_1 : Int), v18 = .int .i64 x18_1 ∧ Aside0 (impl_Family_isPort.l0 kq t720 l0_1 (l0_1.length : Int) x18_1 a0_0 l0_1 = some r) ∧ Aside0 (kq ≤ k) ∧ Aside0 (Kd.R (Kd.int .u64) 97 w' w.heap.size (fun _ => True) v721 t720) ∧ Aside0 (w'.heap[gb719]? = some (.cells #[.int .i64 a0_0, (.slice A0_1 l0_1.length c0_1)] 31 (0, 0))) ∧ Aside0 (Below w.heap.size w w'))
 case atStart => exact ⟨(0), zt, H', ⟨Nat.le_refl _⟩, ⟨zr HO722.out⟩, ⟨zk BK719.out⟩, ⟨zb1 HB.out GE719.out⟩⟩
 case round =>
  clear H'
  obtain ⟨x18_1, rfl, HA, HK1, HO_3, BK719, HB⟩ := hrel
  cases gk with
  | zero => exact absurd HA.out (by simp [impl_Family_isPort.l0])
  | succ k1 =>
   have H := HA.out
   clear HA
   simp only [impl_Family_isPort.l0] at H
   by_cases c7 : x18_1 < (l0_1.length : Int)
   ·rw [if_pos c7] at H
    have c7b0 : decide (x18_1 < (l0_1.length : Int)) = true := decide_eq_true c7
    clear c7
    by_cases c8 : 0 ≤ x18_1
    ·rw [if_pos c8] at H
     have c8b0 : decide (0 ≤ x18_1) = true := decide_eq_true c8
     clear c8
     by_cases c9 : x18_1 < (l0_1.length : Int)
     ·rw [if_pos c9] at H
      have c9b0 : decide (x18_1 < (l0_1.length : Int)) = true := decide_eq_true c9
      clear c9
      replace H := Option.bind_eq_some_iff.mp H
      obtain ⟨t724, A100, H⟩ := H
      replace H : (if 0 ≤ a0_0 then ((impl_crowd_144.f k1 t720 (Go.bits .or .u64 t724 (shl .u64 1 a0_0))).bind fun t725 => (if t725 = true then (impl_Family_isPort.l0 k1 t720 l0_1 (l0_1.length : Int) (wrap64 (x18_1 + 1)) a0_0 l0_1) else (some false))) else (none)) = some r := H
      have A10 := Aside0.mk A100
      clear A100
      by_cases c11 : 0 ≤ a0_0
      ·rw [if_pos c11] at H
       have c11b0 := eq_true c11
       have c11b1 : decide (0 ≤ a0_0) = true := decide_eq_true c11
       clear c11
       obtain ⟨ji12, hji12⟩ : ∃ j_ : Int, (shl .u64 1 a0_0) = j_ := ⟨_, rfl⟩
       replace H : ((impl_crowd_144.f k1 t720 (Go.bits .or .u64 t724 (ji12))).bind fun t725 => (if t725 = true then (impl_Family_isPort.l0 k1 t720 l0_1 (l0_1.length : Int) (wrap64 (x18_1 + 1)) a0_0 l0_1) else (some false))) = some r := by first | (rw [hji12] at H; exact H) | (simp only [hji12] at H ⊢; exact H)
       (try rw [hji12] at A10)
       have hji12_ : (IntKind.u64.wrap (1 * 2 ^ min a0_0.toNat 64)) = ji12 := hji12
       have hji12z : a0_0 ≤ 64 → (IntKind.u64.wrap (1 * 2 ^ a0_0.toNat)) = ji12 := shl_small hji12
       have hji12u : (IntKind.u64.wrap (2 ^ min a0_0.toNat 64)) = ji12 := by have h_ := hji12_; rw [Int.one_mul] at h_; exact h_
       have hji12v : a0_0 ≤ 64 → (IntKind.u64.wrap (2 ^ a0_0.toNat)) = ji12 := fun hle_ => by have h_ := hji12z hle_; rw [Int.one_mul] at h_; exact h_
       replace H := Option.bind_eq_some_iff.mp H
       obtain ⟨t725, A130, H⟩ := H
       replace H : (if t725 = true then (impl_Family_isPort.l0 k1 t720 l0_1 (l0_1.length : Int) (wrap64 (x18_1 + 1)) a0_0 l0_1) else (some false)) = some r := H
       have A13 := Aside0.mk A130
       clear A130
       by_cases c14 : t725 = true
       ·subst c14
        rw [if_pos rfl] at H
        have H' := Aside0.mk H
        clear H
        have p723 : 0 ≤ (x18_1 : Int) := of_decide_eq_true zq
        have q723 : x18_1 < (l0_1.length : Int) := of_decide_eq_true zq
        obtain ⟨ad723, A723_0, c723_0, e723, hx723_0, hl723_0, hi723_0⟩ := at_L1 HR0_1.out x18_1 p723 q723
        cases e723
        replace hx723_0 := (HB.out.cell (World.block_lt_of_cell? w _ hx723_0)).trans hx723_0
        have HR723_0 := Aside0.mk hi723_0
        have HC723_0 := Aside0.mk hl723_0
        clear hi723_0 hl723_0
        replace p723 := eq_true p723
        replace q723 := eq_true q723
        go_wp2_with (first | (go_at_call 86; (with_reducible refine (impl_crowdOf.calls k1 _ _ (rd_L1 l0_1 x18_1) t724 _ ?side1 ?side2 A10.out).mono ?_); (case side1 => exact zc (Kd.C_below HR723_0.out HB.out)); (case side2 => exact HC723_0.out); rintro e w' ⟨rfl, ⟨nd, rfl⟩⟩; (try exact zd); have hcz15_0 : wr.cell? ⟨gb719, 0, none⟩ = some (.int .i64 a0_0) := (blk_cell BK719.out 0).trans rfl; have hcz15_1 : wr.cell? ⟨gb719, 1, none⟩ = some (.slice (some ad723) l0_1.length c0_1) := (blk_cell BK719.out 1).trans rfl; have hfz15_0 := blk_frozen BK719.out 0; have hfz15_1 := blk_frozen BK719.out 1; obtain ⟨Ao16, co16, eo16⟩ := Kd.R_slice HO_3.out; subst eo16) | (go_at_call 144; (with_reducible refine (impl_crowd_144.calls k1 _ _ t720 (Go.bits .or .u64 t724 (ji12)) true _ ?side1 ?side2 A13.out).mono ?_); (case side1 => repeat (first | exact (Kd.R_reads' HO_3.out).2.2 | (with_reducible refine Kd.C_alloc ?_ _) | (with_reducible refine Kd.C_drewN ?_ _) | (with_reducible refine Kd.C_drew ?_))); (case side2 => exact (Kd.R_reads' HO_3.out).2.1); rintro e w' ⟨rfl, ⟨nd, rfl⟩⟩; (try exact zd)))
        repeat (go_quiet (first | (go_at_call 86; (with_reducible refine (impl_crowdOf.calls k1 _ _ (rd_L1 l0_1 x18_1) t724 _ ?side1 ?side2 A10.out).mono ?_); (case side1 => exact zc (Kd.C_below HR723_0.out HB.out)); (case side2 => exact HC723_0.out); rintro e w' ⟨rfl, ⟨nd, rfl⟩⟩; (try exact zd); have hcz15_0 : wr.cell? ⟨gb719, 0, none⟩ = some (.int .i64 a0_0) := (blk_cell BK719.out 0).trans rfl; have hcz15_1 : wr.cell? ⟨gb719, 1, none⟩ = some (.slice (some ad723) l0_1.length c0_1) := (blk_cell BK719.out 1).trans rfl; have hfz15_0 := blk_frozen BK719.out 0; have hfz15_1 := blk_frozen BK719.out 1; obtain ⟨Ao16, co16, eo16⟩ := Kd.R_slice HO_3.out; subst eo16) | (go_at_call 144; (with_reducible refine (impl_crowd_144.calls k1 _ _ t720 (Go.bits .or .u64 t724 (ji12)) true _ ?side1 ?side2 A13.out).mono ?_); (case side1 => repeat (first | exact (Kd.R_reads' HO_3.out).2.2 | (with_reducible refine Kd.C_alloc ?_ _) | (with_reducible refine Kd.C_drewN ?_ _) | (with_reducible refine Kd.C_drew ?_))); (case side2 => exact (Kd.R_reads' HO_3.out).2.1); rintro e w' ⟨rfl, ⟨nd, rfl⟩⟩; (try exact zd))); try go_wp2_with (first | (go_at_call 86; (with_reducible refine (impl_crowdOf.calls k1 _ _ (rd_L1 l0_1 x18_1) t724 _ ?side1 ?side2 A10.out).mono ?_); (case side1 => exact zc (Kd.C_below HR723_0.out HB.out)); (case side2 => exact HC723_0.out); rintro e w' ⟨rfl, ⟨nd, rfl⟩⟩; (try exact zd); have hcz15_0 : wr.cell? ⟨gb719, 0, none⟩ = some (.int .i64 a0_0) := (blk_cell BK719.out 0).trans rfl; have hcz15_1 : wr.cell? ⟨gb719, 1, none⟩ = some (.slice (some ad723) l0_1.length c0_1) := (blk_cell BK719.out 1).trans rfl; have hfz15_0 := blk_frozen BK719.out 0; have hfz15_1 := blk_frozen BK719.out 1; obtain ⟨Ao16, co16, eo16⟩ := Kd.R_slice HO_3.out; subst eo16) | (go_at_call 144; (with_reducible refine (impl_crowd_144.calls k1 _ _ t720 (Go.bits .or .u64 t724 (ji12)) true _ ?side1 ?side2 A13.out).mono ?_); (case side1 => repeat (first | exact (Kd.R_reads' HO_3.out).2.2 | (with_reducible refine Kd.C_alloc ?_ _) | (with_reducible refine Kd.C_drewN ?_ _) | (with_reducible refine Kd.C_drew ?_))); (case side2 => exact (Kd.R_reads' HO_3.out).2.1); rintro e w' ⟨rfl, ⟨nd, rfl⟩⟩; (try exact zd))))
        go_roundg k1
        case measure => have := HK1.out; omega
        case rel => exact ⟨(wrap64 (x18_1 + 1)), zt, H', ⟨by have := HK1.out; omega⟩, ⟨zr HO_3.out⟩, ⟨zk BK719.out⟩, ⟨zb1 HB.out GE719.out⟩⟩
       ·replace c14 := Bool.eq_false_iff.mpr c14
        subst c14
        rw [if_neg (show ¬ (false = true) by decide)] at H
        obtain rfl := Option.some.inj H
        have p723 : 0 ≤ (x18_1 : Int) := of_decide_eq_true zq
        have q723 : x18_1 < (l0_1.length : Int) := of_decide_eq_true zq
        obtain ⟨ad723, A723_0, c723_0, e723, hx723_0, hl723_0, hi723_0⟩ := at_L1 HR0_1.out x18_1 p723 q723
        cases e723
        replace hx723_0 := (HB.out.cell (World.block_lt_of_cell? w _ hx723_0)).trans hx723_0
        have HR723_0 := Aside0.mk hi723_0
        have HC723_0 := Aside0.mk hl723_0
        clear hi723_0 hl723_0
        replace p723 := eq_true p723
        replace q723 := eq_true q723
        go_wp2_with (first | (go_at_call 86; (with_reducible refine (impl_crowdOf.calls k1 _ _ (rd_L1 l0_1 x18_1) t724 _ ?side1 ?side2 A10.out).mono ?_); (case side1 => exact zc (Kd.C_below HR723_0.out HB.out)); (case side2 => exact HC723_0.out); rintro e w' ⟨rfl, ⟨nd, rfl⟩⟩; (try exact zd); have hcz17_0 : wr.cell? ⟨gb719, 0, none⟩ = some (.int .i64 a0_0) := (blk_cell BK719.out 0).trans rfl; have hcz17_1 : wr.cell? ⟨gb719, 1, none⟩ = some (.slice (some ad723) l0_1.length c0_1) := (blk_cell BK719.out 1).trans rfl; have hfz17_0 := blk_frozen BK719.out 0; have hfz17_1 := blk_frozen BK719.out 1; obtain ⟨Ao18, co18, eo18⟩ := Kd.R_slice HO_3.out; subst eo18) | (go_at_call 144; (with_reducible refine (impl_crowd_144.calls k1 _ _ t720 (Go.bits .or .u64 t724 (ji12)) false _ ?side1 ?side2 A13.out).mono ?_); (case side1 => repeat (first | exact (Kd.R_reads' HO_3.out).2.2 | (with_reducible refine Kd.C_alloc ?_ _) | (with_reducible refine Kd.C_drewN ?_ _) | (with_reducible refine Kd.C_drew ?_))); (case side2 => exact (Kd.R_reads' HO_3.out).2.1); rintro e w' ⟨rfl, ⟨nd, rfl⟩⟩; (try exact zd)))
        repeat (go_quiet (first | (go_at_call 86; (with_reducible refine (impl_crowdOf.calls k1 _ _ (rd_L1 l0_1 x18_1) t724 _ ?side1 ?side2 A10.out).mono ?_); (case side1 => exact zc (Kd.C_below HR723_0.out HB.out)); (case side2 => exact HC723_0.out); rintro e w' ⟨rfl, ⟨nd, rfl⟩⟩; (try exact zd); have hcz17_0 : wr.cell? ⟨gb719, 0, none⟩ = some (.int .i64 a0_0) := (blk_cell BK719.out 0).trans rfl; have hcz17_1 : wr.cell? ⟨gb719, 1, none⟩ = some (.slice (some ad723) l0_1.length c0_1) := (blk_cell BK719.out 1).trans rfl; have hfz17_0 := blk_frozen BK719.out 0; have hfz17_1 := blk_frozen BK719.out 1; obtain ⟨Ao18, co18, eo18⟩ := Kd.R_slice HO_3.out; subst eo18) | (go_at_call 144; (with_reducible refine (impl_crowd_144.calls k1 _ _ t720 (Go.bits .or .u64 t724 (ji12)) false _ ?side1 ?side2 A13.out).mono ?_); (case side1 => repeat (first | exact (Kd.R_reads' HO_3.out).2.2 | (with_reducible refine Kd.C_alloc ?_ _) | (with_reducible refine Kd.C_drewN ?_ _) | (with_reducible refine Kd.C_drew ?_))); (case side2 => exact (Kd.R_reads' HO_3.out).2.1); rintro e w' ⟨rfl, ⟨nd, rfl⟩⟩; (try exact zd))); try go_wp2_with (first | (go_at_call 86; (with_reducible refine (impl_crowdOf.calls k1 _ _ (rd_L1 l0_1 x18_1) t724 _ ?side1 ?side2 A10.out).mono ?_); (case side1 => exact zc (Kd.C_below HR723_0.out HB.out)); (case side2 => exact HC723_0.out); rintro e w' ⟨rfl, ⟨nd, rfl⟩⟩; (try exact zd); have hcz17_0 : wr.cell? ⟨gb719, 0, none⟩ = some (.int .i64 a0_0) := (blk_cell BK719.out 0).trans rfl; have hcz17_1 : wr.cell? ⟨gb719, 1, none⟩ = some (.slice (some ad723) l0_1.length c0_1) := (blk_cell BK719.out 1).trans rfl; have hfz17_0 := blk_frozen BK719.out 0; have hfz17_1 := blk_frozen BK719.out 1; obtain ⟨Ao18, co18, eo18⟩ := Kd.R_slice HO_3.out; subst eo18) | (go_at_call 144; (with_reducible refine (impl_crowd_144.calls k1 _ _ t720 (Go.bits .or .u64 t724 (ji12)) false _ ?side1 ?side2 A13.out).mono ?_); (case side1 => repeat (first | exact (Kd.R_reads' HO_3.out).2.2 | (with_reducible refine Kd.C_alloc ?_ _) | (with_reducible refine Kd.C_drewN ?_ _) | (with_reducible refine Kd.C_drew ?_))); (case side2 => exact (Kd.R_reads' HO_3.out).2.1); rintro e w' ⟨rfl, ⟨nd, rfl⟩⟩; (try exact zd))))
        go_ret
        exact ⟨by first | rfl | (simp [errW_none, errW_some] <;> rfl) | (simp only [← hji12]; first | rfl | (simp [errW_none, errW_some] <;> rfl)) | (simp [*, errW_none, errW_some] <;> rfl), zb1 HB.out GE719.out⟩
      ·rw [if_neg c11] at H
       exact absurd H (by simp)
     ·rw [if_neg c9] at H
      exact absurd H (by simp)
    ·rw [if_neg c8] at H
     exact absurd H (by simp)
   ·rw [if_neg c7] at H
    have c7b0 : decide (x18_1 < (l0_1.length : Int)) = false := decide_eq_false c7
    clear c7
    have H' := Aside0.mk H
    clear H
    obtain ⟨Ao19, co19, eo19⟩ := Kd.R_slice HO_3.out
    subst eo19
    go_wp2
    repeat (go_quiet (fail); try go_wp2)
    go_loopg [34] k1 (fun kq v34 w' => ∃ (x34_2 : Int), v34 = .int .i64 x34_2 ∧ Aside0 (impl_Family_isPort.l1 kq t720 t720 (t720.length : Int) x34_2 = some r) ∧ Aside0 (kq ≤ k1) ∧ Aside0 (Kd.R (Kd.int .u64) 97 w' w.heap.size (fun _ => True) (.slice Ao19 t720.length co19) t720) ∧ Aside0 (Kd.R (Kd.int .u64) 97 w' w.heap.size (fun _ => True) (.slice Ao19 t720.length co19) t720) ∧ Aside0 (w'.heap[gb719]? = some (.cells #[.int .i64 a0_0, (.slice A0_1 l0_1.length c0_1)] 31 (0, 0))) ∧ Aside0 (Below w.heap.size w w'))
    case atStart => exact ⟨(0), zt, H', ⟨Nat.le_refl _⟩, ⟨zr HO_3.out⟩, ⟨zr HO_3.out⟩, ⟨zk BK719.out⟩, ⟨zb1 HB.out GE719.out⟩⟩
    case round =>
     clear H'
     obtain ⟨x34_2, rfl, HA, HK2, HO_3, HO_32, BK719, HB⟩ := hrel
     cases gk with
     | zero => exact absurd HA.out (by simp [impl_Family_isPort.l1])
     | succ k2 =>
      have H := HA.out
      clear HA
      simp only [impl_Family_isPort.l1] at H
      by_cases c20 : x34_2 < (t720.length : Int)
      ·rw [if_pos c20] at H
       have c20b0 : decide (x34_2 < (t720.length : Int)) = true := decide_eq_true c20
       clear c20
       by_cases c21 : 0 ≤ x34_2
       ·rw [if_pos c21] at H
        have c21b0 : decide (0 ≤ x34_2) = true := decide_eq_true c21
        clear c21
        by_cases c22 : x34_2 < (t720.length : Int)
        ·rw [if_pos c22] at H
         have c22b0 : decide (x34_2 < (t720.length : Int)) = true := decide_eq_true c22
         clear c22
         have c23b0 := eq_true (of_decide_eq_true (by first | (with_reducible assumption) | assumption) : 0 ≤ x34_2)
         by_cases c24 : x34_2 ≤ (t720.length : Int)
         ·rw [if_pos c24] at H
          have c24b0 := eq_true c24
          have c24b1 : decide (x34_2 ≤ (t720.length : Int)) = true := decide_eq_true c24
          clear c24
          obtain ⟨y727, hy727⟩ : ∃ y_ : List Int, y_ = (t720.take (x34_2 : Int).toNat) := ⟨_, rfl⟩
          replace H : (impl_Family_isPort.l2 k2 t720 (rd t720 x34_2) t720 (t720.length : Int) x34_2 y727 (y727.length : Int) 0) = some r := by first | (rw [hy727]; with_reducible exact H) | (have H2_ := (Option.bind_some _ _).symm.trans H; rw [hy727]; with_reducible exact H2_) | (have H2_ := (Option.bind_some _ _).symm.trans H; with_reducible exact H2_) | with_reducible exact H | (rw [hy727]; exact H) | exact H
          have Ny727 := Aside0.mk hy727
          clear hy727
          have H' := Aside0.mk H
          clear H
          have p726 : 0 ≤ (x34_2 : Int) := of_decide_eq_true zq
          have q726 : x34_2 < (t720.length : Int) := of_decide_eq_true zq
          obtain ⟨ad726, e726, hx726_0⟩ := Kd.at_int (Kd.R_reads' HO_32.out).2.2 x34_2 p726 q726
          cases e726
          replace p726 := eq_true p726
          replace q726 := eq_true q726
          have q25 : (x34_2 : Int) ≤ ((t720.length : Int) : Int) := of_decide_eq_true zq
          obtain ⟨i025, hi025, _, hsz25, _⟩ := info_parts info97
          have hroom25 : t720.length ≤ co19 := (Kd.R_reads' HO_3.out).2.1
          have hC25 : Kd.C (Kd.int .u64) _ (some ad726) t720.length t720 := (Kd.R_reads' HO_3.out).2.2
          have hcut25 := cut_to (P := Try.prog) 124 97 .i64 Try.underlying124 hi025 (some ad726) t720.length co19 x34_2 (of_decide_eq_true (by first | (with_reducible assumption) | assumption)) q25 hroom25
          have hr25 := Kd.C_take (m := (x34_2 : Int).toNat) hC25 (by omega)
          have hy25 : y727.length = (x34_2 : Int).toNat := (by rw [Ny727.out, List.length_take]; omega)
          rw [← Ny727.out] at hr25
          rw [← hy25] at hcut25
          have HR730 := Aside0.mk hr25
          have HC730 := Aside0.mk (show y727.length ≤ co19 from by omega)
          clear hr25 hC25 hroom25 hi025 hsz25
          have KY25 := Aside0.mk hy25
          clear hy25
          have KL25 := Aside0.mk (show (x34_2 : Int).toNat ≤ t720.length from by omega)
          replace q25 := eq_true q25
          go_wp2
          repeat (go_quiet (fail); try go_wp2)
          go_loopg [43] k2 (fun kq v43 w' => ∃ (x43_3 : Int), v43 = .int .i64 x43_3 ∧ Aside0 (impl_Family_isPort.l2 kq t720 (rd t720 x34_2) t720 (t720.length : Int) x34_2 y727 (y727.length : Int) x43_3 = some r) ∧ Aside0 (kq ≤ k2) ∧ Aside0 (Kd.R (Kd.int .u64) 97 w' w.heap.size (fun _ => True) (.slice (some ad726) t720.length co19) t720) ∧ Aside0 (Kd.R (Kd.int .u64) 97 w' w.heap.size (fun _ => True) (.slice (some ad726) t720.length co19) t720) ∧ Aside0 (w'.heap[gb719]? = some (.cells #[.int .i64 a0_0, (.slice A0_1 l0_1.length c0_1)] 31 (0, 0))) ∧ Aside0 (Kd.C (Kd.int .u64) w' (some ad726) y727.length y727) ∧ Aside0 (Below w.heap.size w w'))
          case atStart => exact ⟨(0), zt, H', ⟨Nat.le_refl _⟩, ⟨zr HO_3.out⟩, ⟨zr HO_32.out⟩, ⟨zk BK719.out⟩, ⟨by repeat (first | (with_reducible exact HR730.out) | (with_reducible refine Kd.C_alloc ?_ _) | (with_reducible refine Kd.C_drewN ?_ _) | (with_reducible refine Kd.C_drew ?_) | exact HR730.out)⟩, ⟨zb1 HB.out GE719.out⟩⟩
          case round =>
           clear H'
           obtain ⟨x43_3, rfl, HA, HK3, HO_3, HO_32, BK719, HR730, HB⟩ := hrel
           cases gk with
           | zero => exact absurd HA.out (by simp [impl_Family_isPort.l2])
           | succ k3 =>
            have H := HA.out
            clear HA
            simp only [impl_Family_isPort.l2] at H
            by_cases c26 : x43_3 < (y727.length : Int)
            ·rw [if_pos c26] at H
             have c26b0 : decide (x43_3 < (y727.length : Int)) = true := decide_eq_true c26
             clear c26
             by_cases c27 : 0 ≤ x43_3
             ·rw [if_pos c27] at H
              have c27b0 : decide (0 ≤ x43_3) = true := decide_eq_true c27
              clear c27
              by_cases c28 : x43_3 < (y727.length : Int)
              ·rw [if_pos c28] at H
               have c28b0 : decide (x43_3 < (y727.length : Int)) = true := decide_eq_true c28
               clear c28
               replace H := Option.bind_eq_some_iff.mp H
               obtain ⟨t732, A290, H⟩ := H
               replace H : (impl_Family_isPort.l3 k3 t720 (rd t720 x34_2) (rd y727 x43_3) t720 (t720.length : Int) x34_2 y727 (y727.length : Int) x43_3 t732 (t732.length : Int) 0) = some r := H
               have A29 := Aside0.mk A290
               clear A290
               have H' := Aside0.mk H
               clear H
               have p731 : 0 ≤ (x43_3 : Int) := of_decide_eq_true zq
               have q731 : x43_3 < (y727.length : Int) := of_decide_eq_true zq
               obtain ⟨ad731, e731, hx731_0⟩ := Kd.at_int HR730.out x43_3 p731 q731
               obtain rfl : ad726 = ad731 := (by injection e731)
               (try replace hx731_0 := (HB.out.cell (World.block_lt_of_cell? w _ hx731_0)).trans hx731_0)
               replace p731 := eq_true p731
               replace q731 := eq_true q731
               go_wp2_with (first | (go_at_call 78; (with_reducible refine (impl_crowd_group.calls k3 (Go.bits .and .u64 (rd t720 x34_2) (rd y727 x43_3)) t732 _ A29.out).mono ?_); rintro e w30 ⟨v733, rfl, ho0, hb⟩; have n0_ := Aside0.mk (Kd.R_below (zr HO_3.out) hb); have n1_ := Aside0.mk (Kd.R_below (zr HO_32.out) hb); have n2_ := Aside0.mk (Kd.R_lower ho0 (below_size (zb1 HB.out GE719.out))); have n3_ := Aside0.mk (blk_below (g := gb719) (o := .cells #[.int .i64 a0_0, .slice A0_1 l0_1.length c0_1] 31 (0, 0)) (zk BK719.out) hb); have n4_ := Aside0.mk (Kd.C_below (by repeat (first | (with_reducible exact HR730.out) | (with_reducible refine Kd.C_alloc ?_ _) | (with_reducible refine Kd.C_drewN ?_ _) | (with_reducible refine Kd.C_drew ?_) | exact HR730.out)) hb); have n5_ := Aside0.mk (below_step (zb1 HB.out GE719.out) hb); clear HO_3; clear HO_32; clear BK719; clear HR730; clear HB; have HO_3 := n0_; have HO_32 := n1_; have HO734 := n2_; have BK719 := n3_; have HR730 := n4_; have HB := n5_; clear n0_ n1_ n2_ n3_ n4_ n5_; (try clear hb); (try clear hb2); (try clear hk); (try clear hi); (try clear ho0); obtain ⟨Ao31, co31, eo31⟩ := Kd.R_slice HO734.out; subst eo31))
               repeat (go_quiet (first | (go_at_call 78; (with_reducible refine (impl_crowd_group.calls k3 (Go.bits .and .u64 (rd t720 x34_2) (rd y727 x43_3)) t732 _ A29.out).mono ?_); rintro e w30 ⟨v733, rfl, ho0, hb⟩; have n0_ := Aside0.mk (Kd.R_below (zr HO_3.out) hb); have n1_ := Aside0.mk (Kd.R_below (zr HO_32.out) hb); have n2_ := Aside0.mk (Kd.R_lower ho0 (below_size (zb1 HB.out GE719.out))); have n3_ := Aside0.mk (blk_below (g := gb719) (o := .cells #[.int .i64 a0_0, .slice A0_1 l0_1.length c0_1] 31 (0, 0)) (zk BK719.out) hb); have n4_ := Aside0.mk (Kd.C_below (by repeat (first | (with_reducible exact HR730.out) | (with_reducible refine Kd.C_alloc ?_ _) | (with_reducible refine Kd.C_drewN ?_ _) | (with_reducible refine Kd.C_drew ?_) | exact HR730.out)) hb); have n5_ := Aside0.mk (below_step (zb1 HB.out GE719.out) hb); clear HO_3; clear HO_32; clear BK719; clear HR730; clear HB; have HO_3 := n0_; have HO_32 := n1_; have HO734 := n2_; have BK719 := n3_; have HR730 := n4_; have HB := n5_; clear n0_ n1_ n2_ n3_ n4_ n5_; (try clear hb); (try clear hb2); (try clear hk); (try clear hi); (try clear ho0); obtain ⟨Ao31, co31, eo31⟩ := Kd.R_slice HO734.out; subst eo31)); try go_wp2_with (first | (go_at_call 78; (with_reducible refine (impl_crowd_group.calls k3 (Go.bits .and .u64 (rd t720 x34_2) (rd y727 x43_3)) t732 _ A29.out).mono ?_); rintro e w30 ⟨v733, rfl, ho0, hb⟩; have n0_ := Aside0.mk (Kd.R_below (zr HO_3.out) hb); have n1_ := Aside0.mk (Kd.R_below (zr HO_32.out) hb); have n2_ := Aside0.mk (Kd.R_lower ho0 (below_size (zb1 HB.out GE719.out))); have n3_ := Aside0.mk (blk_below (g := gb719) (o := .cells #[.int .i64 a0_0, .slice A0_1 l0_1.length c0_1] 31 (0, 0)) (zk BK719.out) hb); have n4_ := Aside0.mk (Kd.C_below (by repeat (first | (with_reducible exact HR730.out) | (with_reducible refine Kd.C_alloc ?_ _) | (with_reducible refine Kd.C_drewN ?_ _) | (with_reducible refine Kd.C_drew ?_) | exact HR730.out)) hb); have n5_ := Aside0.mk (below_step (zb1 HB.out GE719.out) hb); clear HO_3; clear HO_32; clear BK719; clear HR730; clear HB; have HO_3 := n0_; have HO_32 := n1_; have HO734 := n2_; have BK719 := n3_; have HR730 := n4_; have HB := n5_; clear n0_ n1_ n2_ n3_ n4_ n5_; (try clear hb); (try clear hb2); (try clear hk); (try clear hi); (try clear ho0); obtain ⟨Ao31, co31, eo31⟩ := Kd.R_slice HO734.out; subst eo31)))
               go_loopg [52] k3 (fun kq v52 w' => ∃ (x52_4 : Int), v52 = .int .i64 x52_4 ∧ Aside0 (impl_Family_isPort.l3 kq t720 (rd t720 x34_2) (rd y727 x43_3) t720 (t720.length : Int) x34_2 y727 (y727.length : Int) x43_3 t732 (t732.length : Int) x52_4 = some r) ∧ Aside0 (kq ≤ k3) ∧ Aside0 (Kd.R (Kd.int .u64) 97 w' w.heap.size (fun _ => True) (.slice (some ad726) t720.length co19) t720) ∧ Aside0 (Kd.R (Kd.int .u64) 97 w' w.heap.size (fun _ => True) (.slice (some ad726) t720.length co19) t720) ∧ Aside0 (Kd.R (Kd.int .i64) 2 w' w.heap.size (fun _ => True) (.slice Ao31 t732.length co31) t732) ∧ Aside0 (w'.heap[gb719]? = some (.cells #[.int .i64 a0_0, (.slice A0_1 l0_1.length c0_1)] 31 (0, 0))) ∧ Aside0 (Kd.C (Kd.int .u64) w' (some ad726) y727.length y727) ∧ Aside0 (Below w.heap.size w w'))
               case atStart => exact ⟨(0), zt, H', ⟨Nat.le_refl _⟩, ⟨zr HO_3.out⟩, ⟨zr HO_32.out⟩, ⟨zr HO734.out⟩, ⟨zk BK719.out⟩, ⟨by repeat (first | (with_reducible exact HR730.out) | (with_reducible refine Kd.C_alloc ?_ _) | (with_reducible refine Kd.C_drewN ?_ _) | (with_reducible refine Kd.C_drew ?_) | exact HR730.out)⟩, ⟨zb1 HB.out GE719.out⟩⟩
               case round =>
                clear H'
                obtain ⟨x52_4, rfl, HA, HK4, HO_3, HO_32, HO_50, BK719, HR730, HB⟩ := hrel
                cases gk with
                | zero => exact absurd HA.out (by simp [impl_Family_isPort.l3])
                | succ k4 =>
                 have H := HA.out
                 clear HA
                 simp only [impl_Family_isPort.l3] at H
                 by_cases c32 : x52_4 < (t732.length : Int)
                 ·rw [if_pos c32] at H
                  have c32b0 : decide (x52_4 < (t732.length : Int)) = true := decide_eq_true c32
                  clear c32
                  by_cases c33 : 0 ≤ x52_4
                  ·rw [if_pos c33] at H
                   have c33b0 : decide (0 ≤ x52_4) = true := decide_eq_true c33
                   clear c33
                   by_cases c34 : x52_4 < (t732.length : Int)
                   ·rw [if_pos c34] at H
                    have c34b0 : decide (x52_4 < (t732.length : Int)) = true := decide_eq_true c34
                    clear c34
                    by_cases c35 : 0 ≤ (rd t732 x52_4)
                    ·rw [if_pos c35] at H
                     have c35b0 := eq_true c35
                     have c35b1 : decide (0 ≤ (rd t732 x52_4)) = true := decide_eq_true c35
                     clear c35
                     obtain ⟨ji36, hji36⟩ : ∃ j_ : Int, (shl .u64 1 (rd t732 x52_4)) = j_ := ⟨_, rfl⟩
                     replace H : ((anyIn.f k4 t720 (Go.bits .andNot .u64 (Go.bits .or .u64 (rd t720 x34_2) (rd y727 x43_3)) (ji36))).bind fun t736 => (if t736 = true then (impl_Family_isPort.l3 k4 t720 (rd t720 x34_2) (rd y727 x43_3) t720 (t720.length : Int) x34_2 y727 (y727.length : Int) x43_3 t732 (t732.length : Int) (wrap64 (x52_4 + 1))) else (some false))) = some r := by first | (rw [hji36] at H; exact H) | (simp only [hji36] at H ⊢; exact H)
                     have hji36_ : (IntKind.u64.wrap (1 * 2 ^ min (rd t732 x52_4).toNat 64)) = ji36 := hji36
                     have hji36z : (rd t732 x52_4) ≤ 64 → (IntKind.u64.wrap (1 * 2 ^ (rd t732 x52_4).toNat)) = ji36 := shl_small hji36
                     have hji36u : (IntKind.u64.wrap (2 ^ min (rd t732 x52_4).toNat 64)) = ji36 := by have h_ := hji36_; rw [Int.one_mul] at h_; exact h_
                     have hji36v : (rd t732 x52_4) ≤ 64 → (IntKind.u64.wrap (2 ^ (rd t732 x52_4).toNat)) = ji36 := fun hle_ => by have h_ := hji36z hle_; rw [Int.one_mul] at h_; exact h_
                     replace H := Option.bind_eq_some_iff.mp H
                     obtain ⟨t736, A370, H⟩ := H
                     replace H : (if t736 = true then (impl_Family_isPort.l3 k4 t720 (rd t720 x34_2) (rd y727 x43_3) t720 (t720.length : Int) x34_2 y727 (y727.length : Int) x43_3 t732 (t732.length : Int) (wrap64 (x52_4 + 1))) else (some false)) = some r := H
                     have A37 := Aside0.mk A370
                     clear A370
                     by_cases c38 : t736 = true
                     ·subst c38
                      rw [if_pos rfl] at H
                      have H' := Aside0.mk H
                      clear H
                      have p735 : 0 ≤ (x52_4 : Int) := of_decide_eq_true zq
                      have q735 : x52_4 < (t732.length : Int) := of_decide_eq_true zq
                      obtain ⟨ad735, e735, hx735_0⟩ := Kd.at_int (Kd.R_reads' HO_50.out).2.2 x52_4 p735 q735
                      cases e735
                      replace p735 := eq_true p735
                      replace q735 := eq_true q735
                      go_wp2_with (first | (go_at_call 103; (with_reducible refine (anyIn_calls k4 _ _ t720 (Go.bits .andNot .u64 (Go.bits .or .u64 (rd t720 x34_2) (rd y727 x43_3)) (ji36)) true _ ?side1 ?side2 A37.out).mono ?_); (case side1 => repeat (first | exact (Kd.R_reads' HO_3.out).2.2 | (with_reducible refine Kd.C_alloc ?_ _) | (with_reducible refine Kd.C_drewN ?_ _) | (with_reducible refine Kd.C_drew ?_))); (case side2 => exact (Kd.R_reads' HO_3.out).2.1); rintro e w' ⟨rfl, ⟨nd, rfl⟩⟩; (try exact zd)))
                      repeat (go_quiet (first | (go_at_call 103; (with_reducible refine (anyIn_calls k4 _ _ t720 (Go.bits .andNot .u64 (Go.bits .or .u64 (rd t720 x34_2) (rd y727 x43_3)) (ji36)) true _ ?side1 ?side2 A37.out).mono ?_); (case side1 => repeat (first | exact (Kd.R_reads' HO_3.out).2.2 | (with_reducible refine Kd.C_alloc ?_ _) | (with_reducible refine Kd.C_drewN ?_ _) | (with_reducible refine Kd.C_drew ?_))); (case side2 => exact (Kd.R_reads' HO_3.out).2.1); rintro e w' ⟨rfl, ⟨nd, rfl⟩⟩; (try exact zd))); try go_wp2_with (first | (go_at_call 103; (with_reducible refine (anyIn_calls k4 _ _ t720 (Go.bits .andNot .u64 (Go.bits .or .u64 (rd t720 x34_2) (rd y727 x43_3)) (ji36)) true _ ?side1 ?side2 A37.out).mono ?_); (case side1 => repeat (first | exact (Kd.R_reads' HO_3.out).2.2 | (with_reducible refine Kd.C_alloc ?_ _) | (with_reducible refine Kd.C_drewN ?_ _) | (with_reducible refine Kd.C_drew ?_))); (case side2 => exact (Kd.R_reads' HO_3.out).2.1); rintro e w' ⟨rfl, ⟨nd, rfl⟩⟩; (try exact zd))))
                      go_roundg k4
                      case measure => have := HK1.out; have := HK2.out; have := HK3.out; have := HK4.out; omega
                      case rel => exact ⟨(wrap64 (x52_4 + 1)), zt, H', ⟨by have := HK1.out; have := HK2.out; have := HK3.out; have := HK4.out; omega⟩, ⟨zr HO_3.out⟩, ⟨zr HO_32.out⟩, ⟨zr HO_50.out⟩, ⟨zk BK719.out⟩, ⟨by repeat (first | (with_reducible exact HR730.out) | (with_reducible refine Kd.C_alloc ?_ _) | (with_reducible refine Kd.C_drewN ?_ _) | (with_reducible refine Kd.C_drew ?_) | exact HR730.out)⟩, ⟨zb1 HB.out GE719.out⟩⟩
                     ·replace c38 := Bool.eq_false_iff.mpr c38
                      subst c38
                      rw [if_neg (show ¬ (false = true) by decide)] at H
                      obtain rfl := Option.some.inj H
                      have p735 : 0 ≤ (x52_4 : Int) := of_decide_eq_true zq
                      have q735 : x52_4 < (t732.length : Int) := of_decide_eq_true zq
                      obtain ⟨ad735, e735, hx735_0⟩ := Kd.at_int (Kd.R_reads' HO_50.out).2.2 x52_4 p735 q735
                      cases e735
                      replace p735 := eq_true p735
                      replace q735 := eq_true q735
                      go_wp2_with (first | (go_at_call 103; (with_reducible refine (anyIn_calls k4 _ _ t720 (Go.bits .andNot .u64 (Go.bits .or .u64 (rd t720 x34_2) (rd y727 x43_3)) (ji36)) false _ ?side1 ?side2 A37.out).mono ?_); (case side1 => repeat (first | exact (Kd.R_reads' HO_3.out).2.2 | (with_reducible refine Kd.C_alloc ?_ _) | (with_reducible refine Kd.C_drewN ?_ _) | (with_reducible refine Kd.C_drew ?_))); (case side2 => exact (Kd.R_reads' HO_3.out).2.1); rintro e w' ⟨rfl, ⟨nd, rfl⟩⟩; (try exact zd)))
                      repeat (go_quiet (first | (go_at_call 103; (with_reducible refine (anyIn_calls k4 _ _ t720 (Go.bits .andNot .u64 (Go.bits .or .u64 (rd t720 x34_2) (rd y727 x43_3)) (ji36)) false _ ?side1 ?side2 A37.out).mono ?_); (case side1 => repeat (first | exact (Kd.R_reads' HO_3.out).2.2 | (with_reducible refine Kd.C_alloc ?_ _) | (with_reducible refine Kd.C_drewN ?_ _) | (with_reducible refine Kd.C_drew ?_))); (case side2 => exact (Kd.R_reads' HO_3.out).2.1); rintro e w' ⟨rfl, ⟨nd, rfl⟩⟩; (try exact zd))); try go_wp2_with (first | (go_at_call 103; (with_reducible refine (anyIn_calls k4 _ _ t720 (Go.bits .andNot .u64 (Go.bits .or .u64 (rd t720 x34_2) (rd y727 x43_3)) (ji36)) false _ ?side1 ?side2 A37.out).mono ?_); (case side1 => repeat (first | exact (Kd.R_reads' HO_3.out).2.2 | (with_reducible refine Kd.C_alloc ?_ _) | (with_reducible refine Kd.C_drewN ?_ _) | (with_reducible refine Kd.C_drew ?_))); (case side2 => exact (Kd.R_reads' HO_3.out).2.1); rintro e w' ⟨rfl, ⟨nd, rfl⟩⟩; (try exact zd))))
                      go_ret
                      exact ⟨by first | rfl | (simp [errW_none, errW_some] <;> rfl) | (simp only [← hji36]; first | rfl | (simp [errW_none, errW_some] <;> rfl)) | (simp [*, errW_none, errW_some] <;> rfl), zb1 HB.out GE719.out⟩
                    ·rw [if_neg c35] at H
                     exact absurd H (by simp)
                   ·rw [if_neg c34] at H
                    exact absurd H (by simp)
                  ·rw [if_neg c33] at H
                   exact absurd H (by simp)
                 ·rw [if_neg c32] at H
                  have c32b0 : decide (x52_4 < (t732.length : Int)) = false := decide_eq_false c32
                  clear c32
                  have H' := Aside0.mk H
                  clear H
                  go_wp2
                  repeat (go_quiet (fail); try go_wp2)
                  go_roundg k4
                  case measure => have := HK1.out; have := HK2.out; have := HK3.out; have := HK4.out; omega
                  case rel => exact ⟨(wrap64 (x43_3 + 1)), zt, H', ⟨by have := HK1.out; have := HK2.out; have := HK3.out; have := HK4.out; omega⟩, ⟨zr HO_3.out⟩, ⟨zr HO_32.out⟩, ⟨zk BK719.out⟩, ⟨by repeat (first | (with_reducible exact HR730.out) | (with_reducible refine Kd.C_alloc ?_ _) | (with_reducible refine Kd.C_drewN ?_ _) | (with_reducible refine Kd.C_drew ?_) | exact HR730.out)⟩, ⟨zb1 HB.out GE719.out⟩⟩
              ·rw [if_neg c28] at H
               exact absurd H (by simp)
             ·rw [if_neg c27] at H
              exact absurd H (by simp)
            ·rw [if_neg c26] at H
             have c26b0 : decide (x43_3 < (y727.length : Int)) = false := decide_eq_false c26
             clear c26
             have H' := Aside0.mk H
             clear H
             go_wp2
             repeat (go_quiet (fail); try go_wp2)
             go_roundg k3
             case measure => have := HK1.out; have := HK2.out; have := HK3.out; omega
             case rel => exact ⟨(wrap64 (x34_2 + 1)), zt, H', ⟨by have := HK1.out; have := HK2.out; have := HK3.out; omega⟩, ⟨zr HO_3.out⟩, ⟨zr HO_32.out⟩, ⟨zk BK719.out⟩, ⟨zb1 HB.out GE719.out⟩⟩
         ·rw [if_neg c24] at H
          exact absurd H (by simp)
        ·rw [if_neg c22] at H
         exact absurd H (by simp)
       ·rw [if_neg c21] at H
        exact absurd H (by simp)
      ·rw [if_neg c20] at H
       have c20b0 : decide (x34_2 < (t720.length : Int)) = false := decide_eq_false c20
       clear c20
       obtain rfl := Option.some.inj H
       go_wp2
       repeat (go_quiet (fail); try go_wp2)
       go_ret
       exact ⟨ze, zb1 HB.out GE719.out⟩
open Go.RowKit Go.Proofs.YtmbeijjkfmgkpaaW.PrintWords Go.Proofs.YtmbeijjkfmgkpaaW.PrintLast Go.Proofs.YtmbeijjkfmgkpaaW.PrintMore
attribute [local go_sem] max2_int min2_int max_two min_two max_three min_three max_four min_four
set_option linter.unusedVariables false
set_option linter.unusedSimpArgs false
def spec_l07Within.l0 : Nat → List Int → Int → Int → Option (Bool)
  | 0, _, _, _ => none
  | k + 1, x0, x1, x5 => if x5 < (x0.length : Int) then (if 0 ≤ x5 then (if (Go.bits .and .i64 (rd x0 x5) x1) = (rd x0 x5) then (some true) else (spec_l07Within.l0 k x0 x1 (wrap64 (x5 + 1)))) else (none)) else (some false)
def spec_l07Within.f (k : Nat) (l0 : List Int) (a1 : Int) : Option (Bool) := spec_l07Within.l0 k l0 a1 0
theorem spec_l07Within.mono_l : ∀ k, (∀ y0 y1 y2, LeO (spec_l07Within.l0 k y0 y1 y2) (spec_l07Within.l0 (k + 1) y0 y1 y2))
  | 0 => fun _ _ _ r h => by simp [spec_l07Within.l0] at h
  | k + 1 => by
    have ih0 := spec_l07Within.mono_l k
    · intro y0 y1 y2
      unfold spec_l07Within.l0
      repeat' first
      | (with_reducible exact ih0 _ _ _)
      | (with_reducible exact LeO.refl _)
      | (with_reducible exact LeO.none _)
      | (with_reducible refine LeO.ite ?_ ?_)
      | (with_reducible refine LeO.bind ?_ (fun _ => ?_))
      | exact ih0 _ _ _
      | exact LeO.none _
      | refine LeO.ite ?_ ?_
      | refine LeO.bind ?_ (fun _ => ?_)
theorem spec_l07Within.mono : ∀ a0 a1 k, LeO (spec_l07Within.f k a0 a1) (spec_l07Within.f (k + 1) a0 a1) := by
  intro a0 a1 k
  have ih0 := spec_l07Within.mono_l k
  unfold spec_l07Within.f
  repeat' first
      | (with_reducible exact ih0 _ _ _)
      | (with_reducible exact LeO.refl _)
      | (with_reducible exact LeO.none _)
      | (with_reducible refine LeO.ite ?_ ?_)
      | (with_reducible refine LeO.bind ?_ (fun _ => ?_))
      | exact ih0 _ _ _
      | exact LeO.none _
      | refine LeO.ite ?_ ?_
      | refine LeO.bind ?_ (fun _ => ?_)
set_option maxHeartbeats 8000000 in
set_option maxRecDepth 100000 in
theorem spec_l07Within.calls (k : Nat) (A0 : Option Addr) (c0 : Nat) (l0 : List Int) (a1 : Int) (r : Bool) (w : World) (hr0 : Kd.C (Kd.int .i64) w A0 l0.length l0) (hc0 : l0.length ≤ c0) (h : spec_l07Within.f k l0 a1 = some r) :
  Calls Try.prog 114 #[.slice A0 l0.length c0, .int .i64 a1] w fun e w' => e = .returned (.bool r) ∧ Drawn0 w w' := by
 have HR0 := Aside0.mk hr0
 have HC0 := Aside0.mk hc0
 clear hr0 hc0
 have H : (spec_l07Within.l0 k l0 a1 0) = some r := h
 clear h
 have H' := Aside0.mk H
 clear H
 go_enter Try.func114, Try.ntmps114
 go_wp2
 repeat (go_quiet (fail); try go_wp2)
 go_loopg [5] k (fun kq v5 w' => ∃ (x5_1 : Int), v5 = .int .i64 x5_1 ∧ Aside0 (spec_l07Within.l0 kq l0 a1 x5_1 = some r) ∧ Aside0 (kq ≤ k) ∧ Drawn0 w w')
 case atStart => exact ⟨(0), zt, H', ⟨Nat.le_refl _⟩, by repeat (first | exact Drawn0.refl _ | apply Drawn0.step)⟩
 case round =>
  clear H'
  obtain ⟨x5_1, rfl, HA, HK1, ⟨m1, rfl⟩⟩ := hrel
  cases gk with
  | zero => exact absurd HA.out (by simp [spec_l07Within.l0])
  | succ k1 =>
   have H := HA.out
   clear HA
   simp only [spec_l07Within.l0] at H
   by_cases c3 : x5_1 < (l0.length : Int)
   ·rw [if_pos c3] at H
    have c3b0 : decide (x5_1 < (l0.length : Int)) = true := decide_eq_true c3
    clear c3
    by_cases c4 : 0 ≤ x5_1
    ·rw [if_pos c4] at H
     have c4b0 : decide (0 ≤ x5_1) = true := decide_eq_true c4
     clear c4
     by_cases c5 : (Go.bits .and .i64 (rd l0 x5_1) a1) = (rd l0 x5_1)
     ·rw [if_pos c5] at H
      have c5b0 : ((Go.bits .and .i64 (rd l0 x5_1) a1) == (rd l0 x5_1)) = true := beq_iff_eq.mpr c5
      have c5b1 : ((Go.bits .and .i64 (rd l0 x5_1) a1) != (rd l0 x5_1)) = false := bne_eq_false_iff_eq.mpr c5
      clear c5
      obtain rfl := Option.some.inj H
      have p964 : 0 ≤ (x5_1 : Int) := of_decide_eq_true zq
      have q964 : x5_1 < (l0.length : Int) := of_decide_eq_true zq
      obtain ⟨ad964, e964, hx964_0⟩ := Kd.at_int HR0.out x5_1 p964 q964
      cases e964
      replace p964 := eq_true p964
      replace q964 := eq_true q964
      have p965 : 0 ≤ (x5_1 : Int) := of_decide_eq_true zq
      have q965 : x5_1 < (l0.length : Int) := of_decide_eq_true zq
      obtain ⟨ad965, e965, hx965_0⟩ := Kd.at_int HR0.out x5_1 p965 q965
      obtain rfl : ad964 = ad965 := (by injection e965)
      replace p965 := eq_true p965
      replace q965 := eq_true q965
      go_wp2
      repeat (go_quiet (fail); try go_wp2)
      go_ret
      exact ⟨by first | rfl | (simp; done) | (simp [*]; done), by repeat (first | exact Drawn0.refl _ | apply Drawn0.step)⟩
     ·rw [if_neg c5] at H
      have c5b0 : ((Go.bits .and .i64 (rd l0 x5_1) a1) == (rd l0 x5_1)) = false := beq_eq_false_iff_ne.mpr c5
      have c5b1 : ((Go.bits .and .i64 (rd l0 x5_1) a1) != (rd l0 x5_1)) = true := bne_iff_ne.mpr c5
      have H' := Aside0.mk H
      clear H
      have p964 : 0 ≤ (x5_1 : Int) := of_decide_eq_true zq
      have q964 : x5_1 < (l0.length : Int) := of_decide_eq_true zq
      obtain ⟨ad964, e964, hx964_0⟩ := Kd.at_int HR0.out x5_1 p964 q964
      cases e964
      replace p964 := eq_true p964
      replace q964 := eq_true q964
      have p965 : 0 ≤ (x5_1 : Int) := of_decide_eq_true zq
      have q965 : x5_1 < (l0.length : Int) := of_decide_eq_true zq
      obtain ⟨ad965, e965, hx965_0⟩ := Kd.at_int HR0.out x5_1 p965 q965
      obtain rfl : ad964 = ad965 := (by injection e965)
      replace p965 := eq_true p965
      replace q965 := eq_true q965
      go_wp2
      repeat (go_quiet (fail); try go_wp2)
      go_roundg k1
      case measure => have := HK1.out; omega
      case rel => exact ⟨(wrap64 (x5_1 + 1)), zt, H', ⟨by have := HK1.out; omega⟩, by repeat (first | exact Drawn0.refl _ | apply Drawn0.step)⟩
    ·rw [if_neg c4] at H
     exact absurd H (by simp)
   ·rw [if_neg c3] at H
    have c3b0 : decide (x5_1 < (l0.length : Int)) = false := decide_eq_false c3
    clear c3
    obtain rfl := Option.some.inj H
    go_wp2
    repeat (go_quiet (fail); try go_wp2)
    go_ret
    exact ⟨by first | rfl | (simp; done) | (simp [*]; done), by repeat (first | exact Drawn0.refl _ | apply Drawn0.step)⟩
mutual
def spec_l07Port.l0 : Nat → List Int → Bool → Int → Int → List (List Int) → Option (List Int × Bool)
 | 0, _, _, _, _, _ => none
 | k + 1, x4, x5, x6, x967000, x967001 => if x6 < (x4.length : Int) then (spec_l07Port.j1 k x4 x5 x6 x5 x967000 x967001) else (spec_l07Port.j1 k x4 x5 x6 false x967000 x967001)
def spec_l07Port.j1 : Nat → List Int → Bool → Int → Bool → Int → List (List Int) → Option (List Int × Bool)
 | 0, _, _, _, _, _, _ => none
 | k + 1, x4, x5, x6, x21, x967000, x967001 => if x21 = true then (spec_l07Port.l1 k x4 x5 x6 0 x967000 x967001) else (some (x4, x5))
def spec_l07Port.l1 : Nat → List Int → Bool → Int → Int → Int → List (List Int) → Option (List Int × Bool)
 | 0, _, _, _, _, _, _ => none
 | k + 1, x4, x5, x6, x7, x967000, x967001 => if x7 < x6 then (spec_l07Port.j3 k x4 x5 x6 x7 x5 x967000 x967001) else (spec_l07Port.j3 k x4 x5 x6 x7 false x967000 x967001)
def spec_l07Port.j3 : Nat → List Int → Bool → Int → Int → Bool → Int → List (List Int) → Option (List Int × Bool)
 | 0, _, _, _, _, _, _, _ => none
 | k + 1, x4, x5, x6, x7, x29, x967000, x967001 => if x29 = true then (spec_l07Port.l2 k x4 x5 x6 x7 0 x967000 x967001) else (spec_l07Port.l0 k x4 x5 (wrap64 (x6 + 1)) x967000 x967001)
def spec_l07Port.l2 : Nat → List Int → Bool → Int → Int → Int → Int → List (List Int) → Option (List Int × Bool)
 | 0, _, _, _, _, _, _, _ => none
 | k + 1, x4, x5, x6, x7, x8, x967000, x967001 => if x8 ≤ x967000 then (spec_l07Port.j5 k x4 x5 x6 x7 x8 x5 x967000 x967001) else (spec_l07Port.j5 k x4 x5 x6 x7 x8 false x967000 x967001)
def spec_l07Port.j5 : Nat → List Int → Bool → Int → Int → Int → Bool → Int → List (List Int) → Option (List Int × Bool)
 | 0, _, _, _, _, _, _, _, _ => none
 | k + 1, x4, x5, x6, x7, x8, x40, x967000, x967001 => if x40 = true then (if 0 ≤ (IntKind.u64.wrap (x8)) then (if 0 ≤ x6 then (if x6 < (x4.length : Int) then (if 0 ≤ x7 then (if x7 < (x4.length : Int) then (if (Go.bits .and .i64 (Go.bits .and .i64 (rd x4 x6) (rd x4 x7)) (shl .i64 1 (IntKind.u64.wrap (x8)))) = 0 then (spec_l07Port.l2 k x4 x5 x6 x7 (wrap64 (x8 + 1)) x967000 x967001) else ((spec_l07Within.f k x4 (Go.bits .andNot .i64 (Go.bits .or .i64 (rd x4 x6) (rd x4 x7)) (shl .i64 1 (IntKind.u64.wrap (x8))))).bind fun t975 => (spec_l07Port.l2 k x4 t975 x6 x7 (wrap64 (x8 + 1)) x967000 x967001))) else (none)) else (none)) else (none)) else (none)) else (none)) else (spec_l07Port.l1 k x4 x5 x6 (wrap64 (x7 + 1)) x967000 x967001)
end
def spec_l07Port.f (k : Nat) (a0_0 : Int) (l0_1 : List (List Int)) : Option (List Int × Bool) := (spec_l07Circuits.f k a0_0 l0_1).bind fun bt967 => (spec_l07Port.l0 k bt967.1 bt967.2 0 a0_0 l0_1)
theorem spec_l07Port.mono_l : ∀ k, (∀ y0 y1 y2 y3 y4, LeO (spec_l07Port.l0 k y0 y1 y2 y3 y4) (spec_l07Port.l0 (k + 1) y0 y1 y2 y3 y4)) ∧ (∀ y0 y1 y2 y3 y4 y5, LeO (spec_l07Port.j1 k y0 y1 y2 y3 y4 y5) (spec_l07Port.j1 (k + 1) y0 y1 y2 y3 y4 y5)) ∧ (∀ y0 y1 y2 y3 y4 y5, LeO (spec_l07Port.l1 k y0 y1 y2 y3 y4 y5) (spec_l07Port.l1 (k + 1) y0 y1 y2 y3 y4 y5)) ∧ (∀ y0 y1 y2 y3 y4 y5 y6, LeO (spec_l07Port.j3 k y0 y1 y2 y3 y4 y5 y6) (spec_l07Port.j3 (k + 1) y0 y1 y2 y3 y4 y5 y6)) ∧ (∀ y0 y1 y2 y3 y4 y5 y6, LeO (spec_l07Port.l2 k y0 y1 y2 y3 y4 y5 y6) (spec_l07Port.l2 (k + 1) y0 y1 y2 y3 y4 y5 y6)) ∧ (∀ y0 y1 y2 y3 y4 y5 y6 y7, LeO (spec_l07Port.j5 k y0 y1 y2 y3 y4 y5 y6 y7) (spec_l07Port.j5 (k + 1) y0 y1 y2 y3 y4 y5 y6 y7))
 | 0 => ⟨fun _ _ _ _ _ r h => by simp [spec_l07Port.l0] at h, fun _ _ _ _ _ _ r h => by simp [spec_l07Port.j1] at h, fun _ _ _ _ _ _ r h => by simp [spec_l07Port.l1] at h, fun _ _ _ _ _ _ _ r h => by simp [spec_l07Port.j3] at h, fun _ _ _ _ _ _ _ r h => by simp [spec_l07Port.l2] at h, fun _ _ _ _ _ _ _ _ r h => by simp [spec_l07Port.j5] at h⟩
 | k + 1 => by
  obtain ⟨ih0, ih1, ih2, ih3, ih4, ih5⟩ := spec_l07Port.mono_l k
  refine ⟨?_, ?_, ?_, ?_, ?_, ?_⟩
  ·intro y0 y1 y2 y3 y4
   unfold spec_l07Port.l0
   repeat' first
   | (with_reducible exact ih0 _ _ _ _ _)
   | (with_reducible exact ih1 _ _ _ _ _ _)
   | (with_reducible exact ih2 _ _ _ _ _ _)
   | (with_reducible exact ih3 _ _ _ _ _ _ _)
   | (with_reducible exact ih4 _ _ _ _ _ _ _)
   | (with_reducible exact ih5 _ _ _ _ _ _ _ _)
   | (with_reducible exact spec_l07Circuits.mono _ _ _)
   | (with_reducible exact spec_l07Within.mono _ _ _)
   | (with_reducible exact LeO.refl _)
   | (with_reducible exact LeO.none _)
   | (with_reducible refine LeO.ite ?_ ?_)
   | (with_reducible refine LeO.bind ?_ (fun _ => ?_))
   | exact ih0 _ _ _ _ _
   | exact ih1 _ _ _ _ _ _
   | exact ih2 _ _ _ _ _ _
   | exact ih3 _ _ _ _ _ _ _
   | exact ih4 _ _ _ _ _ _ _
   | exact ih5 _ _ _ _ _ _ _ _
   | exact spec_l07Circuits.mono _ _ _
   | exact spec_l07Within.mono _ _ _
   | exact LeO.none _
   | refine LeO.ite ?_ ?_
   | refine LeO.bind ?_ (fun _ => ?_)
  ·intro y0 y1 y2 y3 y4 y5
   unfold spec_l07Port.j1
   repeat' first
   | (with_reducible exact ih0 _ _ _ _ _)
   | (with_reducible exact ih1 _ _ _ _ _ _)
   | (with_reducible exact ih2 _ _ _ _ _ _)
   | (with_reducible exact ih3 _ _ _ _ _ _ _)
   | (with_reducible exact ih4 _ _ _ _ _ _ _)
   | (with_reducible exact ih5 _ _ _ _ _ _ _ _)
   | (with_reducible exact spec_l07Circuits.mono _ _ _)
   | (with_reducible exact spec_l07Within.mono _ _ _)
   | (with_reducible exact LeO.refl _)
   | (with_reducible exact LeO.none _)
   | (with_reducible refine LeO.ite ?_ ?_)
   | (with_reducible refine LeO.bind ?_ (fun _ => ?_))
   | exact ih0 _ _ _ _ _
   | exact ih1 _ _ _ _ _ _
   | exact ih2 _ _ _ _ _ _
   | exact ih3 _ _ _ _ _ _ _
   | exact ih4 _ _ _ _ _ _ _
   | exact ih5 _ _ _ _ _ _ _ _
   | exact spec_l07Circuits.mono _ _ _
   | exact spec_l07Within.mono _ _ _
   | exact LeO.none _
   | refine LeO.ite ?_ ?_
   | refine LeO.bind ?_ (fun _ => ?_)
  ·intro y0 y1 y2 y3 y4 y5
   unfold spec_l07Port.l1
   repeat' first
   | (with_reducible exact ih0 _ _ _ _ _)
   | (with_reducible exact ih1 _ _ _ _ _ _)
   | (with_reducible exact ih2 _ _ _ _ _ _)
   | (with_reducible exact ih3 _ _ _ _ _ _ _)
   | (with_reducible exact ih4 _ _ _ _ _ _ _)
   | (with_reducible exact ih5 _ _ _ _ _ _ _ _)
   | (with_reducible exact spec_l07Circuits.mono _ _ _)
   | (with_reducible exact spec_l07Within.mono _ _ _)
   | (with_reducible exact LeO.refl _)
   | (with_reducible exact LeO.none _)
   | (with_reducible refine LeO.ite ?_ ?_)
   | (with_reducible refine LeO.bind ?_ (fun _ => ?_))
   | exact ih0 _ _ _ _ _
   | exact ih1 _ _ _ _ _ _
   | exact ih2 _ _ _ _ _ _
   | exact ih3 _ _ _ _ _ _ _
   | exact ih4 _ _ _ _ _ _ _
   | exact ih5 _ _ _ _ _ _ _ _
   | exact spec_l07Circuits.mono _ _ _
   | exact spec_l07Within.mono _ _ _
   | exact LeO.none _
   | refine LeO.ite ?_ ?_
   | refine LeO.bind ?_ (fun _ => ?_)
  ·intro y0 y1 y2 y3 y4 y5 y6
   unfold spec_l07Port.j3
   repeat' first
   | (with_reducible exact ih0 _ _ _ _ _)
   | (with_reducible exact ih1 _ _ _ _ _ _)
   | (with_reducible exact ih2 _ _ _ _ _ _)
   | (with_reducible exact ih3 _ _ _ _ _ _ _)
   | (with_reducible exact ih4 _ _ _ _ _ _ _)
   | (with_reducible exact ih5 _ _ _ _ _ _ _ _)
   | (with_reducible exact spec_l07Circuits.mono _ _ _)
   | (with_reducible exact spec_l07Within.mono _ _ _)
   | (with_reducible exact LeO.refl _)
   | (with_reducible exact LeO.none _)
   | (with_reducible refine LeO.ite ?_ ?_)
   | (with_reducible refine LeO.bind ?_ (fun _ => ?_))
   | exact ih0 _ _ _ _ _
   | exact ih1 _ _ _ _ _ _
   | exact ih2 _ _ _ _ _ _
   | exact ih3 _ _ _ _ _ _ _
   | exact ih4 _ _ _ _ _ _ _
   | exact ih5 _ _ _ _ _ _ _ _
   | exact spec_l07Circuits.mono _ _ _
   | exact spec_l07Within.mono _ _ _
   | exact LeO.none _
   | refine LeO.ite ?_ ?_
   | refine LeO.bind ?_ (fun _ => ?_)
  ·intro y0 y1 y2 y3 y4 y5 y6
   unfold spec_l07Port.l2
   repeat' first
   | (with_reducible exact ih0 _ _ _ _ _)
   | (with_reducible exact ih1 _ _ _ _ _ _)
   | (with_reducible exact ih2 _ _ _ _ _ _)
   | (with_reducible exact ih3 _ _ _ _ _ _ _)
   | (with_reducible exact ih4 _ _ _ _ _ _ _)
   | (with_reducible exact ih5 _ _ _ _ _ _ _ _)
   | (with_reducible exact spec_l07Circuits.mono _ _ _)
   | (with_reducible exact spec_l07Within.mono _ _ _)
   | (with_reducible exact LeO.refl _)
   | (with_reducible exact LeO.none _)
   | (with_reducible refine LeO.ite ?_ ?_)
   | (with_reducible refine LeO.bind ?_ (fun _ => ?_))
   | exact ih0 _ _ _ _ _
   | exact ih1 _ _ _ _ _ _
   | exact ih2 _ _ _ _ _ _
   | exact ih3 _ _ _ _ _ _ _
   | exact ih4 _ _ _ _ _ _ _
   | exact ih5 _ _ _ _ _ _ _ _
   | exact spec_l07Circuits.mono _ _ _
   | exact spec_l07Within.mono _ _ _
   | exact LeO.none _
   | refine LeO.ite ?_ ?_
   | refine LeO.bind ?_ (fun _ => ?_)
  ·intro y0 y1 y2 y3 y4 y5 y6 y7
   unfold spec_l07Port.j5
   repeat' first
   | (with_reducible exact ih0 _ _ _ _ _)
   | (with_reducible exact ih1 _ _ _ _ _ _)
   | (with_reducible exact ih2 _ _ _ _ _ _)
   | (with_reducible exact ih3 _ _ _ _ _ _ _)
   | (with_reducible exact ih4 _ _ _ _ _ _ _)
   | (with_reducible exact ih5 _ _ _ _ _ _ _ _)
   | (with_reducible exact spec_l07Circuits.mono _ _ _)
   | (with_reducible exact spec_l07Within.mono _ _ _)
   | (with_reducible exact LeO.refl _)
   | (with_reducible exact LeO.none _)
   | (with_reducible refine LeO.ite ?_ ?_)
   | (with_reducible refine LeO.bind ?_ (fun _ => ?_))
   | exact ih0 _ _ _ _ _
   | exact ih1 _ _ _ _ _ _
   | exact ih2 _ _ _ _ _ _
   | exact ih3 _ _ _ _ _ _ _
   | exact ih4 _ _ _ _ _ _ _
   | exact ih5 _ _ _ _ _ _ _ _
   | exact spec_l07Circuits.mono _ _ _
   | exact spec_l07Within.mono _ _ _
   | exact LeO.none _
   | refine LeO.ite ?_ ?_
   | refine LeO.bind ?_ (fun _ => ?_)
theorem spec_l07Port.mono : ∀ a0 a1 k, LeO (spec_l07Port.f k a0 a1) (spec_l07Port.f (k + 1) a0 a1) := by
  intro a0 a1 k
  obtain ⟨ih0, ih1, ih2, ih3, ih4, ih5⟩ := spec_l07Port.mono_l k
  unfold spec_l07Port.f
  repeat' first
      | (with_reducible exact ih0 _ _ _ _ _)
      | (with_reducible exact ih1 _ _ _ _ _ _)
      | (with_reducible exact ih2 _ _ _ _ _ _)
      | (with_reducible exact ih3 _ _ _ _ _ _ _)
      | (with_reducible exact ih4 _ _ _ _ _ _ _)
      | (with_reducible exact ih5 _ _ _ _ _ _ _ _)
      | (with_reducible exact spec_l07Circuits.mono _ _ _)
      | (with_reducible exact spec_l07Within.mono _ _ _)
      | (with_reducible exact LeO.refl _)
      | (with_reducible exact LeO.none _)
      | (with_reducible refine LeO.ite ?_ ?_)
      | (with_reducible refine LeO.bind ?_ (fun _ => ?_))
      | exact ih0 _ _ _ _ _
      | exact ih1 _ _ _ _ _ _
      | exact ih2 _ _ _ _ _ _
      | exact ih3 _ _ _ _ _ _ _
      | exact ih4 _ _ _ _ _ _ _
      | exact ih5 _ _ _ _ _ _ _ _
      | exact spec_l07Circuits.mono _ _ _
      | exact spec_l07Within.mono _ _ _
      | exact LeO.none _
      | refine LeO.ite ?_ ?_
      | refine LeO.bind ?_ (fun _ => ?_)
set_option maxHeartbeats 8000000 in
set_option maxRecDepth 100000 in
theorem spec_l07Port.calls (k : Nat) (g0 : Nat) (a0_0 : Int) (A0_1 : Option Addr) (c0_1 : Nat) (l0_1 : List (List Int)) (r1 : List Int) (r2 : Bool) (w : World) (hb0 : w.heap[g0]? = some (.cells #[.int .i64 a0_0, .slice A0_1 l0_1.length c0_1] 31 (0, 0))) (hr0_1 : Kd.C (Kd.slice 2 (Kd.int .i64)) w A0_1 l0_1.length l0_1) (hc0_1 : l0_1.length ≤ c0_1) (h : spec_l07Port.f k a0_0 l0_1 = some (r1, r2)) :
  Calls Try.prog 111 #[.pointer (some ⟨g0, 0, none⟩)] w fun e w' => ∃ v0_ : Value, e = .returned (.tuple #[v0_, .bool r2]) ∧ Kd.R (Kd.int .i64) 2 w' w.heap.size (fun _ => True) v0_ r1 ∧ Below w.heap.size w w' := by
 have HR0_1 := Aside0.mk hr0_1
 have HC0_1 := Aside0.mk hc0_1
 clear hr0_1 hc0_1
 have BK966 := Aside0.mk hb0
 clear hb0
 have HB := Aside0.mk (Below.refl w.heap.size w)
 have H : ((spec_l07Circuits.f k a0_0 l0_1).bind fun bt967 => (spec_l07Port.l0 k bt967.1 bt967.2 0 a0_0 l0_1)) = some (r1, r2) := h
 clear h
 replace H := Option.bind_eq_some_iff.mp H
 obtain ⟨⟨t967, t970⟩, A20, H⟩ := H
 replace H : (spec_l07Port.l0 k t967 t970 0 a0_0 l0_1) = some (r1, r2) := H
 have A2 := Aside0.mk A20
 clear A20
 have H' := Aside0.mk H
 clear H
 go_enter Try.func111, Try.ntmps111
 go_wp2_with (first | (go_at_call 112; (with_reducible refine (spec_l07Circuits.calls k g0 a0_0 A0_1 c0_1 l0_1 t967 t970 _ ?side1 ?side2 ?side3 A2.out).mono ?_); (case side1 => (with_reducible repeat (first | refine blk_drewN ?_ _ | refine blk_drew ?_ | refine blk_alloc ?_ _)); exact BK966.out); (case side2 => exact zc HR0_1.out); (case side3 => exact HC0_1.out); rintro e w3 ⟨v968, rfl, ho0, hb⟩; have n0_ := Aside0.mk (Kd.R_lower ho0 (below_size (zb0 HB.out))); have n1_ := Aside0.mk (blk_below (g := g0) (o := .cells #[.int .i64 a0_0, .slice A0_1 l0_1.length c0_1] 31 (0, 0)) (zk BK966.out) hb); have n2_ := Aside0.mk (below_step (zb0 HB.out) hb); clear BK966; clear HB; have HO969 := n0_; have BK966 := n1_; have HB := n2_; clear n0_ n1_ n2_; (try clear hb); (try clear hb2); (try clear hk); (try clear hi); (try clear ho0)))
 repeat (go_quiet (first | (go_at_call 112; (with_reducible refine (spec_l07Circuits.calls k g0 a0_0 A0_1 c0_1 l0_1 t967 t970 _ ?side1 ?side2 ?side3 A2.out).mono ?_); (case side1 => (with_reducible repeat (first | refine blk_drewN ?_ _ | refine blk_drew ?_ | refine blk_alloc ?_ _)); exact BK966.out); (case side2 => exact zc HR0_1.out); (case side3 => exact HC0_1.out); rintro e w3 ⟨v968, rfl, ho0, hb⟩; have n0_ := Aside0.mk (Kd.R_lower ho0 (below_size (zb0 HB.out))); have n1_ := Aside0.mk (blk_below (g := g0) (o := .cells #[.int .i64 a0_0, .slice A0_1 l0_1.length c0_1] 31 (0, 0)) (zk BK966.out) hb); have n2_ := Aside0.mk (below_step (zb0 HB.out) hb); clear BK966; clear HB; have HO969 := n0_; have BK966 := n1_; have HB := n2_; clear n0_ n1_ n2_; (try clear hb); (try clear hb2); (try clear hk); (try clear hi); (try clear ho0))); try go_wp2_with (first | (go_at_call 112; (with_reducible refine (spec_l07Circuits.calls k g0 a0_0 A0_1 c0_1 l0_1 t967 t970 _ ?side1 ?side2 ?side3 A2.out).mono ?_); (case side1 => (with_reducible repeat (first | refine blk_drewN ?_ _ | refine blk_drew ?_ | refine blk_alloc ?_ _)); exact BK966.out); (case side2 => exact zc HR0_1.out); (case side3 => exact HC0_1.out); rintro e w3 ⟨v968, rfl, ho0, hb⟩; have n0_ := Aside0.mk (Kd.R_lower ho0 (below_size (zb0 HB.out))); have n1_ := Aside0.mk (blk_below (g := g0) (o := .cells #[.int .i64 a0_0, .slice A0_1 l0_1.length c0_1] 31 (0, 0)) (zk BK966.out) hb); have n2_ := Aside0.mk (below_step (zb0 HB.out) hb); clear BK966; clear HB; have HO969 := n0_; have BK966 := n1_; have HB := n2_; clear n0_ n1_ n2_; (try clear hb); (try clear hb2); (try clear hk); (try clear hi); (try clear ho0))))
 go_loopg [5, 6] k (fun kq v5 v6 w' => ∃ (x5_1 : Bool) (x6_1 : Int), v5 = .bool x5_1 ∧ v6 = .int .i64 x6_1 ∧ Aside0 (spec_l07Port.l0 kq t967 x5_1 x6_1 a0_0 l0_1 = some (r1, r2)) ∧ Aside0 (kq ≤ k) ∧ Aside0 (Kd.R (Kd.int .i64) 2 w' w.heap.size (fun _ => True) v968 t967) ∧ Aside0 (w'.heap[g0]? = some (.cells #[.int .i64 a0_0, (.slice A0_1 l0_1.length c0_1)] 31 (0, 0))) ∧ Aside0 (Below w.heap.size w w'))
 case atStart => exact ⟨(t970), (0), zt, zt, H', ⟨Nat.le_refl _⟩, ⟨zr HO969.out⟩, ⟨zk BK966.out⟩, ⟨zb0 HB.out⟩⟩
 case round =>
  clear H'
  obtain ⟨x5_1, x6_1, rfl, rfl, HA, HK1, HO_4, BK966, HB⟩ := hrel
  cases gk with
  | zero => exact absurd HA.out (by simp [spec_l07Port.l0])
  | succ k1 =>
   have H := HA.out
   clear HA
   simp only [spec_l07Port.l0] at H
   have HC4 := Aside0.mk H
   clear H
   go_upto_region 3 with (fail)
   repeat (go_quiet (fail); go_upto_region 3 with (fail))
   go_cut [21] (fun v21 wc => ∃ (kq : Nat) (x21_3 : Bool), v21 = .bool x21_3 ∧ Aside0 (spec_l07Port.j1 kq t967 x5_1 x6_1 x21_3 a0_0 l0_1 = some (r1, r2)) ∧ Aside0 (kq ≤ k1) ∧ Aside0 (Kd.R (Kd.int .i64) 2 wc w.heap.size (fun _ => True) v968 t967) ∧ Aside0 (wc.heap[g0]? = some (.cells #[.int .i64 a0_0, (.slice A0_1 l0_1.length c0_1)] 31 (0, 0))) ∧ Aside0 (Below w.heap.size w wc))
   case first =>
    have H := HC4.out
    clear HC4
    by_cases c5 : x6_1 < (t967.length : Int)
    ·rw [if_pos c5] at H
     have c5b0 : decide (x6_1 < (t967.length : Int)) = true := decide_eq_true c5
     clear c5
     (first | rw [c5b0] | (simp only [i64_w, i32_w]; rw [c5b0]) | skip)
     have H' := Aside0.mk H
     clear H
     obtain ⟨Ao6, co6, eo6⟩ := Kd.R_slice HO_4.out
     subst eo6
     go_wp2
     repeat (go_quiet (fail); try go_wp2)
     go_meet
     case rel => exact ⟨_, (x5_1), zt, H', ⟨by have := HK1.out; first | omega | exact Nat.le_refl _⟩, ⟨zr HO_4.out⟩, ⟨zk BK966.out⟩, ⟨zb0 HB.out⟩⟩
    ·rw [if_neg c5] at H
     have c5b0 : decide (x6_1 < (t967.length : Int)) = false := decide_eq_false c5
     clear c5
     (first | rw [c5b0] | (simp only [i64_w, i32_w]; rw [c5b0]) | skip)
     have H' := Aside0.mk H
     clear H
     obtain ⟨Ao7, co7, eo7⟩ := Kd.R_slice HO_4.out
     subst eo7
     go_wp2
     repeat (go_quiet (fail); try go_wp2)
     go_meet
     case rel => exact ⟨_, (false), zt, H', ⟨by have := HK1.out; first | omega | exact Nat.le_refl _⟩, ⟨zr HO_4.out⟩, ⟨zk BK966.out⟩, ⟨zb0 HB.out⟩⟩
   case rest =>
    clear HC4
    obtain ⟨kq, x21_3, rfl, HA, HJ3, HO_4, BK966, HB⟩ := hcut
    cases kq with
    | zero => exact absurd HA.out (by simp [spec_l07Port.j1])
    | succ kj3 =>
     have H := HA.out
     clear HA
     simp only [spec_l07Port.j1] at H
     by_cases c8 : x21_3 = true
     ·subst c8
      rw [if_pos rfl] at H
      have H' := Aside0.mk H
      clear H
      go_wp2
      repeat (go_quiet (fail); try go_wp2)
      go_loopg [5, 7] kj3 (fun kq v5 v7 w' => ∃ (x5_3 : Bool) (x7_3 : Int), v5 = .bool x5_3 ∧ v7 = .int .i64 x7_3 ∧ Aside0 (spec_l07Port.l1 kq t967 x5_3 x6_1 x7_3 a0_0 l0_1 = some (r1, r2)) ∧ Aside0 (kq ≤ kj3) ∧ Aside0 (Kd.R (Kd.int .i64) 2 w' w.heap.size (fun _ => True) v968 t967) ∧ Aside0 (w'.heap[g0]? = some (.cells #[.int .i64 a0_0, (.slice A0_1 l0_1.length c0_1)] 31 (0, 0))) ∧ Aside0 (Below w.heap.size w w'))
      case atStart => exact ⟨(x5_1), (0), zt, zt, H', ⟨Nat.le_refl _⟩, ⟨zr HO_4.out⟩, ⟨zk BK966.out⟩, ⟨zb0 HB.out⟩⟩
      case round =>
       clear H'
       obtain ⟨x5_3, x7_3, rfl, rfl, HA, HK3, HO_4, BK966, HB⟩ := hrel
       cases gk with
       | zero => exact absurd HA.out (by simp [spec_l07Port.l1])
       | succ k3 =>
        have H := HA.out
        clear HA
        simp only [spec_l07Port.l1] at H
        have HC9 := Aside0.mk H
        clear H
        go_upto_region 6 with (fail)
        repeat (go_quiet (fail); go_upto_region 6 with (fail))
        go_cut [29] (fun v29 wc => ∃ (kq : Nat) (x29_8 : Bool), v29 = .bool x29_8 ∧ Aside0 (spec_l07Port.j3 kq t967 x5_3 x6_1 x7_3 x29_8 a0_0 l0_1 = some (r1, r2)) ∧ Aside0 (kq ≤ k3) ∧ Aside0 (Kd.R (Kd.int .i64) 2 wc w.heap.size (fun _ => True) v968 t967) ∧ Aside0 (wc.heap[g0]? = some (.cells #[.int .i64 a0_0, (.slice A0_1 l0_1.length c0_1)] 31 (0, 0))) ∧ Aside0 (Below w.heap.size w wc))
        case first =>
         have H := HC9.out
         clear HC9
         by_cases c10 : x7_3 < x6_1
         ·rw [if_pos c10] at H
          have c10b0 : decide (x7_3 < x6_1) = true := decide_eq_true c10
          clear c10
          (first | rw [c10b0] | (simp only [i64_w, i32_w]; rw [c10b0]) | skip)
          have H' := Aside0.mk H
          clear H
          go_wp2
          repeat (go_quiet (fail); try go_wp2)
          go_meet
          case rel => exact ⟨_, (x5_3), zt, H', ⟨by have := HK1.out; have := HJ3.out; have := HK3.out; first | omega | exact Nat.le_refl _⟩, ⟨zr HO_4.out⟩, ⟨zk BK966.out⟩, ⟨zb0 HB.out⟩⟩
         ·rw [if_neg c10] at H
          have c10b0 : decide (x7_3 < x6_1) = false := decide_eq_false c10
          clear c10
          (first | rw [c10b0] | (simp only [i64_w, i32_w]; rw [c10b0]) | skip)
          have H' := Aside0.mk H
          clear H
          go_wp2
          repeat (go_quiet (fail); try go_wp2)
          go_meet
          case rel => exact ⟨_, (false), zt, H', ⟨by have := HK1.out; have := HJ3.out; have := HK3.out; first | omega | exact Nat.le_refl _⟩, ⟨zr HO_4.out⟩, ⟨zk BK966.out⟩, ⟨zb0 HB.out⟩⟩
        case rest =>
         clear HC9
         obtain ⟨kq, x29_8, rfl, HA, HJ8, HO_4, BK966, HB⟩ := hcut
         cases kq with
         | zero => exact absurd HA.out (by simp [spec_l07Port.j3])
         | succ kj8 =>
          have H := HA.out
          clear HA
          simp only [spec_l07Port.j3] at H
          by_cases c11 : x29_8 = true
          ·subst c11
           rw [if_pos rfl] at H
           have H' := Aside0.mk H
           clear H
           go_wp2
           repeat (go_quiet (fail); try go_wp2)
           go_loopg [5, 8] kj8 (fun kq v5 v8 w' => ∃ (x5_5 : Bool) (x8_5 : Int), v5 = .bool x5_5 ∧ v8 = .int .i64 x8_5 ∧ Aside0 (spec_l07Port.l2 kq t967 x5_5 x6_1 x7_3 x8_5 a0_0 l0_1 = some (r1, r2)) ∧ Aside0 (kq ≤ kj8) ∧ Aside0 (Kd.R (Kd.int .i64) 2 w' w.heap.size (fun _ => True) v968 t967) ∧ Aside0 (w'.heap[g0]? = some (.cells #[.int .i64 a0_0, (.slice A0_1 l0_1.length c0_1)] 31 (0, 0))) ∧ Aside0 (Below w.heap.size w w'))
           case atStart => exact ⟨(x5_3), (0), zt, zt, H', ⟨Nat.le_refl _⟩, ⟨zr HO_4.out⟩, ⟨zk BK966.out⟩, ⟨zb0 HB.out⟩⟩
           case round =>
            clear H'
            obtain ⟨x5_5, x8_5, rfl, rfl, HA, HK5, HO_4, BK966, HB⟩ := hrel
            cases gk with
            | zero => exact absurd HA.out (by simp [spec_l07Port.l2])
            | succ k5 =>
             have H := HA.out
             clear HA
             simp only [spec_l07Port.l2] at H
             have HC12 := Aside0.mk H
             clear H
             go_upto_region 9 with (fail)
             repeat (go_quiet (fail); go_upto_region 9 with (fail))
             go_cut [40] (fun v40 wc => ∃ (kq : Nat) (x40_11 : Bool), v40 = .bool x40_11 ∧ Aside0 (spec_l07Port.j5 kq t967 x5_5 x6_1 x7_3 x8_5 x40_11 a0_0 l0_1 = some (r1, r2)) ∧ Aside0 (kq ≤ k5) ∧ Aside0 (Kd.R (Kd.int .i64) 2 wc w.heap.size (fun _ => True) v968 t967) ∧ Aside0 (wc.heap[g0]? = some (.cells #[.int .i64 a0_0, (.slice A0_1 l0_1.length c0_1)] 31 (0, 0))) ∧ Aside0 (Below w.heap.size w wc))
             case first =>
              have H := HC12.out
              clear HC12
              by_cases c13 : x8_5 ≤ a0_0
              ·rw [if_pos c13] at H
               have c13b0 : decide (x8_5 ≤ a0_0) = true := decide_eq_true c13
               clear c13
               (first | rw [c13b0] | (simp only [i64_w, i32_w]; rw [c13b0]) | skip)
               have H' := Aside0.mk H
               clear H
               have hcz14_0 : wr.cell? ⟨g0, 0, none⟩ = some (.int .i64 a0_0) := (blk_cell BK966.out 0).trans rfl
               have hcz14_1 : wr.cell? ⟨g0, 1, none⟩ = some (.slice A0_1 l0_1.length c0_1) := (blk_cell BK966.out 1).trans rfl
               have hfz14_0 := blk_frozen BK966.out 0
               have hfz14_1 := blk_frozen BK966.out 1
               go_wp2
               repeat (go_quiet (fail); try go_wp2)
               go_meet
               case rel => exact ⟨_, (x5_5), zt, H', ⟨by have := HK1.out; have := HJ3.out; have := HK3.out; have := HJ8.out; have := HK5.out; first | omega | exact Nat.le_refl _⟩, ⟨zr HO_4.out⟩, ⟨zk BK966.out⟩, ⟨zb0 HB.out⟩⟩
              ·rw [if_neg c13] at H
               have c13b0 : decide (x8_5 ≤ a0_0) = false := decide_eq_false c13
               clear c13
               (first | rw [c13b0] | (simp only [i64_w, i32_w]; rw [c13b0]) | skip)
               have H' := Aside0.mk H
               clear H
               have hcz15_0 : wr.cell? ⟨g0, 0, none⟩ = some (.int .i64 a0_0) := (blk_cell BK966.out 0).trans rfl
               have hcz15_1 : wr.cell? ⟨g0, 1, none⟩ = some (.slice A0_1 l0_1.length c0_1) := (blk_cell BK966.out 1).trans rfl
               have hfz15_0 := blk_frozen BK966.out 0
               have hfz15_1 := blk_frozen BK966.out 1
               go_wp2
               repeat (go_quiet (fail); try go_wp2)
               go_meet
               case rel => exact ⟨_, (false), zt, H', ⟨by have := HK1.out; have := HJ3.out; have := HK3.out; have := HJ8.out; have := HK5.out; first | omega | exact Nat.le_refl _⟩, ⟨zr HO_4.out⟩, ⟨zk BK966.out⟩, ⟨zb0 HB.out⟩⟩
             case rest =>
              clear HC12
              obtain ⟨kq, x40_11, rfl, HA, HJ11, HO_4, BK966, HB⟩ := hcut
              cases kq with
              | zero => exact absurd HA.out (by simp [spec_l07Port.j5])
              | succ kj11 =>
               have H := HA.out
               clear HA
               simp only [spec_l07Port.j5] at H
               by_cases c16 : x40_11 = true
               ·subst c16
                rw [if_pos rfl] at H
                obtain ⟨ji17, hji17⟩ : ∃ j_ : Int, (IntKind.u64.wrap (x8_5)) = j_ := ⟨_, rfl⟩
                replace H : (if 0 ≤ (ji17) then (if 0 ≤ x6_1 then (if x6_1 < (t967.length : Int) then (if 0 ≤ x7_3 then (if x7_3 < (t967.length : Int) then (if (Go.bits .and .i64 (Go.bits .and .i64 (rd t967 x6_1) (rd t967 x7_3)) (shl .i64 1 (ji17))) = 0 then (spec_l07Port.l2 kj11 t967 x5_5 x6_1 x7_3 (wrap64 (x8_5 + 1)) a0_0 l0_1) else ((spec_l07Within.f kj11 t967 (Go.bits .andNot .i64 (Go.bits .or .i64 (rd t967 x6_1) (rd t967 x7_3)) (shl .i64 1 (ji17)))).bind fun t975 => (spec_l07Port.l2 kj11 t967 t975 x6_1 x7_3 (wrap64 (x8_5 + 1)) a0_0 l0_1))) else (none)) else (none)) else (none)) else (none)) else (none)) = some (r1, r2) := by first | (rw [hji17] at H; exact H) | (simp only [hji17] at H ⊢; exact H)
                by_cases c18 : 0 ≤ (ji17)
                ·rw [if_pos c18] at H
                 have c18b0 := eq_true c18
                 have c18b1 : decide (0 ≤ (ji17)) = true := decide_eq_true c18
                 clear c18
                 obtain ⟨ji19, hji19⟩ : ∃ j_ : Int, (shl .i64 1 (ji17)) = j_ := ⟨_, rfl⟩
                 replace H : (if 0 ≤ x6_1 then (if x6_1 < (t967.length : Int) then (if 0 ≤ x7_3 then (if x7_3 < (t967.length : Int) then (if (Go.bits .and .i64 (Go.bits .and .i64 (rd t967 x6_1) (rd t967 x7_3)) (ji19)) = 0 then (spec_l07Port.l2 kj11 t967 x5_5 x6_1 x7_3 (wrap64 (x8_5 + 1)) a0_0 l0_1) else ((spec_l07Within.f kj11 t967 (Go.bits .andNot .i64 (Go.bits .or .i64 (rd t967 x6_1) (rd t967 x7_3)) (ji19))).bind fun t975 => (spec_l07Port.l2 kj11 t967 t975 x6_1 x7_3 (wrap64 (x8_5 + 1)) a0_0 l0_1))) else (none)) else (none)) else (none)) else (none)) = some (r1, r2) := by first | (rw [hji19] at H; exact H) | (simp only [hji19] at H ⊢; exact H)
                 have hji19_ : (IntKind.i64.wrap (1 * 2 ^ min (ji17).toNat 64)) = ji19 := hji19
                 have hji19z : (ji17) ≤ 64 → (IntKind.i64.wrap (1 * 2 ^ (ji17).toNat)) = ji19 := shl_small hji19
                 have hji19u : (IntKind.i64.wrap (2 ^ min (ji17).toNat 64)) = ji19 := by have h_ := hji19_; rw [Int.one_mul] at h_; exact h_
                 have hji19v : (ji17) ≤ 64 → (IntKind.i64.wrap (2 ^ (ji17).toNat)) = ji19 := fun hle_ => by have h_ := hji19z hle_; rw [Int.one_mul] at h_; exact h_
                 have hji19y : (wrap64 (1 * 2 ^ min (ji17).toNat 64)) = ji19 := (i64_w _).symm.trans hji19_
                 have hji19x : (ji17) ≤ 64 → (wrap64 (1 * 2 ^ (ji17).toNat)) = ji19 := fun h_ => (i64_w _).symm.trans (hji19z h_)
                 by_cases c20 : 0 ≤ x6_1
                 ·rw [if_pos c20] at H
                  have c20b0 : decide (0 ≤ x6_1) = true := decide_eq_true c20
                  clear c20
                  by_cases c21 : x6_1 < (t967.length : Int)
                  ·rw [if_pos c21] at H
                   have c21b0 : decide (x6_1 < (t967.length : Int)) = true := decide_eq_true c21
                   clear c21
                   by_cases c22 : 0 ≤ x7_3
                   ·rw [if_pos c22] at H
                    have c22b0 : decide (0 ≤ x7_3) = true := decide_eq_true c22
                    clear c22
                    by_cases c23 : x7_3 < (t967.length : Int)
                    ·rw [if_pos c23] at H
                     have c23b0 : decide (x7_3 < (t967.length : Int)) = true := decide_eq_true c23
                     clear c23
                     by_cases c24 : (Go.bits .and .i64 (Go.bits .and .i64 (rd t967 x6_1) (rd t967 x7_3)) (ji19)) = 0
                     ·rw [if_pos c24] at H
                      have c24b0 : ((Go.bits .and .i64 (Go.bits .and .i64 (rd t967 x6_1) (rd t967 x7_3)) (ji19)) == 0) = true := beq_iff_eq.mpr c24
                      have c24b1 : ((Go.bits .and .i64 (Go.bits .and .i64 (rd t967 x6_1) (rd t967 x7_3)) (ji19)) != 0) = false := bne_eq_false_iff_eq.mpr c24
                      clear c24
                      have H' := Aside0.mk H
                      clear H
                      obtain ⟨Ao25, co25, eo25⟩ := Kd.R_slice HO_4.out
                      subst eo25
                      have p971 : 0 ≤ (x6_1 : Int) := of_decide_eq_true zq
                      have q971 : x6_1 < (t967.length : Int) := of_decide_eq_true zq
                      obtain ⟨ad971, e971, hx971_0⟩ := Kd.at_int (Kd.R_reads' HO_4.out).2.2 x6_1 p971 q971
                      cases e971
                      replace p971 := eq_true p971
                      replace q971 := eq_true q971
                      have p972 : 0 ≤ (x7_3 : Int) := of_decide_eq_true zq
                      have q972 : x7_3 < (t967.length : Int) := of_decide_eq_true zq
                      obtain ⟨ad972, e972, hx972_0⟩ := Kd.at_int (Kd.R_reads' HO_4.out).2.2 x7_3 p972 q972
                      obtain rfl : ad971 = ad972 := (by injection e972)
                      replace p972 := eq_true p972
                      replace q972 := eq_true q972
                      go_wp2
                      repeat (go_quiet (fail); try go_wp2)
                      go_roundg kj11
                      case measure => have := HK1.out; have := HJ3.out; have := HK3.out; have := HJ8.out; have := HK5.out; have := HJ11.out; omega
                      case rel => exact ⟨(x5_5), (wrap64 (x8_5 + 1)), zt, zt, H', ⟨by have := HK1.out; have := HJ3.out; have := HK3.out; have := HJ8.out; have := HK5.out; have := HJ11.out; omega⟩, ⟨zr HO_4.out⟩, ⟨zk BK966.out⟩, ⟨zb0 HB.out⟩⟩
                     ·rw [if_neg c24] at H
                      have c24b0 : ((Go.bits .and .i64 (Go.bits .and .i64 (rd t967 x6_1) (rd t967 x7_3)) (ji19)) == 0) = false := beq_eq_false_iff_ne.mpr c24
                      have c24b1 : ((Go.bits .and .i64 (Go.bits .and .i64 (rd t967 x6_1) (rd t967 x7_3)) (ji19)) != 0) = true := bne_iff_ne.mpr c24
                      replace H := Option.bind_eq_some_iff.mp H
                      obtain ⟨t975, A260, H⟩ := H
                      replace H : (spec_l07Port.l2 kj11 t967 t975 x6_1 x7_3 (wrap64 (x8_5 + 1)) a0_0 l0_1) = some (r1, r2) := H
                      have A26 := Aside0.mk A260
                      clear A260
                      have H' := Aside0.mk H
                      clear H
                      obtain ⟨Ao27, co27, eo27⟩ := Kd.R_slice HO_4.out
                      subst eo27
                      have p971 : 0 ≤ (x6_1 : Int) := of_decide_eq_true zq
                      have q971 : x6_1 < (t967.length : Int) := of_decide_eq_true zq
                      obtain ⟨ad971, e971, hx971_0⟩ := Kd.at_int (Kd.R_reads' HO_4.out).2.2 x6_1 p971 q971
                      cases e971
                      replace p971 := eq_true p971
                      replace q971 := eq_true q971
                      have p972 : 0 ≤ (x7_3 : Int) := of_decide_eq_true zq
                      have q972 : x7_3 < (t967.length : Int) := of_decide_eq_true zq
                      obtain ⟨ad972, e972, hx972_0⟩ := Kd.at_int (Kd.R_reads' HO_4.out).2.2 x7_3 p972 q972
                      obtain rfl : ad971 = ad972 := (by injection e972)
                      replace p972 := eq_true p972
                      replace q972 := eq_true q972
                      have p973 : 0 ≤ (x6_1 : Int) := of_decide_eq_true zq
                      have q973 : x6_1 < (t967.length : Int) := of_decide_eq_true zq
                      obtain ⟨ad973, e973, hx973_0⟩ := Kd.at_int (Kd.R_reads' HO_4.out).2.2 x6_1 p973 q973
                      obtain rfl : ad971 = ad973 := (by injection e973)
                      replace p973 := eq_true p973
                      replace q973 := eq_true q973
                      have p974 : 0 ≤ (x7_3 : Int) := of_decide_eq_true zq
                      have q974 : x7_3 < (t967.length : Int) := of_decide_eq_true zq
                      obtain ⟨ad974, e974, hx974_0⟩ := Kd.at_int (Kd.R_reads' HO_4.out).2.2 x7_3 p974 q974
                      obtain rfl : ad971 = ad974 := (by injection e974)
                      replace p974 := eq_true p974
                      replace q974 := eq_true q974
                      go_wp2_with (first | (go_at_call 114; (with_reducible refine (spec_l07Within.calls kj11 _ _ t967 (Go.bits .andNot .i64 (Go.bits .or .i64 (rd t967 x6_1) (rd t967 x7_3)) (ji19)) t975 _ ?side1 ?side2 A26.out).mono ?_); (case side1 => repeat (first | exact (Kd.R_reads' HO_4.out).2.2 | (with_reducible refine Kd.C_alloc ?_ _) | (with_reducible refine Kd.C_drewN ?_ _) | (with_reducible refine Kd.C_drew ?_))); (case side2 => exact (Kd.R_reads' HO_4.out).2.1); rintro e w' ⟨rfl, ⟨nd, rfl⟩⟩; (try exact zd)))
                      repeat (go_quiet (first | (go_at_call 114; (with_reducible refine (spec_l07Within.calls kj11 _ _ t967 (Go.bits .andNot .i64 (Go.bits .or .i64 (rd t967 x6_1) (rd t967 x7_3)) (ji19)) t975 _ ?side1 ?side2 A26.out).mono ?_); (case side1 => repeat (first | exact (Kd.R_reads' HO_4.out).2.2 | (with_reducible refine Kd.C_alloc ?_ _) | (with_reducible refine Kd.C_drewN ?_ _) | (with_reducible refine Kd.C_drew ?_))); (case side2 => exact (Kd.R_reads' HO_4.out).2.1); rintro e w' ⟨rfl, ⟨nd, rfl⟩⟩; (try exact zd))); try go_wp2_with (first | (go_at_call 114; (with_reducible refine (spec_l07Within.calls kj11 _ _ t967 (Go.bits .andNot .i64 (Go.bits .or .i64 (rd t967 x6_1) (rd t967 x7_3)) (ji19)) t975 _ ?side1 ?side2 A26.out).mono ?_); (case side1 => repeat (first | exact (Kd.R_reads' HO_4.out).2.2 | (with_reducible refine Kd.C_alloc ?_ _) | (with_reducible refine Kd.C_drewN ?_ _) | (with_reducible refine Kd.C_drew ?_))); (case side2 => exact (Kd.R_reads' HO_4.out).2.1); rintro e w' ⟨rfl, ⟨nd, rfl⟩⟩; (try exact zd))))
                      go_roundg kj11
                      case measure => have := HK1.out; have := HJ3.out; have := HK3.out; have := HJ8.out; have := HK5.out; have := HJ11.out; omega
                      case rel => exact ⟨(t975), (wrap64 (x8_5 + 1)), zt, zt, H', ⟨by have := HK1.out; have := HJ3.out; have := HK3.out; have := HJ8.out; have := HK5.out; have := HJ11.out; omega⟩, ⟨zr HO_4.out⟩, ⟨zk BK966.out⟩, ⟨zb0 HB.out⟩⟩
                    ·rw [if_neg c23] at H
                     exact absurd H (by simp)
                   ·rw [if_neg c22] at H
                    exact absurd H (by simp)
                  ·rw [if_neg c21] at H
                   exact absurd H (by simp)
                 ·rw [if_neg c20] at H
                  exact absurd H (by simp)
                ·rw [if_neg c18] at H
                 exact absurd H (by simp)
               ·replace c16 := Bool.eq_false_iff.mpr c16
                subst c16
                rw [if_neg (show ¬ (false = true) by decide)] at H
                have H' := Aside0.mk H
                clear H
                go_wp2
                repeat (go_quiet (fail); try go_wp2)
                go_roundg kj11
                case measure => have := HK1.out; have := HJ3.out; have := HK3.out; have := HJ8.out; have := HK5.out; have := HJ11.out; omega
                case rel => exact ⟨(x5_5), (wrap64 (x7_3 + 1)), zt, zt, H', ⟨by have := HK1.out; have := HJ3.out; have := HK3.out; have := HJ8.out; have := HK5.out; have := HJ11.out; omega⟩, ⟨zr HO_4.out⟩, ⟨zk BK966.out⟩, ⟨zb0 HB.out⟩⟩
          ·replace c11 := Bool.eq_false_iff.mpr c11
           subst c11
           rw [if_neg (show ¬ (false = true) by decide)] at H
           have H' := Aside0.mk H
           clear H
           go_wp2
           repeat (go_quiet (fail); try go_wp2)
           go_roundg kj8
           case measure => have := HK1.out; have := HJ3.out; have := HK3.out; have := HJ8.out; omega
           case rel => exact ⟨(x5_3), (wrap64 (x6_1 + 1)), zt, zt, H', ⟨by have := HK1.out; have := HJ3.out; have := HK3.out; have := HJ8.out; omega⟩, ⟨zr HO_4.out⟩, ⟨zk BK966.out⟩, ⟨zb0 HB.out⟩⟩
     ·replace c8 := Bool.eq_false_iff.mpr c8
      subst c8
      rw [if_neg (show ¬ (false = true) by decide)] at H
      simp only [Option.some.injEq, Prod.mk.injEq] at H
      obtain ⟨rfl, rfl⟩ := H
      go_wp2
      repeat (go_quiet (fail); try go_wp2)
      go_ret2
      exact ⟨_, ze, by (with_reducible repeat (first | apply Kd.R_alloc | apply Kd.R_drewN | apply Kd.R_drew)); exact HO_4.out, zb0 HB.out⟩
end Go.Proofs.Ytmbeijjkfmgkpaa.Q
namespace Go.Proofs.Ytmbeijjkfmgkpaa.Pure
set_option linter.unusedVariables false
open Go.RowKit Go.Proofs.Ytmbeijjkfmgkpaa.Q Go.Proofs.YtmbeijjkfmgkpaaW.PrintWords Go.Proofs.YtmbeijjkfmgkpaaW.PrintLast
namespace Ex
def grp (c : Int) : List Int := (impl_crowd_group.f 20 c).getD []
abbrev bit (x : Int) : Int := shl .u64 1 x
def hasBit (c : Int) (x : Nat) : Bool := Go.bits .and .i64 c (shl .i64 1 (IntKind.u64.wrap (x : Int))) != 0
theorem grpAll : (List.range 128).all (fun c => impl_crowd_group.f 20 ((c : Nat) : Int) == some (grp ((c : Nat) : Int)) && decide ((grp ((c : Nat) : Int)).length ≤ 7) && (grp ((c : Nat) : Int)).all (fun x => decide (0 ≤ x) && decide (x < 7)) && (List.range 7).all fun x => (grp ((c : Nat) : Int)).contains ((x : Nat) : Int) == hasBit ((c : Nat) : Int) x) = true := by decide +kernel
theorem bitAll : (List.range 7).all (fun x => decide (0 ≤ bit ((x : Nat) : Int)) && decide (bit ((x : Nat) : Int) < 128) && bit ((x : Nat) : Int) == shl .i64 1 (IntKind.u64.wrap ((x : Nat) : Int)) && decide (0 ≤ IntKind.u64.wrap ((x : Nat) : Int))) = true := by decide +kernel
theorem bit7 (x : Nat) (hx : x < 7) : R7 (bit (x : Int)) ∧ bit (x : Int) = shl .i64 1 (IntKind.u64.wrap (x : Int)) ∧ 0 ≤ IntKind.u64.wrap (x : Int) := by
  have h := List.all_eq_true.1 bitAll x (List.mem_range.2 hx)
  simp only [Bool.and_eq_true, decide_eq_true_eq, beq_iff_eq] at h
  exact ⟨⟨h.1.1.1, h.1.1.2⟩, h.1.2, h.2⟩
theorem grp7s (c : Int) (hc : R7 c) (k : Nat) (hk : 20 ≤ k) : impl_crowd_group.f k c = some (grp c) ∧ (grp c).length ≤ 7 ∧ (∀ y ∈ grp c, ∃ x : Nat, x < 7 ∧ y = (x : Int)) ∧ ∀ x : Nat, x < 7 → ((x : Int) ∈ grp c ↔ hasBit c x = true) := by
  obtain ⟨a, rfl⟩ := Int.eq_ofNat_of_zero_le hc.1
  have ha := hc.2
  have h := List.all_eq_true.1 grpAll a (List.mem_range.2 (by omega))
  simp only [Bool.and_eq_true, decide_eq_true_eq, beq_iff_eq, List.all_eq_true] at h
  obtain ⟨⟨⟨h1, h2⟩, h3⟩, h4⟩ := h
  refine ⟨leO_le (f := fun k => impl_crowd_group.f k (a : Int)) (fun k => impl_crowd_group.mono _ k) hk h1, h2, fun y hy => ?_, fun x hx => ?_⟩
  · have := h3 y hy
    exact ⟨y.toNat, by omega, by omega⟩
  · have := h4 x (List.mem_range.2 hx)
    rw [← this]
    simp
def Sub (C : List Int) (a : Int) : Bool := C.any fun d => Go.bits .and .u64 a d == d
theorem p_l3 (C : List Int) (a b : Int) (x32 : List Int) (x33 x34 : Int) (x41 : List Int) (x42 : Int) (j : Nat) (hj : j < 1000000) (L : List Int) (hL : L.length ≤ 7) (h7 : ∀ y ∈ L, ∃ x : Nat, x < 7 ∧ y = (x : Int)) (R : Nat) : ∀ (d t : Nat), t + d = L.length → ∀ k, d + R + 2 < k →
  ((∀ y ∈ L.drop t, Sub C (bn (bo a b) (bit y)) = true) ∧ ∃ k', R ≤ k' ∧ impl_Family_isPort.l3 k C a b x32 x33 x34 x41 x42 j L (L.length : Int) t = impl_Family_isPort.l2 k' C a x32 x33 x34 x41 x42 ((j + 1 : Nat) : Int)) ∨
  ((∃ y ∈ L.drop t, Sub C (bn (bo a b) (bit y)) = false) ∧ impl_Family_isPort.l3 k C a b x32 x33 x34 x41 x42 j L (L.length : Int) t = some false) := by
 intro d
 induction d with
 | zero =>
  intro t ht k hk
  obtain ⟨k, rfl⟩ : ∃ m, k = m + 1 := ⟨k - 1, by omega⟩
  refine .inl ⟨fun y hy => by rw [List.drop_eq_nil_of_le (by omega)] at hy; simp at hy, k, by omega, ?_⟩
  conv => lhs; unfold impl_Family_isPort.l3
  rw [if_neg (by omega), wr j (by omega)]
 | succ d ih =>
  intro t ht k hk
  obtain ⟨k, rfl⟩ : ∃ m, k = m + 1 := ⟨k - 1, by omega⟩
  have htl : t < L.length := by omega
  obtain ⟨x, hx, ex⟩ := h7 L[t] (List.getElem_mem _)
  have step : impl_Family_isPort.l3 (k + 1) C a b x32 x33 x34 x41 x42 j L (L.length : Int) t = if Sub C (bn (bo a b) (bit L[t])) = true then impl_Family_isPort.l3 k C a b x32 x33 x34 x41 x42 j L (L.length : Int) ((t + 1 : Nat) : Int) else some false := by
   conv => lhs; unfold impl_Family_isPort.l3
   rw [if_pos (by omega), if_pos (by omega), if_pos (by omega), rd_at htl, if_pos (by omega), wr t (by omega)]
   rfl
  rw [step, List.drop_eq_getElem_cons htl]
  by_cases c : Sub C (bn (bo a b) (bit L[t])) = true
  ·rw [if_pos c]
   rcases ih (t + 1) (by omega) k (by omega) with ⟨h, k', hk', e⟩ | ⟨⟨y, hy, h⟩, e⟩
   ·refine .inl ⟨fun y hy => ?_, k', hk', e⟩
    rcases List.mem_cons.1 hy with rfl | hy
    ·exact c
    ·exact h y hy
   ·exact .inr ⟨⟨y, List.mem_cons_of_mem _ hy, h⟩, e⟩
  ·rw [if_neg c]
   exact .inr ⟨⟨_, List.mem_cons_self .., by simpa using c⟩, rfl⟩
def Cnd (C : List Int) (a b : Int) : Prop := ∀ x : Nat, x < 7 → hasBit (ba a b) x = true → Sub C (bn (bo a b) (bit (x : Int))) = true
theorem p_l2 (C : List Int) (hl : C.length < 1000000) (hC : ∀ c ∈ C, R7 c) (i : Nat) (hi : i < C.length) (R : Nat) : ∀ (d j : Nat), j + d = i → ∃ K, ∀ k, K ≤ k →
  ((∀ t, j ≤ t → t < i → Cnd C (rd C (i : Int)) (rd C (t : Int))) ∧ ∃ k', R ≤ k' ∧ impl_Family_isPort.l2 k C (rd C (i : Int)) C (C.length : Int) i (C.take i) ((C.take i).length : Int) j = impl_Family_isPort.l1 k' C C (C.length : Int) ((i + 1 : Nat) : Int)) ∨
  ((∃ t, t < i ∧ ¬ Cnd C (rd C (i : Int)) (rd C (t : Int))) ∧ impl_Family_isPort.l2 k C (rd C (i : Int)) C (C.length : Int) i (C.take i) ((C.take i).length : Int) j = some false) := by
 have hti : (C.take i).length = i := by rw [List.length_take]; omega
 intro d
 induction d with
 | zero =>
  intro j hj
  refine ⟨R + 1, fun k hk => ?_⟩
  obtain ⟨k, rfl⟩ : ∃ m, k = m + 1 := ⟨k - 1, by omega⟩
  refine .inl ⟨fun t h1 h2 => by omega, k, by omega, ?_⟩
  conv => lhs; unfold impl_Family_isPort.l2
  rw [if_neg (by rw [hti]; omega), wr i (by omega)]
 | succ d ih =>
  intro j hj
  obtain ⟨K, hK⟩ := ih (j + 1) (by omega)
  refine ⟨K + 40, fun k hk => ?_⟩
  obtain ⟨k, rfl⟩ : ∃ m, k = m + 1 := ⟨k - 1, by omega⟩
  have ha := hC _ (rd_mem hi)
  have hb := hC _ (rd_mem (show j < C.length by omega))
  obtain ⟨g1, g2, g3, g4⟩ := grp7s _ (rand ha hb) k (by omega)
  have step : impl_Family_isPort.l2 (k + 1) C (rd C (i : Int)) C (C.length : Int) i (C.take i) ((C.take i).length : Int) j = impl_Family_isPort.l3 k C (rd C (i : Int)) (rd C (j : Int)) C (C.length : Int) i (C.take i) ((C.take i).length : Int) j (grp (ba (rd C (i : Int)) (rd C (j : Int)))) ((grp (ba (rd C (i : Int)) (rd C (j : Int)))).length : Int) ((0 : Nat) : Int) := by
   conv => lhs; unfold impl_Family_isPort.l2
   rw [if_pos (by rw [hti]; omega), if_pos (by omega), if_pos (by rw [hti]; omega), rd_take C i j (by omega), g1]
   rfl
  rw [step]
  have cnd : Cnd C (rd C (i : Int)) (rd C (j : Int)) ↔ ∀ y ∈ (grp (ba (rd C (i : Int)) (rd C (j : Int)))).drop 0, Sub C (bn (bo (rd C (i : Int)) (rd C (j : Int))) (bit y)) = true := by
   rw [List.drop_zero]
   constructor
   ·intro h y hy
    obtain ⟨x, hx, rfl⟩ := g3 y hy
    exact h x hx ((g4 x hx).1 hy)
   ·intro h x hx hb'
    exact h _ ((g4 x hx).2 hb')
  rcases p_l3 C (rd C (i : Int)) (rd C (j : Int)) C (C.length : Int) i (C.take i) ((C.take i).length : Int) j (by omega) _ g2 g3 K _ 0 (Nat.zero_add _) k (by omega) with ⟨h, k2, hk2, e⟩ | ⟨⟨y, hy, h⟩, e⟩
  ·rw [e]
   rcases hK k2 hk2 with ⟨h2, k', hk', e2⟩ | ⟨h2, e2⟩
   ·refine .inl ⟨fun t h1 h3 => ?_, k', hk', e2⟩
    rcases Nat.lt_or_eq_of_le h1 with h4 | rfl
    ·exact h2 t h4 h3
    ·exact cnd.2 h
   ·exact .inr ⟨h2, e2⟩
  ·rw [e]
   exact .inr ⟨⟨j, by omega, fun f => by rw [cnd.1 f y hy] at h; exact absurd h (by decide)⟩, rfl⟩
theorem p_l1 (C : List Int) (hl : C.length < 1000000) (hC : ∀ c ∈ C, R7 c) : ∀ (d i : Nat), i + d = C.length → ∃ K, ∀ k, K ≤ k →
    ∃ b, impl_Family_isPort.l1 k C C (C.length : Int) i = some b ∧ (b = true ↔ ∀ s, i ≤ s → s < C.length → ∀ t, t < s → Cnd C (rd C (s : Int)) (rd C (t : Int))) := by
  intro d
  induction d with
  | zero =>
    intro i hi
    refine ⟨1, fun k hk => ?_⟩
    obtain ⟨k, rfl⟩ : ∃ m, k = m + 1 := ⟨k - 1, by omega⟩
    unfold impl_Family_isPort.l1
    rw [if_neg (by omega)]
    exact ⟨true, rfl, by simp; intro s h1 h2; omega⟩
  | succ d ih =>
    intro i hi
    have hil : i < C.length := by omega
    obtain ⟨K, hK⟩ := ih (i + 1) (by omega)
    obtain ⟨K2, hK2⟩ := p_l2 C hl hC i hil K i 0 (by omega)
    refine ⟨K2 + 1, fun k hk => ?_⟩
    obtain ⟨k, rfl⟩ : ∃ m, k = m + 1 := ⟨k - 1, by omega⟩
    have step : impl_Family_isPort.l1 (k + 1) C C (C.length : Int) i = impl_Family_isPort.l2 k C (rd C (i : Int)) C (C.length : Int) i (C.take i) ((C.take i).length : Int) ((0 : Nat) : Int) := by
      conv => lhs; unfold impl_Family_isPort.l1
      rw [if_pos (by omega), if_pos (by omega), if_pos (by omega), if_pos (by omega), Option.bind_some, Int.toNat_natCast]
      rfl
    rw [step, all_step hil]
    rcases hK2 k (by omega) with ⟨h, k', hk', e⟩ | ⟨⟨t, ht, h⟩, e⟩
    · obtain ⟨b, e2, hb⟩ := hK k' hk'
      refine ⟨b, by rw [e, e2], ?_⟩
      rw [hb]
      exact ⟨fun f => ⟨fun t ht => h t (by omega) ht, f⟩, fun f => f.2⟩
    · exact ⟨false, e, by simp only [Bool.false_eq_true, false_iff]; rintro ⟨f, _⟩; exact h (f t ht)⟩
theorem p_l0 (n : Int) (hn : 0 ≤ n) (gs : List (List Int)) (hg : gs.length < 10000000) (h7 : ∀ t, t < gs.length → G gs t ∈ lists 7) (C : List Int) (hl : C.length < 1000000) (hC : ∀ c ∈ C, R7 c) : ∀ (d i : Nat), i + d = gs.length → ∃ K, ∀ k, K ≤ k →
  ∃ b, impl_Family_isPort.l0 k C gs (gs.length : Int) i n gs = some b ∧ (b = true ↔ (∀ t, i ≤ t → t < gs.length → C.contains (bo (maskOf (G gs t)) (bit n)) = true) ∧ ∀ s, s < C.length → ∀ t, t < s → Cnd C (rd C (s : Int)) (rd C (t : Int))) := by
 intro d
 induction d with
 | zero =>
  intro i hi
  obtain ⟨K, hK⟩ := p_l1 C hl hC C.length 0 (by omega)
  refine ⟨K + 1, fun k hk => ?_⟩
  obtain ⟨k, rfl⟩ : ∃ m, k = m + 1 := ⟨k - 1, by omega⟩
  obtain ⟨b, e, hb⟩ := hK k (by omega)
  refine ⟨b, ?_, ?_⟩
  ·conv => lhs; unfold impl_Family_isPort.l0
   rw [if_neg (by omega)]
   exact e
  ·rw [hb]
   exact ⟨fun f => ⟨fun t h1 h2 => by omega, fun s hs => f s (by omega) hs⟩, fun f s _ hs => f.2 s hs⟩
 | succ d ih =>
  intro i hi
  have hil : i < gs.length := by omega
  obtain ⟨K, hK⟩ := ih (i + 1) (by omega)
  refine ⟨K + C.length + 30, fun k hk => ?_⟩
  obtain ⟨k, rfl⟩ : ∃ m, k = m + 1 := ⟨k - 1, by omega⟩
  obtain ⟨b, e, hb⟩ := hK k (by omega)
  have e1 := (crowd7 (G gs i) (h7 i hil) k (by omega)).1
  have step : impl_Family_isPort.l0 (k + 1) C gs (gs.length : Int) i n gs = if C.contains (bo (maskOf (G gs i)) (bit n)) = true then impl_Family_isPort.l0 k C gs (gs.length : Int) ((i + 1 : Nat) : Int) n gs else some false := by
   conv => lhs; unfold impl_Family_isPort.l0
   rw [if_pos (by omega), if_pos (by omega), if_pos (by omega), show rd_L1 gs (i : Int) = G gs i from rfl, e1, Option.bind_some, if_pos hn, has_f C (by omega) _ k (by omega), Option.bind_some, wr i (by omega)]
  rw [step, all_step hil]
  by_cases c : C.contains (bo (maskOf (G gs i)) (bit n)) = true
  ·rw [if_pos c]
   exact ⟨b, e, by rw [hb]; exact ⟨fun f => ⟨⟨c, f.1⟩, f.2⟩, fun f => ⟨f.1.2, f.2⟩⟩⟩
  ·rw [if_neg c]
   exact ⟨false, rfl, by simp only [Bool.false_eq_true, false_iff]; rintro ⟨⟨f, _⟩, _⟩; exact c f⟩
def Sub64 (C : List Int) (a : Int) : Bool := C.any fun d => Go.bits .and .i64 d a == d
theorem w_l0 (C : List Int) (hl : C.length < 1000000) (a : Int) : ∀ (d i : Nat), i + d = C.length → ∀ k, d < k → spec_l07Within.l0 k C a i = some ((C.drop i).any fun d => Go.bits .and .i64 d a == d) := by
  intro d
  induction d with
  | zero =>
    intro i hi k hk
    obtain ⟨k, rfl⟩ : ∃ m, k = m + 1 := ⟨k - 1, by omega⟩
    unfold spec_l07Within.l0
    rw [if_neg (by omega), List.drop_eq_nil_of_le (by omega)]
    rfl
  | succ d ih =>
    intro i hi k hk
    obtain ⟨k, rfl⟩ : ∃ m, k = m + 1 := ⟨k - 1, by omega⟩
    have hil : i < C.length := by omega
    unfold spec_l07Within.l0
    rw [if_pos (by omega), if_pos (by omega), rd_at hil, wr i (by omega), List.drop_eq_getElem_cons hil, List.any_cons]
    by_cases c : Go.bits .and .i64 C[i] a = C[i]
    · rw [if_pos c, beq_iff_eq.2 c]; rfl
    · rw [if_neg c, ih (i + 1) (by omega) k (by omega), beq_eq_false_iff_ne.2 c]; rfl
theorem w_f (C : List Int) (hl : C.length < 1000000) (a : Int) (k : Nat) (hk : C.length < k) : spec_l07Within.f k C a = some (Sub64 C a) := by
  unfold spec_l07Within.f
  have := w_l0 C hl a C.length 0 (by omega) k hk
  rw [show ((0 : Nat) : Int) = 0 from rfl, List.drop_zero] at this
  exact this
def Okp (L : List Int) (a b : Int) (e : Nat) : Prop := Go.bits .and .i64 (Go.bits .and .i64 a b) (shl .i64 1 (IntKind.u64.wrap (e : Int))) ≠ 0 → Sub64 L (Go.bits .andNot .i64 (Go.bits .or .i64 a b) (shl .i64 1 (IntKind.u64.wrap (e : Int)))) = true
theorem q_l2f (L : List Int) (hl : L.length < 1000000) (n : Nat) (gs : List (List Int)) (i j e : Nat) (hi : i < L.length) (hj : j < i) (k : Nat) : spec_l07Port.l2 (k + 2) L false i j e n gs = spec_l07Port.l1 k L false i ((j + 1 : Nat) : Int) n gs := by
  conv => lhs; unfold spec_l07Port.l2
  have : ∀ m, spec_l07Port.j5 (m + 1) L false (i : Int) (j : Int) (e : Int) false (n : Int) gs = spec_l07Port.l1 m L false i ((j + 1 : Nat) : Int) n gs := by
    intro m
    conv => lhs; unfold spec_l07Port.j5
    rw [if_neg (by simp), wr j (by omega)]
  by_cases c : (e : Int) ≤ (n : Int)
  · rw [if_pos c]; exact this k
  · rw [if_neg c]; exact this k
theorem q_l2 (L : List Int) (hl : L.length < 1000000) (n : Nat) (hn : n < 7) (gs : List (List Int)) (i j : Nat) (hi : i < L.length) (hj : j < i) (R : Nat) : ∀ (d e : Nat), e + d = n + 1 → ∀ k, 2 * d + L.length + R + 10 < k →
  ∃ k' b, R ≤ k' ∧ spec_l07Port.l2 k L true i j e n gs = spec_l07Port.l1 k' L b i ((j + 1 : Nat) : Int) n gs ∧ (b = true ↔ ∀ x, e ≤ x → x < n + 1 → Okp L (rd L (i : Int)) (rd L (j : Int)) x) := by
 intro d
 induction d with
 | zero =>
  intro e he k hk
  obtain ⟨k, rfl⟩ : ∃ m, k = m + 2 := ⟨k - 2, by omega⟩
  refine ⟨k, true, by omega, ?_, by simp; intro x h1 h2; omega⟩
  conv => lhs; unfold spec_l07Port.l2
  rw [if_neg (by omega)]
  conv => lhs; unfold spec_l07Port.j5
  rw [if_neg (by simp), wr j (by omega)]
 | succ d ih =>
  intro e he k hk
  obtain ⟨k, rfl⟩ : ∃ m, k = m + 2 := ⟨k - 2, by omega⟩
  have h0 := (bit7 e (by omega)).2.2
  have step : spec_l07Port.l2 (k + 2) L true i j e n gs = if Go.bits .and .i64 (Go.bits .and .i64 (rd L (i : Int)) (rd L (j : Int))) (shl .i64 1 (IntKind.u64.wrap (e : Int))) = 0 then spec_l07Port.l2 k L true i j ((e + 1 : Nat) : Int) n gs else spec_l07Port.l2 k L (Sub64 L (Go.bits .andNot .i64 (Go.bits .or .i64 (rd L (i : Int)) (rd L (j : Int))) (shl .i64 1 (IntKind.u64.wrap (e : Int))))) i j ((e + 1 : Nat) : Int) n gs := by
   conv => lhs; unfold spec_l07Port.l2
   rw [if_pos (by omega)]
   conv => lhs; unfold spec_l07Port.j5
   rw [if_pos rfl, if_pos h0, if_pos (by omega), if_pos (by omega), if_pos (by omega), if_pos (by omega), wr e (by omega), w_f L hl _ k (by omega), Option.bind_some]
  rw [step, all_step (show e < n + 1 by omega)]
  by_cases c : Go.bits .and .i64 (Go.bits .and .i64 (rd L (i : Int)) (rd L (j : Int))) (shl .i64 1 (IntKind.u64.wrap (e : Int))) = 0
  ·rw [if_pos c]
   obtain ⟨k', b, hk', e2, hb⟩ := ih (e + 1) (by omega) k (by omega)
   exact ⟨k', b, hk', e2, by rw [hb]; exact ⟨fun f => ⟨fun h => absurd c h, f⟩, fun f => f.2⟩⟩
  ·rw [if_neg c]
   by_cases c2 : Sub64 L (Go.bits .andNot .i64 (Go.bits .or .i64 (rd L (i : Int)) (rd L (j : Int))) (shl .i64 1 (IntKind.u64.wrap (e : Int)))) = true
   ·rw [c2]
    obtain ⟨k', b, hk', e2, hb⟩ := ih (e + 1) (by omega) k (by omega)
    exact ⟨k', b, hk', e2, by rw [hb]; exact ⟨fun f => ⟨fun _ => c2, f⟩, fun f => f.2⟩⟩
   ·have c3 : Sub64 L (Go.bits .andNot .i64 (Go.bits .or .i64 (rd L (i : Int)) (rd L (j : Int))) (shl .i64 1 (IntKind.u64.wrap (e : Int)))) = false := by simpa using c2
    rw [c3]
    obtain ⟨k, rfl⟩ : ∃ m, k = m + 2 := ⟨k - 2, by omega⟩
    exact ⟨k, false, by omega, q_l2f L hl n gs i j (e + 1) hi hj k, by simp only [Bool.false_eq_true, false_iff]; rintro ⟨f, _⟩; exact c2 (f c)⟩
theorem q_out (L : List Int) (n : Int) (gs : List (List Int)) (i : Nat) (k : Nat) : spec_l07Port.l0 (k + 2) L false i n gs = some (L, false) := by
  conv => lhs; unfold spec_l07Port.l0
  have : ∀ m, spec_l07Port.j1 (m + 1) L false (i : Int) false n gs = some (L, false) := by
    intro m
    conv => lhs; unfold spec_l07Port.j1
    rw [if_neg (by simp)]
  by_cases c : (i : Int) < (L.length : Int)
  · rw [if_pos c]; exact this k
  · rw [if_neg c]; exact this k
theorem q_l1f (L : List Int) (n : Int) (gs : List (List Int)) (i j : Nat) (hi : i < 1000000) (k : Nat) : spec_l07Port.l1 (k + 4) L false i j n gs = some (L, false) := by
  conv => lhs; unfold spec_l07Port.l1
  have : ∀ m, spec_l07Port.j3 (m + 3) L false (i : Int) (j : Int) false n gs = some (L, false) := by
    intro m
    conv => lhs; unfold spec_l07Port.j3
    rw [if_neg (by simp), wr i (by omega)]
    exact q_out L n gs (i + 1) m
  by_cases c : (j : Int) < (i : Int)
  · rw [if_pos c]; exact this k
  · rw [if_neg c]; exact this k
theorem q_l1 (L : List Int) (hl : L.length < 1000000) (n : Nat) (hn : n < 7) (gs : List (List Int)) (i : Nat) (hi : i < L.length) (R : Nat) : ∀ (d j : Nat), j + d = i → ∃ K, ∀ k, K ≤ k →
  ((∀ t, j ≤ t → t < i → ∀ x, x < n + 1 → Okp L (rd L (i : Int)) (rd L (t : Int)) x) ∧ ∃ k', R ≤ k' ∧ spec_l07Port.l1 k L true i j n gs = spec_l07Port.l0 k' L true ((i + 1 : Nat) : Int) n gs) ∨
  ((∃ t, t < i ∧ ¬ ∀ x, x < n + 1 → Okp L (rd L (i : Int)) (rd L (t : Int)) x) ∧ spec_l07Port.l1 k L true i j n gs = some (L, false)) := by
 intro d
 induction d with
 | zero =>
  intro j hj
  refine ⟨R + 2, fun k hk => ?_⟩
  obtain ⟨k, rfl⟩ : ∃ m, k = m + 2 := ⟨k - 2, by omega⟩
  refine .inl ⟨fun t h1 h2 => by omega, k, by omega, ?_⟩
  conv => lhs; unfold spec_l07Port.l1
  rw [if_neg (by omega)]
  conv => lhs; unfold spec_l07Port.j3
  rw [if_neg (by simp), wr i (by omega)]
 | succ d ih =>
  intro j hj
  obtain ⟨K, hK⟩ := ih (j + 1) (by omega)
  refine ⟨K + L.length + 60, fun k hk => ?_⟩
  obtain ⟨k, rfl⟩ : ∃ m, k = m + 2 := ⟨k - 2, by omega⟩
  have step : spec_l07Port.l1 (k + 2) L true i j n gs = spec_l07Port.l2 k L true i j ((0 : Nat) : Int) n gs := by
   conv => lhs; unfold spec_l07Port.l1
   rw [if_pos (by omega)]
   conv => lhs; unfold spec_l07Port.j3
   rw [if_pos rfl]
   rfl
  obtain ⟨k2, b, hk2, e, hb⟩ := q_l2 L hl n hn gs i j hi (by omega) (K + 4) (n + 1) 0 (by omega) k (by omega)
  rw [step, e]
  by_cases c : b = true
  ·rw [c]
   have hb' := hb.1 c
   rcases hK k2 (by omega) with ⟨h, k', hk', e2⟩ | ⟨h, e2⟩
   ·refine .inl ⟨fun t h1 h2 => ?_, k', hk', e2⟩
    rcases Nat.lt_or_eq_of_le h1 with h4 | rfl
    ·exact h t h4 h2
    ·exact fun x hx => hb' x (by omega) hx
   ·exact .inr ⟨h, e2⟩
  ·have cf : b = false := by simpa using c
   rw [cf]
   obtain ⟨k2, rfl⟩ : ∃ m, k2 = m + 4 := ⟨k2 - 4, by omega⟩
   exact .inr ⟨⟨j, by omega, fun f => c (hb.2 fun x _ hx => f x hx)⟩, q_l1f L n gs i (j + 1) (by omega) k2⟩
theorem q_l0 (L : List Int) (hl : L.length < 1000000) (n : Nat) (hn : n < 7) (gs : List (List Int)) : ∀ (d i : Nat), i + d = L.length → ∃ K, ∀ k, K ≤ k →
    ∃ b, spec_l07Port.l0 k L true i n gs = some (L, b) ∧ (b = true ↔ ∀ s, i ≤ s → s < L.length → ∀ t, t < s → ∀ x, x < n + 1 → Okp L (rd L (s : Int)) (rd L (t : Int)) x) := by
  intro d
  induction d with
  | zero =>
    intro i hi
    refine ⟨2, fun k hk => ?_⟩
    obtain ⟨k, rfl⟩ : ∃ m, k = m + 2 := ⟨k - 2, by omega⟩
    refine ⟨true, ?_, by simp; intro s h1 h2; omega⟩
    conv => lhs; unfold spec_l07Port.l0
    rw [if_neg (by omega)]
    conv => lhs; unfold spec_l07Port.j1
    rw [if_neg (by simp)]
  | succ d ih =>
    intro i hi
    have hil : i < L.length := by omega
    obtain ⟨K, hK⟩ := ih (i + 1) (by omega)
    obtain ⟨K2, hK2⟩ := q_l1 L hl n hn gs i hil K i 0 (by omega)
    refine ⟨K2 + 2, fun k hk => ?_⟩
    obtain ⟨k, rfl⟩ : ∃ m, k = m + 2 := ⟨k - 2, by omega⟩
    have step : spec_l07Port.l0 (k + 2) L true i n gs = spec_l07Port.l1 k L true i ((0 : Nat) : Int) n gs := by
      conv => lhs; unfold spec_l07Port.l0
      rw [if_pos (by omega)]
      conv => lhs; unfold spec_l07Port.j1
      rw [if_pos rfl]
      rfl
    rw [step, all_step hil]
    rcases hK2 k (by omega) with ⟨h, k', hk', e⟩ | ⟨⟨t, ht, h⟩, e⟩
    · obtain ⟨b, e2, hb⟩ := hK k' hk'
      refine ⟨b, by rw [e, e2], ?_⟩
      rw [hb]
      exact ⟨fun f => ⟨fun t ht => h t (by omega) ht, f⟩, fun f => f.2⟩
    · exact ⟨false, e, by simp only [Bool.false_eq_true, false_iff]; rintro ⟨f, _⟩; exact h (f t ht)⟩
end Ex
set_option linter.unusedVariables false
open Go.RowKit Go.Proofs.Ytmbeijjkfmgkpaa.Q Go.Proofs.YtmbeijjkfmgkpaaW.PrintWords Go.Proofs.YtmbeijjkfmgkpaaW.PrintLast
namespace Ex
theorem maskAll : [1, 2, 3, 4, 5].all (fun n => (lists n).all fun g => decide (0 ≤ maskOf g) && decide (maskOf g < ((2 ^ n : Nat) : Int))) = true := by decide +kernel
theorem nfAll : [1, 2, 3, 4, 5].all (fun n => (List.range (2 ^ n)).all fun u => bo ((u : Nat) : Int) (bit ((n : Nat) : Int)) != 0 && Go.bits .and .i64 (bo ((u : Nat) : Int) (bit ((n : Nat) : Int))) (bit ((n : Nat) : Int)) != 0 && decide (bo ((u : Nat) : Int) (bit ((n : Nat) : Int)) < ((2 ^ (n + 1) : Nat) : Int)) &&
    (List.range 128).all fun v => Go.bits .and .i64 (bn ((u : Nat) : Int) ((v : Nat) : Int)) (bit ((n : Nat) : Int)) == 0 && decide (bn ((u : Nat) : Int) ((v : Nat) : Int) < ((2 ^ (n + 1) : Nat) : Int))) = true := by decide +kernel
theorem hbAll : [1, 2, 3, 4, 5].all (fun n => (List.range (2 ^ (n + 1))).all fun c => (List.range 7).all fun x => decide (x ≤ n) || !hasBit ((c : Nat) : Int) x) = true := by decide +kernel
theorem five (n : Nat) (h : 1 ≤ n ∧ n ≤ 5) : n ∈ [1, 2, 3, 4, 5] := by
  match n, h with
  | 1, _ => simp
  | 2, _ => simp
  | 3, _ => simp
  | 4, _ => simp
  | 5, _ => simp
theorem pow5 (n : Nat) (h : 1 ≤ n ∧ n ≤ 5) : 2 ^ n ≤ 32 ∧ 2 ^ (n + 1) ≤ 64 := ⟨Nat.le_trans (Nat.pow_le_pow_right (by decide : 0 < 2) h.2) (by decide), Nat.le_trans (Nat.pow_le_pow_right (by decide : 0 < 2) (show n + 1 ≤ 6 by omega)) (by decide)⟩
theorem mask_lt (n : Nat) (h : 1 ≤ n ∧ n ≤ 5) (g : List Int) (hg : g ∈ lists n) : 0 ≤ maskOf g ∧ maskOf g < ((2 ^ n : Nat) : Int) := by
  have h := List.all_eq_true.1 (List.all_eq_true.1 maskAll n (five n h)) g hg
  simpa using h
structure NF (n : Nat) (u : Int) : Prop where
  ne : bo u (bit (n : Int)) ≠ 0
  has : Go.bits .and .i64 (bo u (bit (n : Int))) (bit (n : Int)) ≠ 0
  lt : bo u (bit (n : Int)) < ((2 ^ (n + 1) : Nat) : Int)
  no : ∀ v, R7 v → Go.bits .and .i64 (bn u v) (bit (n : Int)) = 0 ∧ bn u v < ((2 ^ (n + 1) : Nat) : Int)
theorem nf (n : Nat) (h : 1 ≤ n ∧ n ≤ 5) (u : Int) (h0 : 0 ≤ u) (h1 : u < ((2 ^ n : Nat) : Int)) : NF n u := by
  obtain ⟨a, rfl⟩ := Int.eq_ofNat_of_zero_le h0
  have h := List.all_eq_true.1 (List.all_eq_true.1 nfAll n (five n h)) a (List.mem_range.2 (by omega))
  simp only [Bool.and_eq_true, bne_iff_ne, decide_eq_true_eq, List.all_eq_true, beq_iff_eq] at h
  obtain ⟨⟨⟨h1, h2⟩, h3⟩, h4⟩ := h
  refine ⟨h1, h2, h3, fun v hv => ?_⟩
  obtain ⟨b, rfl⟩ := Int.eq_ofNat_of_zero_le hv.1
  exact h4 b (List.mem_range.2 (by have := hv.2; omega))
theorem hb_no (n : Nat) (h : 1 ≤ n ∧ n ≤ 5) (c : Int) (h0 : 0 ≤ c) (h1 : c < ((2 ^ (n + 1) : Nat) : Int)) (x : Nat) (hx : x < 7) (hxn : n < x) : hasBit c x = false := by
  obtain ⟨a, rfl⟩ := Int.eq_ofNat_of_zero_le h0
  have h := List.all_eq_true.1 (List.all_eq_true.1 (List.all_eq_true.1 hbAll n (five n h)) a (List.mem_range.2 (by omega))) x (List.mem_range.2 hx)
  rw [Bool.or_eq_true, decide_eq_true_eq, Bool.not_eq_true'] at h
  rcases h with h | h
  · omega
  · exact h
theorem allOf_one (M : List Int) (s : Int) : ∀ (d i t : Nat), i + d = M.length → i ≤ t → t < M.length → bo (rd M (t : Int)) s ∈ allOf M s i d := by
  intro d
  induction d with
  | zero => intro i t h1 h2 h3; omega
  | succ d ih =>
    intro i t h1 h2 h3
    simp only [allOf, List.mem_append, List.mem_cons]
    rcases Nat.lt_or_eq_of_le h2 with h | rfl
    · exact .inr (ih (i + 1) t (by omega) (by omega) h3)
    · exact .inl (.inl rfl)
theorem allOf_two (M : List Int) (s : Int) : ∀ (d i : Nat), i + d = M.length → ∀ y ∈ allOf M s i d, (∃ t, t < M.length ∧ y = bo (rd M (t : Int)) s) ∨ ∃ a ∈ M, ∃ b ∈ M, y = dif M a b := by
  intro d
  induction d with
  | zero => intro i h y hy; simp [allOf] at hy
  | succ d ih =>
    intro i h y hy
    simp only [allOf, List.mem_append, List.mem_cons, List.mem_map] at hy
    rcases hy with (hy | ⟨b, hb, hy⟩) | hy
    · exact .inl ⟨i, by omega, hy⟩
    · exact .inr ⟨_, rd_mem (show i < M.length by omega), b, List.mem_of_mem_take hb, hy.symm⟩
    · exact ih (i + 1) (by omega) y hy
theorem mem_filt (A : List Int) (c : Int) : ∀ (l out : List Int), c ∈ filt A out l ↔ c ∈ out ∨ (c ∈ l ∧ c ≠ 0 ∧ A.any (partOf c) = false) := by
  intro l
  induction l with
  | nil => intro out; simp [filt]
  | cons x l ih =>
    intro out
    unfold filt
    split
    · rename_i h
      rw [ih]
      constructor
      · rintro (h1 | ⟨h1, h2⟩)
        · exact .inl h1
        · exact .inr ⟨List.mem_cons_of_mem _ h1, h2⟩
      · rintro (h1 | ⟨h1, h2, h3⟩)
        · exact .inl h1
        · rcases List.mem_cons.1 h1 with rfl | h1
          · exact absurd h h2
          · exact .inr ⟨h1, h2, h3⟩
    · split
      · rename_i h0 h
        rw [ih]
        constructor
        · rintro (h1 | ⟨h1, h2⟩)
          · exact .inl h1
          · exact .inr ⟨List.mem_cons_of_mem _ h1, h2⟩
        · rintro (h1 | ⟨h1, h2, h3⟩)
          · exact .inl h1
          · rcases List.mem_cons.1 h1 with rfl | h1
            · exact .inl (by simpa using h)
            · exact .inr ⟨h1, h2, h3⟩
      · split
        · rename_i h0 h' h
          rw [ih]
          constructor
          · rintro (h1 | ⟨h1, h2⟩)
            · exact .inl h1
            · exact .inr ⟨List.mem_cons_of_mem _ h1, h2⟩
          · rintro (h1 | ⟨h1, h2, h3⟩)
            · exact .inl h1
            · rcases List.mem_cons.1 h1 with rfl | h1
              · rw [h] at h3; exact absurd h3 (by decide)
              · exact .inr ⟨h1, h2, h3⟩
        · rename_i h0 h' h
          rw [ih, List.mem_append, List.mem_singleton]
          constructor
          · rintro ((h1 | rfl) | ⟨h1, h2⟩)
            · exact .inl h1
            · exact .inr ⟨List.mem_cons_self .., h0, by simpa using h⟩
            · exact .inr ⟨List.mem_cons_of_mem _ h1, h2⟩
          · rintro (h1 | ⟨h1, h2, h3⟩)
            · exact .inl (.inl h1)
            · rcases List.mem_cons.1 h1 with rfl | h1
              · exact .inl (.inr rfl)
              · exact .inr ⟨h1, h2, h3⟩
theorem nodup_filt (A : List Int) : ∀ (l out : List Int), out.Nodup → (filt A out l).Nodup := by
  intro l
  induction l with
  | nil => intro out h; exact h
  | cons x l ih =>
    intro out h
    unfold filt
    split
    · exact ih _ h
    · split
      · exact ih _ h
      · split
        · exact ih _ h
        · rename_i h0 h1 h2
          refine ih _ (List.nodup_append.2 ⟨h, by simp, ?_⟩)
          intro a ha b hb
          rw [List.mem_singleton.1 hb]
          rintro rfl
          exact h1 (by simpa using ha)
theorem ins_len (x : Int) : ∀ l : List Int, x ∉ l → (ins x l).length = l.length + 1 := by
  intro l
  induction l with
  | nil => intro _; rfl
  | cons y l ih =>
    intro h
    rw [List.mem_cons, not_or] at h
    unfold ins
    split
    · split
      · rfl
      · exact absurd (by omega) h.1
    · rw [List.length_cons, ih h.2, List.length_cons]
theorem nodup_len (l : List Int) (hN : l.Nodup) (hR : ∀ x ∈ l, R7 x) : l.length ≤ 128 := by
  have : ∃ r, Srt r ∧ r.length = l.length ∧ ∀ y, y ∈ r ↔ y ∈ l := by
    induction l with
    | nil => exact ⟨[], ⟨List.Pairwise.nil, by simp⟩, rfl, by simp⟩
    | cons x l ih =>
      rw [List.nodup_cons] at hN
      obtain ⟨r, h1, h2, h3⟩ := ih hN.2 (fun y hy => hR y (by simp [hy]))
      exact ⟨ins x r, srt_ins (hR x (by simp)) h1, by rw [ins_len x r (by rw [h3]; exact hN.1), h2]; rfl, fun y => by rw [mem_ins, h3, List.mem_cons]⟩
  obtain ⟨r, h1, h2, _⟩ := this
  have := h1.len
  omega
theorem pairs_iff (C : List Int) (hN : C.Nodup) (Q : Int → Int → Prop) (sym : ∀ a ∈ C, ∀ b ∈ C, Q a b → Q b a) :
    (∀ s, s < C.length → ∀ t, t < s → Q (rd C ((s : Nat) : Int)) (rd C ((t : Nat) : Int))) ↔ ∀ a ∈ C, ∀ b ∈ C, a ≠ b → Q a b := by
  constructor
  · intro f a ha b hb hab
    obtain ⟨i, hi, rfl⟩ := List.getElem_of_mem ha
    obtain ⟨j, hj, rfl⟩ := List.getElem_of_mem hb
    have hij : i ≠ j := fun e => hab (by subst e; rfl)
    rcases Nat.lt_or_gt_of_ne hij with h | h
    · have := f j hj i h
      rw [rd_at hj, rd_at hi] at this
      exact sym _ (List.getElem_mem _) _ (List.getElem_mem _) this
    · have := f i hi j h
      rwa [rd_at hj, rd_at hi] at this
  · intro f s hs t ht
    rw [rd_at hs, rd_at (show t < C.length by omega)]
    refine f _ (List.getElem_mem _) _ (List.getElem_mem _) fun e => ?_
    have := (List.nodup_iff_pairwise_ne.1 hN)
    rw [List.pairwise_iff_getElem] at this
    exact this t s (by omega) hs ht e.symm
theorem bor_comm {x y : Int} (hx : R7 x) (hy : R7 y) : bo x y = bo y x := by
  rw [(op2 hx hy).or, (op2 hy hx).or, Nat.or_comm]
theorem band_le {x y : Int} (hx : R7 x) (hy : R7 y) : ba x y ≤ x := by
  rw [(op2 hx hy).and]
  have : x.toNat &&& y.toNat ≤ x.toNat := Nat.and_le_left
  have := hx.1
  omega
theorem sub_eq (C L : List Int) (hm : ∀ y, y ∈ C ↔ y ∈ L) (hC : ∀ c ∈ C, R7 c) (z : Int) (hz : R7 z) : Sub64 L z = Sub C z := by
  rw [Bool.eq_iff_iff]
  unfold Sub64 Sub
  simp only [List.any_eq_true, beq_iff_eq]
  constructor
  · rintro ⟨d, hd, e⟩
    have hd' := (hm d).2 hd
    exact ⟨d, hd', by show ba z d = d; rw [← band_comm (hC d hd') hz, ← (op2 (hC d hd') hz).and64]; exact e⟩
  · rintro ⟨d, hd, e⟩
    exact ⟨d, (hm d).1 hd, by show Go.bits .and .i64 d z = d; rw [(op2 (hC d hd) hz).and64, band_comm (hC d hd) hz]; exact e⟩
theorem cnd_iff (n : Nat) (h : 1 ≤ n ∧ n ≤ 5) (C L : List Int) (hm : ∀ y, y ∈ C ↔ y ∈ L) (hC : ∀ c ∈ C, R7 c) (a b : Int) (ha : R7 a) (hb : R7 b) (hlt : a < ((2 ^ (n + 1) : Nat) : Int)) :
    Cnd C a b ↔ ∀ x, x < n + 1 → Okp L a b x := by
  have hab := rand ha hb
  have hob := ror ha hb
  have one : ∀ x, x < 7 → (Okp L a b x ↔ (hasBit (ba a b) x = true → Sub C (bn (bo a b) (bit (x : Int))) = true)) := by
    intro x hx
    obtain ⟨b1, b2, b3⟩ := bit7 x hx
    unfold Okp hasBit
    rw [(op2 ha hb).and64, (op2 ha hb).or64, ← b2, (op2 hob b1).not64, sub_eq C L hm hC _ (op2 hob b1).rn, bne_iff_ne]
  constructor
  · intro f x hx
    exact (one x (by omega)).2 (f x (by omega))
  · intro f x hx hb'
    by_cases c : x < n + 1
    · exact (one x hx).1 (f x c) hb'
    · have := band_le ha hb
      rw [hb_no n h (ba a b) hab.1 (by omega) x hx (by omega)] at hb'
      exact absurd hb' (by decide)
theorem cnd_sym (C : List Int) (a b : Int) (ha : R7 a) (hb : R7 b) (h : Cnd C a b) : Cnd C b a := by
  unfold Cnd at *
  rw [← band_comm ha hb, ← bor_comm ha hb]
  exact h
theorem srt_unique : ∀ (X Y : List Int), X.Pairwise (· < ·) → Y.Pairwise (· < ·) → (∀ y, y ∈ X ↔ y ∈ Y) → X = Y := by
  intro X
  induction X with
  | nil =>
    intro Y _ _ h
    cases Y with
    | nil => rfl
    | cons y Y => have := (h y).2 (by simp); simp at this
  | cons x X ih =>
    intro Y hX hY h
    cases Y with
    | nil => have := (h x).1 (by simp); simp at this
    | cons y Y =>
      rw [List.pairwise_cons] at hX hY
      have e : x = y := by
        rcases List.mem_cons.1 ((h x).1 (by simp)) with e | e
        · exact e
        · rcases List.mem_cons.1 ((h y).2 (by simp)) with e2 | e2
          · exact e2.symm
          · have := hY.1 x e; have := hX.1 y e2; omega
      subst e
      rw [ih Y hX.2 hY.2 fun z => ?_]
      constructor
      · intro hz
        rcases List.mem_cons.1 ((h z).1 (List.mem_cons_of_mem _ hz)) with e | e
        · have := hX.1 z hz; omega
        · exact e
      · intro hz
        rcases List.mem_cons.1 ((h z).2 (List.mem_cons_of_mem _ hz)) with e | e
        · have := hY.1 z hz; omega
        · exact e
theorem port_both (n : Nat) (hn : 1 ≤ n ∧ n ≤ 5) (gs : List (List Int)) (hl : gs.length < 2000000) (hg : ∀ t, t < gs.length → G gs t ∈ lists n) :
  ∃ C L : List Int, ((∀ c, c ∈ C ↔ c ∈ L) ∧ (∀ c ∈ C, R7 c ∧ c < ((2 ^ (n + 1) : Nat) : Int)) ∧ C.Nodup ∧ C.Pairwise (fun a b => setLt b a = false) ∧ L.Nodup ∧ C.length ≤ 128 ∧ L.length ≤ 128) ∧
   ∃ K, ∀ k, K ≤ k → impl_Family_circuits.f k n gs = some C ∧ (∃ w, spec_l07Circuits.f k n gs = some (L, w)) ∧ ∃ b, impl_Family_isPort.f k n gs = some b ∧ spec_l07Port.f k n gs = some (L, b) := by
 have hp := pow5 n hn
 obtain ⟨hs, hs2, hs3⟩ := bit7 n (by omega)
 have h7 : ∀ t, t < gs.length → G gs t ∈ lists 7 := fun t ht => by
  have := lists_mono n (7 - n) _ (hg t ht)
  rwa [show n + (7 - n) = 7 by omega] at this
 have hM0 : ∀ c ∈ gs.map maskOf, 0 ≤ c ∧ c < ((2 ^ n : Nat) : Int) := fun c hc => by
  obtain ⟨g, hg1, rfl⟩ := List.mem_map.1 hc
  obtain ⟨t, ht, rfl⟩ := List.getElem_of_mem hg1
  have := hg t ht
  rw [G, rdL_at ht] at this
  exact mask_lt n hn _ this
 have hM : ∀ c ∈ gs.map maskOf, R7 c := fun c hc => ⟨(hM0 c hc).1, by have := (hM0 c hc).2; omega⟩
 have hlM : (gs.map maskOf).length = gs.length := List.length_map _
 have hrd : ∀ t, t < gs.length → rd (gs.map maskOf) ((t : Nat) : Int) = maskOf (G gs t) := fun t ht => by
  rw [rd_at (by rw [hlM]; exact ht), List.getElem_map, G, rdL_at ht]
 have hAm : ∀ y ∈ allA n gs, R7 y ∧ y < ((2 ^ (n + 1) : Nat) : Int) ∧ (Go.bits .and .i64 y (bit (n : Int)) ≠ 0 → ∃ t, t < gs.length ∧ y = bo (maskOf (G gs t)) (bit (n : Int))) := by
  intro y hy
  rcases allOf_two _ _ _ 0 (by omega) y hy with ⟨t, ht, rfl⟩ | ⟨a, ha, b, hb, rfl⟩
  ·rw [hlM] at ht
   rw [hrd t ht]
   have hm := mask_lt n hn _ (hg t ht)
   exact ⟨ror ⟨hm.1, by omega⟩ hs, (nf n hn _ hm.1 hm.2).lt, fun _ => ⟨t, ht, rfl⟩⟩
  ·have h1 := hM0 a ha
   have h2 := hM0 b hb
   have hu := ror (hM a ha) (hM b hb)
   have hult : bo a b < ((2 ^ n : Nat) : Int) := by
    rw [(op2 (hM a ha) (hM b hb)).or]
    have : a.toNat ||| b.toNat < 2 ^ n := Nat.or_lt_two_pow (by omega) (by omega)
    omega
   have hcom := com_ok _ hM _ hu _ hu (band_self hu)
   have hf := (nf n hn _ hu.1 hult).no _ hcom.1
   exact ⟨(op2 hu hcom.1).rn, hf.2, fun h => absurd hf.1 h⟩
 have hAR : ∀ x ∈ allA n gs, R7 x := fun x hx => (hAm x hx).1
 obtain ⟨K1, hK1⟩ := circuits_f n (by omega) gs hl h7 hAR
 have hFN : (filt (allA n gs) [] (allA n gs)).Nodup := nodup_filt _ _ [] List.nodup_nil
 have hCp := sortBy_perm setLt (filt (allA n gs) [] (allA n gs))
 have hCN : (sortBy setLt (filt (allA n gs) [] (allA n gs))).Nodup := hCp.nodup_iff.2 hFN
 have hCm : ∀ c, c ∈ sortBy setLt (filt (allA n gs) [] (allA n gs)) ↔ c ∈ allA n gs ∧ c ≠ 0 ∧ (allA n gs).any (partOf c) = false := fun c => by
  rw [hCp.mem_iff, mem_filt]; simp
 have hCs := sortBy_sorted setLt_swo (filt (allA n gs) [] (allA n gs))
 generalize sortBy setLt (filt (allA n gs) [] (allA n gs)) = C at hK1 hCN hCm hCs
 have hCR : ∀ c ∈ C, R7 c := fun c hc => hAR c ((hCm c).1 hc).1
 have hCl := nodup_len C hCN hCR
 obtain ⟨K2, hK2⟩ := p_l0 n (by omega) gs (by omega) h7 C (by omega) hCR gs.length 0 (by omega)
 have hb0 : ∀ c ∈ gs.map maskOf, bo c (bit (n : Int)) ≠ 0 := fun c hc => (nf n hn c (hM0 c hc).1 (hM0 c hc).2).ne
 have hx0 : ∃ X, Srt X ∧ (∀ y, y ∈ X ↔ y ≠ 0 ∧ y ∈ allA n gs) ∧ ∃ K, ∀ k, K ≤ k → spec_l07Circuits.f k n gs = some (X.filter (MX X), X.all fun c => MX X c || (Go.bits .and .i64 c (bit (n : Int)) == 0)) := by
  obtain ⟨K3, hK3⟩ := s_l0 (bit (n : Int)) hs (gs.map maskOf) (by omega) hM hb0 0 (gs.map maskOf).length 0 (by omega)
  obtain ⟨k3, X, _, hX, hXm, e3⟩ := hK3 [] ⟨List.Pairwise.nil, by simp⟩ K3 (Nat.le_refl _)
  refine ⟨X, hX, fun y => by rw [hXm]; simp [allA], ?_⟩
  obtain ⟨K4, hK4⟩ := s_l3 (bit (n : Int)) X hX X.length 0 (by omega)
  obtain ⟨K5, hK5⟩ := s_l0 (bit (n : Int)) hs (gs.map maskOf) (by omega) hM hb0 K4 (gs.map maskOf).length 0 (by omega)
  refine ⟨K5 + gs.length + 30, fun k hk => ?_⟩
  obtain ⟨k5, X5, hk5, hX5, hXm5, e5⟩ := hK5 [] ⟨List.Pairwise.nil, by simp⟩ k (by omega)
  obtain rfl : X5 = X := srt_unique _ _ hX5.1 hX.1 fun y => by rw [hXm5, hXm]
  unfold spec_l07Circuits.f
  rw [if_pos hs3, numbers_f gs (by omega) h7 k (by omega), Option.bind_some, ← hs2]
  rw [show ((0 : Nat) : Int) = 0 from rfl] at e5
  rw [e5]
  have := hK4 [] true (by simp) k5 hk5
  rw [show ((0 : Nat) : Int) = 0 from rfl, List.drop_zero, List.nil_append, Bool.true_and] at this
  exact this
 obtain ⟨X, hX, hXm, K6, hK6⟩ := hx0
 have hLN : (X.filter (MX X)).Nodup := by
  refine List.Nodup.sublist List.filter_sublist ?_
  rw [List.nodup_iff_pairwise_ne]
  exact hX.1.imp fun h => by omega
 have hLm : ∀ c, c ∈ C ↔ c ∈ X.filter (MX X) := fun c => by
  rw [hCm, List.mem_filter, hXm]
  constructor
  ·rintro ⟨h1, h2, h3⟩
   refine ⟨⟨h2, h1⟩, ?_⟩
   unfold MX
   rw [List.all_eq_true]
   intro d hd
   have hd' := (hXm d).1 hd
   rw [List.any_eq_false] at h3
   have := h3 d hd'.2
   unfold partOf at this
   have hdR := hAR d hd'.2
   have hcR := hAR c h1
   have e : Go.bits .and .i64 d c = Go.bits .and .u64 c d := by rw [(op2 hdR hcR).and64]; exact band_comm hdR hcR
   rw [e]
   by_cases c1 : d = c
   ·rw [beq_iff_eq.2 c1]; rfl
   ·simp only [bne_iff_ne.2 hd'.1, bne_iff_ne.2 c1, Bool.true_and] at this
    simp only [Bool.or_eq_true, bne_iff_ne, beq_iff_eq]
    exact .inr fun h => this (beq_iff_eq.2 h)
  ·rintro ⟨⟨h2, h1⟩, h3⟩
   refine ⟨h1, h2, ?_⟩
   rw [List.any_eq_false]
   intro d hd
   unfold partOf
   unfold MX at h3
   rw [List.all_eq_true] at h3
   by_cases c0 : d = 0
   ·subst c0; simp
   ·have := h3 d ((hXm d).2 ⟨c0, hd⟩)
    have hdR := hAR d hd
    have hcR := hAR c h1
    have e : Go.bits .and .i64 d c = Go.bits .and .u64 c d := by rw [(op2 hdR hcR).and64]; exact band_comm hdR hcR
    rw [e] at this
    simp only [Bool.or_eq_true, bne_iff_ne, beq_iff_eq] at this
    rcases this with h | h
    ·subst h; simp
    ·rw [beq_eq_false_iff_ne.2 h]; simp
 have hLl : (X.filter (MX X)).length ≤ 128 := Nat.le_trans (List.length_filter_le _ _) hX.len
 obtain ⟨K7, hK7⟩ := q_l0 (X.filter (MX X)) (by omega) n (by omega) gs (X.filter (MX X)).length 0 (by omega)
 have whole : (X.all fun c => MX X c || (Go.bits .and .i64 c (bit (n : Int)) == 0)) = true ↔ ∀ t, t < gs.length → C.contains (bo (maskOf (G gs t)) (bit (n : Int))) = true := by
  rw [List.all_eq_true]
  constructor
  ·intro f t ht
   have hm := mask_lt n hn _ (hg t ht)
   have hin : bo (maskOf (G gs t)) (bit (n : Int)) ∈ allA n gs := by
    have := allOf_one (gs.map maskOf) (bit (n : Int)) (gs.map maskOf).length 0 t (by omega) (by omega) (by omega)
    rwa [hrd t ht] at this
   have h2 := nf n hn _ hm.1 hm.2
   have hX' := (hXm _).2 ⟨h2.ne, hin⟩
   have := f _ hX'
   rw [beq_eq_false_iff_ne.2 h2.has, Bool.or_false] at this
   simp only [List.contains_iff_mem]
   rw [hLm, List.mem_filter]
   exact ⟨hX', this⟩
  ·intro f c hc
   have hc' := (hXm c).1 hc
   by_cases c0 : Go.bits .and .i64 c (bit (n : Int)) = 0
   ·rw [beq_iff_eq.2 c0, Bool.or_true]
   ·obtain ⟨t, ht, rfl⟩ := (hAm c hc'.2).2.2 c0
    have := f t ht
    simp only [List.contains_iff_mem] at this
    rw [hLm, List.mem_filter] at this
    rw [this.2, Bool.true_or]
 have hClt : ∀ c ∈ C, c < ((2 ^ (n + 1) : Nat) : Int) := fun c hc => (hAm c ((hCm c).1 hc).1).2.1
 have pairs : (∀ s, s < C.length → ∀ t, t < s → Cnd C (rd C ((s : Nat) : Int)) (rd C ((t : Nat) : Int))) ↔ ∀ s, s < (X.filter (MX X)).length → ∀ t, t < s → ∀ x, x < n + 1 → Okp (X.filter (MX X)) (rd (X.filter (MX X)) ((s : Nat) : Int)) (rd (X.filter (MX X)) ((t : Nat) : Int)) x := by
  rw [pairs_iff C hCN (Cnd C) (fun a ha b hb h => cnd_sym C a b (hCR a ha) (hCR b hb) h)]
  rw [pairs_iff (X.filter (MX X)) hLN (fun a b => ∀ x, x < n + 1 → Okp (X.filter (MX X)) a b x) (fun a ha b hb h => ?_)]
  ·constructor
   ·intro f a ha b hb hab
    have ha' := (hLm a).2 ha
    have hb' := (hLm b).2 hb
    exact (cnd_iff n hn C _ hLm hCR a b (hCR a ha') (hCR b hb') (hClt a ha')).1 (f a ha' b hb' hab)
   ·intro f a ha b hb hab
    exact (cnd_iff n hn C _ hLm hCR a b (hCR a ha) (hCR b hb) (hClt a ha)).2 (f a ((hLm a).1 ha) b ((hLm b).1 hb) hab)
  ·have ha' := (hLm a).2 ha
   have hb' := (hLm b).2 hb
   have h1 := (cnd_iff n hn C _ hLm hCR a b (hCR a ha') (hCR b hb') (hClt a ha')).2 h
   exact (cnd_iff n hn C _ hLm hCR b a (hCR b hb') (hCR a ha') (hClt b hb')).1 (cnd_sym C a b (hCR a ha') (hCR b hb') h1)
 refine ⟨C, X.filter (MX X), ⟨hLm, fun c hc => ⟨hCR c hc, hClt c hc⟩, hCN, hCs, hLN, hCl, hLl⟩, K1 + K2 + K6 + K7 + 2, fun k hk => ?_⟩
 obtain ⟨b, e1, hb⟩ := hK2 k (by omega)
 obtain ⟨b2, e2, hb2⟩ := hK7 k (by omega)
 refine ⟨hK1 k (by omega), ⟨_, hK6 k (by omega)⟩, b, ?_, ?_⟩
 ·unfold impl_Family_isPort.f
  rw [hK1 k (by omega), Option.bind_some]
  exact e1
 ·unfold spec_l07Port.f
  rw [hK6 k (by omega), Option.bind_some]
  rw [show ((0 : Nat) : Int) = 0 from rfl] at e2
  have hbw : b = ((X.all fun c => MX X c || (Go.bits .and .i64 c (bit (n : Int)) == 0)) && b2) := by
   rw [Bool.eq_iff_iff, hb, Bool.and_eq_true, whole, hb2, pairs]
   exact ⟨fun f => ⟨fun t ht => f.1 t (by omega) ht, fun s _ hs => f.2 s hs⟩, fun f => ⟨fun t _ ht => f.1 t ht, fun s hs => f.2 s (by omega) hs⟩⟩
  rw [hbw]
  by_cases c : (X.all fun c => MX X c || (Go.bits .and .i64 c (bit (n : Int)) == 0)) = true
  ·rw [c, Bool.true_and]
   exact e2
  ·have cf : (X.all fun c => MX X c || (Go.bits .and .i64 c (bit (n : Int)) == 0)) = false := by simpa using c
   rw [cf, Bool.false_and]
   obtain ⟨k, rfl⟩ : ∃ m, k = m + 2 := ⟨k - 2, by omega⟩
   exact q_out _ n gs 0 k
end Ex
end Go.Proofs.Ytmbeijjkfmgkpaa.Pure
namespace Go.Proofs.Ytmbeijjkfmgkpaa.Q
open Go.RowKit Go.Proofs.YtmbeijjkfmgkpaaW.PrintWords Go.Proofs.YtmbeijjkfmgkpaaW.PrintLast Go.Proofs.YtmbeijjkfmgkpaaW.PrintMore
attribute [local go_sem] max2_int min2_int max_two min_two max_three min_three max_four min_four
set_option linter.unusedVariables false
set_option linter.unusedSimpArgs false
def impl_everybody.f (a0 : Int) : Option (Int) := if 0 ≤ a0 then (some (IntKind.u64.wrap ((shl .u64 1 a0) - 1))) else (none)
set_option maxHeartbeats 8000000 in
set_option maxRecDepth 100000 in
theorem impl_everybody.calls (a0 : Int) (r : Int) (w : World) (h : impl_everybody.f a0 = some r) :
    Calls Try.prog 74 #[.int .i64 a0] w fun e w' => e = .returned (.int .u64 r) ∧ Drawn0 w w' := by
  have H : (if 0 ≤ a0 then (some (IntKind.u64.wrap ((shl .u64 1 a0) - 1))) else (none)) = some r := h
  clear h
  by_cases c2 : 0 ≤ a0
  · rw [if_pos c2] at H
    have c2b0 := eq_true c2
    have c2b1 : decide (0 ≤ a0) = true := decide_eq_true c2
    clear c2
    obtain ⟨ji3, hji3⟩ : ∃ j_ : Int, (shl .u64 1 a0) = j_ := ⟨_, rfl⟩
    replace H : (some (IntKind.u64.wrap ((ji3) - 1))) = some r := by first | (rw [hji3] at H; exact H) | (simp only [hji3] at H ⊢; exact H)
    have hji3_ : (IntKind.u64.wrap (1 * 2 ^ min a0.toNat 64)) = ji3 := hji3
    have hji3z : a0 ≤ 64 → (IntKind.u64.wrap (1 * 2 ^ a0.toNat)) = ji3 := shl_small hji3
    have hji3u : (IntKind.u64.wrap (2 ^ min a0.toNat 64)) = ji3 := by have h_ := hji3_; rw [Int.one_mul] at h_; exact h_
    have hji3v : a0 ≤ 64 → (IntKind.u64.wrap (2 ^ a0.toNat)) = ji3 := fun hle_ => by have h_ := hji3z hle_; rw [Int.one_mul] at h_; exact h_
    obtain rfl := Option.some.inj H
    go_enter Try.func74, Try.ntmps74
    go_wp2
    go_ret
    exact ⟨by first | rfl | (simp; done) | (simp only [← hji3] <;> (first | rfl | simp)) | (simp [*]; done), by repeat (first | exact Drawn0.refl _ | apply Drawn0.step)⟩
  · rw [if_neg c2] at H
    exact absurd H (by simp)
mutual
def impl_PortRanks.l0 : Nat → List Int → Int → Int → List (List Int) → Int → Int → List Int → Option (Int × Int × List Int × Int)
  | 0, _, _, _, _, _, _, _ => none
  | k + 1, x5, x7, x738000, x738001, x745000, x745001, x745002 => (impl_everybody.f x738000).bind fun t745 => (if x7 ≤ t745 then (impl_PortRanks.l1 k x5 x7 0 0 x738000 x738001 x745000 x745001 x745002) else (some (x745000, x745001, x745002, 0)))
def impl_PortRanks.l1 : Nat → List Int → Int → Int → Int → Int → List (List Int) → Int → Int → List Int → Option (Int × Int × List Int × Int)
  | 0, _, _, _, _, _, _, _, _, _ => none
  | k + 1, x5, x7, x8, x9, x738000, x738001, x745000, x745001, x745002 => if x9 ≤ x7 then ((impl_crowd_contains.f x7 x9).bind fun t749 => (if t749 = true then ((anyIn.f k x5 x9).bind fun t750 => (if t750 = true then (impl_PortRanks.l1 k x5 x7 x8 (IntKind.u64.wrap (x9 + 1)) x738000 x738001 x745000 x745001 x745002) else ((impl_crowd_size.f x9).bind fun t751 => (impl_PortRanks.l1 k x5 x7 (mx x8 t751) (IntKind.u64.wrap (x9 + 1)) x738000 x738001 x745000 x745001 x745002)))) else (impl_PortRanks.l1 k x5 x7 x8 (IntKind.u64.wrap (x9 + 1)) x738000 x738001 x745000 x745001 x745002))) else (if x745002.length < 17592186044416 then (impl_PortRanks.l0 k x5 (IntKind.u64.wrap (x7 + 1)) x738000 x738001 x745000 x745001 (x745002 ++ [x8])) else (none))
end
def impl_PortRanks.f (k : Nat) (a0_0 : Int) (l0_1 : List (List Int)) : Option (Int × Int × List Int × Int) := (impl_rankedCode.f k a0_0 l0_1).bind fun t739 => (if t739 = 0 then ((impl_Family_isPort.f k a0_0 l0_1).bind fun t740 => (if t740 = true then ((impl_Family_circuits.f k a0_0 l0_1).bind fun t741 => (impl_PortRanks.l0 k t741 0 a0_0 l0_1 a0_0 1 ([] : List Int))) else (some (0, 0, ([] : List Int), 8)))) else (some (0, 0, ([] : List Int), t739)))
set_option maxHeartbeats 8000000 in
set_option maxRecDepth 100000 in
theorem impl_PortRanks.calls (k : Nat) (a0_0 : Int) (A0_1 : Option Addr) (c0_1 : Nat) (l0_1 : List (List Int)) (r1 : Int) (r2 : Int) (r3 : List Int) (r4 : Int) (w : World) (hr0_1 : Kd.C (Kd.slice 2 (Kd.int .i64)) w A0_1 l0_1.length l0_1) (hc0_1 : l0_1.length ≤ c0_1) (h : impl_PortRanks.f k a0_0 l0_1 = some (r1, r2, r3, r4)) :
  Calls Try.prog 32 #[.agg #[.int .i64 a0_0, .slice A0_1 l0_1.length c0_1]] w fun e w' => ∃ v2_ : Value, e = .returned (.tuple #[.agg #[.int .i64 r1, .int .i64 r2, v2_], .int .i64 r4]) ∧ Kd.R (Kd.int .i64) 2 w' w.heap.size (fun _ => True) v2_ r3 ∧ Below w.heap.size w w' := by
 have hu31 := Try.underlying31
 have hu54 := Try.underlying54
 have HR0_1 := Aside0.mk hr0_1
 have HC0_1 := Aside0.mk hc0_1
 clear hr0_1 hc0_1
 have HB := Aside0.mk (Below.refl w.heap.size w)
 have H : ((impl_rankedCode.f k a0_0 l0_1).bind fun t739 => (if t739 = 0 then ((impl_Family_isPort.f k a0_0 l0_1).bind fun t740 => (if t740 = true then ((impl_Family_circuits.f k a0_0 l0_1).bind fun t741 => (impl_PortRanks.l0 k t741 0 a0_0 l0_1 a0_0 1 ([] : List Int))) else (some (0, 0, ([] : List Int), 8)))) else (some (0, 0, ([] : List Int), t739)))) = some (r1, r2, r3, r4) := h
 clear h
 replace H := Option.bind_eq_some_iff.mp H
 obtain ⟨t739, A20, H⟩ := H
 replace H : (if t739 = 0 then ((impl_Family_isPort.f k a0_0 l0_1).bind fun t740 => (if t740 = true then ((impl_Family_circuits.f k a0_0 l0_1).bind fun t741 => (impl_PortRanks.l0 k t741 0 a0_0 l0_1 a0_0 1 ([] : List Int))) else (some (0, 0, ([] : List Int), 8)))) else (some (0, 0, ([] : List Int), t739))) = some (r1, r2, r3, r4) := H
 have A2 := Aside0.mk A20
 clear A20
 by_cases c3 : t739 = 0
 ·rw [if_pos c3] at H
  have c3b0 : (t739 == 0) = true := beq_iff_eq.mpr c3
  have c3b1 : (t739 != 0) = false := bne_eq_false_iff_eq.mpr c3
  clear c3
  replace H := Option.bind_eq_some_iff.mp H
  obtain ⟨t740, A40, H⟩ := H
  replace H : (if t740 = true then ((impl_Family_circuits.f k a0_0 l0_1).bind fun t741 => (impl_PortRanks.l0 k t741 0 a0_0 l0_1 a0_0 1 ([] : List Int))) else (some (0, 0, ([] : List Int), 8))) = some (r1, r2, r3, r4) := H
  have A4 := Aside0.mk A40
  clear A40
  by_cases c5 : t740 = true
  ·subst c5
   rw [if_pos rfl] at H
   replace H := Option.bind_eq_some_iff.mp H
   obtain ⟨t741, A60, H⟩ := H
   replace H : (impl_PortRanks.l0 k t741 0 a0_0 l0_1 a0_0 1 ([] : List Int)) = some (r1, r2, r3, r4) := H
   have A6 := Aside0.mk A60
   clear A60
   have H' := Aside0.mk H
   clear H
   go_enter Try.func32, Try.ntmps32
   go_wp2_with (first | ((with_reducible refine gate_dst (N := 1) rfl ?_); refine box_event ?hg (N := 1) ?hd (cs := #[.int .i64 a0_0, .slice A0_1 l0_1.length c0_1]) (t := 31) ?hr ?_; (case hd => rfl); (case hg => rfl); (case hr => first | (go_simp; done) | (go_simp; rfl)); intro gb737 hg w7 hbox hb; have n0_ := Aside0.mk (below_step (zb0 HB.out) hb); have n1_ := Aside0.mk (hbox); have n2_ := Aside0.mk ((by rw [hg]; exact (below_size (zb0 HB.out)) : w.heap.size ≤ gb737)); have n3_ := Aside0.mk ((by rw [hg]; exact (below_size (zb0 HB.out)) : w.heap.size ≤ gb737)); clear HB; have HB := n0_; have BK737 := n1_; have GW737 := n2_; have GE737 := n3_; clear n0_ n1_ n2_ n3_; clear hb hbox hg) | ((with_reducible refine gate_dst (N := 2) rfl ?_); refine box_event ?hg (N := 2) ?hd (cs := #[.int .i64 0, .int .i64 0, .slice none 0 0]) (t := 54) ?hr ?_; (case hd => rfl); (case hg => rfl); (case hr => first | (go_simp; done) | (go_simp; rfl)); intro gb738 hg w8 hbox hb; have n0_ := Aside0.mk (blk_below (g := gb737) (o := .cells #[.int .i64 a0_0, .slice A0_1 l0_1.length c0_1] 31 (0, 0)) (zk BK737.out) hb); have n1_ := Aside0.mk (below_step (zb1 HB.out GE737.out) hb); have n2_ := Aside0.mk (hbox); have n3_ := Aside0.mk ((by rw [hg]; exact (below_size (zb1 HB.out GE737.out)) : w.heap.size ≤ gb738)); have n4_ := Aside0.mk ((by rw [hg]; exact (below_size (zb1 HB.out GE737.out)) : w.heap.size ≤ gb738)); have n5_ := Aside0.mk ((by rw [hg]; exact Nat.ne_of_lt (blk_lt (g := gb737) (o := .cells #[.int .i64 a0_0, .slice A0_1 l0_1.length c0_1] 31 (0, 0)) (zk BK737.out)) : gb737 ≠ gb738)); have n6_ := Aside0.mk ((by rw [hg]; exact Nat.ne_of_gt (blk_lt (g := gb737) (o := .cells #[.int .i64 a0_0, .slice A0_1 l0_1.length c0_1] 31 (0, 0)) (zk BK737.out)) : gb738 ≠ gb737)); clear BK737; clear HB; have BK737 := n0_; have HB := n1_; have BK738 := n2_; have GW738 := n3_; have GE738 := n4_; have NB737_738 := n5_; have NB738_737 := n6_; clear n0_ n1_ n2_ n3_ n4_ n5_ n6_; clear hb hbox hg; have hnb9 := NB737_738.out; have hnc9 := NB738_737.out; have hcz10_0 : w8.cell? ⟨gb737, 0, none⟩ = some (.int .i64 a0_0) := (blk_cell BK737.out 0).trans rfl; have hcz10_1 : w8.cell? ⟨gb737, 1, none⟩ = some (.slice A0_1 l0_1.length c0_1) := (blk_cell BK737.out 1).trans rfl; have hfz10_0 := blk_frozen BK737.out 0; have hfz10_1 := blk_frozen BK737.out 1) | ((with_reducible refine gate_callee (f := 73) rfl ?_); refine goesL_ (some 11) rfl rfl Try.func73 (by kernel_rfl) rfl #[.agg #[.int .i64 a0_0, .slice A0_1 l0_1.length c0_1]] rfl zl ?_; (with_reducible refine (impl_rankedCode.calls k a0_0 _ _ l0_1 t739 _ ?side1 ?side2 A2.out).mono ?_); (case side1 => exact zc (Kd.C_below HR0_1.out HB.out)); (case side2 => exact HC0_1.out); rintro e w11 ⟨rfl, hb⟩; refine ⟨_, rfl, ?_⟩; have n0_ := Aside0.mk (blk_below (g := gb737) (o := .cells #[.int .i64 a0_0, .slice A0_1 l0_1.length c0_1] 31 (0, 0)) (zk BK737.out) hb); have n1_ := Aside0.mk (blk_below (g := gb738) (o := .cells #[.int .i64 0, .int .i64 0, .slice none 0 0] 54 (0, 0)) (zk BK738.out) hb); have n2_ := Aside0.mk (below_step (zb2 HB.out GE737.out GE738.out) hb); clear BK737; clear BK738; clear HB; have BK737 := n0_; have BK738 := n1_; have HB := n2_; clear n0_ n1_ n2_; (try clear hb); (try clear hb2); (try clear hk); (try clear hi); have hcz12_0 : w11.cell? ⟨gb737, 0, none⟩ = some (.int .i64 a0_0) := (blk_cell BK737.out 0).trans rfl; have hcz12_1 : w11.cell? ⟨gb737, 1, none⟩ = some (.slice A0_1 l0_1.length c0_1) := (blk_cell BK737.out 1).trans rfl; have hfz12_0 := blk_frozen BK737.out 0; have hfz12_1 := blk_frozen BK737.out 1) | ((with_reducible refine gate_callee (f := 101) rfl ?_); refine goesL_ (some 17) rfl rfl Try.func101 (by kernel_rfl) rfl #[.agg #[.int .i64 a0_0, .slice A0_1 l0_1.length c0_1]] rfl zl ?_; (with_reducible refine (impl_Family_isPort.calls k a0_0 _ _ l0_1 true _ ?side1 ?side2 A4.out).mono ?_); (case side1 => exact zc (Kd.C_below HR0_1.out HB.out)); (case side2 => exact HC0_1.out); rintro e w13 ⟨rfl, hb⟩; refine ⟨_, rfl, ?_⟩; have n0_ := Aside0.mk (blk_below (g := gb737) (o := .cells #[.int .i64 a0_0, .slice A0_1 l0_1.length c0_1] 31 (0, 0)) (zk BK737.out) hb); have n1_ := Aside0.mk (blk_below (g := gb738) (o := .cells #[.int .i64 0, .int .i64 0, .slice none 0 0] 54 (0, 0)) (zk BK738.out) hb); have n2_ := Aside0.mk (below_step (zb2 HB.out GE737.out GE738.out) hb); clear BK737; clear BK738; clear HB; have BK737 := n0_; have BK738 := n1_; have HB := n2_; clear n0_ n1_ n2_; (try clear hb); (try clear hb2); (try clear hk); (try clear hi); have hcz14_0 : w13.cell? ⟨gb737, 0, none⟩ = some (.int .i64 a0_0) := (blk_cell BK737.out 0).trans rfl; have hcz14_1 : w13.cell? ⟨gb737, 1, none⟩ = some (.slice A0_1 l0_1.length c0_1) := (blk_cell BK737.out 1).trans rfl; have hfz14_0 := blk_frozen BK737.out 0; have hfz14_1 := blk_frozen BK737.out 1) | ((with_reducible refine gate_callee (f := 102) rfl ?_); refine goesL_ (some 21) rfl rfl Try.func102 (by kernel_rfl) rfl #[.agg #[.int .i64 a0_0, .slice A0_1 l0_1.length c0_1]] rfl zl ?_; (with_reducible refine (impl_Family_circuits.calls k a0_0 _ _ l0_1 t741 _ ?side1 ?side2 A6.out).mono ?_); (case side1 => exact zc (Kd.C_below HR0_1.out HB.out)); (case side2 => exact HC0_1.out); rintro e w15 ⟨v742, rfl, ho0, hb⟩; refine ⟨_, rfl, ?_⟩; have n0_ := Aside0.mk (Kd.R_lower ho0 (below_size (zb2 HB.out GE737.out GE738.out))); have n1_ := Aside0.mk (blk_below (g := gb737) (o := .cells #[.int .i64 a0_0, .slice A0_1 l0_1.length c0_1] 31 (0, 0)) (zk BK737.out) hb); have n2_ := Aside0.mk (blk_below (g := gb738) (o := .cells #[.int .i64 0, .int .i64 0, .slice none 0 0] 54 (0, 0)) (zk BK738.out) hb); have n3_ := Aside0.mk (below_step (zb2 HB.out GE737.out GE738.out) hb); clear BK737; clear BK738; clear HB; have HO743 := n0_; have BK737 := n1_; have BK738 := n2_; have HB := n3_; clear n0_ n1_ n2_ n3_; (try clear hb); (try clear hb2); (try clear hk); (try clear hi); (try clear ho0); have hcz16_0 : w15.cell? ⟨gb737, 0, none⟩ = some (.int .i64 a0_0) := (blk_cell BK737.out 0).trans rfl; have hcz16_1 : w15.cell? ⟨gb737, 1, none⟩ = some (.slice A0_1 l0_1.length c0_1) := (blk_cell BK737.out 1).trans rfl; have hfz16_0 := blk_frozen BK737.out 0; have hfz16_1 := blk_frozen BK737.out 1) | ((with_reducible refine gate_dst (N := 6) rfl ?_); refine box_event ?hg (N := 6) ?hd (cs := #[.int .i64 0, .int .i64 0, .slice none 0 0]) (t := 54) ?hr ?_; (case hd => rfl); (case hg => rfl); (case hr => first | (go_simp; done) | (go_simp; rfl)); intro gb744 hg w17 hbox hb; have n0_ := Aside0.mk (Kd.R_below (zr HO743.out) hb); have n1_ := Aside0.mk (blk_below (g := gb737) (o := .cells #[.int .i64 a0_0, .slice A0_1 l0_1.length c0_1] 31 (0, 0)) (zk BK737.out) hb); have n2_ := Aside0.mk (blk_below (g := gb738) (o := .cells #[.int .i64 0, .int .i64 0, .slice none 0 0] 54 (0, 0)) (zk BK738.out) hb); have n3_ := Aside0.mk (below_step (zb2 HB.out GE737.out GE738.out) hb); have n4_ := Aside0.mk (hbox); have n5_ := Aside0.mk ((by rw [hg]; exact (below_size (zb2 HB.out GE737.out GE738.out)) : w.heap.size ≤ gb744)); have n6_ := Aside0.mk ((by rw [hg]; exact (below_size (zb2 HB.out GE737.out GE738.out)) : w.heap.size ≤ gb744)); have n7_ := Aside0.mk ((by rw [hg]; exact Nat.ne_of_lt (blk_lt (g := gb737) (o := .cells #[.int .i64 a0_0, .slice A0_1 l0_1.length c0_1] 31 (0, 0)) (zk BK737.out)) : gb737 ≠ gb744)); have n8_ := Aside0.mk ((by rw [hg]; exact Nat.ne_of_gt (blk_lt (g := gb737) (o := .cells #[.int .i64 a0_0, .slice A0_1 l0_1.length c0_1] 31 (0, 0)) (zk BK737.out)) : gb744 ≠ gb737)); have n9_ := Aside0.mk ((by rw [hg]; exact Nat.ne_of_lt (blk_lt (g := gb738) (o := .cells #[.int .i64 0, .int .i64 0, .slice none 0 0] 54 (0, 0)) (zk BK738.out)) : gb738 ≠ gb744)); have n10_ := Aside0.mk ((by rw [hg]; exact Nat.ne_of_gt (blk_lt (g := gb738) (o := .cells #[.int .i64 0, .int .i64 0, .slice none 0 0] 54 (0, 0)) (zk BK738.out)) : gb744 ≠ gb738)); clear HO743; clear BK737; clear BK738; clear HB; have HO743 := n0_; have BK737 := n1_; have BK738 := n2_; have HB := n3_; have BK744 := n4_; have GW744 := n5_; have GE744 := n6_; have NB737_744 := n7_; have NB744_737 := n8_; have NB738_744 := n9_; have NB744_738 := n10_; clear n0_ n1_ n2_ n3_ n4_ n5_ n6_ n7_ n8_ n9_ n10_; clear hb hbox hg; have hnb18 := NB744_737.out; have hnc18 := NB737_744.out; have hnb19 := NB744_738.out; have hnc19 := NB738_744.out; have hcz20_0 : w17.cell? ⟨gb744, 0, none⟩ = some (.int .i64 0) := (blk_cell BK744.out 0).trans rfl; have hcz20_1 : w17.cell? ⟨gb744, 1, none⟩ = some (.int .i64 0) := (blk_cell BK744.out 1).trans rfl; have hcz20_2 : w17.cell? ⟨gb744, 2, none⟩ = some (.slice none 0 0) := (blk_cell BK744.out 2).trans rfl; have hfz20_0 := blk_frozen BK744.out 0; have hfz20_1 := blk_frozen BK744.out 1; have hfz20_2 := blk_frozen BK744.out 2))
   go_loopg [7] k (fun kq v7 w' => ∃ (x7_1 : Int) (x745002_1 : List Int) (u745002 : Value), v7 = .int .u64 x7_1 ∧ Aside0 (impl_PortRanks.l0 kq t741 x7_1 a0_0 l0_1 a0_0 1 x745002_1 = some (r1, r2, r3, r4)) ∧ Aside0 (kq ≤ k) ∧ Aside0 (Kd.R (Kd.int .u64) 97 w' w.heap.size (fun _ => True) v742 t741) ∧ Aside0 (Kd.R (Kd.int .i64) 2 w' w.heap.size (fun _ => True) u745002 x745002_1) ∧ Aside0 (w'.heap[gb737]? = some (.cells #[.int .i64 a0_0, (.slice A0_1 l0_1.length c0_1)] 31 (0, 0))) ∧ Aside0 (w'.heap[gb738]? = some (.cells #[.int .i64 0, .int .i64 0, (.slice none 0 0)] 54 (0, 0))) ∧ Aside0 (w'.heap[gb744]? = some (.cells #[.int .i64 a0_0, .int .i64 1, u745002] 54 (0, 0))) ∧ Aside0 (Below w.heap.size w w'))
   case atStart => exact ⟨(0), (([] : List Int)), (.slice none 0 0), zt, H', ⟨Nat.le_refl _⟩, ⟨by (with_reducible repeat (first | apply Kd.R_alloc | apply Kd.R_drewN | apply Kd.R_drew)); exact Kd.R_mono (Kd.R_far (p := ⟨gb744, 2, none⟩) (Kd.R_far (p := ⟨gb744, 1, none⟩) (Kd.R_far (p := ⟨gb744, 0, none⟩) (Kd.R_types HO743.out BK744.out (by decide)) (fun _ hk => hk.2) (.int .i64 a0_0)) (fun _ hk => hk.2) (.int .i64 1)) (fun _ hk => hk.2) (.slice none 0 0)) (fun _ hk => trivial)⟩, ⟨by first | exact Kd.R_nil _ _ _ _ _ | exact Kd.N_nil _ _ _ _ _ | exact Kd.V_nil _ _ _ _ _ | exact Kd.Q_nil _ _ _ _ _ | exact Kd.S_nil _ _ _ _ _⟩, ⟨by (with_reducible repeat (first | refine blk_drewN ?_ _ | refine blk_drew ?_ | refine blk_alloc ?_ _)); refine blk_far ?_ NB737_744.out _; (with_reducible repeat (first | refine blk_drewN ?_ _ | refine blk_drew ?_ | refine blk_alloc ?_ _)); refine blk_far ?_ NB737_744.out _; (with_reducible repeat (first | refine blk_drewN ?_ _ | refine blk_drew ?_ | refine blk_alloc ?_ _)); refine blk_far ?_ NB737_744.out _; (with_reducible repeat (first | refine blk_drewN ?_ _ | refine blk_drew ?_ | refine blk_alloc ?_ _)); exact BK737.out⟩, ⟨by (with_reducible repeat (first | refine blk_drewN ?_ _ | refine blk_drew ?_ | refine blk_alloc ?_ _)); refine blk_far ?_ NB738_744.out _; (with_reducible repeat (first | refine blk_drewN ?_ _ | refine blk_drew ?_ | refine blk_alloc ?_ _)); refine blk_far ?_ NB738_744.out _; (with_reducible repeat (first | refine blk_drewN ?_ _ | refine blk_drew ?_ | refine blk_alloc ?_ _)); refine blk_far ?_ NB738_744.out _; (with_reducible repeat (first | refine blk_drewN ?_ _ | refine blk_drew ?_ | refine blk_alloc ?_ _)); exact BK738.out⟩, ⟨by (with_reducible repeat (first | refine blk_drewN ?_ _ | refine blk_drew ?_ | refine blk_alloc ?_ _)); refine blk_put (cs := #[.int .i64 a0_0, .int .i64 1, .slice none 0 0]) ?_ 2 _ rfl; (with_reducible repeat (first | refine blk_drewN ?_ _ | refine blk_drew ?_ | refine blk_alloc ?_ _)); refine blk_put (cs := #[.int .i64 a0_0, .int .i64 0, .slice none 0 0]) ?_ 1 _ rfl; (with_reducible repeat (first | refine blk_drewN ?_ _ | refine blk_drew ?_ | refine blk_alloc ?_ _)); refine blk_put (cs := #[.int .i64 0, .int .i64 0, .slice none 0 0]) ?_ 0 _ rfl; (with_reducible repeat (first | refine blk_drewN ?_ _ | refine blk_drew ?_ | refine blk_alloc ?_ _)); exact BK744.out⟩, ⟨zb3 HB.out GE737.out GE738.out GE744.out⟩⟩
   case round =>
    clear H'
    obtain ⟨x7_1, x745002_1, u745002, rfl, HA, HK1, HO_5, HO_745002, BK737, BK738, BK744, HB⟩ := hrel
    cases gk with
    | zero => exact absurd HA.out (by simp [impl_PortRanks.l0])
    | succ k1 =>
     have H := HA.out
     clear HA
     simp only [impl_PortRanks.l0] at H
     replace H := Option.bind_eq_some_iff.mp H
     obtain ⟨t745, A210, H⟩ := H
     replace H : (if x7_1 ≤ t745 then (impl_PortRanks.l1 k1 t741 x7_1 0 0 a0_0 l0_1 a0_0 1 x745002_1) else (some (a0_0, 1, x745002_1, 0))) = some (r1, r2, r3, r4) := H
     have A21 := Aside0.mk A210
     clear A210
     by_cases c22 : x7_1 ≤ t745
     ·rw [if_pos c22] at H
      have c22b0 : decide (x7_1 ≤ t745) = true := decide_eq_true c22
      clear c22
      have H' := Aside0.mk H
      clear H
      have hnb23 := NB737_738.out
      have hnc23 := NB738_737.out
      have hnb24 := NB737_744.out
      have hnc24 := NB744_737.out
      have hcz25_0 : wr.cell? ⟨gb737, 0, none⟩ = some (.int .i64 a0_0) := (blk_cell BK737.out 0).trans rfl
      have hcz25_1 : wr.cell? ⟨gb737, 1, none⟩ = some (.slice A0_1 l0_1.length c0_1) := (blk_cell BK737.out 1).trans rfl
      have hfz25_0 := blk_frozen BK737.out 0
      have hfz25_1 := blk_frozen BK737.out 1
      go_wp2_with (first | ((with_reducible refine gate_callee (f := 74) rfl ?_); refine goesL_ (some 28) rfl rfl Try.func74 (by kernel_rfl) rfl #[.int .i64 a0_0] rfl zl ?_; (with_reducible refine (impl_everybody.calls a0_0 t745 _ A21.out).mono ?_); rintro e w' ⟨rfl, ⟨nd, rfl⟩⟩; refine ⟨_, rfl, ?_⟩))
      go_loopg [8, 9] k1 (fun kq v8 v9 w' => ∃ (x8_2 : Int) (x9_2 : Int), v8 = .int .i64 x8_2 ∧ v9 = .int .u64 x9_2 ∧ Aside0 (impl_PortRanks.l1 kq t741 x7_1 x8_2 x9_2 a0_0 l0_1 a0_0 1 x745002_1 = some (r1, r2, r3, r4)) ∧ Aside0 (kq ≤ k1) ∧ Aside0 (Kd.R (Kd.int .u64) 97 w' w.heap.size (fun _ => True) v742 t741) ∧ Aside0 (Kd.R (Kd.int .i64) 2 w' w.heap.size (fun _ => True) u745002 x745002_1) ∧ Aside0 (w'.heap[gb737]? = some (.cells #[.int .i64 a0_0, (.slice A0_1 l0_1.length c0_1)] 31 (0, 0))) ∧ Aside0 (w'.heap[gb738]? = some (.cells #[.int .i64 0, .int .i64 0, (.slice none 0 0)] 54 (0, 0))) ∧ Aside0 (w'.heap[gb744]? = some (.cells #[.int .i64 a0_0, .int .i64 1, u745002] 54 (0, 0))) ∧ Aside0 (Below w.heap.size w w'))
      case atStart => exact ⟨(0), (0), zt, zt, H', ⟨Nat.le_refl _⟩, ⟨zr HO_5.out⟩, ⟨zr HO_745002.out⟩, ⟨zk BK737.out⟩, ⟨zk BK738.out⟩, ⟨zk BK744.out⟩, ⟨zb3 HB.out GE737.out GE738.out GE744.out⟩⟩
      case round =>
       clear H'
       obtain ⟨x8_2, x9_2, rfl, rfl, HA, HK2, HO_5, HO_745002, BK737, BK738, BK744, HB⟩ := hrel
       cases gk with
       | zero => exact absurd HA.out (by simp [impl_PortRanks.l1])
       | succ k2 =>
        have H := HA.out
        clear HA
        simp only [impl_PortRanks.l1] at H
        by_cases c26 : x9_2 ≤ x7_1
        ·rw [if_pos c26] at H
         have c26b0 : decide (x9_2 ≤ x7_1) = true := decide_eq_true c26
         clear c26
         replace H := Option.bind_eq_some_iff.mp H
         obtain ⟨t749, A270, H⟩ := H
         replace H : (if t749 = true then ((anyIn.f k2 t741 x9_2).bind fun t750 => (if t750 = true then (impl_PortRanks.l1 k2 t741 x7_1 x8_2 (IntKind.u64.wrap (x9_2 + 1)) a0_0 l0_1 a0_0 1 x745002_1) else ((impl_crowd_size.f x9_2).bind fun t751 => (impl_PortRanks.l1 k2 t741 x7_1 (mx x8_2 t751) (IntKind.u64.wrap (x9_2 + 1)) a0_0 l0_1 a0_0 1 x745002_1)))) else (impl_PortRanks.l1 k2 t741 x7_1 x8_2 (IntKind.u64.wrap (x9_2 + 1)) a0_0 l0_1 a0_0 1 x745002_1)) = some (r1, r2, r3, r4) := H
         have A27 := Aside0.mk A270
         clear A270
         by_cases c28 : t749 = true
         ·subst c28
          rw [if_pos rfl] at H
          replace H := Option.bind_eq_some_iff.mp H
          obtain ⟨t750, A290, H⟩ := H
          replace H : (if t750 = true then (impl_PortRanks.l1 k2 t741 x7_1 x8_2 (IntKind.u64.wrap (x9_2 + 1)) a0_0 l0_1 a0_0 1 x745002_1) else ((impl_crowd_size.f x9_2).bind fun t751 => (impl_PortRanks.l1 k2 t741 x7_1 (mx x8_2 t751) (IntKind.u64.wrap (x9_2 + 1)) a0_0 l0_1 a0_0 1 x745002_1))) = some (r1, r2, r3, r4) := H
          have A29 := Aside0.mk A290
          clear A290
          by_cases c30 : t750 = true
          ·subst c30
           rw [if_pos rfl] at H
           have H' := Aside0.mk H
           clear H
           go_wp2_with (first | ((with_reducible refine gate_callee (f := 94) rfl ?_); refine goesL_ (some 39) rfl rfl Try.func94 (by kernel_rfl) rfl #[.int .u64 x7_1, .int .u64 x9_2] rfl zl ?_; (with_reducible refine (impl_crowd_contains.calls x7_1 x9_2 true _ A27.out).mono ?_); rintro e w' ⟨rfl, ⟨nd, rfl⟩⟩; refine ⟨_, rfl, ?_⟩; obtain ⟨Ao31, co31, eo31⟩ := Kd.R_slice HO_5.out; subst eo31) | (go_at_call 103; (with_reducible refine (anyIn_calls k2 _ _ t741 x9_2 true _ ?side1 ?side2 A29.out).mono ?_); (case side1 => repeat (first | exact (Kd.R_reads' HO_5.out).2.2 | (with_reducible refine Kd.C_alloc ?_ _) | (with_reducible refine Kd.C_drewN ?_ _) | (with_reducible refine Kd.C_drew ?_))); (case side2 => exact (Kd.R_reads' HO_5.out).2.1); rintro e w' ⟨rfl, ⟨nd, rfl⟩⟩))
           go_roundg k2
           case measure => have := HK1.out; have := HK2.out; omega
           case rel => exact ⟨(x8_2), (IntKind.u64.wrap (x9_2 + 1)), zt, zt, H', ⟨by have := HK1.out; have := HK2.out; omega⟩, ⟨zr HO_5.out⟩, ⟨zr HO_745002.out⟩, ⟨zk BK737.out⟩, ⟨zk BK738.out⟩, ⟨zk BK744.out⟩, ⟨zb3 HB.out GE737.out GE738.out GE744.out⟩⟩
          ·replace c30 := Bool.eq_false_iff.mpr c30
           subst c30
           rw [if_neg (show ¬ (false = true) by decide)] at H
           replace H := Option.bind_eq_some_iff.mp H
           obtain ⟨t751, A320, H⟩ := H
           replace H : (impl_PortRanks.l1 k2 t741 x7_1 (mx x8_2 t751) (IntKind.u64.wrap (x9_2 + 1)) a0_0 l0_1 a0_0 1 x745002_1) = some (r1, r2, r3, r4) := H
           have A32 := Aside0.mk A320
           clear A320
           obtain ⟨ji33, hji33⟩ : ∃ j_ : Int, (mx x8_2 t751) = j_ := ⟨_, rfl⟩
           replace H : (impl_PortRanks.l1 k2 t741 x7_1 ji33 (IntKind.u64.wrap (x9_2 + 1)) a0_0 l0_1 a0_0 1 x745002_1) = some (r1, r2, r3, r4) := by first | (rw [hji33] at H; exact H) | (simp only [hji33] at H ⊢; exact H)
           (try rw [hji33] at A27)
           (try rw [hji33] at A29)
           (try rw [hji33] at A32)
           have hji33_ : (if x8_2 < t751 then t751 else x8_2) = ji33 := hji33
           have H' := Aside0.mk H
           clear H
           go_wp2_with (first | ((with_reducible refine gate_callee (f := 94) rfl ?_); refine goesL_ (some 39) rfl rfl Try.func94 (by kernel_rfl) rfl #[.int .u64 x7_1, .int .u64 x9_2] rfl zl ?_; (with_reducible refine (impl_crowd_contains.calls x7_1 x9_2 true _ A27.out).mono ?_); rintro e w' ⟨rfl, ⟨nd, rfl⟩⟩; refine ⟨_, rfl, ?_⟩; obtain ⟨Ao34, co34, eo34⟩ := Kd.R_slice HO_5.out; subst eo34) | (go_at_call 103; (with_reducible refine (anyIn_calls k2 _ _ t741 x9_2 false _ ?side1 ?side2 A29.out).mono ?_); (case side1 => repeat (first | exact (Kd.R_reads' HO_5.out).2.2 | (with_reducible refine Kd.C_alloc ?_ _) | (with_reducible refine Kd.C_drewN ?_ _) | (with_reducible refine Kd.C_drew ?_))); (case side2 => exact (Kd.R_reads' HO_5.out).2.1); rintro e w' ⟨rfl, ⟨nd, rfl⟩⟩) | ((with_reducible refine gate_callee (f := 77) rfl ?_); refine goesL_ (some 49) rfl rfl Try.func77 (by kernel_rfl) rfl #[.int .u64 x9_2] rfl zl ?_; (with_reducible refine (impl_crowd_size.calls x9_2 t751 _ A32.out).mono ?_); rintro e w' ⟨rfl, ⟨nd, rfl⟩⟩; refine ⟨_, rfl, ?_⟩))
           go_roundg k2
           case measure => have := HK1.out; have := HK2.out; omega
           case rel => exact ⟨(ji33), (IntKind.u64.wrap (x9_2 + 1)), (by first | rfl | (simp; done) | (simp only [← hji33] <;> (first | rfl | simp)) | (simp [*]; done)), zt, H', ⟨by have := HK1.out; have := HK2.out; omega⟩, ⟨zr HO_5.out⟩, ⟨zr HO_745002.out⟩, ⟨zk BK737.out⟩, ⟨zk BK738.out⟩, ⟨zk BK744.out⟩, ⟨zb3 HB.out GE737.out GE738.out GE744.out⟩⟩
         ·replace c28 := Bool.eq_false_iff.mpr c28
          subst c28
          rw [if_neg (show ¬ (false = true) by decide)] at H
          have H' := Aside0.mk H
          clear H
          go_wp2_with (first | ((with_reducible refine gate_callee (f := 94) rfl ?_); refine goesL_ (some 39) rfl rfl Try.func94 (by kernel_rfl) rfl #[.int .u64 x7_1, .int .u64 x9_2] rfl zl ?_; (with_reducible refine (impl_crowd_contains.calls x7_1 x9_2 false _ A27.out).mono ?_); rintro e w' ⟨rfl, ⟨nd, rfl⟩⟩; refine ⟨_, rfl, ?_⟩))
          go_roundg k2
          case measure => have := HK1.out; have := HK2.out; omega
          case rel => exact ⟨(x8_2), (IntKind.u64.wrap (x9_2 + 1)), zt, zt, H', ⟨by have := HK1.out; have := HK2.out; omega⟩, ⟨zr HO_5.out⟩, ⟨zr HO_745002.out⟩, ⟨zk BK737.out⟩, ⟨zk BK738.out⟩, ⟨zk BK744.out⟩, ⟨zb3 HB.out GE737.out GE738.out GE744.out⟩⟩
        ·rw [if_neg c26] at H
         have c26b0 : decide (x9_2 ≤ x7_1) = false := decide_eq_false c26
         clear c26
         by_cases c35 : x745002_1.length < 17592186044416
         ·rw [if_pos c35] at H
          have LMc35 := Aside0.mk c35
          clear c35
          obtain ⟨y746, hy746⟩ : ∃ y_ : List Int, y_ = (x745002_1 ++ [x8_2]) := ⟨_, rfl⟩
          replace H : (impl_PortRanks.l0 k2 t741 (IntKind.u64.wrap (x7_1 + 1)) a0_0 l0_1 a0_0 1 y746) = some (r1, r2, r3, r4) := by first | (rw [hy746]; with_reducible exact H) | (have H2_ := (Option.bind_some _ _).symm.trans H; rw [hy746]; with_reducible exact H2_) | (have H2_ := (Option.bind_some _ _).symm.trans H; with_reducible exact H2_) | with_reducible exact H | (rw [hy746]; exact H) | exact H
          have Ny746 := Aside0.mk hy746
          clear hy746
          have H' := Aside0.mk H
          clear H
          have hnb36 := NB744_737.out
          have hnc36 := NB737_744.out
          have hnb37 := NB744_738.out
          have hnc37 := NB738_744.out
          have hcz38_0 : wr.cell? ⟨gb744, 0, none⟩ = some (.int .i64 a0_0) := (blk_cell BK744.out 0).trans rfl
          have hcz38_1 : wr.cell? ⟨gb744, 1, none⟩ = some (.int .i64 1) := (blk_cell BK744.out 1).trans rfl
          have hcz38_2 : wr.cell? ⟨gb744, 2, none⟩ = some (u745002) := (blk_cell BK744.out 2).trans rfl
          have hfz38_0 := blk_frozen BK744.out 0
          have hfz38_1 := blk_frozen BK744.out 1
          have hfz38_2 := blk_frozen BK744.out 2
          go_wp2_with (first | ((with_reducible refine gate_builtin (b := .append) (xs := #[.tmp 52, .tmp 54]) rfl ?_); at_builtin; refine Kd.R_append (Kd.int .i64) (w0 := w) w.heap.size rfl (.tmp 52) (.tmp 54) 26 2 (.int .i64 0) 8 rfl Try.underlying26 info2 rfl (by decide) (by omega) u745002 x745002_1 x8_2 [.int .i64 x8_2] (fun _ => True) (fun _ => False) rfl rfl ?aP (fun _ hk => hk.elim) ?aF ?aO ?aB ?aS ?aL ?_; (case aP => exact rfl); (case aB => exact (zb3 HB.out GE737.out GE738.out GE744.out)); (case aF => exact (fun _ _ => trivial)); (case aO => exact (zr HO_745002.out)); (case aS => exact (below_size (zb3 HB.out GE737.out GE738.out GE744.out))); (case aL => have := LMc35.out; omega); intro v747 w39 ho hb hg hat; rw [← Ny746.out] at ho; have n0_ := Aside0.mk (Kd.R_over' (zr HO_5.out) (Kd.R_typed (zr HO_745002.out)) (by decide) hg); have n1_ := Aside0.mk (blk_grown (g := gb737) (o := .cells #[.int .i64 a0_0, .slice A0_1 l0_1.length c0_1] 31 (0, 0)) (zk BK737.out) hg (Kd.R_ne HO_745002.out BK737.out (by decide))); have n2_ := Aside0.mk (blk_grown (g := gb738) (o := .cells #[.int .i64 0, .int .i64 0, .slice none 0 0] 54 (0, 0)) (zk BK738.out) hg (Kd.R_ne HO_745002.out BK738.out (by decide))); have n3_ := Aside0.mk (blk_grown (g := gb744) (o := .cells #[.int .i64 a0_0, .int .i64 1, u745002] 54 (0, 0)) (zk BK744.out) hg (Kd.R_ne HO_745002.out BK744.out (by decide))); have n4_ := Aside0.mk (hb); have n5_ := Aside0.mk (ho); clear HO_5; clear BK737; clear BK738; clear BK744; clear HB; clear HO_745002; have HO_5 := n0_; have BK737 := n1_; have BK738 := n2_; have BK744 := n3_; have HB := n4_; have HO748 := n5_; clear n0_ n1_ n2_ n3_ n4_ n5_; clear ho hb hg hat; obtain ⟨Ao40, co40, eo40⟩ := Kd.R_slice HO748.out; subst eo40; have hcz41_0 : w39.cell? ⟨gb744, 0, none⟩ = some (.int .i64 a0_0) := (blk_cell BK744.out 0).trans rfl; have hcz41_1 : w39.cell? ⟨gb744, 1, none⟩ = some (.int .i64 1) := (blk_cell BK744.out 1).trans rfl; have hcz41_2 : w39.cell? ⟨gb744, 2, none⟩ = some (u745002) := (blk_cell BK744.out 2).trans rfl; have hfz41_0 := blk_frozen BK744.out 0; have hfz41_1 := blk_frozen BK744.out 1; have hfz41_2 := blk_frozen BK744.out 2))
          go_roundg k2
          case measure => have := HK1.out; have := HK2.out; omega
          case rel => exact ⟨(IntKind.u64.wrap (x7_1 + 1)), (y746), (.slice Ao40 y746.length co40), zt, H', ⟨by have := HK1.out; have := HK2.out; omega⟩, ⟨by (with_reducible repeat (first | apply Kd.R_alloc | apply Kd.R_drewN | apply Kd.R_drew)); exact Kd.R_mono (Kd.R_far (p := ⟨gb744, 2, none⟩) (Kd.R_types HO_5.out BK744.out (by decide)) (fun _ hk => hk.2) (.slice Ao40 y746.length co40)) (fun _ hk => trivial)⟩, ⟨by (with_reducible repeat (first | apply Kd.R_alloc | apply Kd.R_drewN | apply Kd.R_drew)); exact Kd.R_mono (Kd.R_far (p := ⟨gb744, 2, none⟩) (Kd.R_types HO748.out BK744.out (by decide)) (fun _ hk => hk.2) (.slice Ao40 y746.length co40)) (fun _ hk => trivial)⟩, ⟨by (with_reducible repeat (first | refine blk_drewN ?_ _ | refine blk_drew ?_ | refine blk_alloc ?_ _)); refine blk_far ?_ NB737_744.out _; (with_reducible repeat (first | refine blk_drewN ?_ _ | refine blk_drew ?_ | refine blk_alloc ?_ _)); exact BK737.out⟩, ⟨by (with_reducible repeat (first | refine blk_drewN ?_ _ | refine blk_drew ?_ | refine blk_alloc ?_ _)); refine blk_far ?_ NB738_744.out _; (with_reducible repeat (first | refine blk_drewN ?_ _ | refine blk_drew ?_ | refine blk_alloc ?_ _)); exact BK738.out⟩, ⟨by (with_reducible repeat (first | refine blk_drewN ?_ _ | refine blk_drew ?_ | refine blk_alloc ?_ _)); refine blk_put (cs := #[.int .i64 a0_0, .int .i64 1, u745002]) ?_ 2 _ rfl; (with_reducible repeat (first | refine blk_drewN ?_ _ | refine blk_drew ?_ | refine blk_alloc ?_ _)); exact BK744.out⟩, ⟨zb3 HB.out GE737.out GE738.out GE744.out⟩⟩
         ·rw [if_neg c35] at H
          exact absurd H (by simp)
     ·rw [if_neg c22] at H
      have c22b0 : decide (x7_1 ≤ t745) = false := decide_eq_false c22
      clear c22
      simp only [Option.some.injEq, Prod.mk.injEq] at H
      obtain ⟨rfl, rfl, rfl, rfl⟩ := H
      have hnb42 := NB737_738.out
      have hnc42 := NB738_737.out
      have hnb43 := NB737_744.out
      have hnc43 := NB744_737.out
      have hcz44_0 : wr.cell? ⟨gb737, 0, none⟩ = some (.int .i64 a0_0) := (blk_cell BK737.out 0).trans rfl
      have hcz44_1 : wr.cell? ⟨gb737, 1, none⟩ = some (.slice A0_1 l0_1.length c0_1) := (blk_cell BK737.out 1).trans rfl
      have hfz44_0 := blk_frozen BK737.out 0
      have hfz44_1 := blk_frozen BK737.out 1
      go_wp2_with (first | ((with_reducible refine gate_callee (f := 74) rfl ?_); refine goesL_ (some 28) rfl rfl Try.func74 (by kernel_rfl) rfl #[.int .i64 a0_0] rfl zl ?_; (with_reducible refine (impl_everybody.calls a0_0 t745 _ A21.out).mono ?_); rintro e w' ⟨rfl, ⟨nd, rfl⟩⟩; refine ⟨_, rfl, ?_⟩; (try (rw [drewN_self wr]; generalize hq_ : World.drewN wr _ = wr; have n0_ : Aside0 (Kd.R (Kd.int .u64) 97 wr w.heap.size (fun _ => True) v742 t741) := ⟨by rw [← hq_]; exact (zr HO_5.out)⟩; have n1_ : Aside0 (Kd.R (Kd.int .i64) 2 wr w.heap.size (fun _ => True) u745002 x745002_1) := ⟨by rw [← hq_]; exact (zr HO_745002.out)⟩; have n2_ : Aside0 (wr.heap[gb737]? = some (.cells #[.int .i64 a0_0, .slice A0_1 l0_1.length c0_1] 31 (0, 0))) := ⟨by rw [← hq_]; exact (zk BK737.out)⟩; have n3_ : Aside0 (wr.heap[gb738]? = some (.cells #[.int .i64 0, .int .i64 0, .slice none 0 0] 54 (0, 0))) := ⟨by rw [← hq_]; exact (zk BK738.out)⟩; have n4_ : Aside0 (wr.heap[gb744]? = some (.cells #[.int .i64 a0_0, .int .i64 1, u745002] 54 (0, 0))) := ⟨by rw [← hq_]; exact (zk BK744.out)⟩; have n5_ : Aside0 (Below w.heap.size w wr) := ⟨by rw [← hq_]; exact (zb3 HB.out GE737.out GE738.out GE744.out)⟩; clear HO_5 HO_745002 BK737 BK738 BK744 HB hq_; have HO_5 := n0_; have HO_745002 := n1_; have BK737 := n2_; have BK738 := n3_; have BK744 := n4_; have HB := n5_; clear n0_ n1_ n2_ n3_ n4_ n5_; (try clear hcz44_0); (try clear hfz44_0); have hcz44_0 : wr.cell? ⟨gb737, 0, none⟩ = some (.int .i64 a0_0) := (blk_cell BK737.out 0).trans rfl; have hfz44_0 := blk_frozen BK737.out 0; (try clear hcz44_1); (try clear hfz44_1); have hcz44_1 : wr.cell? ⟨gb737, 1, none⟩ = some (.slice A0_1 l0_1.length c0_1) := (blk_cell BK737.out 1).trans rfl; have hfz44_1 := blk_frozen BK737.out 1)); have hnb45 := NB744_738.out; have hnc45 := NB738_744.out; have hcz46_0 : wr.cell? ⟨gb744, 0, none⟩ = some (.int .i64 a0_0) := (blk_cell BK744.out 0).trans rfl; have hcz46_1 : wr.cell? ⟨gb744, 1, none⟩ = some (.int .i64 1) := (blk_cell BK744.out 1).trans rfl; have hcz46_2 : wr.cell? ⟨gb744, 2, none⟩ = some (u745002) := (blk_cell BK744.out 2).trans rfl; have hfz46_0 := blk_frozen BK744.out 0; have hfz46_1 := blk_frozen BK744.out 1; have hfz46_2 := blk_frozen BK744.out 2; have hcz47_0 : wr.cell? ⟨gb738, 0, none⟩ = some (.int .i64 0) := (blk_cell BK738.out 0).trans rfl; have hcz47_1 : wr.cell? ⟨gb738, 1, none⟩ = some (.int .i64 0) := (blk_cell BK738.out 1).trans rfl; have hcz47_2 : wr.cell? ⟨gb738, 2, none⟩ = some (.slice none 0 0) := (blk_cell BK738.out 2).trans rfl; have hfz47_0 := blk_frozen BK738.out 0; have hfz47_1 := blk_frozen BK738.out 1; have hfz47_2 := blk_frozen BK738.out 2; obtain ⟨Ao48, co48, eo48⟩ := Kd.R_slice HO_745002.out; subst eo48))
      refine bodyPost_ret (results_ct rfl _ _ gb738 54 #[.int .i64 a0_0, .int .i64 1, .slice Ao48 x745002_1.length co48] (0, 0) _ rfl (by (with_reducible repeat (first | refine blk_drewN ?_ _ | refine blk_drew ?_ | refine blk_alloc ?_ _)); refine blk_put (cs := #[.int .i64 a0_0, .int .i64 1, .slice none 0 0]) ?_ 2 _ rfl; (with_reducible repeat (first | refine blk_drewN ?_ _ | refine blk_drew ?_ | refine blk_alloc ?_ _)); refine blk_put (cs := #[.int .i64 a0_0, .int .i64 0, .slice none 0 0]) ?_ 1 _ rfl; (with_reducible repeat (first | refine blk_drewN ?_ _ | refine blk_drew ?_ | refine blk_alloc ?_ _)); refine blk_put (cs := #[.int .i64 0, .int .i64 0, .slice none 0 0]) ?_ 0 _ rfl; (with_reducible repeat (first | refine blk_drewN ?_ _ | refine blk_drew ?_ | refine blk_alloc ?_ _)); exact BK738.out) Try.underlying54 rfl (by kernel_rfl)) rfl ?_
      exact ⟨_, ze, by (with_reducible repeat (first | apply Kd.R_alloc | apply Kd.R_drewN | apply Kd.R_drew)); exact Kd.R_mono (Kd.R_far (p := ⟨gb738, 2, none⟩) (Kd.R_far (p := ⟨gb738, 1, none⟩) (Kd.R_far (p := ⟨gb738, 0, none⟩) (Kd.R_types HO_745002.out BK738.out (by decide)) (fun _ hk => hk.2) (.int .i64 a0_0)) (fun _ hk => hk.2) (.int .i64 1)) (fun _ hk => hk.2) (.slice Ao48 x745002_1.length co48)) (fun _ hk => trivial), zb3 HB.out GE737.out GE738.out GE744.out⟩
  ·replace c5 := Bool.eq_false_iff.mpr c5
   subst c5
   rw [if_neg (show ¬ (false = true) by decide)] at H
   simp only [Option.some.injEq, Prod.mk.injEq] at H
   obtain ⟨rfl, rfl, rfl, rfl⟩ := H
   go_enter Try.func32, Try.ntmps32
   go_wp2_with (first | ((with_reducible refine gate_dst (N := 1) rfl ?_); refine box_event ?hg (N := 1) ?hd (cs := #[.int .i64 a0_0, .slice A0_1 l0_1.length c0_1]) (t := 31) ?hr ?_; (case hd => rfl); (case hg => rfl); (case hr => first | (go_simp; done) | (go_simp; rfl)); intro gb737 hg w49 hbox hb; have n0_ := Aside0.mk (below_step (zb0 HB.out) hb); have n1_ := Aside0.mk (hbox); have n2_ := Aside0.mk ((by rw [hg]; exact (below_size (zb0 HB.out)) : w.heap.size ≤ gb737)); have n3_ := Aside0.mk ((by rw [hg]; exact (below_size (zb0 HB.out)) : w.heap.size ≤ gb737)); clear HB; have HB := n0_; have BK737 := n1_; have GW737 := n2_; have GE737 := n3_; clear n0_ n1_ n2_ n3_; clear hb hbox hg) | ((with_reducible refine gate_dst (N := 2) rfl ?_); refine box_event ?hg (N := 2) ?hd (cs := #[.int .i64 0, .int .i64 0, .slice none 0 0]) (t := 54) ?hr ?_; (case hd => rfl); (case hg => rfl); (case hr => first | (go_simp; done) | (go_simp; rfl)); intro gb738 hg w50 hbox hb; have n0_ := Aside0.mk (blk_below (g := gb737) (o := .cells #[.int .i64 a0_0, .slice A0_1 l0_1.length c0_1] 31 (0, 0)) (zk BK737.out) hb); have n1_ := Aside0.mk (below_step (zb1 HB.out GE737.out) hb); have n2_ := Aside0.mk (hbox); have n3_ := Aside0.mk ((by rw [hg]; exact (below_size (zb1 HB.out GE737.out)) : w.heap.size ≤ gb738)); have n4_ := Aside0.mk ((by rw [hg]; exact (below_size (zb1 HB.out GE737.out)) : w.heap.size ≤ gb738)); have n5_ := Aside0.mk ((by rw [hg]; exact Nat.ne_of_lt (blk_lt (g := gb737) (o := .cells #[.int .i64 a0_0, .slice A0_1 l0_1.length c0_1] 31 (0, 0)) (zk BK737.out)) : gb737 ≠ gb738)); have n6_ := Aside0.mk ((by rw [hg]; exact Nat.ne_of_gt (blk_lt (g := gb737) (o := .cells #[.int .i64 a0_0, .slice A0_1 l0_1.length c0_1] 31 (0, 0)) (zk BK737.out)) : gb738 ≠ gb737)); clear BK737; clear HB; have BK737 := n0_; have HB := n1_; have BK738 := n2_; have GW738 := n3_; have GE738 := n4_; have NB737_738 := n5_; have NB738_737 := n6_; clear n0_ n1_ n2_ n3_ n4_ n5_ n6_; clear hb hbox hg; have hnb51 := NB737_738.out; have hnc51 := NB738_737.out; have hcz52_0 : w50.cell? ⟨gb737, 0, none⟩ = some (.int .i64 a0_0) := (blk_cell BK737.out 0).trans rfl; have hcz52_1 : w50.cell? ⟨gb737, 1, none⟩ = some (.slice A0_1 l0_1.length c0_1) := (blk_cell BK737.out 1).trans rfl; have hfz52_0 := blk_frozen BK737.out 0; have hfz52_1 := blk_frozen BK737.out 1) | ((with_reducible refine gate_callee (f := 73) rfl ?_); refine goesL_ (some 11) rfl rfl Try.func73 (by kernel_rfl) rfl #[.agg #[.int .i64 a0_0, .slice A0_1 l0_1.length c0_1]] rfl zl ?_; (with_reducible refine (impl_rankedCode.calls k a0_0 _ _ l0_1 t739 _ ?side1 ?side2 A2.out).mono ?_); (case side1 => exact zc (Kd.C_below HR0_1.out HB.out)); (case side2 => exact HC0_1.out); rintro e w53 ⟨rfl, hb⟩; refine ⟨_, rfl, ?_⟩; have n0_ := Aside0.mk (blk_below (g := gb737) (o := .cells #[.int .i64 a0_0, .slice A0_1 l0_1.length c0_1] 31 (0, 0)) (zk BK737.out) hb); have n1_ := Aside0.mk (blk_below (g := gb738) (o := .cells #[.int .i64 0, .int .i64 0, .slice none 0 0] 54 (0, 0)) (zk BK738.out) hb); have n2_ := Aside0.mk (below_step (zb2 HB.out GE737.out GE738.out) hb); clear BK737; clear BK738; clear HB; have BK737 := n0_; have BK738 := n1_; have HB := n2_; clear n0_ n1_ n2_; (try clear hb); (try clear hb2); (try clear hk); (try clear hi); have hcz54_0 : w53.cell? ⟨gb737, 0, none⟩ = some (.int .i64 a0_0) := (blk_cell BK737.out 0).trans rfl; have hcz54_1 : w53.cell? ⟨gb737, 1, none⟩ = some (.slice A0_1 l0_1.length c0_1) := (blk_cell BK737.out 1).trans rfl; have hfz54_0 := blk_frozen BK737.out 0; have hfz54_1 := blk_frozen BK737.out 1) | ((with_reducible refine gate_callee (f := 101) rfl ?_); refine goesL_ (some 17) rfl rfl Try.func101 (by kernel_rfl) rfl #[.agg #[.int .i64 a0_0, .slice A0_1 l0_1.length c0_1]] rfl zl ?_; (with_reducible refine (impl_Family_isPort.calls k a0_0 _ _ l0_1 false _ ?side1 ?side2 A4.out).mono ?_); (case side1 => exact zc (Kd.C_below HR0_1.out HB.out)); (case side2 => exact HC0_1.out); rintro e w55 ⟨rfl, hb⟩; refine ⟨_, rfl, ?_⟩; have n0_ := Aside0.mk (blk_below (g := gb737) (o := .cells #[.int .i64 a0_0, .slice A0_1 l0_1.length c0_1] 31 (0, 0)) (zk BK737.out) hb); have n1_ := Aside0.mk (blk_below (g := gb738) (o := .cells #[.int .i64 0, .int .i64 0, .slice none 0 0] 54 (0, 0)) (zk BK738.out) hb); have n2_ := Aside0.mk (below_step (zb2 HB.out GE737.out GE738.out) hb); clear BK737; clear BK738; clear HB; have BK737 := n0_; have BK738 := n1_; have HB := n2_; clear n0_ n1_ n2_; (try clear hb); (try clear hb2); (try clear hk); (try clear hi); have hcz56_0 : w55.cell? ⟨gb738, 0, none⟩ = some (.int .i64 0) := (blk_cell BK738.out 0).trans rfl; have hcz56_1 : w55.cell? ⟨gb738, 1, none⟩ = some (.int .i64 0) := (blk_cell BK738.out 1).trans rfl; have hcz56_2 : w55.cell? ⟨gb738, 2, none⟩ = some (.slice none 0 0) := (blk_cell BK738.out 2).trans rfl; have hfz56_0 := blk_frozen BK738.out 0; have hfz56_1 := blk_frozen BK738.out 1; have hfz56_2 := blk_frozen BK738.out 2))
   refine bodyPost_ret (results_ct rfl _ _ gb738 54 #[.int .i64 0, .int .i64 0, .slice none 0 0] (0, 0) _ rfl (by (with_reducible repeat (first | refine blk_drewN ?_ _ | refine blk_drew ?_ | refine blk_alloc ?_ _)); refine blk_put (cs := #[.int .i64 0, .int .i64 0, .slice none 0 0]) ?_ 2 _ rfl; (with_reducible repeat (first | refine blk_drewN ?_ _ | refine blk_drew ?_ | refine blk_alloc ?_ _)); refine blk_put (cs := #[.int .i64 0, .int .i64 0, .slice none 0 0]) ?_ 1 _ rfl; (with_reducible repeat (first | refine blk_drewN ?_ _ | refine blk_drew ?_ | refine blk_alloc ?_ _)); refine blk_put (cs := #[.int .i64 0, .int .i64 0, .slice none 0 0]) ?_ 0 _ rfl; (with_reducible repeat (first | refine blk_drewN ?_ _ | refine blk_drew ?_ | refine blk_alloc ?_ _)); exact BK738.out) Try.underlying54 rfl (by kernel_rfl)) rfl ?_
   exact ⟨_, ze, by first | exact Kd.R_nil _ _ _ _ _ | exact Kd.N_nil _ _ _ _ _ | exact Kd.V_nil _ _ _ _ _ | exact Kd.Q_nil _ _ _ _ _ | exact Kd.S_nil _ _ _ _ _, zb2 HB.out GE737.out GE738.out⟩
 ·rw [if_neg c3] at H
  have c3b0 : (t739 == 0) = false := beq_eq_false_iff_ne.mpr c3
  have c3b1 : (t739 != 0) = true := bne_iff_ne.mpr c3
  simp only [Option.some.injEq, Prod.mk.injEq] at H
  obtain ⟨rfl, rfl, rfl, rfl⟩ := H
  go_enter Try.func32, Try.ntmps32
  go_wp2_with (first | ((with_reducible refine gate_dst (N := 1) rfl ?_); refine box_event ?hg (N := 1) ?hd (cs := #[.int .i64 a0_0, .slice A0_1 l0_1.length c0_1]) (t := 31) ?hr ?_; (case hd => rfl); (case hg => rfl); (case hr => first | (go_simp; done) | (go_simp; rfl)); intro gb737 hg w57 hbox hb; have n0_ := Aside0.mk (below_step (zb0 HB.out) hb); have n1_ := Aside0.mk (hbox); have n2_ := Aside0.mk ((by rw [hg]; exact (below_size (zb0 HB.out)) : w.heap.size ≤ gb737)); have n3_ := Aside0.mk ((by rw [hg]; exact (below_size (zb0 HB.out)) : w.heap.size ≤ gb737)); clear HB; have HB := n0_; have BK737 := n1_; have GW737 := n2_; have GE737 := n3_; clear n0_ n1_ n2_ n3_; clear hb hbox hg) | ((with_reducible refine gate_dst (N := 2) rfl ?_); refine box_event ?hg (N := 2) ?hd (cs := #[.int .i64 0, .int .i64 0, .slice none 0 0]) (t := 54) ?hr ?_; (case hd => rfl); (case hg => rfl); (case hr => first | (go_simp; done) | (go_simp; rfl)); intro gb738 hg w58 hbox hb; have n0_ := Aside0.mk (blk_below (g := gb737) (o := .cells #[.int .i64 a0_0, .slice A0_1 l0_1.length c0_1] 31 (0, 0)) (zk BK737.out) hb); have n1_ := Aside0.mk (below_step (zb1 HB.out GE737.out) hb); have n2_ := Aside0.mk (hbox); have n3_ := Aside0.mk ((by rw [hg]; exact (below_size (zb1 HB.out GE737.out)) : w.heap.size ≤ gb738)); have n4_ := Aside0.mk ((by rw [hg]; exact (below_size (zb1 HB.out GE737.out)) : w.heap.size ≤ gb738)); have n5_ := Aside0.mk ((by rw [hg]; exact Nat.ne_of_lt (blk_lt (g := gb737) (o := .cells #[.int .i64 a0_0, .slice A0_1 l0_1.length c0_1] 31 (0, 0)) (zk BK737.out)) : gb737 ≠ gb738)); have n6_ := Aside0.mk ((by rw [hg]; exact Nat.ne_of_gt (blk_lt (g := gb737) (o := .cells #[.int .i64 a0_0, .slice A0_1 l0_1.length c0_1] 31 (0, 0)) (zk BK737.out)) : gb738 ≠ gb737)); clear BK737; clear HB; have BK737 := n0_; have HB := n1_; have BK738 := n2_; have GW738 := n3_; have GE738 := n4_; have NB737_738 := n5_; have NB738_737 := n6_; clear n0_ n1_ n2_ n3_ n4_ n5_ n6_; clear hb hbox hg; have hnb59 := NB737_738.out; have hnc59 := NB738_737.out; have hcz60_0 : w58.cell? ⟨gb737, 0, none⟩ = some (.int .i64 a0_0) := (blk_cell BK737.out 0).trans rfl; have hcz60_1 : w58.cell? ⟨gb737, 1, none⟩ = some (.slice A0_1 l0_1.length c0_1) := (blk_cell BK737.out 1).trans rfl; have hfz60_0 := blk_frozen BK737.out 0; have hfz60_1 := blk_frozen BK737.out 1) | ((with_reducible refine gate_callee (f := 73) rfl ?_); refine goesL_ (some 11) rfl rfl Try.func73 (by kernel_rfl) rfl #[.agg #[.int .i64 a0_0, .slice A0_1 l0_1.length c0_1]] rfl zl ?_; (with_reducible refine (impl_rankedCode.calls k a0_0 _ _ l0_1 t739 _ ?side1 ?side2 A2.out).mono ?_); (case side1 => exact zc (Kd.C_below HR0_1.out HB.out)); (case side2 => exact HC0_1.out); rintro e w61 ⟨rfl, hb⟩; refine ⟨_, rfl, ?_⟩; have n0_ := Aside0.mk (blk_below (g := gb737) (o := .cells #[.int .i64 a0_0, .slice A0_1 l0_1.length c0_1] 31 (0, 0)) (zk BK737.out) hb); have n1_ := Aside0.mk (blk_below (g := gb738) (o := .cells #[.int .i64 0, .int .i64 0, .slice none 0 0] 54 (0, 0)) (zk BK738.out) hb); have n2_ := Aside0.mk (below_step (zb2 HB.out GE737.out GE738.out) hb); clear BK737; clear BK738; clear HB; have BK737 := n0_; have BK738 := n1_; have HB := n2_; clear n0_ n1_ n2_; (try clear hb); (try clear hb2); (try clear hk); (try clear hi); have hcz62_0 : w61.cell? ⟨gb738, 0, none⟩ = some (.int .i64 0) := (blk_cell BK738.out 0).trans rfl; have hcz62_1 : w61.cell? ⟨gb738, 1, none⟩ = some (.int .i64 0) := (blk_cell BK738.out 1).trans rfl; have hcz62_2 : w61.cell? ⟨gb738, 2, none⟩ = some (.slice none 0 0) := (blk_cell BK738.out 2).trans rfl; have hfz62_0 := blk_frozen BK738.out 0; have hfz62_1 := blk_frozen BK738.out 1; have hfz62_2 := blk_frozen BK738.out 2))
  refine bodyPost_ret (results_ct rfl _ _ gb738 54 #[.int .i64 0, .int .i64 0, .slice none 0 0] (0, 0) _ rfl (by (with_reducible repeat (first | refine blk_drewN ?_ _ | refine blk_drew ?_ | refine blk_alloc ?_ _)); refine blk_put (cs := #[.int .i64 0, .int .i64 0, .slice none 0 0]) ?_ 2 _ rfl; (with_reducible repeat (first | refine blk_drewN ?_ _ | refine blk_drew ?_ | refine blk_alloc ?_ _)); refine blk_put (cs := #[.int .i64 0, .int .i64 0, .slice none 0 0]) ?_ 1 _ rfl; (with_reducible repeat (first | refine blk_drewN ?_ _ | refine blk_drew ?_ | refine blk_alloc ?_ _)); refine blk_put (cs := #[.int .i64 0, .int .i64 0, .slice none 0 0]) ?_ 0 _ rfl; (with_reducible repeat (first | refine blk_drewN ?_ _ | refine blk_drew ?_ | refine blk_alloc ?_ _)); exact BK738.out) Try.underlying54 rfl (by kernel_rfl)) rfl ?_
  exact ⟨_, ze, by first | exact Kd.R_nil _ _ _ _ _ | exact Kd.N_nil _ _ _ _ _ | exact Kd.V_nil _ _ _ _ _ | exact Kd.Q_nil _ _ _ _ _ | exact Kd.S_nil _ _ _ _ _, zb2 HB.out GE737.out GE738.out⟩
open Go.RowKit Go.Proofs.YtmbeijjkfmgkpaaW.PrintWords Go.Proofs.YtmbeijjkfmgkpaaW.PrintLast Go.Proofs.YtmbeijjkfmgkpaaW.PrintMore
attribute [local go_sem] max2_int min2_int max_two min_two max_three min_three max_four min_four
set_option linter.unusedVariables false
set_option linter.unusedSimpArgs false
def spec_l07Count.l0 : Nat → Int → Int → Option (Int)
  | 0, _, _ => none
  | k + 1, x0, x3 => if x0 > 0 then (spec_l07Count.l0 k (Go.bits .and .i64 x0 (wrap64 (x0 - 1))) (wrap64 (x3 + 1))) else (some x3)
def spec_l07Count.f (k : Nat) (a0 : Int) : Option (Int) := spec_l07Count.l0 k a0 0
theorem spec_l07Count.mono_l : ∀ k, (∀ y0 y1, LeO (spec_l07Count.l0 k y0 y1) (spec_l07Count.l0 (k + 1) y0 y1))
  | 0 => fun _ _ r h => by simp [spec_l07Count.l0] at h
  | k + 1 => by
    have ih0 := spec_l07Count.mono_l k
    · intro y0 y1
      unfold spec_l07Count.l0
      repeat' first
      | (with_reducible exact ih0 _ _)
      | (with_reducible exact LeO.refl _)
      | (with_reducible exact LeO.none _)
      | (with_reducible refine LeO.ite ?_ ?_)
      | (with_reducible refine LeO.bind ?_ (fun _ => ?_))
      | exact ih0 _ _
      | exact LeO.none _
      | refine LeO.ite ?_ ?_
      | refine LeO.bind ?_ (fun _ => ?_)
theorem spec_l07Count.mono : ∀ a0 k, LeO (spec_l07Count.f k a0) (spec_l07Count.f (k + 1) a0) := by
  intro a0 k
  have ih0 := spec_l07Count.mono_l k
  unfold spec_l07Count.f
  repeat' first
      | (with_reducible exact ih0 _ _)
      | (with_reducible exact LeO.refl _)
      | (with_reducible exact LeO.none _)
      | (with_reducible refine LeO.ite ?_ ?_)
      | (with_reducible refine LeO.bind ?_ (fun _ => ?_))
      | exact ih0 _ _
      | exact LeO.none _
      | refine LeO.ite ?_ ?_
      | refine LeO.bind ?_ (fun _ => ?_)
set_option maxHeartbeats 8000000 in
set_option maxRecDepth 100000 in
theorem spec_l07Count.calls (k : Nat) (a0 : Int) (r : Int) (w : World) (h : spec_l07Count.f k a0 = some r) :
    Calls Try.prog 116 #[.int .i64 a0] w fun e w' => e = .returned (.int .i64 r) ∧ Drawn0 w w' := by
  have H : (spec_l07Count.l0 k a0 0) = some r := h
  clear h
  have H' := Aside0.mk H
  clear H
  go_enter Try.func116, Try.ntmps116
  go_wp2
  go_loopg [0, 3] k (fun kq v0 v3 w' => ∃ (x0_1 : Int) (x3_1 : Int), v0 = .int .i64 x0_1 ∧ v3 = .int .i64 x3_1 ∧ Aside0 (spec_l07Count.l0 kq x0_1 x3_1 = some r) ∧ Aside0 (kq ≤ k) ∧ Drawn0 w w')
  case atStart => exact ⟨(a0), (0), zt, zt, H', ⟨Nat.le_refl _⟩, by repeat (first | exact Drawn0.refl _ | apply Drawn0.step)⟩
  case round =>
    clear H'
    obtain ⟨x0_1, x3_1, rfl, rfl, HA, HK1, ⟨m1, rfl⟩⟩ := hrel
    cases gk with
    | zero => exact absurd HA.out (by simp [spec_l07Count.l0])
    | succ k1 =>
      have H := HA.out
      clear HA
      simp only [spec_l07Count.l0] at H
      by_cases c2 : x0_1 > 0
      · rw [if_pos c2] at H
        have c2b0 : decide (0 < x0_1) = true := decide_eq_true c2
        clear c2
        have H' := Aside0.mk H
        clear H
        go_wp2
        go_roundg k1
        case measure => have := HK1.out; omega
        case rel => exact ⟨(Go.bits .and .i64 x0_1 (wrap64 (x0_1 - 1))), (wrap64 (x3_1 + 1)), zt, zt, H', ⟨by have := HK1.out; omega⟩, by repeat (first | exact Drawn0.refl _ | apply Drawn0.step)⟩
      · rw [if_neg c2] at H
        have c2b0 : decide (0 < x0_1) = false := decide_eq_false c2
        clear c2
        obtain rfl := Option.some.inj H
        go_wp2
        go_ret
        exact ⟨by first | rfl | (simp; done) | (simp [*]; done), by repeat (first | exact Drawn0.refl _ | apply Drawn0.step)⟩
def spec_l00Max.f (a0 : Int) (a1 : Int) : Option (Int) := if a0 > a1 then (some a0) else (some a1)
set_option maxHeartbeats 8000000 in
set_option maxRecDepth 100000 in
theorem spec_l00Max.calls (a0 : Int) (a1 : Int) (r : Int) (w : World) (h : spec_l00Max.f a0 a1 = some r) :
    Calls Try.prog 115 #[.int .i64 a0, .int .i64 a1] w fun e w' => e = .returned (.int .i64 r) ∧ Drawn0 w w' := by
  have H : (if a0 > a1 then (some a0) else (some a1)) = some r := h
  clear h
  by_cases c3 : a0 > a1
  · rw [if_pos c3] at H
    have c3b0 : decide (a1 < a0) = true := decide_eq_true c3
    clear c3
    obtain rfl := Option.some.inj H
    go_enter Try.func115, Try.ntmps115
    go_wp2
    go_ret
    exact ⟨by first | rfl | (simp; done) | (simp [*]; done), by repeat (first | exact Drawn0.refl _ | apply Drawn0.step)⟩
  · rw [if_neg c3] at H
    have c3b0 : decide (a1 < a0) = false := decide_eq_false c3
    clear c3
    obtain rfl := Option.some.inj H
    go_enter Try.func115, Try.ntmps115
    go_wp2
    go_ret
    exact ⟨by first | rfl | (simp; done) | (simp [*]; done), by repeat (first | exact Drawn0.refl _ | apply Drawn0.step)⟩
mutual
def spec_PortRanks.l0 : Nat → List Int → Int → Int → List (List Int) → Int → Int → List Int → Option (Int × Int × List Int × Int)
  | 0, _, _, _, _, _, _, _ => none
  | k + 1, x5, x8, x1118000, x1118001, x1125000, x1125001, x1125002 => if 0 ≤ (IntKind.u64.wrap (x1118000)) then (if x8 < (shl .i64 1 (IntKind.u64.wrap (x1118000))) then (spec_PortRanks.l1 k x5 x8 0 0 x1118000 x1118001 x1125000 x1125001 x1125002) else (some (x1125000, x1125001, x1125002, 0))) else (none)
def spec_PortRanks.l1 : Nat → List Int → Int → Int → Int → Int → List (List Int) → Int → Int → List Int → Option (Int × Int × List Int × Int)
  | 0, _, _, _, _, _, _, _, _, _ => none
  | k + 1, x5, x8, x9, x10, x1118000, x1118001, x1125000, x1125001, x1125002 => if x10 ≤ x8 then (if (Go.bits .and .i64 x10 x8) = x10 then ((spec_l07Within.f k x5 x10).bind fun t1128 => (spec_PortRanks.j2 k x5 x8 x9 x10 (!t1128) x1118000 x1118001 x1125000 x1125001 x1125002)) else (spec_PortRanks.j2 k x5 x8 x9 x10 false x1118000 x1118001 x1125000 x1125001 x1125002)) else (if x1125002.length < 17592186044416 then (spec_PortRanks.l0 k x5 (wrap64 (x8 + 1)) x1118000 x1118001 x1125000 x1125001 (x1125002 ++ [x9])) else (none))
def spec_PortRanks.j2 : Nat → List Int → Int → Int → Int → Bool → Int → List (List Int) → Int → Int → List Int → Option (Int × Int × List Int × Int)
  | 0, _, _, _, _, _, _, _, _, _, _ => none
  | k + 1, x5, x8, x9, x10, x49, x1118000, x1118001, x1125000, x1125001, x1125002 => if x49 = true then ((spec_l07Count.f k x10).bind fun t1129 => ((spec_l00Max.f x9 t1129).bind fun t1130 => (spec_PortRanks.l1 k x5 x8 t1130 (wrap64 (x10 + 1)) x1118000 x1118001 x1125000 x1125001 x1125002))) else (spec_PortRanks.l1 k x5 x8 x9 (wrap64 (x10 + 1)) x1118000 x1118001 x1125000 x1125001 x1125002)
end
def spec_PortRanks.f (k : Nat) (a0_0 : Int) (l0_1 : List (List Int)) : Option (Int × Int × List Int × Int) := (spec_l07Family.f k a0_0 l0_1).bind fun t1119 => (if t1119 = 0 then ((spec_l07Port.f k a0_0 l0_1).bind fun bt1120 => (if bt1120.2 = true then (spec_PortRanks.l0 k bt1120.1 0 a0_0 l0_1 a0_0 1 ([] : List Int)) else (some (0, 0, ([] : List Int), 8)))) else (some (0, 0, ([] : List Int), t1119)))
set_option maxHeartbeats 8000000 in
set_option maxRecDepth 100000 in
theorem spec_PortRanks.calls (k : Nat) (a0_0 : Int) (A0_1 : Option Addr) (c0_1 : Nat) (l0_1 : List (List Int)) (r1 : Int) (r2 : Int) (r3 : List Int) (r4 : Int) (w : World) (hr0_1 : Kd.C (Kd.slice 2 (Kd.int .i64)) w A0_1 l0_1.length l0_1) (hc0_1 : l0_1.length ≤ c0_1) (h : spec_PortRanks.f k a0_0 l0_1 = some (r1, r2, r3, r4)) :
  Calls Try.prog 52 #[.agg #[.int .i64 a0_0, .slice A0_1 l0_1.length c0_1]] w fun e w' => ∃ v2_ : Value, e = .returned (.tuple #[.agg #[.int .i64 r1, .int .i64 r2, v2_], .int .i64 r4]) ∧ Kd.R (Kd.int .i64) 2 w' w.heap.size (fun _ => True) v2_ r3 ∧ Below w.heap.size w w' := by
 have hu31 := Try.underlying31
 have hu54 := Try.underlying54
 have HR0_1 := Aside0.mk hr0_1
 have HC0_1 := Aside0.mk hc0_1
 clear hr0_1 hc0_1
 have HB := Aside0.mk (Below.refl w.heap.size w)
 have H : ((spec_l07Family.f k a0_0 l0_1).bind fun t1119 => (if t1119 = 0 then ((spec_l07Port.f k a0_0 l0_1).bind fun bt1120 => (if bt1120.2 = true then (spec_PortRanks.l0 k bt1120.1 0 a0_0 l0_1 a0_0 1 ([] : List Int)) else (some (0, 0, ([] : List Int), 8)))) else (some (0, 0, ([] : List Int), t1119)))) = some (r1, r2, r3, r4) := h
 clear h
 replace H := Option.bind_eq_some_iff.mp H
 obtain ⟨t1119, A20, H⟩ := H
 replace H : (if t1119 = 0 then ((spec_l07Port.f k a0_0 l0_1).bind fun bt1120 => (if bt1120.2 = true then (spec_PortRanks.l0 k bt1120.1 0 a0_0 l0_1 a0_0 1 ([] : List Int)) else (some (0, 0, ([] : List Int), 8)))) else (some (0, 0, ([] : List Int), t1119))) = some (r1, r2, r3, r4) := H
 have A2 := Aside0.mk A20
 clear A20
 by_cases c3 : t1119 = 0
 ·rw [if_pos c3] at H
  have c3b0 : (t1119 == 0) = true := beq_iff_eq.mpr c3
  have c3b1 : (t1119 != 0) = false := bne_eq_false_iff_eq.mpr c3
  clear c3
  replace H := Option.bind_eq_some_iff.mp H
  obtain ⟨⟨t1120, t1123⟩, A40, H⟩ := H
  replace H : (if t1123 = true then (spec_PortRanks.l0 k t1120 0 a0_0 l0_1 a0_0 1 ([] : List Int)) else (some (0, 0, ([] : List Int), 8))) = some (r1, r2, r3, r4) := H
  have A4 := Aside0.mk A40
  clear A40
  by_cases c5 : t1123 = true
  ·subst c5
   rw [if_pos rfl] at H
   have H' := Aside0.mk H
   clear H
   go_enter Try.func52, Try.ntmps52
   go_wp2_with (first | ((with_reducible refine gate_dst (N := 1) rfl ?_); refine box_event ?hg (N := 1) ?hd (cs := #[.int .i64 a0_0, .slice A0_1 l0_1.length c0_1]) (t := 31) ?hr ?_; (case hd => rfl); (case hg => rfl); (case hr => first | (go_simp; done) | (go_simp; rfl)); intro gb1117 hg w6 hbox hb; have n0_ := Aside0.mk (below_step (zb0 HB.out) hb); have n1_ := Aside0.mk (hbox); have n2_ := Aside0.mk ((by rw [hg]; exact (below_size (zb0 HB.out)) : w.heap.size ≤ gb1117)); have n3_ := Aside0.mk ((by rw [hg]; exact (below_size (zb0 HB.out)) : w.heap.size ≤ gb1117)); clear HB; have HB := n0_; have BK1117 := n1_; have GW1117 := n2_; have GE1117 := n3_; clear n0_ n1_ n2_ n3_; clear hb hbox hg) | ((with_reducible refine gate_dst (N := 2) rfl ?_); refine box_event ?hg (N := 2) ?hd (cs := #[.int .i64 0, .int .i64 0, .slice none 0 0]) (t := 54) ?hr ?_; (case hd => rfl); (case hg => rfl); (case hr => first | (go_simp; done) | (go_simp; rfl)); intro gb1118 hg w7 hbox hb; have n0_ := Aside0.mk (blk_below (g := gb1117) (o := .cells #[.int .i64 a0_0, .slice A0_1 l0_1.length c0_1] 31 (0, 0)) (zk BK1117.out) hb); have n1_ := Aside0.mk (below_step (zb1 HB.out GE1117.out) hb); have n2_ := Aside0.mk (hbox); have n3_ := Aside0.mk ((by rw [hg]; exact (below_size (zb1 HB.out GE1117.out)) : w.heap.size ≤ gb1118)); have n4_ := Aside0.mk ((by rw [hg]; exact (below_size (zb1 HB.out GE1117.out)) : w.heap.size ≤ gb1118)); have n5_ := Aside0.mk ((by rw [hg]; exact Nat.ne_of_lt (blk_lt (g := gb1117) (o := .cells #[.int .i64 a0_0, .slice A0_1 l0_1.length c0_1] 31 (0, 0)) (zk BK1117.out)) : gb1117 ≠ gb1118)); have n6_ := Aside0.mk ((by rw [hg]; exact Nat.ne_of_gt (blk_lt (g := gb1117) (o := .cells #[.int .i64 a0_0, .slice A0_1 l0_1.length c0_1] 31 (0, 0)) (zk BK1117.out)) : gb1118 ≠ gb1117)); clear BK1117; clear HB; have BK1117 := n0_; have HB := n1_; have BK1118 := n2_; have GW1118 := n3_; have GE1118 := n4_; have NB1117_1118 := n5_; have NB1118_1117 := n6_; clear n0_ n1_ n2_ n3_ n4_ n5_ n6_; clear hb hbox hg) | ((with_reducible refine gate_callee (f := 66) rfl ?_); refine goesL_ (some 11) rfl rfl Try.func66 (by kernel_rfl) rfl #[.pointer (some ⟨gb1117, 0, none⟩)] rfl zl ?_; (with_reducible refine (spec_l07Family.calls k gb1117 a0_0 A0_1 c0_1 l0_1 t1119 _ ?side1 ?side2 ?side3 A2.out).mono ?_); (case side1 => (with_reducible repeat (first | refine blk_drewN ?_ _ | refine blk_drew ?_ | refine blk_alloc ?_ _)); exact BK1117.out); (case side2 => exact zc (Kd.C_below HR0_1.out HB.out)); (case side3 => exact HC0_1.out); rintro e w8 ⟨rfl, hb⟩; refine ⟨_, rfl, ?_⟩; have n0_ := Aside0.mk (blk_below (g := gb1117) (o := .cells #[.int .i64 a0_0, .slice A0_1 l0_1.length c0_1] 31 (0, 0)) (zk BK1117.out) hb); have n1_ := Aside0.mk (blk_below (g := gb1118) (o := .cells #[.int .i64 0, .int .i64 0, .slice none 0 0] 54 (0, 0)) (zk BK1118.out) hb); have n2_ := Aside0.mk (below_step (zb2 HB.out GE1117.out GE1118.out) hb); clear BK1117; clear BK1118; clear HB; have BK1117 := n0_; have BK1118 := n1_; have HB := n2_; clear n0_ n1_ n2_; (try clear hb); (try clear hb2); (try clear hk); (try clear hi)) | ((with_reducible refine gate_callee (f := 111) rfl ?_); refine goesL_ (some 17) rfl rfl Try.func111 (by kernel_rfl) rfl #[.pointer (some ⟨gb1117, 0, none⟩)] rfl zl ?_; (with_reducible refine (spec_l07Port.calls k gb1117 a0_0 A0_1 c0_1 l0_1 t1120 true _ ?side1 ?side2 ?side3 A4.out).mono ?_); (case side1 => (with_reducible repeat (first | refine blk_drewN ?_ _ | refine blk_drew ?_ | refine blk_alloc ?_ _)); exact BK1117.out); (case side2 => exact zc (Kd.C_below HR0_1.out HB.out)); (case side3 => exact HC0_1.out); rintro e w9 ⟨v1121, rfl, ho0, hb⟩; refine ⟨_, rfl, ?_⟩; have n0_ := Aside0.mk (Kd.R_lower ho0 (below_size (zb2 HB.out GE1117.out GE1118.out))); have n1_ := Aside0.mk (blk_below (g := gb1117) (o := .cells #[.int .i64 a0_0, .slice A0_1 l0_1.length c0_1] 31 (0, 0)) (zk BK1117.out) hb); have n2_ := Aside0.mk (blk_below (g := gb1118) (o := .cells #[.int .i64 0, .int .i64 0, .slice none 0 0] 54 (0, 0)) (zk BK1118.out) hb); have n3_ := Aside0.mk (below_step (zb2 HB.out GE1117.out GE1118.out) hb); clear BK1117; clear BK1118; clear HB; have HO1122 := n0_; have BK1117 := n1_; have BK1118 := n2_; have HB := n3_; clear n0_ n1_ n2_ n3_; (try clear hb); (try clear hb2); (try clear hk); (try clear hi); (try clear ho0); have hnb10 := NB1117_1118.out; have hnc10 := NB1118_1117.out; have hcz11_0 : w9.cell? ⟨gb1117, 0, none⟩ = some (.int .i64 a0_0) := (blk_cell BK1117.out 0).trans rfl; have hcz11_1 : w9.cell? ⟨gb1117, 1, none⟩ = some (.slice A0_1 l0_1.length c0_1) := (blk_cell BK1117.out 1).trans rfl; have hfz11_0 := blk_frozen BK1117.out 0; have hfz11_1 := blk_frozen BK1117.out 1) | ((with_reducible refine gate_dst (N := 7) rfl ?_); refine box_event ?hg (N := 7) ?hd (cs := #[.int .i64 0, .int .i64 0, .slice none 0 0]) (t := 54) ?hr ?_; (case hd => rfl); (case hg => rfl); (case hr => first | (go_simp; done) | (go_simp; rfl)); intro gb1124 hg w12 hbox hb; have n0_ := Aside0.mk (Kd.R_below (zr HO1122.out) hb); have n1_ := Aside0.mk (blk_below (g := gb1117) (o := .cells #[.int .i64 a0_0, .slice A0_1 l0_1.length c0_1] 31 (0, 0)) (zk BK1117.out) hb); have n2_ := Aside0.mk (blk_below (g := gb1118) (o := .cells #[.int .i64 0, .int .i64 0, .slice none 0 0] 54 (0, 0)) (zk BK1118.out) hb); have n3_ := Aside0.mk (below_step (zb2 HB.out GE1117.out GE1118.out) hb); have n4_ := Aside0.mk (hbox); have n5_ := Aside0.mk ((by rw [hg]; exact (below_size (zb2 HB.out GE1117.out GE1118.out)) : w.heap.size ≤ gb1124)); have n6_ := Aside0.mk ((by rw [hg]; exact (below_size (zb2 HB.out GE1117.out GE1118.out)) : w.heap.size ≤ gb1124)); have n7_ := Aside0.mk ((by rw [hg]; exact Nat.ne_of_lt (blk_lt (g := gb1117) (o := .cells #[.int .i64 a0_0, .slice A0_1 l0_1.length c0_1] 31 (0, 0)) (zk BK1117.out)) : gb1117 ≠ gb1124)); have n8_ := Aside0.mk ((by rw [hg]; exact Nat.ne_of_gt (blk_lt (g := gb1117) (o := .cells #[.int .i64 a0_0, .slice A0_1 l0_1.length c0_1] 31 (0, 0)) (zk BK1117.out)) : gb1124 ≠ gb1117)); have n9_ := Aside0.mk ((by rw [hg]; exact Nat.ne_of_lt (blk_lt (g := gb1118) (o := .cells #[.int .i64 0, .int .i64 0, .slice none 0 0] 54 (0, 0)) (zk BK1118.out)) : gb1118 ≠ gb1124)); have n10_ := Aside0.mk ((by rw [hg]; exact Nat.ne_of_gt (blk_lt (g := gb1118) (o := .cells #[.int .i64 0, .int .i64 0, .slice none 0 0] 54 (0, 0)) (zk BK1118.out)) : gb1124 ≠ gb1118)); clear HO1122; clear BK1117; clear BK1118; clear HB; have HO1122 := n0_; have BK1117 := n1_; have BK1118 := n2_; have HB := n3_; have BK1124 := n4_; have GW1124 := n5_; have GE1124 := n6_; have NB1117_1124 := n7_; have NB1124_1117 := n8_; have NB1118_1124 := n9_; have NB1124_1118 := n10_; clear n0_ n1_ n2_ n3_ n4_ n5_ n6_ n7_ n8_ n9_ n10_; clear hb hbox hg; have hnb13 := NB1124_1117.out; have hnc13 := NB1117_1124.out; have hnb14 := NB1124_1118.out; have hnc14 := NB1118_1124.out; have hcz15_0 : w12.cell? ⟨gb1124, 0, none⟩ = some (.int .i64 0) := (blk_cell BK1124.out 0).trans rfl; have hcz15_1 : w12.cell? ⟨gb1124, 1, none⟩ = some (.int .i64 0) := (blk_cell BK1124.out 1).trans rfl; have hcz15_2 : w12.cell? ⟨gb1124, 2, none⟩ = some (.slice none 0 0) := (blk_cell BK1124.out 2).trans rfl; have hfz15_0 := blk_frozen BK1124.out 0; have hfz15_1 := blk_frozen BK1124.out 1; have hfz15_2 := blk_frozen BK1124.out 2))
   go_loopg [8] k (fun kq v8 w' => ∃ (x8_1 : Int) (x1125002_1 : List Int) (u1125002 : Value), v8 = .int .i64 x8_1 ∧ Aside0 (spec_PortRanks.l0 kq t1120 x8_1 a0_0 l0_1 a0_0 1 x1125002_1 = some (r1, r2, r3, r4)) ∧ Aside0 (kq ≤ k) ∧ Aside0 (Kd.R (Kd.int .i64) 2 w' w.heap.size (fun k_ => some k_ ≠ (u1125002 : Value).ownBlock) v1121 t1120) ∧ Aside0 (Kd.R (Kd.int .i64) 2 w' w.heap.size (fun k_ => some k_ ≠ (v1121 : Value).ownBlock) u1125002 x1125002_1) ∧ Aside0 (w'.heap[gb1117]? = some (.cells #[.int .i64 a0_0, (.slice A0_1 l0_1.length c0_1)] 31 (0, 0))) ∧ Aside0 (w'.heap[gb1118]? = some (.cells #[.int .i64 0, .int .i64 0, (.slice none 0 0)] 54 (0, 0))) ∧ Aside0 (w'.heap[gb1124]? = some (.cells #[.int .i64 a0_0, .int .i64 1, u1125002] 54 (0, 0))) ∧ Aside0 (Below w.heap.size w w'))
   case atStart => exact ⟨(0), (([] : List Int)), (.slice none 0 0), zt, H', ⟨Nat.le_refl _⟩, ⟨by (with_reducible repeat (first | apply Kd.R_alloc | apply Kd.R_drewN | apply Kd.R_drew)); exact Kd.R_mono (Kd.R_far (p := ⟨gb1124, 2, none⟩) (Kd.R_far (p := ⟨gb1124, 1, none⟩) (Kd.R_far (p := ⟨gb1124, 0, none⟩) (Kd.R_types HO1122.out BK1124.out (by decide)) (fun _ hk => hk.2) (.int .i64 a0_0)) (fun _ hk => hk.2) (.int .i64 1)) (fun _ hk => hk.2) (.slice none 0 0)) (fun _ hk => (by simp [Value.ownBlock]))⟩, ⟨by first | exact Kd.R_nil _ _ _ _ _ | exact Kd.N_nil _ _ _ _ _ | exact Kd.V_nil _ _ _ _ _ | exact Kd.Q_nil _ _ _ _ _ | exact Kd.S_nil _ _ _ _ _⟩, ⟨by (with_reducible repeat (first | refine blk_drewN ?_ _ | refine blk_drew ?_ | refine blk_alloc ?_ _)); refine blk_far ?_ NB1117_1124.out _; (with_reducible repeat (first | refine blk_drewN ?_ _ | refine blk_drew ?_ | refine blk_alloc ?_ _)); refine blk_far ?_ NB1117_1124.out _; (with_reducible repeat (first | refine blk_drewN ?_ _ | refine blk_drew ?_ | refine blk_alloc ?_ _)); refine blk_far ?_ NB1117_1124.out _; (with_reducible repeat (first | refine blk_drewN ?_ _ | refine blk_drew ?_ | refine blk_alloc ?_ _)); exact BK1117.out⟩, ⟨by (with_reducible repeat (first | refine blk_drewN ?_ _ | refine blk_drew ?_ | refine blk_alloc ?_ _)); refine blk_far ?_ NB1118_1124.out _; (with_reducible repeat (first | refine blk_drewN ?_ _ | refine blk_drew ?_ | refine blk_alloc ?_ _)); refine blk_far ?_ NB1118_1124.out _; (with_reducible repeat (first | refine blk_drewN ?_ _ | refine blk_drew ?_ | refine blk_alloc ?_ _)); refine blk_far ?_ NB1118_1124.out _; (with_reducible repeat (first | refine blk_drewN ?_ _ | refine blk_drew ?_ | refine blk_alloc ?_ _)); exact BK1118.out⟩, ⟨by (with_reducible repeat (first | refine blk_drewN ?_ _ | refine blk_drew ?_ | refine blk_alloc ?_ _)); refine blk_put (cs := #[.int .i64 a0_0, .int .i64 1, .slice none 0 0]) ?_ 2 _ rfl; (with_reducible repeat (first | refine blk_drewN ?_ _ | refine blk_drew ?_ | refine blk_alloc ?_ _)); refine blk_put (cs := #[.int .i64 a0_0, .int .i64 0, .slice none 0 0]) ?_ 1 _ rfl; (with_reducible repeat (first | refine blk_drewN ?_ _ | refine blk_drew ?_ | refine blk_alloc ?_ _)); refine blk_put (cs := #[.int .i64 0, .int .i64 0, .slice none 0 0]) ?_ 0 _ rfl; (with_reducible repeat (first | refine blk_drewN ?_ _ | refine blk_drew ?_ | refine blk_alloc ?_ _)); exact BK1124.out⟩, ⟨zb3 HB.out GE1117.out GE1118.out GE1124.out⟩⟩
   case round =>
    clear H'
    obtain ⟨x8_1, x1125002_1, u1125002, rfl, HA, HK1, HO_5, HO_1125002, BK1117, BK1118, BK1124, HB⟩ := hrel
    cases gk with
    | zero => exact absurd HA.out (by simp [spec_PortRanks.l0])
    | succ k1 =>
     have H := HA.out
     clear HA
     simp only [spec_PortRanks.l0] at H
     obtain ⟨ji16, hji16⟩ : ∃ j_ : Int, (IntKind.u64.wrap (a0_0)) = j_ := ⟨_, rfl⟩
     replace H : (if 0 ≤ (ji16) then (if x8_1 < (shl .i64 1 (ji16)) then (spec_PortRanks.l1 k1 t1120 x8_1 0 0 a0_0 l0_1 a0_0 1 x1125002_1) else (some (a0_0, 1, x1125002_1, 0))) else (none)) = some (r1, r2, r3, r4) := by first | (rw [hji16] at H; exact H) | (simp only [hji16] at H ⊢; exact H)
     by_cases c17 : 0 ≤ (ji16)
     ·rw [if_pos c17] at H
      have c17b0 := eq_true c17
      have c17b1 : decide (0 ≤ (ji16)) = true := decide_eq_true c17
      clear c17
      obtain ⟨ji18, hji18⟩ : ∃ j_ : Int, (shl .i64 1 (ji16)) = j_ := ⟨_, rfl⟩
      replace H : (if x8_1 < (ji18) then (spec_PortRanks.l1 k1 t1120 x8_1 0 0 a0_0 l0_1 a0_0 1 x1125002_1) else (some (a0_0, 1, x1125002_1, 0))) = some (r1, r2, r3, r4) := by first | (rw [hji18] at H; exact H) | (simp only [hji18] at H ⊢; exact H)
      have hji18_ : (IntKind.i64.wrap (1 * 2 ^ min (ji16).toNat 64)) = ji18 := hji18
      have hji18z : (ji16) ≤ 64 → (IntKind.i64.wrap (1 * 2 ^ (ji16).toNat)) = ji18 := shl_small hji18
      have hji18u : (IntKind.i64.wrap (2 ^ min (ji16).toNat 64)) = ji18 := by have h_ := hji18_; rw [Int.one_mul] at h_; exact h_
      have hji18v : (ji16) ≤ 64 → (IntKind.i64.wrap (2 ^ (ji16).toNat)) = ji18 := fun hle_ => by have h_ := hji18z hle_; rw [Int.one_mul] at h_; exact h_
      have hji18y : (wrap64 (1 * 2 ^ min (ji16).toNat 64)) = ji18 := (i64_w _).symm.trans hji18_
      have hji18x : (ji16) ≤ 64 → (wrap64 (1 * 2 ^ (ji16).toNat)) = ji18 := fun h_ => (i64_w _).symm.trans (hji18z h_)
      by_cases c19 : x8_1 < (ji18)
      ·rw [if_pos c19] at H
       have c19b0 : decide (x8_1 < (ji18)) = true := decide_eq_true c19
       clear c19
       have H' := Aside0.mk H
       clear H
       have hnb20 := NB1117_1118.out
       have hnc20 := NB1118_1117.out
       have hnb21 := NB1117_1124.out
       have hnc21 := NB1124_1117.out
       have hcz22_0 : wr.cell? ⟨gb1117, 0, none⟩ = some (.int .i64 a0_0) := (blk_cell BK1117.out 0).trans rfl
       have hcz22_1 : wr.cell? ⟨gb1117, 1, none⟩ = some (.slice A0_1 l0_1.length c0_1) := (blk_cell BK1117.out 1).trans rfl
       have hfz22_0 := blk_frozen BK1117.out 0
       have hfz22_1 := blk_frozen BK1117.out 1
       go_wp2
       go_loopg [9, 10] k1 (fun kq v9 v10 w' => ∃ (x9_2 : Int) (x10_2 : Int), v9 = .int .i64 x9_2 ∧ v10 = .int .i64 x10_2 ∧ Aside0 (spec_PortRanks.l1 kq t1120 x8_1 x9_2 x10_2 a0_0 l0_1 a0_0 1 x1125002_1 = some (r1, r2, r3, r4)) ∧ Aside0 (kq ≤ k1) ∧ Aside0 (Kd.R (Kd.int .i64) 2 w' w.heap.size (fun k_ => some k_ ≠ (u1125002 : Value).ownBlock) v1121 t1120) ∧ Aside0 (Kd.R (Kd.int .i64) 2 w' w.heap.size (fun k_ => some k_ ≠ (v1121 : Value).ownBlock) u1125002 x1125002_1) ∧ Aside0 (w'.heap[gb1117]? = some (.cells #[.int .i64 a0_0, (.slice A0_1 l0_1.length c0_1)] 31 (0, 0))) ∧ Aside0 (w'.heap[gb1118]? = some (.cells #[.int .i64 0, .int .i64 0, (.slice none 0 0)] 54 (0, 0))) ∧ Aside0 (w'.heap[gb1124]? = some (.cells #[.int .i64 a0_0, .int .i64 1, u1125002] 54 (0, 0))) ∧ Aside0 (Below w.heap.size w w'))
       case atStart => exact ⟨(0), (0), zt, zt, H', ⟨Nat.le_refl _⟩, ⟨zr HO_5.out⟩, ⟨zr HO_1125002.out⟩, ⟨zk BK1117.out⟩, ⟨zk BK1118.out⟩, ⟨zk BK1124.out⟩, ⟨zb3 HB.out GE1117.out GE1118.out GE1124.out⟩⟩
       case round =>
        clear H'
        obtain ⟨x9_2, x10_2, rfl, rfl, HA, HK2, HO_5, HO_1125002, BK1117, BK1118, BK1124, HB⟩ := hrel
        cases gk with
        | zero => exact absurd HA.out (by simp [spec_PortRanks.l1])
        | succ k2 =>
         have H := HA.out
         clear HA
         simp only [spec_PortRanks.l1] at H
         by_cases c23 : x10_2 ≤ x8_1
         ·rw [if_pos c23] at H
          have c23b0 : decide (x10_2 ≤ x8_1) = true := decide_eq_true c23
          clear c23
          have HC24 := Aside0.mk H
          clear H
          go_upto_region 15 with (fail)
          go_cut [49] (fun v49 wc => ∃ (kq : Nat) (x49_23 : Bool), v49 = .bool x49_23 ∧ Aside0 (spec_PortRanks.j2 kq t1120 x8_1 x9_2 x10_2 x49_23 a0_0 l0_1 a0_0 1 x1125002_1 = some (r1, r2, r3, r4)) ∧ Aside0 (kq ≤ k2) ∧ Aside0 (Kd.R (Kd.int .i64) 2 wc w.heap.size (fun k_ => some k_ ≠ (u1125002 : Value).ownBlock) v1121 t1120) ∧ Aside0 (Kd.R (Kd.int .i64) 2 wc w.heap.size (fun k_ => some k_ ≠ (v1121 : Value).ownBlock) u1125002 x1125002_1) ∧ Aside0 (wc.heap[gb1117]? = some (.cells #[.int .i64 a0_0, (.slice A0_1 l0_1.length c0_1)] 31 (0, 0))) ∧ Aside0 (wc.heap[gb1118]? = some (.cells #[.int .i64 0, .int .i64 0, (.slice none 0 0)] 54 (0, 0))) ∧ Aside0 (wc.heap[gb1124]? = some (.cells #[.int .i64 a0_0, .int .i64 1, u1125002] 54 (0, 0))) ∧ Aside0 (Below w.heap.size w wc))
          case first =>
           have H := HC24.out
           clear HC24
           by_cases c25 : (Go.bits .and .i64 x10_2 x8_1) = x10_2
           ·rw [if_pos c25] at H
            have c25b0 : ((Go.bits .and .i64 x10_2 x8_1) == x10_2) = true := beq_iff_eq.mpr c25
            have c25b1 : ((Go.bits .and .i64 x10_2 x8_1) != x10_2) = false := bne_eq_false_iff_eq.mpr c25
            clear c25
            (first | rw [c25b0] | (simp only [i64_w, i32_w]; rw [c25b0]) | skip)
            replace H := Option.bind_eq_some_iff.mp H
            obtain ⟨t1128, A260, H⟩ := H
            replace H : (spec_PortRanks.j2 k2 t1120 x8_1 x9_2 x10_2 (!t1128) a0_0 l0_1 a0_0 1 x1125002_1) = some (r1, r2, r3, r4) := H
            have A26 := Aside0.mk A260
            clear A260
            have H' := Aside0.mk H
            clear H
            obtain ⟨Ao27, co27, eo27⟩ := Kd.R_slice HO_5.out
            subst eo27
            go_wp2_with (first | (go_at_call 114; (with_reducible refine (spec_l07Within.calls k2 _ _ t1120 x10_2 t1128 _ ?side1 ?side2 A26.out).mono ?_); (case side1 => repeat (first | exact (Kd.R_reads' HO_5.out).2.2 | (with_reducible refine Kd.C_alloc ?_ _) | (with_reducible refine Kd.C_drewN ?_ _) | (with_reducible refine Kd.C_drew ?_))); (case side2 => exact (Kd.R_reads' HO_5.out).2.1); rintro e w' ⟨rfl, ⟨nd, rfl⟩⟩))
            go_meet
            case rel => exact ⟨_, (!t1128), zt, H', ⟨by have := HK1.out; have := HK2.out; first | omega | exact Nat.le_refl _⟩, ⟨zr HO_5.out⟩, ⟨zr HO_1125002.out⟩, ⟨zk BK1117.out⟩, ⟨zk BK1118.out⟩, ⟨zk BK1124.out⟩, ⟨zb3 HB.out GE1117.out GE1118.out GE1124.out⟩⟩
           ·rw [if_neg c25] at H
            have c25b0 : ((Go.bits .and .i64 x10_2 x8_1) == x10_2) = false := beq_eq_false_iff_ne.mpr c25
            have c25b1 : ((Go.bits .and .i64 x10_2 x8_1) != x10_2) = true := bne_iff_ne.mpr c25
            (first | rw [c25b0] | (simp only [i64_w, i32_w]; rw [c25b0]) | skip)
            have H' := Aside0.mk H
            clear H
            go_wp2
            go_meet
            case rel => exact ⟨_, (false), zt, H', ⟨by have := HK1.out; have := HK2.out; first | omega | exact Nat.le_refl _⟩, ⟨zr HO_5.out⟩, ⟨zr HO_1125002.out⟩, ⟨zk BK1117.out⟩, ⟨zk BK1118.out⟩, ⟨zk BK1124.out⟩, ⟨zb3 HB.out GE1117.out GE1118.out GE1124.out⟩⟩
          case rest =>
           clear HC24
           obtain ⟨kq, x49_23, rfl, HA, HJ23, HO_5, HO_1125002, BK1117, BK1118, BK1124, HB⟩ := hcut
           cases kq with
           | zero => exact absurd HA.out (by simp [spec_PortRanks.j2])
           | succ kj23 =>
            have H := HA.out
            clear HA
            simp only [spec_PortRanks.j2] at H
            by_cases c28 : x49_23 = true
            ·subst c28
             rw [if_pos rfl] at H
             replace H := Option.bind_eq_some_iff.mp H
             obtain ⟨t1129, A290, H⟩ := H
             replace H : ((spec_l00Max.f x9_2 t1129).bind fun t1130 => (spec_PortRanks.l1 kj23 t1120 x8_1 t1130 (wrap64 (x10_2 + 1)) a0_0 l0_1 a0_0 1 x1125002_1)) = some (r1, r2, r3, r4) := H
             have A29 := Aside0.mk A290
             clear A290
             replace H := Option.bind_eq_some_iff.mp H
             obtain ⟨t1130, A300, H⟩ := H
             replace H : (spec_PortRanks.l1 kj23 t1120 x8_1 t1130 (wrap64 (x10_2 + 1)) a0_0 l0_1 a0_0 1 x1125002_1) = some (r1, r2, r3, r4) := H
             have A30 := Aside0.mk A300
             clear A300
             have H' := Aside0.mk H
             clear H
             go_wp2_with (first | ((with_reducible refine gate_callee (f := 116) rfl ?_); refine goesL_ (some 52) rfl rfl Try.func116 (by kernel_rfl) rfl #[.int .i64 x10_2] rfl zl ?_; (with_reducible refine (spec_l07Count.calls kj23 x10_2 t1129 _ A29.out).mono ?_); rintro e w' ⟨rfl, ⟨nd, rfl⟩⟩; refine ⟨_, rfl, ?_⟩) | ((with_reducible refine gate_callee (f := 115) rfl ?_); refine goesL_ (some 53) rfl rfl Try.func115 (by kernel_rfl) rfl #[.int .i64 x9_2, .int .i64 t1129] rfl zl ?_; (with_reducible refine (spec_l00Max.calls x9_2 t1129 t1130 _ A30.out).mono ?_); rintro e w' ⟨rfl, ⟨nd, rfl⟩⟩; refine ⟨_, rfl, ?_⟩))
             go_roundg kj23
             case measure => have := HK1.out; have := HK2.out; have := HJ23.out; omega
             case rel => exact ⟨(t1130), (wrap64 (x10_2 + 1)), zt, zt, H', ⟨by have := HK1.out; have := HK2.out; have := HJ23.out; omega⟩, ⟨zr HO_5.out⟩, ⟨zr HO_1125002.out⟩, ⟨zk BK1117.out⟩, ⟨zk BK1118.out⟩, ⟨zk BK1124.out⟩, ⟨zb3 HB.out GE1117.out GE1118.out GE1124.out⟩⟩
            ·replace c28 := Bool.eq_false_iff.mpr c28
             subst c28
             rw [if_neg (show ¬ (false = true) by decide)] at H
             have H' := Aside0.mk H
             clear H
             go_wp2
             go_roundg kj23
             case measure => have := HK1.out; have := HK2.out; have := HJ23.out; omega
             case rel => exact ⟨(x9_2), (wrap64 (x10_2 + 1)), zt, zt, H', ⟨by have := HK1.out; have := HK2.out; have := HJ23.out; omega⟩, ⟨zr HO_5.out⟩, ⟨zr HO_1125002.out⟩, ⟨zk BK1117.out⟩, ⟨zk BK1118.out⟩, ⟨zk BK1124.out⟩, ⟨zb3 HB.out GE1117.out GE1118.out GE1124.out⟩⟩
         ·rw [if_neg c23] at H
          have c23b0 : decide (x10_2 ≤ x8_1) = false := decide_eq_false c23
          clear c23
          by_cases c31 : x1125002_1.length < 17592186044416
          ·rw [if_pos c31] at H
           have LMc31 := Aside0.mk c31
           clear c31
           obtain ⟨y1125, hy1125⟩ : ∃ y_ : List Int, y_ = (x1125002_1 ++ [x9_2]) := ⟨_, rfl⟩
           replace H : (spec_PortRanks.l0 k2 t1120 (wrap64 (x8_1 + 1)) a0_0 l0_1 a0_0 1 y1125) = some (r1, r2, r3, r4) := by first | (rw [hy1125]; with_reducible exact H) | (have H2_ := (Option.bind_some _ _).symm.trans H; rw [hy1125]; with_reducible exact H2_) | (have H2_ := (Option.bind_some _ _).symm.trans H; with_reducible exact H2_) | with_reducible exact H | (rw [hy1125]; exact H) | exact H
           have Ny1125 := Aside0.mk hy1125
           clear hy1125
           have H' := Aside0.mk H
           clear H
           have hnb32 := NB1124_1117.out
           have hnc32 := NB1117_1124.out
           have hnb33 := NB1124_1118.out
           have hnc33 := NB1118_1124.out
           have hcz34_0 : wr.cell? ⟨gb1124, 0, none⟩ = some (.int .i64 a0_0) := (blk_cell BK1124.out 0).trans rfl
           have hcz34_1 : wr.cell? ⟨gb1124, 1, none⟩ = some (.int .i64 1) := (blk_cell BK1124.out 1).trans rfl
           have hcz34_2 : wr.cell? ⟨gb1124, 2, none⟩ = some (u1125002) := (blk_cell BK1124.out 2).trans rfl
           have hfz34_0 := blk_frozen BK1124.out 0
           have hfz34_1 := blk_frozen BK1124.out 1
           have hfz34_2 := blk_frozen BK1124.out 2
           go_wp2_with (first | ((with_reducible refine gate_builtin (b := .append) (xs := #[.tmp 55, .tmp 57]) rfl ?_); at_builtin; refine Kd.R_append (Kd.int .i64) (w0 := w) w.heap.size rfl (.tmp 55) (.tmp 57) 26 2 (.int .i64 0) 8 rfl Try.underlying26 info2 rfl (by decide) (by omega) u1125002 x1125002_1 x9_2 [.int .i64 x9_2] (fun k_ => some k_ ≠ (v1121 : Value).ownBlock) (fun _ => False) rfl rfl ?aP (fun _ hk => hk.elim) ?aF ?aO ?aB ?aS ?aL ?_; (case aP => exact rfl); (case aB => exact (zb3 HB.out GE1117.out GE1118.out GE1124.out)); (case aF => exact (fun k_ hk => Kd.fresh' (Kd.R_lt (zr HO_5.out)) k_ hk)); (case aO => exact (zr HO_1125002.out)); (case aS => exact (below_size (zb3 HB.out GE1117.out GE1118.out GE1124.out))); (case aL => have := LMc31.out; omega); intro v1126 w35 ho hb hg hat; rw [← Ny1125.out] at ho; have n0_ := Aside0.mk (Kd.R_after (ok := (fun _ => True)) (by (with_reducible repeat (first | apply Kd.R_alloc | apply Kd.R_drewN | apply Kd.R_drew)); exact Kd.R_mono HO_5.out (fun _ hk => ⟨trivial, hk⟩)) hg hat); have n1_ := Aside0.mk (blk_grown (g := gb1117) (o := .cells #[.int .i64 a0_0, .slice A0_1 l0_1.length c0_1] 31 (0, 0)) (zk BK1117.out) hg (Kd.R_ne HO_1125002.out BK1117.out (by decide))); have n2_ := Aside0.mk (blk_grown (g := gb1118) (o := .cells #[.int .i64 0, .int .i64 0, .slice none 0 0] 54 (0, 0)) (zk BK1118.out) hg (Kd.R_ne HO_1125002.out BK1118.out (by decide))); have n3_ := Aside0.mk (blk_grown (g := gb1124) (o := .cells #[.int .i64 a0_0, .int .i64 1, u1125002] 54 (0, 0)) (zk BK1124.out) hg (Kd.R_ne HO_1125002.out BK1124.out (by decide))); have n4_ := Aside0.mk (hb); have n5_ := Aside0.mk (ho); clear HO_5; clear BK1117; clear BK1118; clear BK1124; clear HB; clear HO_1125002; have HO_5 := n0_; have BK1117 := n1_; have BK1118 := n2_; have BK1124 := n3_; have HB := n4_; have HO1127 := n5_; clear n0_ n1_ n2_ n3_ n4_ n5_; clear ho hb hg hat; obtain ⟨Ao36, co36, eo36⟩ := Kd.R_slice HO1127.out; subst eo36; have hcz37_0 : w35.cell? ⟨gb1124, 0, none⟩ = some (.int .i64 a0_0) := (blk_cell BK1124.out 0).trans rfl; have hcz37_1 : w35.cell? ⟨gb1124, 1, none⟩ = some (.int .i64 1) := (blk_cell BK1124.out 1).trans rfl; have hcz37_2 : w35.cell? ⟨gb1124, 2, none⟩ = some (u1125002) := (blk_cell BK1124.out 2).trans rfl; have hfz37_0 := blk_frozen BK1124.out 0; have hfz37_1 := blk_frozen BK1124.out 1; have hfz37_2 := blk_frozen BK1124.out 2))
           go_roundg k2
           case measure => have := HK1.out; have := HK2.out; omega
           case rel => exact ⟨(wrap64 (x8_1 + 1)), (y1125), (.slice Ao36 y1125.length co36), zt, H', ⟨by have := HK1.out; have := HK2.out; omega⟩, ⟨by (with_reducible repeat (first | apply Kd.R_alloc | apply Kd.R_drewN | apply Kd.R_drew)); exact Kd.R_mono (Kd.R_far (p := ⟨gb1124, 2, none⟩) (Kd.R_types HO_5.out BK1124.out (by decide)) (fun _ hk => hk.2) (.slice Ao36 y1125.length co36)) (fun _ hk => hk.1.2)⟩, ⟨by (with_reducible repeat (first | apply Kd.R_alloc | apply Kd.R_drewN | apply Kd.R_drew)); exact Kd.R_mono (Kd.R_far (p := ⟨gb1124, 2, none⟩) (Kd.R_types HO1127.out BK1124.out (by decide)) (fun _ hk => hk.2) (.slice Ao36 y1125.length co36)) (fun _ hk => hk.1)⟩, ⟨by (with_reducible repeat (first | refine blk_drewN ?_ _ | refine blk_drew ?_ | refine blk_alloc ?_ _)); refine blk_far ?_ NB1117_1124.out _; (with_reducible repeat (first | refine blk_drewN ?_ _ | refine blk_drew ?_ | refine blk_alloc ?_ _)); exact BK1117.out⟩, ⟨by (with_reducible repeat (first | refine blk_drewN ?_ _ | refine blk_drew ?_ | refine blk_alloc ?_ _)); refine blk_far ?_ NB1118_1124.out _; (with_reducible repeat (first | refine blk_drewN ?_ _ | refine blk_drew ?_ | refine blk_alloc ?_ _)); exact BK1118.out⟩, ⟨by (with_reducible repeat (first | refine blk_drewN ?_ _ | refine blk_drew ?_ | refine blk_alloc ?_ _)); refine blk_put (cs := #[.int .i64 a0_0, .int .i64 1, u1125002]) ?_ 2 _ rfl; (with_reducible repeat (first | refine blk_drewN ?_ _ | refine blk_drew ?_ | refine blk_alloc ?_ _)); exact BK1124.out⟩, ⟨zb3 HB.out GE1117.out GE1118.out GE1124.out⟩⟩
          ·rw [if_neg c31] at H
           exact absurd H (by simp)
      ·rw [if_neg c19] at H
       have c19b0 : decide (x8_1 < (ji18)) = false := decide_eq_false c19
       clear c19
       simp only [Option.some.injEq, Prod.mk.injEq] at H
       obtain ⟨rfl, rfl, rfl, rfl⟩ := H
       have hnb38 := NB1117_1118.out
       have hnc38 := NB1118_1117.out
       have hnb39 := NB1117_1124.out
       have hnc39 := NB1124_1117.out
       have hcz40_0 : wr.cell? ⟨gb1117, 0, none⟩ = some (.int .i64 a0_0) := (blk_cell BK1117.out 0).trans rfl
       have hcz40_1 : wr.cell? ⟨gb1117, 1, none⟩ = some (.slice A0_1 l0_1.length c0_1) := (blk_cell BK1117.out 1).trans rfl
       have hfz40_0 := blk_frozen BK1117.out 0
       have hfz40_1 := blk_frozen BK1117.out 1
       have hnb41 := NB1124_1118.out
       have hnc41 := NB1118_1124.out
       have hcz42_0 : wr.cell? ⟨gb1124, 0, none⟩ = some (.int .i64 a0_0) := (blk_cell BK1124.out 0).trans rfl
       have hcz42_1 : wr.cell? ⟨gb1124, 1, none⟩ = some (.int .i64 1) := (blk_cell BK1124.out 1).trans rfl
       have hcz42_2 : wr.cell? ⟨gb1124, 2, none⟩ = some (u1125002) := (blk_cell BK1124.out 2).trans rfl
       have hfz42_0 := blk_frozen BK1124.out 0
       have hfz42_1 := blk_frozen BK1124.out 1
       have hfz42_2 := blk_frozen BK1124.out 2
       have hcz43_0 : wr.cell? ⟨gb1118, 0, none⟩ = some (.int .i64 0) := (blk_cell BK1118.out 0).trans rfl
       have hcz43_1 : wr.cell? ⟨gb1118, 1, none⟩ = some (.int .i64 0) := (blk_cell BK1118.out 1).trans rfl
       have hcz43_2 : wr.cell? ⟨gb1118, 2, none⟩ = some (.slice none 0 0) := (blk_cell BK1118.out 2).trans rfl
       have hfz43_0 := blk_frozen BK1118.out 0
       have hfz43_1 := blk_frozen BK1118.out 1
       have hfz43_2 := blk_frozen BK1118.out 2
       obtain ⟨Ao44, co44, eo44⟩ := Kd.R_slice HO_1125002.out
       subst eo44
       go_wp2
       refine bodyPost_ret (results_ct rfl _ _ gb1118 54 #[.int .i64 a0_0, .int .i64 1, .slice Ao44 x1125002_1.length co44] (0, 0) _ rfl (by (with_reducible repeat (first | refine blk_drewN ?_ _ | refine blk_drew ?_ | refine blk_alloc ?_ _)); refine blk_put (cs := #[.int .i64 a0_0, .int .i64 1, .slice none 0 0]) ?_ 2 _ rfl; (with_reducible repeat (first | refine blk_drewN ?_ _ | refine blk_drew ?_ | refine blk_alloc ?_ _)); refine blk_put (cs := #[.int .i64 a0_0, .int .i64 0, .slice none 0 0]) ?_ 1 _ rfl; (with_reducible repeat (first | refine blk_drewN ?_ _ | refine blk_drew ?_ | refine blk_alloc ?_ _)); refine blk_put (cs := #[.int .i64 0, .int .i64 0, .slice none 0 0]) ?_ 0 _ rfl; (with_reducible repeat (first | refine blk_drewN ?_ _ | refine blk_drew ?_ | refine blk_alloc ?_ _)); exact BK1118.out) Try.underlying54 rfl (by kernel_rfl)) rfl ?_
       exact ⟨_, by first | rfl | (simp [errW_none, errW_some] <;> rfl) | (simp only [← hji16, ← hji18]; first | rfl | (simp [errW_none, errW_some] <;> rfl)) | (simp [*, errW_none, errW_some] <;> rfl), by (with_reducible repeat (first | apply Kd.R_alloc | apply Kd.R_drewN | apply Kd.R_drew)); exact Kd.R_mono (Kd.R_far (p := ⟨gb1118, 2, none⟩) (Kd.R_far (p := ⟨gb1118, 1, none⟩) (Kd.R_far (p := ⟨gb1118, 0, none⟩) (Kd.R_types HO_1125002.out BK1118.out (by decide)) (fun _ hk => hk.2) (.int .i64 a0_0)) (fun _ hk => hk.2) (.int .i64 1)) (fun _ hk => hk.2) (.slice Ao44 x1125002_1.length co44)) (fun _ hk => trivial), zb3 HB.out GE1117.out GE1118.out GE1124.out⟩
     ·rw [if_neg c17] at H
      exact absurd H (by simp)
  ·replace c5 := Bool.eq_false_iff.mpr c5
   subst c5
   rw [if_neg (show ¬ (false = true) by decide)] at H
   simp only [Option.some.injEq, Prod.mk.injEq] at H
   obtain ⟨rfl, rfl, rfl, rfl⟩ := H
   go_enter Try.func52, Try.ntmps52
   go_wp2_with (first | ((with_reducible refine gate_dst (N := 1) rfl ?_); refine box_event ?hg (N := 1) ?hd (cs := #[.int .i64 a0_0, .slice A0_1 l0_1.length c0_1]) (t := 31) ?hr ?_; (case hd => rfl); (case hg => rfl); (case hr => first | (go_simp; done) | (go_simp; rfl)); intro gb1117 hg w45 hbox hb; have n0_ := Aside0.mk (below_step (zb0 HB.out) hb); have n1_ := Aside0.mk (hbox); have n2_ := Aside0.mk ((by rw [hg]; exact (below_size (zb0 HB.out)) : w.heap.size ≤ gb1117)); have n3_ := Aside0.mk ((by rw [hg]; exact (below_size (zb0 HB.out)) : w.heap.size ≤ gb1117)); clear HB; have HB := n0_; have BK1117 := n1_; have GW1117 := n2_; have GE1117 := n3_; clear n0_ n1_ n2_ n3_; clear hb hbox hg) | ((with_reducible refine gate_dst (N := 2) rfl ?_); refine box_event ?hg (N := 2) ?hd (cs := #[.int .i64 0, .int .i64 0, .slice none 0 0]) (t := 54) ?hr ?_; (case hd => rfl); (case hg => rfl); (case hr => first | (go_simp; done) | (go_simp; rfl)); intro gb1118 hg w46 hbox hb; have n0_ := Aside0.mk (blk_below (g := gb1117) (o := .cells #[.int .i64 a0_0, .slice A0_1 l0_1.length c0_1] 31 (0, 0)) (zk BK1117.out) hb); have n1_ := Aside0.mk (below_step (zb1 HB.out GE1117.out) hb); have n2_ := Aside0.mk (hbox); have n3_ := Aside0.mk ((by rw [hg]; exact (below_size (zb1 HB.out GE1117.out)) : w.heap.size ≤ gb1118)); have n4_ := Aside0.mk ((by rw [hg]; exact (below_size (zb1 HB.out GE1117.out)) : w.heap.size ≤ gb1118)); have n5_ := Aside0.mk ((by rw [hg]; exact Nat.ne_of_lt (blk_lt (g := gb1117) (o := .cells #[.int .i64 a0_0, .slice A0_1 l0_1.length c0_1] 31 (0, 0)) (zk BK1117.out)) : gb1117 ≠ gb1118)); have n6_ := Aside0.mk ((by rw [hg]; exact Nat.ne_of_gt (blk_lt (g := gb1117) (o := .cells #[.int .i64 a0_0, .slice A0_1 l0_1.length c0_1] 31 (0, 0)) (zk BK1117.out)) : gb1118 ≠ gb1117)); clear BK1117; clear HB; have BK1117 := n0_; have HB := n1_; have BK1118 := n2_; have GW1118 := n3_; have GE1118 := n4_; have NB1117_1118 := n5_; have NB1118_1117 := n6_; clear n0_ n1_ n2_ n3_ n4_ n5_ n6_; clear hb hbox hg) | ((with_reducible refine gate_callee (f := 66) rfl ?_); refine goesL_ (some 11) rfl rfl Try.func66 (by kernel_rfl) rfl #[.pointer (some ⟨gb1117, 0, none⟩)] rfl zl ?_; (with_reducible refine (spec_l07Family.calls k gb1117 a0_0 A0_1 c0_1 l0_1 t1119 _ ?side1 ?side2 ?side3 A2.out).mono ?_); (case side1 => (with_reducible repeat (first | refine blk_drewN ?_ _ | refine blk_drew ?_ | refine blk_alloc ?_ _)); exact BK1117.out); (case side2 => exact zc (Kd.C_below HR0_1.out HB.out)); (case side3 => exact HC0_1.out); rintro e w47 ⟨rfl, hb⟩; refine ⟨_, rfl, ?_⟩; have n0_ := Aside0.mk (blk_below (g := gb1117) (o := .cells #[.int .i64 a0_0, .slice A0_1 l0_1.length c0_1] 31 (0, 0)) (zk BK1117.out) hb); have n1_ := Aside0.mk (blk_below (g := gb1118) (o := .cells #[.int .i64 0, .int .i64 0, .slice none 0 0] 54 (0, 0)) (zk BK1118.out) hb); have n2_ := Aside0.mk (below_step (zb2 HB.out GE1117.out GE1118.out) hb); clear BK1117; clear BK1118; clear HB; have BK1117 := n0_; have BK1118 := n1_; have HB := n2_; clear n0_ n1_ n2_; (try clear hb); (try clear hb2); (try clear hk); (try clear hi)) | ((with_reducible refine gate_callee (f := 111) rfl ?_); refine goesL_ (some 17) rfl rfl Try.func111 (by kernel_rfl) rfl #[.pointer (some ⟨gb1117, 0, none⟩)] rfl zl ?_; (with_reducible refine (spec_l07Port.calls k gb1117 a0_0 A0_1 c0_1 l0_1 t1120 false _ ?side1 ?side2 ?side3 A4.out).mono ?_); (case side1 => (with_reducible repeat (first | refine blk_drewN ?_ _ | refine blk_drew ?_ | refine blk_alloc ?_ _)); exact BK1117.out); (case side2 => exact zc (Kd.C_below HR0_1.out HB.out)); (case side3 => exact HC0_1.out); rintro e w48 ⟨v1121, rfl, ho0, hb⟩; refine ⟨_, rfl, ?_⟩; have n0_ := Aside0.mk (Kd.R_lower ho0 (below_size (zb2 HB.out GE1117.out GE1118.out))); have n1_ := Aside0.mk (blk_below (g := gb1117) (o := .cells #[.int .i64 a0_0, .slice A0_1 l0_1.length c0_1] 31 (0, 0)) (zk BK1117.out) hb); have n2_ := Aside0.mk (blk_below (g := gb1118) (o := .cells #[.int .i64 0, .int .i64 0, .slice none 0 0] 54 (0, 0)) (zk BK1118.out) hb); have n3_ := Aside0.mk (below_step (zb2 HB.out GE1117.out GE1118.out) hb); clear BK1117; clear BK1118; clear HB; have HO1122 := n0_; have BK1117 := n1_; have BK1118 := n2_; have HB := n3_; clear n0_ n1_ n2_ n3_; (try clear hb); (try clear hb2); (try clear hk); (try clear hi); (try clear ho0); have hnb49 := NB1118_1117.out; have hnc49 := NB1117_1118.out; have hcz50_0 : w48.cell? ⟨gb1118, 0, none⟩ = some (.int .i64 0) := (blk_cell BK1118.out 0).trans rfl; have hcz50_1 : w48.cell? ⟨gb1118, 1, none⟩ = some (.int .i64 0) := (blk_cell BK1118.out 1).trans rfl; have hcz50_2 : w48.cell? ⟨gb1118, 2, none⟩ = some (.slice none 0 0) := (blk_cell BK1118.out 2).trans rfl; have hfz50_0 := blk_frozen BK1118.out 0; have hfz50_1 := blk_frozen BK1118.out 1; have hfz50_2 := blk_frozen BK1118.out 2))
   refine bodyPost_ret (results_ct rfl _ _ gb1118 54 #[.int .i64 0, .int .i64 0, .slice none 0 0] (0, 0) _ rfl (by (with_reducible repeat (first | refine blk_drewN ?_ _ | refine blk_drew ?_ | refine blk_alloc ?_ _)); refine blk_put (cs := #[.int .i64 0, .int .i64 0, .slice none 0 0]) ?_ 2 _ rfl; (with_reducible repeat (first | refine blk_drewN ?_ _ | refine blk_drew ?_ | refine blk_alloc ?_ _)); refine blk_put (cs := #[.int .i64 0, .int .i64 0, .slice none 0 0]) ?_ 1 _ rfl; (with_reducible repeat (first | refine blk_drewN ?_ _ | refine blk_drew ?_ | refine blk_alloc ?_ _)); refine blk_put (cs := #[.int .i64 0, .int .i64 0, .slice none 0 0]) ?_ 0 _ rfl; (with_reducible repeat (first | refine blk_drewN ?_ _ | refine blk_drew ?_ | refine blk_alloc ?_ _)); exact BK1118.out) Try.underlying54 rfl (by kernel_rfl)) rfl ?_
   exact ⟨_, ze, by first | exact Kd.R_nil _ _ _ _ _ | exact Kd.N_nil _ _ _ _ _ | exact Kd.V_nil _ _ _ _ _ | exact Kd.Q_nil _ _ _ _ _ | exact Kd.S_nil _ _ _ _ _, zb2 HB.out GE1117.out GE1118.out⟩
 ·rw [if_neg c3] at H
  have c3b0 : (t1119 == 0) = false := beq_eq_false_iff_ne.mpr c3
  have c3b1 : (t1119 != 0) = true := bne_iff_ne.mpr c3
  simp only [Option.some.injEq, Prod.mk.injEq] at H
  obtain ⟨rfl, rfl, rfl, rfl⟩ := H
  go_enter Try.func52, Try.ntmps52
  go_wp2_with (first | ((with_reducible refine gate_dst (N := 1) rfl ?_); refine box_event ?hg (N := 1) ?hd (cs := #[.int .i64 a0_0, .slice A0_1 l0_1.length c0_1]) (t := 31) ?hr ?_; (case hd => rfl); (case hg => rfl); (case hr => first | (go_simp; done) | (go_simp; rfl)); intro gb1117 hg w51 hbox hb; have n0_ := Aside0.mk (below_step (zb0 HB.out) hb); have n1_ := Aside0.mk (hbox); have n2_ := Aside0.mk ((by rw [hg]; exact (below_size (zb0 HB.out)) : w.heap.size ≤ gb1117)); have n3_ := Aside0.mk ((by rw [hg]; exact (below_size (zb0 HB.out)) : w.heap.size ≤ gb1117)); clear HB; have HB := n0_; have BK1117 := n1_; have GW1117 := n2_; have GE1117 := n3_; clear n0_ n1_ n2_ n3_; clear hb hbox hg) | ((with_reducible refine gate_dst (N := 2) rfl ?_); refine box_event ?hg (N := 2) ?hd (cs := #[.int .i64 0, .int .i64 0, .slice none 0 0]) (t := 54) ?hr ?_; (case hd => rfl); (case hg => rfl); (case hr => first | (go_simp; done) | (go_simp; rfl)); intro gb1118 hg w52 hbox hb; have n0_ := Aside0.mk (blk_below (g := gb1117) (o := .cells #[.int .i64 a0_0, .slice A0_1 l0_1.length c0_1] 31 (0, 0)) (zk BK1117.out) hb); have n1_ := Aside0.mk (below_step (zb1 HB.out GE1117.out) hb); have n2_ := Aside0.mk (hbox); have n3_ := Aside0.mk ((by rw [hg]; exact (below_size (zb1 HB.out GE1117.out)) : w.heap.size ≤ gb1118)); have n4_ := Aside0.mk ((by rw [hg]; exact (below_size (zb1 HB.out GE1117.out)) : w.heap.size ≤ gb1118)); have n5_ := Aside0.mk ((by rw [hg]; exact Nat.ne_of_lt (blk_lt (g := gb1117) (o := .cells #[.int .i64 a0_0, .slice A0_1 l0_1.length c0_1] 31 (0, 0)) (zk BK1117.out)) : gb1117 ≠ gb1118)); have n6_ := Aside0.mk ((by rw [hg]; exact Nat.ne_of_gt (blk_lt (g := gb1117) (o := .cells #[.int .i64 a0_0, .slice A0_1 l0_1.length c0_1] 31 (0, 0)) (zk BK1117.out)) : gb1118 ≠ gb1117)); clear BK1117; clear HB; have BK1117 := n0_; have HB := n1_; have BK1118 := n2_; have GW1118 := n3_; have GE1118 := n4_; have NB1117_1118 := n5_; have NB1118_1117 := n6_; clear n0_ n1_ n2_ n3_ n4_ n5_ n6_; clear hb hbox hg) | ((with_reducible refine gate_callee (f := 66) rfl ?_); refine goesL_ (some 11) rfl rfl Try.func66 (by kernel_rfl) rfl #[.pointer (some ⟨gb1117, 0, none⟩)] rfl zl ?_; (with_reducible refine (spec_l07Family.calls k gb1117 a0_0 A0_1 c0_1 l0_1 t1119 _ ?side1 ?side2 ?side3 A2.out).mono ?_); (case side1 => (with_reducible repeat (first | refine blk_drewN ?_ _ | refine blk_drew ?_ | refine blk_alloc ?_ _)); exact BK1117.out); (case side2 => exact zc (Kd.C_below HR0_1.out HB.out)); (case side3 => exact HC0_1.out); rintro e w53 ⟨rfl, hb⟩; refine ⟨_, rfl, ?_⟩; have n0_ := Aside0.mk (blk_below (g := gb1117) (o := .cells #[.int .i64 a0_0, .slice A0_1 l0_1.length c0_1] 31 (0, 0)) (zk BK1117.out) hb); have n1_ := Aside0.mk (blk_below (g := gb1118) (o := .cells #[.int .i64 0, .int .i64 0, .slice none 0 0] 54 (0, 0)) (zk BK1118.out) hb); have n2_ := Aside0.mk (below_step (zb2 HB.out GE1117.out GE1118.out) hb); clear BK1117; clear BK1118; clear HB; have BK1117 := n0_; have BK1118 := n1_; have HB := n2_; clear n0_ n1_ n2_; (try clear hb); (try clear hb2); (try clear hk); (try clear hi); have hnb54 := NB1118_1117.out; have hnc54 := NB1117_1118.out; have hcz55_0 : w53.cell? ⟨gb1118, 0, none⟩ = some (.int .i64 0) := (blk_cell BK1118.out 0).trans rfl; have hcz55_1 : w53.cell? ⟨gb1118, 1, none⟩ = some (.int .i64 0) := (blk_cell BK1118.out 1).trans rfl; have hcz55_2 : w53.cell? ⟨gb1118, 2, none⟩ = some (.slice none 0 0) := (blk_cell BK1118.out 2).trans rfl; have hfz55_0 := blk_frozen BK1118.out 0; have hfz55_1 := blk_frozen BK1118.out 1; have hfz55_2 := blk_frozen BK1118.out 2))
  refine bodyPost_ret (results_ct rfl _ _ gb1118 54 #[.int .i64 0, .int .i64 0, .slice none 0 0] (0, 0) _ rfl (by (with_reducible repeat (first | refine blk_drewN ?_ _ | refine blk_drew ?_ | refine blk_alloc ?_ _)); refine blk_put (cs := #[.int .i64 0, .int .i64 0, .slice none 0 0]) ?_ 2 _ rfl; (with_reducible repeat (first | refine blk_drewN ?_ _ | refine blk_drew ?_ | refine blk_alloc ?_ _)); refine blk_put (cs := #[.int .i64 0, .int .i64 0, .slice none 0 0]) ?_ 1 _ rfl; (with_reducible repeat (first | refine blk_drewN ?_ _ | refine blk_drew ?_ | refine blk_alloc ?_ _)); refine blk_put (cs := #[.int .i64 0, .int .i64 0, .slice none 0 0]) ?_ 0 _ rfl; (with_reducible repeat (first | refine blk_drewN ?_ _ | refine blk_drew ?_ | refine blk_alloc ?_ _)); exact BK1118.out) Try.underlying54 rfl (by kernel_rfl)) rfl ?_
  exact ⟨_, ze, by first | exact Kd.R_nil _ _ _ _ _ | exact Kd.N_nil _ _ _ _ _ | exact Kd.V_nil _ _ _ _ _ | exact Kd.Q_nil _ _ _ _ _ | exact Kd.S_nil _ _ _ _ _, zb2 HB.out GE1117.out GE1118.out⟩
end Go.Proofs.Ytmbeijjkfmgkpaa.Q
namespace Go.Proofs.Ytmbeijjkfmgkpaa.Pure
set_option linter.unusedVariables false
open Go.RowKit Go.Proofs.Ytmbeijjkfmgkpaa.Q Go.Proofs.YtmbeijjkfmgkpaaW.PrintWords Go.Proofs.YtmbeijjkfmgkpaaW.PrintLast Go.Proofs.YtmbeijjkfmgkpaaW.PrintMore
namespace Ex
def cnt (x : Nat) : Int := (spec_l07Count.f 20 (x : Int)).getD 0
theorem cntAll : (List.range 32).all (fun x => spec_l07Count.f 20 ((x : Nat) : Int) == some (cnt x) && impl_crowd_size.f ((x : Nat) : Int) == some (cnt x)) = true := by decide +kernel
theorem cnt32 (x : Nat) (hx : x < 32) (k : Nat) (hk : 20 ≤ k) : spec_l07Count.f k (x : Int) = some (cnt x) ∧ impl_crowd_size.f (x : Int) = some (cnt x) := by
  have h := List.all_eq_true.1 cntAll x (List.mem_range.2 hx)
  simp only [Bool.and_eq_true, beq_iff_eq] at h
  exact ⟨leO_le (f := fun k => spec_l07Count.f k (x : Int)) (fun k => spec_l07Count.mono _ k) hk h.1, h.2⟩
def mostFrom (C : List Int) (c : Nat) : Nat → Nat → Int → Int
  | _, 0, m => m
  | p, d + 1, m => mostFrom C c (p + 1) d (if ba (c : Int) (p : Int) == (p : Int) && !Sub C (p : Int) then (if m < cnt p then cnt p else m) else m)
theorem u64s (x : Nat) (h : x < 1000) : IntKind.u64.wrap ((x : Int) + 1) = ((x + 1 : Nat) : Int) := by
  simp only [IntKind.wrap, IntKind.bits, IntKind.signed]; simp; omega
theorem i_l1 (C : List Int) (c : Nat) (hc : c < 32) (n : Int) (gs : List (List Int)) (y0 y1 : Int) (acc : List Int) (ha : acc.length < 1000) (R : Nat) : ∀ (d p : Nat), p + d = c + 1 → ∀ (m : Int) k, d + R + 30 < k →
    ∃ k', R ≤ k' ∧ impl_PortRanks.l1 k C c m p n gs y0 y1 acc = impl_PortRanks.l0 k' C ((c + 1 : Nat) : Int) n gs y0 y1 (acc ++ [mostFrom C c p d m]) := by
  intro d
  induction d with
  | zero =>
    intro p hp m k hk
    obtain ⟨k, rfl⟩ : ∃ m, k = m + 1 := ⟨k - 1, by omega⟩
    refine ⟨k, by omega, ?_⟩
    conv => lhs; unfold impl_PortRanks.l1
    rw [if_neg (by omega), if_pos (by omega), u64s c (by omega)]
    rfl
  | succ d ih =>
    intro p hp m k hk
    obtain ⟨k, rfl⟩ : ∃ m, k = m + 1 := ⟨k - 1, by omega⟩
    obtain ⟨k', hk', e⟩ := ih (p + 1) (by omega) (if ba (c : Int) (p : Int) == (p : Int) && !Sub C (p : Int) then (if m < cnt p then cnt p else m) else m) k (by omega)
    refine ⟨k', hk', ?_⟩
    conv => lhs; unfold impl_PortRanks.l1
    rw [if_pos (by omega), show impl_crowd_contains.f (c : Int) (p : Int) = some (ba (c : Int) (p : Int) == (p : Int)) from rfl, Option.bind_some, u64s p (by omega)]
    rw [show mostFrom C c p (d + 1) m = mostFrom C c (p + 1) d (if ba (c : Int) (p : Int) == (p : Int) && !Sub C (p : Int) then (if m < cnt p then cnt p else m) else m) from rfl, ← e]
    by_cases c1 : (ba (c : Int) (p : Int) == (p : Int)) = true
    · rw [if_pos c1, c1, Bool.true_and, show anyIn.f k C (p : Int) = some (Sub C (p : Int)) from rfl, Option.bind_some]
      by_cases c2 : Sub C (p : Int) = true
      · rw [if_pos c2, c2]; rfl
      · rw [if_neg c2, (cnt32 p (by omega) k (by omega)).2, Option.bind_some, if_pos (by simpa using c2)]
        rfl
    · rw [if_neg c1]
      have cf : (ba (c : Int) (p : Int) == (p : Int)) = false := by simpa using c1
      rw [cf]; rfl
theorem s2_l1 (C L : List Int) (hm : ∀ y, y ∈ C ↔ y ∈ L) (hC : ∀ c ∈ C, R7 c) (hL : L.length ≤ 128) (c : Nat) (hc : c < 32) (n : Int) (gs : List (List Int)) (y0 y1 : Int) (acc : List Int) (ha : acc.length < 1000) (R : Nat) : ∀ (d p : Nat), p + d = c + 1 → ∀ (m : Int) k, 2 * d + R + 200 < k →
  ∃ k', R ≤ k' ∧ spec_PortRanks.l1 k L c m p n gs y0 y1 acc = spec_PortRanks.l0 k' L ((c + 1 : Nat) : Int) n gs y0 y1 (acc ++ [mostFrom C c p d m]) := by
 intro d
 induction d with
 | zero =>
  intro p hp m k hk
  obtain ⟨k, rfl⟩ : ∃ m, k = m + 1 := ⟨k - 1, by omega⟩
  refine ⟨k, by omega, ?_⟩
  conv => lhs; unfold spec_PortRanks.l1
  rw [if_neg (by omega), if_pos (by omega), wr c (by omega)]
  rfl
 | succ d ih =>
  intro p hp m k hk
  obtain ⟨k, rfl⟩ : ∃ m, k = m + 2 := ⟨k - 2, by omega⟩
  obtain ⟨k', hk', e⟩ := ih (p + 1) (by omega) (if ba (c : Int) (p : Int) == (p : Int) && !Sub C (p : Int) then (if m < cnt p then cnt p else m) else m) k (by omega)
  refine ⟨k', hk', ?_⟩
  have hp7 : R7 (p : Int) := ⟨by omega, by omega⟩
  have hc7 : R7 (c : Int) := ⟨by omega, by omega⟩
  have j2 : ∀ b : Bool, spec_PortRanks.j2 (k + 1) L c m p b n gs y0 y1 acc = spec_PortRanks.l1 k L c (if b = true then (if m < cnt p then cnt p else m) else m) ((p + 1 : Nat) : Int) n gs y0 y1 acc := by
   intro b
   conv => lhs; unfold spec_PortRanks.j2
   by_cases cb : b = true
   ·rw [if_pos cb, (cnt32 p (by omega) k (by omega)).1, Option.bind_some]
    unfold spec_l00Max.f
    rw [wr p (by omega), if_pos cb]
    by_cases c3 : m > cnt p
    ·rw [if_pos c3, Option.bind_some, if_neg (by omega)]
    ·rw [if_neg c3, Option.bind_some]
     by_cases c4 : m < cnt p
     ·rw [if_pos c4]
     ·rw [if_neg c4, show m = cnt p by omega]
   ·rw [if_neg cb, wr p (by omega), if_neg cb]
  conv => lhs; unfold spec_PortRanks.l1
  rw [if_pos (by omega), (op2 hp7 hc7).and64, band_comm hp7 hc7, w_f L (by omega) _ (k + 1) (by omega), sub_eq C L hm hC _ hp7, Option.bind_some, j2, j2]
  rw [show mostFrom C c p (d + 1) m = mostFrom C c (p + 1) d (if ba (c : Int) (p : Int) == (p : Int) && !Sub C (p : Int) then (if m < cnt p then cnt p else m) else m) from rfl, ← e]
  by_cases c1 : ba (c : Int) (p : Int) = (p : Int)
  ·rw [if_pos c1, beq_iff_eq.2 c1, Bool.true_and]
  ·rw [if_neg c1, beq_eq_false_iff_ne.2 c1]; rfl
def ranksFrom (C : List Int) : Nat → Nat → List Int
  | _, 0 => []
  | c, d + 1 => mostFrom C c 0 (c + 1) 0 :: ranksFrom C (c + 1) d
theorem evAll : [1, 2, 3, 4, 5].all (fun n => impl_everybody.f ((n : Nat) : Int) == some (((2 ^ n : Nat) : Int) - 1) && shl .i64 1 (IntKind.u64.wrap ((n : Nat) : Int)) == ((2 ^ n : Nat) : Int)) = true := by decide +kernel
theorem ev5 (n : Nat) (h : 1 ≤ n ∧ n ≤ 5) : impl_everybody.f (n : Int) = some (((2 ^ n : Nat) : Int) - 1) ∧ shl .i64 1 (IntKind.u64.wrap (n : Int)) = ((2 ^ n : Nat) : Int) := by
  have h := List.all_eq_true.1 evAll n (five n h)
  simpa using h
theorem i_l0 (C : List Int) (n : Nat) (hn : 1 ≤ n ∧ n ≤ 5) (gs : List (List Int)) (y0 y1 : Int) : ∀ (d c : Nat), c + d = 2 ^ n → ∃ K, ∀ (acc : List Int), acc.length ≤ c → ∀ k, K ≤ k → impl_PortRanks.l0 k C c n gs y0 y1 acc = some (y0, y1, acc ++ ranksFrom C c d, 0) := by
  have hp := pow5 n hn
  intro d
  induction d with
  | zero =>
    intro c hc
    refine ⟨1, fun acc ha k hk => ?_⟩
    obtain ⟨k, rfl⟩ : ∃ m, k = m + 1 := ⟨k - 1, by omega⟩
    unfold impl_PortRanks.l0
    rw [(ev5 n hn).1, Option.bind_some, if_neg (by omega)]
    simp [ranksFrom]
  | succ d ih =>
    intro c hc
    obtain ⟨K, hK⟩ := ih (c + 1) (by omega)
    refine ⟨K + c + 50, fun acc ha k hk => ?_⟩
    obtain ⟨k, rfl⟩ : ∃ m, k = m + 1 := ⟨k - 1, by omega⟩
    obtain ⟨k', hk', e⟩ := i_l1 C c (by omega) n gs y0 y1 acc (by omega) K (c + 1) 0 (by omega) 0 k (by omega)
    unfold impl_PortRanks.l0
    rw [show ((0 : Nat) : Int) = 0 from rfl] at e
    rw [(ev5 n hn).1, Option.bind_some, if_pos (by omega), e, hK _ (by simp; omega) k' hk']
    simp [ranksFrom]
theorem s2_l0 (C L : List Int) (hm : ∀ y, y ∈ C ↔ y ∈ L) (hC : ∀ c ∈ C, R7 c) (hL : L.length ≤ 128) (n : Nat) (hn : 1 ≤ n ∧ n ≤ 5) (gs : List (List Int)) (y0 y1 : Int) : ∀ (d c : Nat), c + d = 2 ^ n → ∃ K, ∀ (acc : List Int), acc.length ≤ c → ∀ k, K ≤ k → spec_PortRanks.l0 k L c n gs y0 y1 acc = some (y0, y1, acc ++ ranksFrom C c d, 0) := by
  have hp := pow5 n hn
  have h0 := (bit7 n (by omega)).2.2
  intro d
  induction d with
  | zero =>
    intro c hc
    refine ⟨1, fun acc ha k hk => ?_⟩
    obtain ⟨k, rfl⟩ : ∃ m, k = m + 1 := ⟨k - 1, by omega⟩
    unfold spec_PortRanks.l0
    rw [if_pos h0, (ev5 n hn).2, if_neg (by omega)]
    simp [ranksFrom]
  | succ d ih =>
    intro c hc
    obtain ⟨K, hK⟩ := ih (c + 1) (by omega)
    refine ⟨K + 2 * c + 250, fun acc ha k hk => ?_⟩
    obtain ⟨k, rfl⟩ : ∃ m, k = m + 1 := ⟨k - 1, by omega⟩
    obtain ⟨k', hk', e⟩ := s2_l1 C L hm hC hL c (by omega) n gs y0 y1 acc (by omega) K (c + 1) 0 (by omega) 0 k (by omega)
    unfold spec_PortRanks.l0
    rw [show ((0 : Nat) : Int) = 0 from rfl] at e
    rw [if_pos h0, (ev5 n hn).2, if_pos (by omega), e, hK _ (by simp; omega) k' hk']
    simp [ranksFrom]
theorem portRanks_both (n : Int) (gs : List (List Int)) (hl : gs.length ≤ 1048576) (hr : ∀ g ∈ gs, g.length ≤ 1048576) : ∃ K r, r.2.2.1.length ≤ 32 ∧ ∀ k, K ≤ k → impl_PortRanks.f k n gs = some r ∧ spec_PortRanks.f k n gs = some r := by
 obtain ⟨k0, hk0⟩ : ∃ k0, gs.length * (gs.length + 4) + gs.length + 1048576 + 70 ≤ k0 := ⟨_, Nat.le_refl _⟩
 obtain ⟨c, h1, h2, h3⟩ := code_both n gs 1048576 (by omega) (by omega) hr k0 hk0
 have g1 : ∀ k, k0 ≤ k → impl_rankedCode.f k n gs = some c := fun k hk => leO_le (f := fun k => impl_rankedCode.f k n gs) (fun k => impl_rankedCode.mono _ _ k) hk h1
 have g2 : ∀ k, k0 ≤ k → spec_l07Family.f k n gs = some c := fun k hk => leO_le (f := fun k => spec_l07Family.f k n gs) (fun k => spec_l07Family.mono _ _ k) hk h2
 clear hk0 h1 h2
 by_cases c0 : c = 0
 ·subst c0
  obtain ⟨hV, h5, hpos, _⟩ := h3 rfl
  obtain ⟨m, rfl⟩ : ∃ m : Nat, n = m := ⟨n.toNat, by have := hV.1; omega⟩
  have hn := hV.1
  obtain ⟨C, L, ⟨hm, hC, _, _, _, _, hLl⟩, K, hK⟩ := port_both m (by omega) gs (by omega) (fun t ht => grp_lists _ _ rfl m (hV.2 t ht).1)
  obtain ⟨K1, hK1⟩ := i_l0 C m (by omega) gs m 1 (2 ^ m) 0 (by omega)
  obtain ⟨K2, hK2⟩ := s2_l0 C L hm (fun c hc => (hC c hc).1) hLl m (by omega) gs m 1 (2 ^ m) 0 (by omega)
  obtain ⟨_, _, b, e1, e2⟩ := hK K (Nat.le_refl _)
  have f1 : ∀ k, K ≤ k → impl_Family_isPort.f k (m : Int) gs = some b := fun k hk => leO_le (f := fun k => impl_Family_isPort.f k (m : Int) gs) (fun k => impl_Family_isPort.mono _ _ k) hk e1
  have f2 : ∀ k, K ≤ k → spec_l07Port.f k (m : Int) gs = some (L, b) := fun k hk => leO_le (f := fun k => spec_l07Port.f k (m : Int) gs) (fun k => spec_l07Port.mono _ _ k) hk e2
  have lenr : ∀ (d c : Nat), (ranksFrom C c d).length = d := by
   intro d
   induction d with
   | zero => intro c; rfl
   | succ d ih => intro c; simp [ranksFrom, ih]
  cases b with
  | true =>
   refine ⟨K + K1 + K2 + k0, (m, 1, ranksFrom C 0 (2 ^ m), 0), by simp only [lenr]; exact (pow5 m (by omega)).1, fun k hk => ⟨?_, ?_⟩⟩
   ·have := hK1 [] (by simp) k (by omega)
    unfold impl_PortRanks.f
    rw [g1 k (by omega), Option.bind_some, if_pos rfl, f1 k (by omega), Option.bind_some, if_pos rfl, (hK k (by omega)).1, Option.bind_some]
    simpa using this
   ·have := hK2 [] (by simp) k (by omega)
    unfold spec_PortRanks.f
    rw [g2 k (by omega), Option.bind_some, if_pos rfl, f2 k (by omega), Option.bind_some]
    simpa using this
  | false =>
   refine ⟨K + k0, (0, 0, [], 8), by simp, fun k hk => ⟨?_, ?_⟩⟩
   ·unfold impl_PortRanks.f
    rw [g1 k (by omega), Option.bind_some, if_pos rfl, f1 k (by omega), Option.bind_some, if_neg (by simp)]
   ·unfold spec_PortRanks.f
    rw [g2 k (by omega), Option.bind_some, if_pos rfl, f2 k (by omega), Option.bind_some, if_neg (by simp)]
 ·refine ⟨k0, (0, 0, [], c), by simp, fun k hk => ⟨?_, ?_⟩⟩
  ·unfold impl_PortRanks.f
   rw [g1 k hk, Option.bind_some, if_neg c0]
  ·unfold spec_PortRanks.f
   rw [g2 k hk, Option.bind_some, if_neg c0]
end Ex
end Go.Proofs.Ytmbeijjkfmgkpaa.Pure
namespace Go.Proofs.Ytmbeijjkfmgkpaa.Q
open Go.RowKit Go.Proofs.YtmbeijjkfmgkpaaW.PrintWords Go.Proofs.YtmbeijjkfmgkpaaW.PrintLast Go.Proofs.YtmbeijjkfmgkpaaW.PrintMore
attribute [local go_sem] max2_int min2_int max_two min_two max_three min_three max_four min_four
set_option linter.unusedVariables false
set_option linter.unusedSimpArgs false
def laws_markInt64S.l0 : Nat → List Int → Int → Int → Option (Int × List Int)
  | 0, _, _, _ => none
  | k + 1, x0, x1, x5 => if x5 < (x0.length : Int) then (if 0 ≤ x5 then (laws_markInt64S.l0 k (x0.set (x5 : Int).toNat x1) (wrap64 (x1 + 1)) (wrap64 (x5 + 1))) else (none)) else (some (x1, x0))
def laws_markInt64S.f (k : Nat) (l0 : List Int) (a1 : Int) : Option (Int × List Int) := laws_markInt64S.l0 k l0 a1 0
set_option maxHeartbeats 8000000 in
set_option maxRecDepth 100000 in
theorem laws_markInt64S.calls (k : Nat) (P0_ : Nat → Prop) (u9000_ : Value) (l0 : List Int) (a1 : Int) (r1 : Int) (r2 : List Int) (w0 w : World) (hB : Below w0.heap.size w0 w) (ho0 : Kd.R (Kd.int .i64) 2 w w0.heap.size P0_ u9000_ l0) (h : laws_markInt64S.f k l0 a1 = some (r1, r2)) :
  Calls Try.prog 43 #[u9000_, .int .i64 a1] w fun e w' => e = .returned (.int .i64 r1) ∧ Kd.R (Kd.int .i64) 2 w' w0.heap.size (fun k_ => (P0_ k_ ∨ w.heap.size ≤ k_)) u9000_ r2 ∧ Below w0.heap.size w0 w' ∧ Kept w w' (fun k_ => P0_ k_) := by
 have HO0 := Aside0.mk (show Kd.R (Kd.int .i64) 2 w w0.heap.size (fun k_ => (P0_ k_ ∨ w.heap.size ≤ k_)) u9000_ l0 from Kd.R_mono ho0 (fun k_ hk => (.inl hk)))
 have HK := Aside0.mk (Kept.refl w (fun k_ => P0_ k_))
 have HW0 := Aside0.mk hB.size
 have HB := Aside0.mk hB
 clear hB
 have H : (laws_markInt64S.l0 k l0 a1 0) = some (r1, r2) := h
 clear h
 have H' := Aside0.mk H
 clear H
 go_enter Try.func43, Try.ntmps43
 go_wp2
 go_loopg [1, 5] k (fun kq v1 v5 w' => ∃ (x0_1 : List Int) (x1_1 : Int) (x5_1 : Int), v1 = .int .i64 x1_1 ∧ v5 = .int .i64 x5_1 ∧ Aside0 (laws_markInt64S.l0 kq x0_1 x1_1 x5_1 = some (r1, r2)) ∧ Aside0 (kq ≤ k) ∧ Aside0 (Kd.R (Kd.int .i64) 2 w' w0.heap.size (fun k_ => (P0_ k_ ∨ w.heap.size ≤ k_)) u9000_ x0_1) ∧ Aside0 (Kept w w' (fun k_ => P0_ k_)) ∧ Aside0 (Below w0.heap.size w0 w'))
 case atStart => exact ⟨(l0), (a1), (0), zt, zt, H', ⟨Nat.le_refl _⟩, ⟨zr HO0.out⟩, ⟨by repeat (first | (with_reducible first | exact HK.out | apply Kept.alloc | apply Kept.drewN | apply Kept.drew) | exact HK.out)⟩, ⟨zb0 HB.out⟩⟩
 case round =>
  clear H'
  obtain ⟨x0_1, x1_1, x5_1, rfl, rfl, HA, HK1, HO_0, HK, HB⟩ := hrel
  cases gk with
  | zero => exact absurd HA.out (by simp [laws_markInt64S.l0])
  | succ k1 =>
   have H := HA.out
   clear HA
   simp only [laws_markInt64S.l0] at H
   by_cases c3 : x5_1 < (x0_1.length : Int)
   ·rw [if_pos c3] at H
    have c3b0 : decide (x5_1 < (x0_1.length : Int)) = true := decide_eq_true c3
    clear c3
    by_cases c4 : 0 ≤ x5_1
    ·rw [if_pos c4] at H
     have c4b0 : decide (0 ≤ x5_1) = true := decide_eq_true c4
     clear c4
     obtain ⟨y354, hy354⟩ : ∃ y_ : List Int, y_ = (x0_1.set (x5_1 : Int).toNat x1_1) := ⟨_, rfl⟩
     replace H : (laws_markInt64S.l0 k1 y354 (wrap64 (x1_1 + 1)) (wrap64 (x5_1 + 1))) = some (r1, r2) := by first | (rw [hy354]; with_reducible exact H) | (have H2_ := (Option.bind_some _ _).symm.trans H; rw [hy354]; with_reducible exact H2_) | (have H2_ := (Option.bind_some _ _).symm.trans H; with_reducible exact H2_) | with_reducible exact H | (rw [hy354]; exact H) | exact H
     have Ny354 := Aside0.mk hy354
     clear hy354
     have H' := Aside0.mk H
     clear H
     obtain ⟨Ao6, co6, eo6⟩ := Kd.R_slice HO_0.out
     subst eo6
     have p5 : 0 ≤ (x5_1 : Int) := of_decide_eq_true zq
     have q5 : (x5_1 : Int) < ((x0_1.length : Int) : Int) := of_decide_eq_true zq
     obtain ⟨go5, co5, eo5, gb5, gl5, cl5, HG5⟩ := Kd.R_form HO_0.out (by omega)
     (first | cases eo5 | (injection eo5 with ea_ en_ ec_; (first | subst ea_ | (injection ea_ with ea_; subst ea_)); subst ec_; clear en_))
     have GB5 := Aside0.mk gb5
     have GG5 := Aside0.mk HG5
     clear gb5 gl5 HG5
     have HMgo5 := Aside0.mk (show (P0_ go5 ∨ w.heap.size ≤ go5) from (HO_0.out.1 _ rfl))
     obtain ⟨hx5_0, hf5_0⟩ := Kd.R_celln 0 HO_0.out (x5_1 : Int) p5 q5
     replace p5 := eq_true p5
     replace q5 := eq_true q5
     have HP7 := Kd.R_putg HO_0.out (x5_1 : Int) x1_1
     go_wp2_with (first | ((with_reducible refine gate_store (t := 2) (p := 15) rfl ?_); refine store_event (t := 2) (p := 15) (v := ?vo_w8) (w1 := (wr.setCell ⟨go5, (x5_1 : Int).toNat, none⟩ (.int .i64 x1_1))) ?hg ?ho ?hn ?hr ?_; (case ho => rfl); (case hg => rfl); (case hn => rfl); (case hr => first | (go_simp; done) | (go_simp; rfl)); intro w8 hw; have hg : wr.grownBy w8 (some go5) := (by rw [hw]; exact HP7.2); have hp_ : Kd.R (Kd.int .i64) 2 w8 w0.heap.size (fun k_ => (P0_ k_ ∨ w.heap.size ≤ k_)) (.slice (some ⟨go5, 0, none⟩) x0_1.length co6) y354 := (by rw [hw, Ny354.out]; exact HP7.1); clear HP7; have n0_ := Aside0.mk (hp_); have n1_ := Aside0.mk ((by rw [hw]; exact below_set (HB.out) GB5.out : Below w0.heap.size w0 w8)); have n2_ := Aside0.mk (Kept.of_grown (S := (fun k_ => P0_ k_)) hg (by repeat (first | (with_reducible first | exact HK.out | apply Kept.alloc | apply Kept.drewN | apply Kept.drew) | exact HK.out)) (fun k_ e_ => (HO_0.out.1 k_ e_))); clear HO_0; clear HB; clear HK; have HO_0 := n0_; have HB := n1_; have HK := n2_; clear n0_ n1_ n2_; clear hg hw hp_))
     go_roundg k1
     case measure => have := HK1.out; omega
     case rel => exact ⟨(y354), (wrap64 (x1_1 + 1)), (wrap64 (x5_1 + 1)), zt, zt, H', ⟨by have := HK1.out; omega⟩, ⟨zr HO_0.out⟩, ⟨by repeat (first | (with_reducible first | exact HK.out | apply Kept.alloc | apply Kept.drewN | apply Kept.drew) | exact HK.out)⟩, ⟨zb0 HB.out⟩⟩
    ·rw [if_neg c4] at H
     exact absurd H (by simp)
   ·rw [if_neg c3] at H
    have c3b0 : decide (x5_1 < (x0_1.length : Int)) = false := decide_eq_false c3
    clear c3
    simp only [Option.some.injEq, Prod.mk.injEq] at H
    obtain ⟨rfl, rfl⟩ := H
    obtain ⟨Ao9, co9, eo9⟩ := Kd.R_slice HO_0.out
    subst eo9
    go_wp2
    go_ret
    exact ⟨ze, by (with_reducible repeat (first | apply Kd.R_alloc | apply Kd.R_drewN | apply Kd.R_drew)); exact HO_0.out, zb0 HB.out, by repeat (first | (with_reducible first | exact HK.out | apply Kept.alloc | apply Kept.drewN | apply Kept.drew) | exact HK.out)⟩
def laws_heldInt64S.l0 : Nat → List Int → Int → Int → Option (Int)
  | 0, _, _, _ => none
  | k + 1, x0, x1, x5 => if x5 < (x0.length : Int) then (if 0 ≤ x5 then (if (rd x0 x5) = x1 then (laws_heldInt64S.l0 k x0 (wrap64 (x1 + 1)) (wrap64 (x5 + 1))) else (some (-1))) else (none)) else (some x1)
def laws_heldInt64S.f (k : Nat) (l0 : List Int) (a1 : Int) : Option (Int) := laws_heldInt64S.l0 k l0 a1 0
set_option maxHeartbeats 8000000 in
set_option maxRecDepth 100000 in
theorem laws_heldInt64S.calls (k : Nat) (A0 : Option Addr) (c0 : Nat) (l0 : List Int) (a1 : Int) (r : Int) (w : World) (hr0 : Kd.C (Kd.int .i64) w A0 l0.length l0) (hc0 : l0.length ≤ c0) (h : laws_heldInt64S.f k l0 a1 = some r) :
  Calls Try.prog 79 #[.slice A0 l0.length c0, .int .i64 a1] w fun e w' => e = .returned (.int .i64 r) ∧ Drawn0 w w' := by
 have HR0 := Aside0.mk hr0
 have HC0 := Aside0.mk hc0
 clear hr0 hc0
 have H : (laws_heldInt64S.l0 k l0 a1 0) = some r := h
 clear h
 have H' := Aside0.mk H
 clear H
 go_enter Try.func79, Try.ntmps79
 go_wp2
 go_loopg [1, 5] k (fun kq v1 v5 w' => ∃ (x1_1 : Int) (x5_1 : Int), v1 = .int .i64 x1_1 ∧ v5 = .int .i64 x5_1 ∧ Aside0 (laws_heldInt64S.l0 kq l0 x1_1 x5_1 = some r) ∧ Aside0 (kq ≤ k) ∧ Drawn0 w w')
 case atStart => exact ⟨(a1), (0), zt, zt, H', ⟨Nat.le_refl _⟩, by repeat (first | exact Drawn0.refl _ | apply Drawn0.step)⟩
 case round =>
  clear H'
  obtain ⟨x1_1, x5_1, rfl, rfl, HA, HK1, ⟨m1, rfl⟩⟩ := hrel
  cases gk with
  | zero => exact absurd HA.out (by simp [laws_heldInt64S.l0])
  | succ k1 =>
   have H := HA.out
   clear HA
   simp only [laws_heldInt64S.l0] at H
   by_cases c3 : x5_1 < (l0.length : Int)
   ·rw [if_pos c3] at H
    have c3b0 : decide (x5_1 < (l0.length : Int)) = true := decide_eq_true c3
    clear c3
    by_cases c4 : 0 ≤ x5_1
    ·rw [if_pos c4] at H
     have c4b0 : decide (0 ≤ x5_1) = true := decide_eq_true c4
     clear c4
     by_cases c5 : (rd l0 x5_1) = x1_1
     ·rw [if_pos c5] at H
      have c5b0 : ((rd l0 x5_1) == x1_1) = true := beq_iff_eq.mpr c5
      have c5b1 : ((rd l0 x5_1) != x1_1) = false := bne_eq_false_iff_eq.mpr c5
      clear c5
      have H' := Aside0.mk H
      clear H
      have p360 : 0 ≤ (x5_1 : Int) := of_decide_eq_true zq
      have q360 : x5_1 < (l0.length : Int) := of_decide_eq_true zq
      obtain ⟨ad360, e360, hx360_0⟩ := Kd.at_int HR0.out x5_1 p360 q360
      cases e360
      replace p360 := eq_true p360
      replace q360 := eq_true q360
      go_wp2
      go_roundg k1
      case measure => have := HK1.out; omega
      case rel => exact ⟨(wrap64 (x1_1 + 1)), (wrap64 (x5_1 + 1)), zt, zt, H', ⟨by have := HK1.out; omega⟩, by repeat (first | exact Drawn0.refl _ | apply Drawn0.step)⟩
     ·rw [if_neg c5] at H
      have c5b0 : ((rd l0 x5_1) == x1_1) = false := beq_eq_false_iff_ne.mpr c5
      have c5b1 : ((rd l0 x5_1) != x1_1) = true := bne_iff_ne.mpr c5
      obtain rfl := Option.some.inj H
      have p360 : 0 ≤ (x5_1 : Int) := of_decide_eq_true zq
      have q360 : x5_1 < (l0.length : Int) := of_decide_eq_true zq
      obtain ⟨ad360, e360, hx360_0⟩ := Kd.at_int HR0.out x5_1 p360 q360
      cases e360
      replace p360 := eq_true p360
      replace q360 := eq_true q360
      go_wp2
      go_ret
      exact ⟨by first | rfl | (simp; done) | (simp [*]; done), by repeat (first | exact Drawn0.refl _ | apply Drawn0.step)⟩
    ·rw [if_neg c4] at H
     exact absurd H (by simp)
   ·rw [if_neg c3] at H
    have c3b0 : decide (x5_1 < (l0.length : Int)) = false := decide_eq_false c3
    clear c3
    obtain rfl := Option.some.inj H
    go_wp2
    go_ret
    exact ⟨by first | rfl | (simp; done) | (simp [*]; done), by repeat (first | exact Drawn0.refl _ | apply Drawn0.step)⟩
end Go.Proofs.Ytmbeijjkfmgkpaa.Q
