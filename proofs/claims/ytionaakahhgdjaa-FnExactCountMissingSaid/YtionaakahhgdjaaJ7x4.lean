/- What some functions of the program return, and plain facts on it; conditions: those that each theorem names. Part 4 of the proof. -/
import Derived.Test.YtionaakahhgdjaaJ7x3
import Derived.Test.YtionaakahhgdjaaJ7x1
import Derived.Test.YtionaakahhgdjaaJ7x2
namespace Go.Proofs.Ytionaakahhgdjaa.P
open Go.RowKit Go.Proofs.YtionaakahhgdjaaW.PrintWords Go.Proofs.YtionaakahhgdjaaW.PrintLast Go.Proofs.YtionaakahhgdjaaW.PrintMore
open Go.Proofs.Ytionaakahhgdjaa.M
set_option linter.unusedVariables false
set_option linter.unusedSimpArgs false
/- Q2 -/
theorem rd_at (l : List Int) (i : Int) : rd l i = at' l i := rfl
theorem mul_steps {x q d4 : Int} (h0 : 1 ≤ x) (h4 : 1 ≤ d4) (hq : 2 ≤ q ∧ q ≤ 4) (h1 : x * 4 * d4 ≤ 65536) : 1 ≤ x * q ∧ x * q ≤ 65536 ∧ x * q * d4 ≤ 65536 := by
  have hx4 : x * q ≤ x * 4 := Int.mul_le_mul_of_nonneg_left (by omega) (by omega)
  have hx1 : x * 1 ≤ x * q := Int.mul_le_mul_of_nonneg_left (by omega) (by omega)
  have hb : x * q * d4 ≤ x * 4 * d4 := Int.mul_le_mul_of_nonneg_right hx4 (by omega)
  have hb2 : x * q * 1 ≤ x * q * d4 := Int.mul_le_mul_of_nonneg_left h4 (by omega)
  omega
theorem sz_getD {l : List Int} (hz : Sz l) {i : Nat} (h : i < l.length) : 2 ≤ l.getD i 0 ∧ l.getD i 0 ≤ 4 := hz _ (by rw [List.getD_eq_getElem?_getD, List.getElem?_eq_getElem h]; exact List.getElem_mem _)
theorem l01N_l0 (l : List Int) (hl : l.length ≤ 8) (hz : Sz l) : ∀ (d i : Nat) (x : Int), i + d = l.length → 1 ≤ x → x * 4 ^ d ≤ 65536 → Ev (fun k => spec_l01N.l0 k x (i : Int) l) (x * pr (l.drop i)) := by
  intro d
  induction d with
  | zero =>
    intro i x hi h0 h1
    refine Ev.step (fun k => by simp only [spec_l01N.l0]; rw [if_neg (by omega)]) ?_
    rw [List.drop_of_length_le (by omega), pr_nil, Int.mul_one]
    exact Ev.now x
  | succ d ih =>
    intro i x hi h0 h1
    have hq := sz_getD hz (show i < l.length by omega)
    rw [Int.pow_succ, Int.mul_comm (4 ^ d) 4, ← Int.mul_assoc] at h1
    obtain ⟨a, b, c⟩ := mul_steps h0 (pow4 d) hq h1
    refine Ev.step (fun k => by simp only [spec_l01N.l0]; rw [if_pos (by omega), if_pos (by omega), rd_nat, wrap_id (by omega) (by omega), wrap_id (by omega) (by omega), show (i : Int) + 1 = ((i + 1 : Nat) : Int) by omega]) ?_
    rw [drop_get l i (by omega), pr_cons, ← Int.mul_assoc]
    exact ih (i + 1) _ (by omega) a c
theorem l01N_ev (l : List Int) (hl : l.length ≤ 8) (hz : Sz l) : Ev (fun k => spec_l01N.f k l) (pr l) := by
  have h := l01N_l0 l hl hz l.length 0 1 (by omega) (by omega) (pow4_8 _ hl)
  rw [List.drop_zero, Int.one_mul] at h
  exact h
theorem l01In_val (a b c : Int) : spec_l01In.f a b c = some (decide (b ≤ a ∧ a ≤ c)) := by
  unfold spec_l01In.f
  by_cases h : a ≥ b
  · rw [if_pos h]
    exact congrArg some (decide_eq_decide.2 ⟨fun x => ⟨h, x⟩, fun x => x.2⟩)
  · rw [if_neg h]
    exact congrArg some (Eq.symm (decide_eq_false (fun x => h x.1)))
theorem l01Is_l0 (l : List Int) (hl : l.length ≤ 8) : ∀ (d i : Nat), i + d = l.length → (∀ q ∈ l.take i, 2 ≤ q ∧ q ≤ 4) → Ev (fun k => spec_l01Is.l0 k (i : Int) l) (decide ((∀ q ∈ l.drop i, 2 ≤ q ∧ q ≤ 4) ∧ pr l ≤ 1024)) := by
  intro d
  induction d with
  | zero =>
    intro i hi hs
    refine Ev.step (fun k => by simp only [spec_l01Is.l0]; rw [if_neg (by omega)]) ?_
    have hz : Sz l := by rw [List.take_of_length_le (by omega)] at hs; exact hs
    refine Ev.bind (l01N_ev l hl hz) ?_
    rw [List.drop_of_length_le (by omega), show decide ((∀ q ∈ ([] : List Int), 2 ≤ q ∧ q ≤ 4) ∧ pr l ≤ 1024) = decide (pr l ≤ 1024) from decide_eq_decide.2 ⟨fun h => h.2, fun h => ⟨fun q hq => absurd hq List.not_mem_nil, h⟩⟩]
    exact Ev.now _
  | succ d ih =>
    intro i hi hs
    have hdrop := drop_get l i (show i < l.length by omega)
    by_cases c : 2 ≤ l.getD i 0 ∧ l.getD i 0 ≤ 4
    · refine Ev.step (fun k => by simp only [spec_l01Is.l0]; rw [if_pos (by omega), if_pos (by omega), rd_nat, l01In_val, decide_eq_true c, Option.bind_some, if_pos rfl, wrap_id (by omega) (by omega), show (i : Int) + 1 = ((i + 1 : Nat) : Int) by omega]) ?_
      have h := ih (i + 1) (by omega) (fun q hq => by
        rw [List.take_succ_eq_append_getElem (show i < l.length by omega)] at hq
        rcases List.mem_append.1 hq with hq | hq
        · exact hs q hq
        · rw [List.mem_singleton.1 hq]
          rw [List.getD_eq_getElem?_getD, List.getElem?_eq_getElem (show i < l.length by omega)] at c
          exact c)
      have e : ((∀ q ∈ l.drop (i + 1), 2 ≤ q ∧ q ≤ 4) ∧ pr l ≤ 1024) ↔ ((∀ q ∈ l.drop i, 2 ≤ q ∧ q ≤ 4) ∧ pr l ≤ 1024) := by
        rw [hdrop]
        refine ⟨fun h => ⟨fun q hq => ?_, h.2⟩, fun h => ⟨fun q hq => h.1 q (List.mem_cons_of_mem _ hq), h.2⟩⟩
        rcases List.mem_cons.1 hq with rfl | hq
        · exact c
        · exact h.1 q hq
      rw [← decide_eq_decide.2 e]
      exact h
    · refine Ev.step (fun k => by simp only [spec_l01Is.l0]; rw [if_pos (by omega), if_pos (by omega), rd_nat, l01In_val, decide_eq_false c, Option.bind_some, if_neg (by decide)]) ?_
      rw [decide_eq_false (fun h => c (h.1 _ (by rw [hdrop]; exact List.mem_cons_self)))]
      exact Ev.now _
theorem l01Is_ev (l : List Int) : Ev (fun k => spec_l01Is.f k l) (isSp l) := by
  unfold spec_l01Is.f isSp
  rw [l01In_val]
  by_cases c : (1 : Int) ≤ l.length ∧ (l.length : Int) ≤ 8
  · refine Ev.congr (fun k => by rw [decide_eq_true c, Option.bind_some, if_pos rfl]) ?_
    have h := l01Is_l0 l (by omega) l.length 0 (by omega) (fun q hq => absurd hq List.not_mem_nil)
    rw [List.drop_zero] at h
    rw [show decide (1 ≤ l.length ∧ l.length ≤ 8 ∧ (∀ q ∈ l, 2 ≤ q ∧ q ≤ 4) ∧ pr l ≤ 1024) = decide ((∀ q ∈ l, 2 ≤ q ∧ q ≤ 4) ∧ pr l ≤ 1024) from decide_eq_decide.2 ⟨fun h => h.2.2, fun h => ⟨by omega, by omega, h⟩⟩]
    exact h
  · refine Ev.congr (fun k => by rw [decide_eq_false c, Option.bind_some, if_neg (by decide)]) ?_
    rw [decide_eq_false (fun h => c ⟨by omega, by omega⟩)]
    exact Ev.now _
theorem l10Code_ev (l : List Int) (t : Int) : Ev (fun k => spec_l10Code.f k l t) (if isSp l = true then (if 1 ≤ t ∧ t ≤ 3 ∧ t ≤ l.length then 0 else 2) else 1) := by
  unfold spec_l10Code.f
  refine Ev.bind (l01Is_ev l) ?_
  by_cases c : isSp l = true
  · simp only [if_pos c]
    rw [l01In_val]
    by_cases c2 : 1 ≤ t ∧ t ≤ 3 ∧ t ≤ l.length
    · rw [if_pos c2, decide_eq_true (by unfold mn; split <;> omega), Option.bind_some, if_pos rfl]
      exact Ev.now _
    · rw [if_neg c2, decide_eq_false (by unfold mn; split <;> omega), Option.bind_some, if_neg (by decide)]
      exact Ev.now _
  · simp only [if_neg c]
    exact Ev.now _
theorem l10Rows_l0 (l rows : List Int) (hl : l.length ≤ 8) (hz : Sz l) (hp : pr l ≤ 1024) (hr : rows.length ≤ 140737488351232) (c : Int) : ∀ (d i : Nat), i + d = rows.length →
    Ev (fun k => spec_l10Rows.l0 k rows c (i : Int) l) (if (∀ r ∈ rows.drop i, 0 ≤ r ∧ r < pr l) then (if rows.length > 200 then 2 else c) else 2) := by
  intro d
  have hpos := pr_pos hz
  induction d with
  | zero =>
    intro i hi
    refine Ev.step (fun k => by simp only [spec_l10Rows.l0]; rw [if_neg (by omega)]) ?_
    rw [List.drop_of_length_le (by omega), if_pos (fun r hr => absurd hr List.not_mem_nil)]
    by_cases c1 : rows.length > 200
    · rw [if_pos c1, if_pos (by omega)]; exact Ev.now _
    · rw [if_neg c1, if_neg (by omega)]; exact Ev.now _
  | succ d ih =>
    intro i hi
    have hdrop := drop_get rows i (show i < rows.length by omega)
    refine Ev.step (fun k => by simp only [spec_l10Rows.l0]; rw [if_pos (by omega), if_pos (by omega), rd_nat]) ?_
    refine Ev.bind (l01N_ev l hl hz) ?_
    by_cases c1 : 0 ≤ rows.getD i 0 ∧ rows.getD i 0 ≤ pr l - 1
    · refine Ev.congr (fun k => by rw [wrap_id (x := pr l - 1) (by omega) (by omega), l01In_val, decide_eq_true c1, Option.bind_some, if_pos rfl, wrap_id (by omega) (by omega), show (i : Int) + 1 = ((i + 1 : Nat) : Int) by omega]) ?_
      have h := ih (i + 1) (by omega)
      by_cases c2 : ∀ r ∈ rows.drop (i + 1), 0 ≤ r ∧ r < pr l
      · rw [if_pos c2] at h
        rw [if_pos (fun r hr => by
          rw [hdrop] at hr
          rcases List.mem_cons.1 hr with rfl | hr
          · omega
          · exact c2 r hr)]
        exact h
      · rw [if_neg c2] at h
        rw [if_neg (fun H => c2 (fun r hr => H r (by rw [hdrop]; exact List.mem_cons_of_mem _ hr)))]
        exact h
    · refine Ev.congr (fun k => by rw [wrap_id (x := pr l - 1) (by omega) (by omega), l01In_val, decide_eq_false c1, Option.bind_some, if_neg (by decide)]) ?_
      rw [if_neg (fun H => by have := H _ (by rw [hdrop]; exact List.mem_cons_self); omega)]
      exact Ev.now _
theorem l10Rows_ev (l rows : List Int) (t : Int) (hr : rows.length ≤ 140737488351232) : Ev (fun k => spec_l10Rows.f k l rows t) (rowsCode l rows t) := by
  unfold spec_l10Rows.f rowsCode
  refine Ev.bind (l10Code_ev l t) ?_
  by_cases c : isSp l = true
  · obtain ⟨h1, h2, h3, h4⟩ := isSp_sz c
    rw [if_pos c, if_pos c]
    by_cases c4 : 1 ≤ t ∧ t ≤ 3 ∧ t ≤ l.length
    · rw [if_pos c4]
      simp only [show ¬ ((0 : Int) = 1) by decide, if_false]
      have h := l10Rows_l0 l rows h2 h3 h4 hr 0 rows.length 0 (by omega)
      rw [List.drop_zero] at h
      by_cases c3 : ∀ r ∈ rows, 0 ≤ r ∧ r < pr l
      · rw [if_pos c3] at h
        by_cases c5 : rows.length > 200
        · rw [if_pos c5] at h
          rw [if_pos (Or.inl c5)]; exact h
        · rw [if_neg c5] at h
          rw [if_neg (fun H => by rcases H with H | H | H; (· exact c5 H); (· exact H c3); (· exact H c4))]; exact h
      · rw [if_neg c3] at h
        rw [if_pos (Or.inr (Or.inl c3))]; exact h
    · rw [if_neg c4]
      simp only [show ¬ ((2 : Int) = 1) by decide, if_false]
      have h := l10Rows_l0 l rows h2 h3 h4 hr 2 rows.length 0 (by omega)
      rw [List.drop_zero, ite_self, ite_self] at h
      rw [if_pos (Or.inr (Or.inr c4))]; exact h
  · rw [if_neg c, if_neg c]
    simp only [if_true]
    exact Ev.now _
/- Q3 -/
theorem getD_01 (l : List Int) (i : Nat) (h : i < l.length) : l.getD i 0 = l.getD i 1 := by
  rw [List.getD_eq_getElem?_getD, List.getD_eq_getElem?_getD, List.getElem?_eq_getElem h]; rfl
theorem l01Digits_l0 (l : List Int) (hl : l.length ≤ 8) (hz : Sz l) (row : Int) (h0 : 0 ≤ row) (h1 : row ≤ 1000000000) : ∀ (j : Nat) (x5 : List Int), j ≤ l.length → x5.length = l.length → (∀ i, j ≤ i → i < l.length → x5.getD i 0 = dgAt l row i) →
    Ev (fun k => spec_l01Digits.l0 k (row / pr (l.drop j)) x5 ((j : Int) - 1) l) (dgs l row) := by
  intro j
  induction j with
  | zero =>
    intro x5 _ hlen hx
    refine Ev.step (fun k => by simp only [spec_l01Digits.l0]; rw [if_neg (by omega)]) ?_
    have e : x5 = dgs l row := by
      refine List.ext_getElem (by rw [hlen, dgs_length]) (fun i h2 h3 => ?_)
      have h4 := hx i (by omega) (by omega)
      rw [List.getD_eq_getElem?_getD, List.getElem?_eq_getElem h2] at h4
      have h5 : (dgs l row)[i] = dgAt l row i := by simp [dgs]
      rw [h5]
      exact h4
    rw [e]
    exact Ev.now _
  | succ j ih =>
    intro x5 hj hlen hx
    have hq := sz_getD hz (show j < l.length by omega)
    have hd := div_range hz row h0 (j + 1)
    have hm1 := Int.emod_nonneg (row / pr (l.drop (j + 1))) (show l.getD j 0 ≠ 0 by omega)
    have hdd := div_range hz row h0 j
    have hst := div_step hz row j (by omega)
    rw [← getD_01 l j (by omega)] at hst
    refine Ev.step (fun k => by
      simp only [spec_l01Digits.l0]
      rw [if_pos (by omega), if_pos (by omega), if_pos (by omega), show ((j + 1 : Nat) : Int) - 1 = (j : Int) by omega, rd_nat, if_neg (by omega), if_pos (by omega), Int.tdiv_eq_ediv_of_nonneg hd.1, Int.tmod_eq_emod_of_nonneg hd.1, hst, wrap_id (by omega) (by omega), wrap_id (by omega) (by omega)]) ?_
    refine ih _ (by omega) (by rw [List.length_set]; exact hlen) (fun i h2 h3 => ?_)
    rw [List.getD_eq_getElem?_getD, List.getElem?_set, show ((j : Int)).toNat = j by omega]
    by_cases c : j = i
    · rw [if_pos c, if_pos (by omega), ← c]
      unfold dgAt
      rw [if_pos (by omega), ← getD_01 l j (by omega)]; rfl
    · rw [if_neg c, ← List.getD_eq_getElem?_getD]
      exact hx i (by omega) h3
theorem l01Digits_ev (l : List Int) (hl : l.length ≤ 8) (hz : Sz l) (row : Int) (h0 : 0 ≤ row) (h1 : row ≤ 1000000000) : Ev (fun k => spec_l01Digits.f k l row) (dgs l row) := by
  unfold spec_l01Digits.f
  refine Ev.congr (fun k => by rw [if_pos (by omega), if_pos (by omega), wrap_id (by omega) (by omega)]) ?_
  have h := l01Digits_l0 l hl hz row h0 h1 l.length (List.replicate ((l.length : Int)).toNat 0) (by omega) (by rw [List.length_replicate]; omega) (fun i h2 h3 => by omega)
  rw [List.drop_of_length_le (Nat.le_refl _), pr_nil, Int.ediv_one] at h
  exact h
/-- A choice whose places are places of so many digits. -/
def Ch (n : Nat) (c : List Int) : Prop := c.length ≤ 1000 ∧ ∀ i : Nat, i < c.length / 2 → 0 ≤ at' c i ∧ at' c i < n
theorem l10Has_l0 (dg c : List Int) (hc : Ch dg.length c) : ∀ (d i : Nat) (b : Bool), i + d = c.length / 2 → (b = true ↔ ∀ j : Nat, i ≤ j → j < c.length / 2 → at' dg (at' c j) = at' c ((c.length / 2 + j : Nat) : Int)) →
    Ev (fun k => spec_l10Has.l0 k dg c ((c.length / 2 : Nat) : Int) (i : Int)) b := by
  obtain ⟨hc1, hc2⟩ := hc
  intro d
  induction d with
  | zero =>
    intro i b hi hb
    refine Ev.step (fun k => by simp only [spec_l10Has.l0]; rw [if_neg (by omega)]) ?_
    rw [hb.2 (fun j h1 h2 => by omega)]
    exact Ev.now _
  | succ d ih =>
    intro i b hi hb
    have h1 := hc2 i (by omega)
    have h2 : 0 ≤ rd c (i : Int) ∧ rd c (i : Int) < dg.length := h1
    by_cases e : rd dg (rd c (i : Int)) = rd c ((c.length / 2 + i : Nat) : Int)
    · refine Ev.step (fun k => by
        simp only [spec_l10Has.l0]
        rw [if_pos (by omega), if_pos (by omega), if_pos (by omega), if_pos (by omega), if_pos (by omega), wrap_id (by omega) (by omega), if_pos (by omega), if_pos (by omega), show ((c.length / 2 : Nat) : Int) + (i : Int) = ((c.length / 2 + i : Nat) : Int) by omega, if_pos e, wrap_id (by omega) (by omega), show (i : Int) + 1 = ((i + 1 : Nat) : Int) by omega]) ?_
      refine ih (i + 1) b (by omega) (hb.trans ⟨fun H j h3 h4 => H j (by omega) h4, fun H j h3 h4 => ?_⟩)
      by_cases hj : j = i
      · rw [hj]; exact e
      · exact H j (by omega) h4
    · refine Ev.step (fun k => by
        simp only [spec_l10Has.l0]
        rw [if_pos (by omega), if_pos (by omega), if_pos (by omega), if_pos (by omega), if_pos (by omega), wrap_id (by omega) (by omega), if_pos (by omega), if_pos (by omega), show ((c.length / 2 : Nat) : Int) + (i : Int) = ((c.length / 2 + i : Nat) : Int) by omega, if_neg e]) ?_
      have : b = false := by
        cases b with
        | false => rfl
        | true => exact absurd (hb.1 rfl i (Nat.le_refl _) (by omega)) e
      rw [this]
      exact Ev.now _
theorem l10Has_ev (dg c : List Int) (hc : Ch dg.length c) : Ev (fun k => spec_l10Has.f k dg c) (hasB dg c) := by
  unfold spec_l10Has.f
  have h := l10Has_l0 dg c hc (c.length / 2) 0 (hasB dg c) (by omega) (by unfold hasB; rw [decide_eq_true_iff]; exact ⟨fun H j _ h => H j h, fun H j h => H j (Nat.zero_le _) h⟩)
  have hc1 := hc.1
  refine Ev.congr (fun k => ?_) h
  rw [show wrap64 ((c.length : Int) / 2) = ((c.length / 2 : Nat) : Int) by rw [wrap_id (by omega) (by omega)]; omega]
  rfl
theorem rd_L1_nat (xs : List (List Int)) (i : Nat) : rd_L1 xs (i : Int) = xs.getD i [] := rfl
theorem dropL (xs : List (List Int)) (i : Nat) (h : i < xs.length) : xs.drop i = xs.getD i [] :: xs.drop (i + 1) := by
  rw [List.drop_eq_getElem_cons h, List.getD_eq_getElem?_getD, List.getElem?_eq_getElem h]; rfl
theorem memL (xs : List (List Int)) (i : Nat) (h : i < xs.length) : xs.getD i [] ∈ xs := by
  rw [List.getD_eq_getElem?_getD, List.getElem?_eq_getElem h]; exact List.getElem_mem h
theorem l10Missing_l1 (l rows dg : List Int) (cs : List (List Int)) (hdg : dg.length = l.length) (hcs : ∀ c ∈ cs, Ch l.length c) (hlen : cs.length ≤ 100000) (x8 : Int) (r : List (List Int)) : ∀ (d i : Nat) (acc : List (List Int)), i + d = cs.length → acc.length + d ≤ 100000 →
    Ev (fun k => spec_l10Missing.l0 k rows (acc ++ (cs.drop i).filter (fun c => !hasB dg c)) (wrap64 (x8 + 1)) l) r →
    Ev (fun k => spec_l10Missing.l1 k rows cs x8 dg acc (i : Int) l) r := by
  intro d
  induction d with
  | zero =>
    intro i acc hi ha h
    refine Ev.step (fun k => by simp only [spec_l10Missing.l1]; rw [if_neg (by omega)]) ?_
    rw [List.drop_of_length_le (by omega), List.filter_nil, List.append_nil] at h
    exact h
  | succ d ih =>
    intro i acc hi ha h
    rw [dropL cs i (by omega), List.filter_cons] at h
    refine Ev.step (fun k => by simp only [spec_l10Missing.l1]; rw [if_pos (by omega), if_pos (by omega), rd_L1_nat]) ?_
    refine Ev.bind (l10Has_ev dg (cs.getD i []) (by rw [hdg]; exact hcs _ (memL cs i (by omega)))) ?_
    cases hb : hasB dg (cs.getD i []) with
    | true =>
      rw [hb] at h
      simp only [if_true]
      refine Ev.congr (fun k => by rw [wrap_id (by omega) (by omega), show (i : Int) + 1 = ((i + 1 : Nat) : Int) by omega]) ?_
      exact ih (i + 1) acc (by omega) (by omega) h
    | false =>
      rw [hb] at h
      simp only [Bool.false_eq_true, if_false]
      refine Ev.congr (fun k => by rw [if_pos (by omega), wrap_id (by omega) (by omega), show (i : Int) + 1 = ((i + 1 : Nat) : Int) by omega]) ?_
      refine ih (i + 1) _ (by omega) (by rw [List.length_append, List.length_singleton]; omega) ?_
      rw [List.append_assoc]
      exact h
theorem missing_cons (l : List Int) (cs : List (List Int)) (r : Int) (rows : List Int) : missing l cs (r :: rows) = missing l (cs.filter (fun c => !hasB (dgs l r) c)) rows := by
  unfold missing
  rw [List.filter_filter]
  refine List.filter_congr fun c _ => ?_
  rw [List.all_cons, Bool.and_comm]
theorem l10Missing_l0 (l : List Int) (hl : l.length ≤ 8) (hz : Sz l) (rows : List Int) (hr : ∀ r ∈ rows, 0 ≤ r ∧ r ≤ 1000000000) (hrl : rows.length ≤ 140737488351232) : ∀ (d i : Nat) (cs : List (List Int)), i + d = rows.length → (∀ c ∈ cs, Ch l.length c) → cs.length ≤ 100000 →
    Ev (fun k => spec_l10Missing.l0 k rows cs (i : Int) l) (missing l cs (rows.drop i)) := by
  intro d
  induction d with
  | zero =>
    intro i cs hi hcs hlen
    refine Ev.step (fun k => by simp only [spec_l10Missing.l0]; rw [if_neg (by omega)]) ?_
    rw [List.drop_of_length_le (by omega), missing_nil]
    exact Ev.now _
  | succ d ih =>
    intro i cs hi hcs hlen
    have hx : 0 ≤ rows.getD i 0 ∧ rows.getD i 0 ≤ 1000000000 := hr _ (by rw [List.getD_eq_getElem?_getD, List.getElem?_eq_getElem (show i < rows.length by omega)]; exact List.getElem_mem _)
    refine Ev.step (fun k => by simp only [spec_l10Missing.l0]; rw [if_pos (by omega), if_pos (by omega), rd_nat]) ?_
    refine Ev.bind (l01Digits_ev l hl hz _ hx.1 hx.2) ?_
    refine l10Missing_l1 l rows (dgs l (rows.getD i 0)) cs (dgs_length _ _) hcs hlen (i : Int) _ cs.length 0 [] (by omega) (by simp; omega) ?_
    rw [List.drop_zero, List.nil_append, wrap_id (by omega) (by omega), show (i : Int) + 1 = ((i + 1 : Nat) : Int) by omega, drop_get rows i (by omega), missing_cons]
    exact ih (i + 1) _ (by omega) (fun c hc => hcs c (List.mem_filter.1 hc).1) (Nat.le_trans (List.length_filter_le _ _) hlen)
theorem l10Missing_ev (l : List Int) (hl : l.length ≤ 8) (hz : Sz l) (rows : List Int) (hr : ∀ r ∈ rows, 0 ≤ r ∧ r ≤ 1000000000) (hrl : rows.length ≤ 140737488351232) (cs : List (List Int)) (hcs : ∀ c ∈ cs, Ch l.length c) (hlen : cs.length ≤ 100000) :
    Ev (fun k => spec_l10Missing.f k l cs rows) (missing l cs rows) := l10Missing_l0 l hl hz rows hr hrl rows.length 0 cs (by omega) hcs hlen
theorem l01Own_val (l : List Int) (h : l.length < 17592186044416) : spec_l01Own.f l = some l := by
  unfold spec_l01Own.f
  rw [Option.bind_some, if_pos (by simpa using h), List.nil_append]
theorem l10Places_l1 (l : List Int) (x2 : Int) (i : Nat) (hi : i ≤ 100) (T : List (List Int)) (hT : ∀ t ∈ T, t.length ≤ 1000) (hTl : T.length ≤ 100000) (r : List (List Int)) : ∀ (d m : Nat) (acc : List (List Int)), m + d = T.length → acc.length + d ≤ 100000 →
    Ev (fun k => spec_l10Places.l0 k x2 (acc ++ (T.drop m).map (fun r => (i : Int) :: r)) ((i + 1 : Nat) : Int) l) r →
    Ev (fun k => spec_l10Places.l1 k x2 acc (i : Int) T (m : Int) l) r := by
  intro d
  induction d with
  | zero =>
    intro m acc hm ha h
    refine Ev.step (fun k => by simp only [spec_l10Places.l1]; rw [if_neg (by omega), wrap_id (by omega) (by omega), show (i : Int) + 1 = ((i + 1 : Nat) : Int) by omega]) ?_
    rw [List.drop_of_length_le (by omega), List.map_nil, List.append_nil] at h
    exact h
  | succ d ih =>
    intro m acc hm ha h
    rw [dropL T m (by omega), List.map_cons] at h
    have h1 := hT _ (memL T m (by omega))
    refine Ev.step (fun k => by simp only [spec_l10Places.l1]; rw [if_pos (by omega), Option.bind_some, if_pos (by omega), rd_L1_nat, if_pos (by simp only [List.length_singleton]; omega), if_pos (by omega), wrap_id (by omega) (by omega), show (m : Int) + 1 = ((m + 1 : Nat) : Int) by omega]) ?_
    refine ih (m + 1) _ (by omega) (by rw [List.length_append, List.length_singleton]; omega) ?_
    rw [List.append_assoc]
    exact h
theorem l10Places_ev (l : List Int) (hl : l.length ≤ 8) : ∀ (d b : Nat), d ≤ 3 → b ≤ l.length → Ev (fun k => spec_l10Places.f k l (b : Int) (d : Int)) (places l.length d b) := by
  intro d
  induction d with
  | zero =>
    intro b _ hb
    refine Ev.step (fun k => by simp only [spec_l10Places.f]; rw [if_pos (by omega)]) ?_
    exact Ev.now _
  | succ d ih =>
    intro b hd hb
    have L : ∀ (e i : Nat) (acc : List (List Int)), i + e = l.length → acc.length + 512 * e ≤ 10000 → Ev (fun k => spec_l10Places.l0 k ((d + 1 : Nat) : Int) acc (i : Int) l) (acc ++ run (fun i => (places l.length d (i + 1)).map (fun r => i :: r)) (i : Int) e) := by
      intro e
      induction e with
      | zero =>
        intro i acc hi ha
        refine Ev.step (fun k => by simp only [spec_l10Places.l0]; rw [if_neg (by omega)]) ?_
        rw [show run (fun i => (places l.length d (i + 1)).map (fun r => i :: r)) (i : Int) 0 = [] from rfl, List.append_nil]
        exact Ev.now _
      | succ e ih2 =>
        intro i acc hi ha
        refine Ev.step (fun k => by simp only [spec_l10Places.l0]; rw [if_pos (by omega), wrap_id (by omega) (by omega), wrap_id (by omega) (by omega), show (i : Int) + 1 = ((i + 1 : Nat) : Int) by omega, show ((d + 1 : Nat) : Int) - 1 = (d : Int) by omega]) ?_
        refine Ev.bind (ih (i + 1) (by omega) (by omega)) ?_
        have h8 := places_len l.length hl d ((i + 1 : Nat) : Int) (by omega)
        have h9 : 8 ^ d ≤ 8 ^ 3 := Nat.pow_le_pow_right (by decide) (by omega)
        have h10 : (8 : Nat) ^ 3 = 512 := rfl
        refine l10Places_l1 l _ i (by omega) _ (fun t ht => by have := places_each l.length d _ t ht; omega) (by omega) _ _ 0 acc (Nat.zero_add _) (by omega) ?_
        have h := ih2 (i + 1) (acc ++ (places l.length d ((i + 1 : Nat) : Int)).map (fun r => (i : Int) :: r)) (by omega) (by rw [List.length_append, List.length_map]; omega)
        rw [List.drop_zero]
        rw [List.append_assoc] at h
        exact h
    refine Ev.step (fun k => by simp only [spec_l10Places.f]; rw [if_neg (by omega)]) ?_
    have h := L (l.length - b) b [] (by omega) (by simp; omega)
    rw [List.nil_append] at h
    show Ev _ (run (fun i => (places l.length d (i + 1)).map (fun r => i :: r)) (b : Int) ((l.length : Int) - b).toNat)
    rw [show ((l.length : Int) - (b : Int)).toNat = l.length - b by omega]
    exact h
/- Q4 -/
theorem l10Digits_l2 (l p : List Int) (j : Nat) (hj : j < p.length) (hp : 0 ≤ at' p j ∧ at' p j < l.length) (q : Nat) (hq : at' l (at' p j) = q) (hq4 : q ≤ 4) (cur : List (List Int)) (m : Nat) (hm : m < cur.length) (hml : cur.length ≤ 100000) (hc : (cur.getD m []).length ≤ 1000) (r : List (List Int)) :
    ∀ (e v : Nat) (new : List (List Int)), v + e = q → new.length + e ≤ 1000000 →
    Ev (fun k => spec_l10Digits.l1 k p cur (j : Int) (new ++ (List.range' v e).map (fun (v : Nat) => cur.getD m [] ++ [(v : Int)])) ((m + 1 : Nat) : Int) l) r →
    Ev (fun k => spec_l10Digits.l2 k p cur (j : Int) new (m : Int) (v : Int) l) r := by
  have hp' : 0 ≤ rd p (j : Int) ∧ rd p (j : Int) < l.length := hp
  have hq' : rd l (rd p (j : Int)) = q := hq
  intro e
  induction e with
  | zero =>
    intro v new hv hn h
    refine Ev.step (fun k => by simp only [spec_l10Digits.l2]; rw [if_pos (by omega), if_pos (by omega), if_pos (by omega), if_pos (by omega), if_neg (by omega), wrap_id (by omega) (by omega), show (m : Int) + 1 = ((m + 1 : Nat) : Int) by omega]) ?_
    rw [List.range'_zero, List.map_nil, List.append_nil] at h
    exact h
  | succ e ih =>
    intro v new hv hn h
    rw [List.range'_succ, List.map_cons] at h
    refine Ev.step (fun k => by simp only [spec_l10Digits.l2]; rw [if_pos (by omega), if_pos (by omega), if_pos (by omega), if_pos (by omega), if_pos (by omega), if_pos (by omega), if_pos (by omega), rd_L1_nat, l01Own_val _ (by omega), Option.bind_some, if_pos (by omega), if_pos (by omega), wrap_id (by omega) (by omega), show (v : Int) + 1 = ((v + 1 : Nat) : Int) by omega]) ?_
    refine ih (v + 1) _ (by omega) (by rw [List.length_append, List.length_singleton]; omega) ?_
    rw [List.append_assoc]
    exact h
/-- One place more. -/
def digStep (l : List Int) (cur : List (List Int)) (i : Int) : List (List Int) := cur.flatMap (fun c => (List.range (at' l i).toNat).map (fun (v : Nat) => c ++ [(v : Int)]))
theorem digStep_cons (l : List Int) (c : List Int) (cur : List (List Int)) (i : Int) : digStep l (c :: cur) i = (List.range (at' l i).toNat).map (fun (v : Nat) => c ++ [(v : Int)]) ++ digStep l cur i := by unfold digStep; rw [List.flatMap_cons]
theorem digStep_len (l : List Int) (i : Int) (h : at' l i ≤ 4) : ∀ cur : List (List Int), (digStep l cur i).length ≤ 4 * cur.length
  | [] => Nat.le_refl 0
  | c :: cur => by
    have := digStep_len l i h cur
    rw [digStep_cons, List.length_append, List.length_map, List.length_range, List.length_cons]
    omega
theorem digStep_each (l : List Int) (i : Int) (n : Nat) (cur : List (List Int)) (h : ∀ c ∈ cur, c.length ≤ n) : ∀ c ∈ digStep l cur i, c.length ≤ n + 1 := by
  intro c hc
  obtain ⟨d, hd, hc⟩ := List.mem_flatMap.1 hc
  obtain ⟨v, _, rfl⟩ := List.mem_map.1 hc
  have := h d hd
  rw [List.length_append, List.length_singleton]
  omega
theorem l10Digits_l1 (l p : List Int) (hz : Sz l) (j : Nat) (hj : j < p.length) (hjl : j ≤ 100) (hp : 0 ≤ at' p j ∧ at' p j < l.length) (cur : List (List Int)) (hml : cur.length ≤ 100000) (hc : ∀ c ∈ cur, c.length ≤ 1000) (r : List (List Int)) :
    ∀ (e m : Nat) (new : List (List Int)), m + e = cur.length → new.length + 4 * e ≤ 1000000 →
    Ev (fun k => spec_l10Digits.l0 k p (new ++ digStep l (cur.drop m) (at' p j)) ((j + 1 : Nat) : Int) l) r →
    Ev (fun k => spec_l10Digits.l1 k p cur (j : Int) new (m : Int) l) r := by
  have hq := at_range hz hp.1 hp.2
  intro e
  induction e with
  | zero =>
    intro m new hm hn h
    refine Ev.step (fun k => by simp only [spec_l10Digits.l1]; rw [if_neg (by omega), wrap_id (by omega) (by omega), show (j : Int) + 1 = ((j + 1 : Nat) : Int) by omega]) ?_
    rw [List.drop_of_length_le (by omega), show digStep l [] (at' p j) = [] from rfl, List.append_nil] at h
    exact h
  | succ e ih =>
    intro m new hm hn h
    rw [dropL cur m (by omega), digStep_cons] at h
    refine Ev.step (fun k => by simp only [spec_l10Digits.l1]; rw [if_pos (by omega)]) ?_
    refine l10Digits_l2 l p j hj hp (at' l (at' p j)).toNat (by omega) (by omega) cur m (by omega) hml (hc _ (memL cur m (by omega))) r (at' l (at' p j)).toNat 0 new (by omega) (by omega) ?_
    refine ih (m + 1) _ (by omega) (by rw [List.length_append, List.length_map, List.length_range']; omega) ?_
    rw [List.append_assoc, ← List.range_eq_range']
    exact h
theorem l10Digits_l0 (l p : List Int) (hz : Sz l) (hpl : Pl l p) : ∀ (e j : Nat) (cur : List (List Int)), j + e = p.length → cur.length * 4 ^ e ≤ 64 → (∀ c ∈ cur, c.length ≤ j) →
    Ev (fun k => spec_l10Digits.l0 k p cur (j : Int) l) ((p.drop j).foldl (digStep l) cur) := by
  obtain ⟨hp3, hpi⟩ := hpl
  intro e
  induction e with
  | zero =>
    intro j cur hj h4 hc
    refine Ev.step (fun k => by simp only [spec_l10Digits.l0]; rw [if_neg (by omega)]) ?_
    rw [List.drop_of_length_le (by omega)]
    exact Ev.now _
  | succ e ih =>
    intro j cur hj h4 hc
    have hp : 0 ≤ at' p j ∧ at' p j < l.length := hpi _ (by show p.getD j 0 ∈ p; rw [List.getD_eq_getElem?_getD, List.getElem?_eq_getElem (show j < p.length by omega)]; exact List.getElem_mem _)
    have hq := at_range hz hp.1 hp.2
    have h5 : 1 ≤ 4 ^ e := Nat.pow_pos (by decide)
    rw [Nat.pow_succ, Nat.mul_comm (4 ^ e) 4, ← Nat.mul_assoc] at h4
    have h6 : cur.length * 4 * 1 ≤ cur.length * 4 * 4 ^ e := Nat.mul_le_mul_left _ h5
    refine Ev.step (fun k => by simp only [spec_l10Digits.l0]; rw [if_pos (by omega)]) ?_
    refine l10Digits_l1 l p hz j (by omega) (by omega) hp cur (by omega) (fun c h => by have := hc c h; omega) _ cur.length 0 [] (by omega) (by simp; omega) ?_
    rw [List.drop_zero, List.nil_append, drop_get p j (by omega), List.foldl_cons]
    have h7 := digStep_len l (at' p j) (by omega) cur
    have h8 : (digStep l cur (at' p j)).length * 4 ^ e ≤ 4 * cur.length * 4 ^ e := Nat.mul_le_mul_right _ h7
    rw [Nat.mul_comm 4 cur.length] at h8
    exact ih (j + 1) _ (by omega) (by omega) (digStep_each l (at' p j) j cur hc)
theorem l10Digits_ev (l p : List Int) (hz : Sz l) (hpl : Pl l p) : Ev (fun k => spec_l10Digits.f k l p) (digs l p) := by
  have h4 : 1 * 4 ^ p.length ≤ 64 := by
    have h3 := hpl.1
    generalize p.length = n at h3
    rcases n with _|_|_|_|n <;> first | decide | omega
  exact l10Digits_l0 l p hz hpl p.length 0 [[]] (by omega) h4 (fun c hc => by rw [List.mem_singleton.1 hc]; exact Nat.le_refl 0)
theorem digs_each {l : List Int} (hl : Sz l) {p : List Int} (hp : Pl l p) : ∀ d ∈ digs l p, d.length = p.length := by
  intro d hd
  rw [digs_eq hl p hp.2] at hd
  obtain ⟨v, _, rfl⟩ := List.mem_map.1 hd
  exact dec_length _ _ _
theorem l10All_l1 (l : List Int) (P : List (List Int)) (i : Nat) (hi : i < P.length) (hil : P.length ≤ 100000) (hpi : (P.getD i []).length ≤ 1000) (D : List (List Int)) (hD : ∀ d ∈ D, d.length ≤ 1000) (hDl : D.length ≤ 1000) (r : List (List Int)) :
    ∀ (e m : Nat) (acc : List (List Int)), m + e = D.length → acc.length + e ≤ 1000000 →
    Ev (fun k => spec_l10All.l0 k P (acc ++ (D.drop m).map (fun d => P.getD i [] ++ d)) ((i + 1 : Nat) : Int) l) r →
    Ev (fun k => spec_l10All.l1 k P acc (i : Int) D (m : Int) l) r := by
  intro e
  induction e with
  | zero =>
    intro m acc hm ha h
    refine Ev.step (fun k => by simp only [spec_l10All.l1]; rw [if_neg (by omega), wrap_id (by omega) (by omega), show (i : Int) + 1 = ((i + 1 : Nat) : Int) by omega]) ?_
    rw [List.drop_of_length_le (by omega), List.map_nil, List.append_nil] at h
    exact h
  | succ e ih =>
    intro m acc hm ha h
    rw [dropL D m (by omega), List.map_cons] at h
    have h1 := hD _ (memL D m (by omega))
    refine Ev.step (fun k => by simp only [spec_l10All.l1]; rw [if_pos (by omega), if_pos (by omega), if_pos (by omega), rd_L1_nat, rd_L1_nat, l01Own_val _ (by omega), Option.bind_some, if_pos (by omega), if_pos (by omega), if_pos (by omega), wrap_id (by omega) (by omega), show (m : Int) + 1 = ((m + 1 : Nat) : Int) by omega]) ?_
    refine ih (m + 1) _ (by omega) (by rw [List.length_append, List.length_singleton]; omega) ?_
    rw [List.append_assoc]
    exact h
theorem l10All_l0 (l : List Int) (hz : Sz l) (P : List (List Int)) (hP : ∀ p ∈ P, Pl l p) (hPl : P.length ≤ 512) : ∀ (e i : Nat) (acc : List (List Int)), i + e = P.length → acc.length + 64 * e ≤ 100000 →
    Ev (fun k => spec_l10All.l0 k P acc (i : Int) l) (acc ++ allC l (P.drop i)) := by
  intro e
  induction e with
  | zero =>
    intro i acc hi ha
    refine Ev.step (fun k => by simp only [spec_l10All.l0]; rw [if_neg (by omega)]) ?_
    rw [List.drop_of_length_le (by omega), show allC l [] = [] from rfl, List.append_nil]
    exact Ev.now _
  | succ e ih =>
    intro i acc hi ha
    have hp := hP _ (memL P i (by omega))
    have h1 := digs_len hz hp
    have h2 := szp_range hz hp (P.getD i []).length
    rw [List.take_length] at h2
    have h3 := hp.1
    refine Ev.step (fun k => by simp only [spec_l10All.l0]; rw [if_pos (by omega), if_pos (by omega), rd_L1_nat]) ?_
    refine Ev.bind (l10Digits_ev l _ hz hp) ?_
    refine l10All_l1 l P i (by omega) (by omega) (by omega) _ (fun d hd => by have := digs_each hz hp d hd; omega) (by omega) _ _ 0 acc (Nat.zero_add _) (by omega) ?_
    have h := ih (i + 1) (acc ++ (digs l (P.getD i [])).map (fun d => P.getD i [] ++ d)) (by omega) (by rw [List.length_append, List.length_map]; omega)
    rw [List.drop_zero, dropL P i (by omega), allC_cons, ← List.append_assoc]
    exact h
theorem places_pl (l : List Int) (t : Nat) (ht : t ≤ 3) : ∀ p ∈ places l.length t 0, Pl l p := by rw [← ext_nil]; exact ext_pl l.length t l rfl ht
theorem places_512 (l : List Int) (hl : l.length ≤ 8) (t : Nat) (ht : t ≤ 3) : (places l.length t 0).length ≤ 512 := by rw [← ext_nil]; exact ext_len512 l.length t hl ht
theorem l10All_ev (l : List Int) (hl : l.length ≤ 8) (hz : Sz l) (t : Nat) (ht : t ≤ 3) : Ev (fun k => spec_l10All.f k l (t : Int)) (allC l (places l.length t 0)) := by
  have h := l10All_l0 l hz (places l.length t 0) (places_pl l t ht) (places_512 l hl t ht) (places l.length t 0).length 0 [] (Nat.zero_add _) (by have := places_512 l hl t ht; simp; omega)
  rw [List.drop_zero, List.nil_append] at h
  exact Ev.bind (l10Places_ev l hl t 0 ht (Nat.zero_le _)) h
theorem allC_ch (l : List Int) (hz : Sz l) (P : List (List Int)) (hP : ∀ p ∈ P, Pl l p) : ∀ c ∈ allC l P, Ch l.length c := by
  intro c hc
  obtain ⟨p, hp, hc⟩ := List.mem_flatMap.1 hc
  obtain ⟨d, hd, rfl⟩ := List.mem_map.1 hc
  have h1 := digs_each hz (hP p hp) d hd
  have h2 := (hP p hp).1
  refine ⟨by rw [List.length_append]; omega, fun i hi => ?_⟩
  have h3 : i < p.length := by rw [List.length_append] at hi; omega
  rw [at_left p d i h3]
  exact (hP p hp).2 _ (List.getElem_mem h3)
theorem allC_le (l : List Int) (hl : l.length ≤ 8) (hz : Sz l) (t : Nat) (ht : t ≤ 3) : (allC l (places l.length t 0)).length ≤ 100000 := by
  have h1 := allC_len hz (places l.length t 0) 0 (places_pl l t ht)
  have h2 := tot_le_max hz (places_pl l t ht) (places_512 l hl t ht)
  omega
/-- The greatest number of places up to t with nothing missing. -/
def down (l rows : List Int) : Nat → Int
  | 0 => 0
  | t + 1 => if 0 ∈ often l rows (t + 1) then down l rows t else ((t + 1 : Nat) : Int)
theorem best_succ (l rows : List Int) : ∀ (d t : Nat) (b : Int), best l rows (d + 1) t b = if 0 ∈ often l rows (t + d) then best l rows d t b else ((t + d : Nat) : Int)
  | 0, t, b => rfl
  | d + 1, t, b => by
    have h := best_succ l rows d (t + 1) (if 0 ∈ often l rows t then b else t)
    rw [show t + 1 + d = t + (d + 1) by omega] at h
    exact h
theorem best_down (l rows : List Int) : ∀ d : Nat, best l rows d 1 0 = down l rows d
  | 0 => rfl
  | d + 1 => by
    rw [best_succ, best_down l rows d, show 1 + d = d + 1 by omega]; rfl
attribute [local go_sem] max2_int min2_int max_two min_two max_three min_three max_four min_four
/- F25 -/
def laws_markInt64S.l0 : Nat → List Int → Int → Int → Option (Int × List Int)
  | 0, _, _, _ => none
  | k + 1, x0, x1, x5 => if x5 < (x0.length : Int) then (if 0 ≤ x5 then (laws_markInt64S.l0 k (x0.set (x5 : Int).toNat x1) (wrap64 (x1 + 1)) (wrap64 (x5 + 1))) else (none)) else (some (x1, x0))
def laws_markInt64S.f (k : Nat) (l0 : List Int) (a1 : Int) : Option (Int × List Int) := laws_markInt64S.l0 k l0 a1 0
theorem laws_markInt64S.mono_l : ∀ k, (∀ y0 y1 y2, LeO (laws_markInt64S.l0 k y0 y1 y2) (laws_markInt64S.l0 (k + 1) y0 y1 y2))
  | 0 => fun _ _ _ r h => by simp [laws_markInt64S.l0] at h
  | k + 1 => by
    have ih0 := laws_markInt64S.mono_l k
    · intro y0 y1 y2
      unfold laws_markInt64S.l0
      repeat' first
      | (with_reducible exact ih0 _ _ _)
      | (with_reducible exact LeO.refl _)
      | (with_reducible exact LeO.none _)
      | (with_reducible refine LeO.ite ?_ ?_)
      | (with_reducible refine LeO.bind ?_ (fun _ => ?_))
      | exact ih0 _ _ _
      | exact LeO.none _
      | refine LeO.ite ?_ ?_
      | refine LeO.bind ?_ (fun _ => ?_)
theorem laws_markInt64S.mono : ∀ a0 a1 k, LeO (laws_markInt64S.f k a0 a1) (laws_markInt64S.f (k + 1) a0 a1) := by
  intro a0 a1 k
  have ih0 := laws_markInt64S.mono_l k
  unfold laws_markInt64S.f
  repeat' first
      | (with_reducible exact ih0 _ _ _)
      | (with_reducible exact LeO.refl _)
      | (with_reducible exact LeO.none _)
      | (with_reducible refine LeO.ite ?_ ?_)
      | (with_reducible refine LeO.bind ?_ (fun _ => ?_))
      | exact ih0 _ _ _
      | exact LeO.none _
      | refine LeO.ite ?_ ?_
      | refine LeO.bind ?_ (fun _ => ?_)
set_option maxHeartbeats 8000000 in
set_option maxRecDepth 100000 in
theorem laws_markInt64S.calls (k : Nat) (P0_ : Nat → Prop) (u9000_ : Value) (l0 : List Int) (a1 : Int) (r1 : Int) (r2 : List Int) (w0 w : World) (hB : Below w0.heap.size w0 w) (ho0 : Kd.R (Kd.int .i64) 2 w w0.heap.size P0_ u9000_ l0) (h : laws_markInt64S.f k l0 a1 = some (r1, r2)) :
    Calls Try.prog 25 #[u9000_, .int .i64 a1] w fun e w' => e = .returned (.int .i64 r1) ∧ Kd.R (Kd.int .i64) 2 w' w0.heap.size (fun k_ => (P0_ k_ ∨ w.heap.size ≤ k_)) u9000_ r2 ∧ Below w0.heap.size w0 w' ∧ Kept w w' (fun k_ => P0_ k_) := by
  have HO0 := Aside0.mk (show Kd.R (Kd.int .i64) 2 w w0.heap.size (fun k_ => (P0_ k_ ∨ w.heap.size ≤ k_)) u9000_ l0 from Kd.R_mono ho0 (fun k_ hk => (.inl hk)))
  have HK := Aside0.mk (Kept.refl w (fun k_ => P0_ k_))
  have HW0 := Aside0.mk hB.size
  have HB := Aside0.mk hB
  clear hB
  have H : (laws_markInt64S.l0 k l0 a1 0) = some (r1, r2) := h
  clear h
  have H' := Aside0.mk H
  clear H
  go_enter Try.func25, Try.ntmps25
  go_wp2
  go_loopg [1, 5] k (fun kq v1 v5 w' => ∃ (x0_1 : List Int) (x1_1 : Int) (x5_1 : Int), v1 = .int .i64 x1_1 ∧ v5 = .int .i64 x5_1 ∧ Aside0 (laws_markInt64S.l0 kq x0_1 x1_1 x5_1 = some (r1, r2)) ∧ Aside0 (kq ≤ k) ∧ Aside0 (Kd.R (Kd.int .i64) 2 w' w0.heap.size (fun k_ => (P0_ k_ ∨ w.heap.size ≤ k_)) u9000_ x0_1) ∧ Aside0 (Kept w w' (fun k_ => P0_ k_)) ∧ Aside0 (Below w0.heap.size w0 w'))
  case atStart => exact ⟨(l0), (a1), (0), (by first | rfl | (simp; done) | (simp [*]; done)), (by first | rfl | (simp; done) | (simp [*]; done)), H', ⟨Nat.le_refl _⟩, ⟨by (with_reducible repeat (first | apply Kd.R_alloc | apply Kd.R_drewN | apply Kd.R_drew)); exact HO0.out⟩, ⟨by repeat (first | (with_reducible first | exact HK.out | apply Kept.alloc | apply Kept.drewN | apply Kept.drew) | exact HK.out)⟩, ⟨by repeat (first | (with_reducible first | exact HB.out | apply below_alloc | apply pw_below_drewN | apply below_drew1) | exact HB.out)⟩⟩
  case round =>
    clear H'
    try clear c2
    try clear p2
    obtain ⟨x0_1, x1_1, x5_1, rfl, rfl, HA, HK1, HO_0, HK, HB⟩ := hrel
    cases gk with
    | zero => exact absurd HA.out (by simp [laws_markInt64S.l0])
    | succ k1 =>
      have H := HA.out
      clear HA
      simp only [laws_markInt64S.l0] at H
      by_cases c3 : x5_1 < (x0_1.length : Int)
      · rw [if_pos c3] at H
        have c3b0 : decide (x5_1 < (x0_1.length : Int)) = true := decide_eq_true c3
        clear c3
        by_cases c4 : 0 ≤ x5_1
        · rw [if_pos c4] at H
          have c4b0 : decide (0 ≤ x5_1) = true := decide_eq_true c4
          clear c4
          obtain ⟨y101, hy101⟩ : ∃ y_ : List Int, y_ = (x0_1.set (x5_1 : Int).toNat x1_1) := ⟨_, rfl⟩
          replace H : (laws_markInt64S.l0 k1 y101 (wrap64 (x1_1 + 1)) (wrap64 (x5_1 + 1))) = some (r1, r2) := by first | (rw [hy101]; with_reducible exact H) | (have H2_ := (Option.bind_some _ _).symm.trans H; rw [hy101]; with_reducible exact H2_) | (have H2_ := (Option.bind_some _ _).symm.trans H; with_reducible exact H2_) | with_reducible exact H | (rw [hy101]; exact H) | exact H
          have Ny101 := Aside0.mk hy101
          clear hy101
          have H' := Aside0.mk H
          clear H
          obtain ⟨Ao6, co6, eo6⟩ := Kd.R_slice HO_0.out
          subst eo6
          have p5 : 0 ≤ (x5_1 : Int) := of_decide_eq_true (by first | (with_reducible assumption) | assumption)
          have q5 : (x5_1 : Int) < ((x0_1.length : Int) : Int) := of_decide_eq_true (by first | (with_reducible assumption) | assumption)
          obtain ⟨go5, co5, eo5, gb5, gl5, cl5, HG5⟩ := Kd.R_form HO_0.out (by omega)
          (first | cases eo5 | (injection eo5 with ea_ en_ ec_; (first | subst ea_ | (injection ea_ with ea_; subst ea_)); subst ec_; clear en_))
          have GB5 := Aside0.mk gb5
          have GG5 := Aside0.mk HG5
          clear gb5 gl5 HG5
          have HMgo5 := Aside0.mk (show (P0_ go5 ∨ w.heap.size ≤ go5) from (HO_0.out.1 _ rfl))
          obtain ⟨hx5_0, hf5_0⟩ := Kd.R_celln 0 HO_0.out (x5_1 : Int) p5 q5
          replace p5 := eq_true p5
          replace q5 := eq_true q5
          have HP7 := Kd.R_putg HO_0.out (x5_1 : Int) x1_1
          go_wp2_with (first | ((with_reducible refine gate_store (t := 2) (p := 15) rfl ?_); refine store_event (t := 2) (p := 15) (v := ?vo_w8) (w1 := (wr.setCell ⟨go5, (x5_1 : Int).toNat, none⟩ (.int .i64 x1_1))) ?hg ?ho ?hn ?hr ?_; (case ho => rfl); (case hg => rfl); (case hn => rfl); (case hr => first | (go_simp; done) | (go_simp; rfl)); intro w8 hw; have hg : wr.grownBy w8 (some go5) := (by rw [hw]; exact HP7.2); have hp_ : Kd.R (Kd.int .i64) 2 w8 w0.heap.size (fun k_ => (P0_ k_ ∨ w.heap.size ≤ k_)) (.slice (some ⟨go5, 0, none⟩) x0_1.length co6) y101 := (by rw [hw, Ny101.out]; exact HP7.1); clear HP7; have n0_ := Aside0.mk (hp_); have n1_ := Aside0.mk ((by rw [hw]; exact below_set (HB.out) GB5.out : Below w0.heap.size w0 w8)); have n2_ := Aside0.mk (Kept.of_grown (S := (fun k_ => P0_ k_)) hg (by repeat (first | (with_reducible first | exact HK.out | apply Kept.alloc | apply Kept.drewN | apply Kept.drew) | exact HK.out)) (fun k_ e_ => (HO_0.out.1 k_ e_))); clear HO_0; clear HB; clear HK; have HO_0 := n0_; have HB := n1_; have HK := n2_; clear n0_ n1_ n2_; clear hg hw hp_))
          go_roundg k1
          case measure => have := HK1.out; omega
          case rel => exact ⟨(y101), (wrap64 (x1_1 + 1)), (wrap64 (x5_1 + 1)), (by first | rfl | (simp; done) | (simp [*]; done)), (by first | rfl | (simp; done) | (simp [*]; done)), H', ⟨by have := HK1.out; omega⟩, ⟨by (with_reducible repeat (first | apply Kd.R_alloc | apply Kd.R_drewN | apply Kd.R_drew)); exact HO_0.out⟩, ⟨by repeat (first | (with_reducible first | exact HK.out | apply Kept.alloc | apply Kept.drewN | apply Kept.drew) | exact HK.out)⟩, ⟨by repeat (first | (with_reducible first | exact HB.out | apply below_alloc | apply pw_below_drewN | apply below_drew1) | exact HB.out)⟩⟩
        · rw [if_neg c4] at H
          exact absurd H (by simp)
      · rw [if_neg c3] at H
        have c3b0 : decide (x5_1 < (x0_1.length : Int)) = false := decide_eq_false c3
        clear c3
        simp only [Option.some.injEq, Prod.mk.injEq] at H
        obtain ⟨rfl, rfl⟩ := H
        obtain ⟨Ao9, co9, eo9⟩ := Kd.R_slice HO_0.out
        subst eo9
        go_wp2
        go_ret
        exact ⟨by first | rfl | (simp [errW_none, errW_some] <;> rfl) | (simp [*, errW_none, errW_some] <;> rfl), by (with_reducible repeat (first | apply Kd.R_alloc | apply Kd.R_drewN | apply Kd.R_drew)); exact HO_0.out, by repeat (first | (with_reducible first | exact HB.out | apply below_alloc | apply pw_below_drewN | apply below_drew1) | exact HB.out), by repeat (first | (with_reducible first | exact HK.out | apply Kept.alloc | apply Kept.drewN | apply Kept.drew) | exact HK.out)⟩
/- F24 -/
def laws_markSpace.f (k : Nat) (l0_0 : List Int) (a1 : Int) : Option (Int × List Int) := (laws_markInt64S.f k l0_0 a1).bind fun bt102 => (some (bt102.1, bt102.2))
theorem laws_markSpace.mono : ∀ a0 a1 k, LeO (laws_markSpace.f k a0 a1) (laws_markSpace.f (k + 1) a0 a1) := by
  intro a0 a1 k
  unfold laws_markSpace.f
  repeat' first
      | (with_reducible exact laws_markInt64S.mono _ _ _)
      | (with_reducible exact LeO.refl _)
      | (with_reducible exact LeO.none _)
      | (with_reducible refine LeO.ite ?_ ?_)
      | (with_reducible refine LeO.bind ?_ (fun _ => ?_))
      | exact laws_markInt64S.mono _ _ _
      | exact LeO.none _
      | refine LeO.ite ?_ ?_
      | refine LeO.bind ?_ (fun _ => ?_)
set_option maxHeartbeats 8000000 in
set_option maxRecDepth 100000 in
theorem laws_markSpace.calls (k : Nat) (P0_0_ : Nat → Prop) (u9000_ : Value) (l0_0 : List Int) (a1 : Int) (r1 : Int) (r2 : List Int) (w0 w : World) (hB : Below w0.heap.size w0 w) (ho0_0 : Kd.R (Kd.int .i64) 2 w w0.heap.size P0_0_ u9000_ l0_0) (h : laws_markSpace.f k l0_0 a1 = some (r1, r2)) :
    Calls Try.prog 24 #[.agg #[u9000_], .int .i64 a1] w fun e w' => e = .returned (.int .i64 r1) ∧ Kd.R (Kd.int .i64) 2 w' w0.heap.size (fun k_ => (P0_0_ k_ ∨ w.heap.size ≤ k_)) u9000_ r2 ∧ Below w0.heap.size w0 w' ∧ Kept w w' (fun k_ => P0_0_ k_) := by
  have hu28 := Try.underlying28
  have HO0_0 := Aside0.mk (show Kd.R (Kd.int .i64) 2 w w0.heap.size (fun k_ => (P0_0_ k_ ∨ w.heap.size ≤ k_)) u9000_ l0_0 from Kd.R_mono ho0_0 (fun k_ hk => (.inl hk)))
  have HK := Aside0.mk (Kept.refl w (fun k_ => P0_0_ k_))
  have HW0 := Aside0.mk hB.size
  have HB := Aside0.mk hB
  clear hB
  have H : ((laws_markInt64S.f k l0_0 a1).bind fun bt102 => (some (bt102.1, bt102.2))) = some (r1, r2) := h
  clear h
  replace H := Option.bind_eq_some_iff.mp H
  obtain ⟨⟨t102, t103⟩, A30, H⟩ := H
  replace H : (some (t102, t103)) = some (r1, r2) := H
  have A3 := Aside0.mk A30
  clear A30
  simp only [Option.some.injEq, Prod.mk.injEq] at H
  obtain ⟨rfl, rfl⟩ := H
  obtain ⟨Ao4, co4, eo4⟩ := Kd.R_slice HO0_0.out
  subst eo4
  go_enter Try.func24, Try.ntmps24
  go_wp2_with (first | ((with_reducible refine gate_dst (N := 2) rfl ?_); refine box_event ?hg (N := 2) ?hd (cs := #[.slice Ao4 l0_0.length co4]) (t := 28) ?hr ?_; (case hd => rfl); (case hg => rfl); (case hr => first | (go_simp; done) | (go_simp; rfl)); intro gb101 hg w5 hbox hb; have n0_ := Aside0.mk (Kd.R_below (by (with_reducible repeat (first | apply Kd.R_alloc | apply Kd.R_drewN | apply Kd.R_drew)); exact HO0_0.out) hb); have n1_ := Aside0.mk (Kept.below (S := (fun k_ => P0_0_ k_)) (by repeat (first | (with_reducible first | exact HK.out | apply Kept.alloc | apply Kept.drewN | apply Kept.drew) | exact HK.out)) hb); have n2_ := Aside0.mk (below_step (by repeat (first | (with_reducible first | exact HB.out | apply below_alloc | apply pw_below_drewN | apply below_drew1) | exact HB.out)) hb); have n3_ := Aside0.mk (hbox); have n4_ := Aside0.mk ((by rw [hg]; exact (by first | exact HK.out.1 | exact (show Kept w _ (fun k_ => P0_0_ k_) from by repeat (first | (with_reducible first | exact HK.out | apply Kept.alloc | apply Kept.drewN | apply Kept.drew) | exact HK.out)).1) : w.heap.size ≤ gb101)); have n5_ := Aside0.mk ((by rw [hg]; exact (below_size (by repeat (first | (with_reducible first | exact HB.out | apply below_alloc | apply pw_below_drewN | apply below_drew1) | exact HB.out))) : w0.heap.size ≤ gb101)); clear HO0_0; clear HK; clear HB; have HO0_0 := n0_; have HK := n1_; have HB := n2_; have BK101 := n3_; have GW101 := n4_; have GE101 := n5_; clear n0_ n1_ n2_ n3_ n4_ n5_; clear hb hbox hg; have hcz6_0 : w5.cell? ⟨gb101, 0, none⟩ = some (.slice Ao4 l0_0.length co4) := (blk_cell BK101.out 0).trans rfl; have hfz6_0 := blk_frozen BK101.out 0) | ((with_reducible refine gate_callee (f := 25) rfl ?_); refine goesL_ (some 8) rfl rfl Try.func25 (by kernel_rfl) rfl #[.slice Ao4 l0_0.length co4, .int .i64 a1] rfl (by (try simp only [List.map_toArray, List.map_cons, List.map_nil]); first | done | rfl | (simp only [List.length_drop, List.length_take]; rfl)) ?_; (with_reducible refine (laws_markInt64S.calls k (fun k_ => some k_ = (.slice Ao4 l0_0.length co4 : Value).ownBlock) (.slice Ao4 l0_0.length co4) l0_0 a1 t102 t103 w0 _ ?side1 ?side2 A3.out).mono ?_); (case side1 => repeat (first | (with_reducible first | exact HB.out | apply below_alloc | apply pw_below_drewN | apply below_drew1 | refine below_set ?_ GE101.out) | exact HB.out)); (case side2 => exact Kd.R_tight rfl HO0_0.out); rintro e w7 ⟨rfl, hy0, hb, hkp⟩; refine ⟨_, rfl, ?_⟩; have n0_ := Aside0.mk (Kd.R_reok rfl hy0 (fun k_ e_ => HO0_0.out.1 k_ e_)); have n1_ := Aside0.mk (blk_kept (by (with_reducible repeat (first | refine blk_drewN ?_ _ | refine blk_drew ?_ | refine blk_alloc ?_ _)); exact BK101.out) hkp (fun hs_ => (fun e_ => (Kd.R_ne HO0_0.out BK101.out (by decide)) e_) hs_)); have n2_ := Aside0.mk (Kept.then_ (S := (fun k_ => P0_0_ k_)) (by repeat (first | (with_reducible first | exact HK.out | apply Kept.alloc | apply Kept.drewN | apply Kept.drew | refine Kept.setCell ?_ (.inr GW101.out) _) | exact HK.out)) hkp (fun k_ hs_ => (fun e_ => (HO0_0.out.1 k_ e_.symm)) hs_)); have n3_ := Aside0.mk (hb); clear HO0_0; clear BK101; clear HK; clear HB; have HO0_0 := n0_; have BK101 := n1_; have HK := n2_; have HB := n3_; clear n0_ n1_ n2_ n3_; (try clear hb); (try clear hkp); (try clear hy0)))
  go_ret
  exact ⟨by first | rfl | (simp [errW_none, errW_some] <;> rfl) | (simp [*, errW_none, errW_some] <;> rfl), by (with_reducible repeat (first | apply Kd.R_alloc | apply Kd.R_drewN | apply Kd.R_drew)); exact HO0_0.out, by repeat (first | (with_reducible first | exact HB.out | apply below_alloc | apply pw_below_drewN | apply below_drew1 | refine below_set ?_ GE101.out) | exact HB.out), by repeat (first | (with_reducible first | exact HK.out | apply Kept.alloc | apply Kept.drewN | apply Kept.drew | refine Kept.setCell ?_ (.inr GW101.out) _) | exact HK.out)⟩
/- F26 -/
def laws_heldInt64S.l0 : Nat → List Int → Int → Int → Option (Int)
  | 0, _, _, _ => none
  | k + 1, x0, x1, x5 => if x5 < (x0.length : Int) then (if 0 ≤ x5 then (if (rd x0 x5) = x1 then (laws_heldInt64S.l0 k x0 (wrap64 (x1 + 1)) (wrap64 (x5 + 1))) else (some (-1))) else (none)) else (some x1)
def laws_heldInt64S.f (k : Nat) (l0 : List Int) (a1 : Int) : Option (Int) := laws_heldInt64S.l0 k l0 a1 0
theorem laws_heldInt64S.mono_l : ∀ k, (∀ y0 y1 y2, LeO (laws_heldInt64S.l0 k y0 y1 y2) (laws_heldInt64S.l0 (k + 1) y0 y1 y2))
  | 0 => fun _ _ _ r h => by simp [laws_heldInt64S.l0] at h
  | k + 1 => by
    have ih0 := laws_heldInt64S.mono_l k
    · intro y0 y1 y2
      unfold laws_heldInt64S.l0
      repeat' first
      | (with_reducible exact ih0 _ _ _)
      | (with_reducible exact LeO.refl _)
      | (with_reducible exact LeO.none _)
      | (with_reducible refine LeO.ite ?_ ?_)
      | (with_reducible refine LeO.bind ?_ (fun _ => ?_))
      | exact ih0 _ _ _
      | exact LeO.none _
      | refine LeO.ite ?_ ?_
      | refine LeO.bind ?_ (fun _ => ?_)
theorem laws_heldInt64S.mono : ∀ a0 a1 k, LeO (laws_heldInt64S.f k a0 a1) (laws_heldInt64S.f (k + 1) a0 a1) := by
  intro a0 a1 k
  have ih0 := laws_heldInt64S.mono_l k
  unfold laws_heldInt64S.f
  repeat' first
      | (with_reducible exact ih0 _ _ _)
      | (with_reducible exact LeO.refl _)
      | (with_reducible exact LeO.none _)
      | (with_reducible refine LeO.ite ?_ ?_)
      | (with_reducible refine LeO.bind ?_ (fun _ => ?_))
      | exact ih0 _ _ _
      | exact LeO.none _
      | refine LeO.ite ?_ ?_
      | refine LeO.bind ?_ (fun _ => ?_)
set_option maxHeartbeats 8000000 in
set_option maxRecDepth 100000 in
theorem laws_heldInt64S.calls (k : Nat) (A0 : Option Addr) (c0 : Nat) (l0 : List Int) (a1 : Int) (r : Int) (w : World) (hr0 : Kd.C (Kd.int .i64) w A0 l0.length l0) (hc0 : l0.length ≤ c0) (h : laws_heldInt64S.f k l0 a1 = some r) :
    Calls Try.prog 26 #[.slice A0 l0.length c0, .int .i64 a1] w fun e w' => e = .returned (.int .i64 r) ∧ Drawn0 w w' := by
  have HR0 := Aside0.mk hr0
  have HC0 := Aside0.mk hc0
  clear hr0 hc0
  have H : (laws_heldInt64S.l0 k l0 a1 0) = some r := h
  clear h
  have H' := Aside0.mk H
  clear H
  go_enter Try.func26, Try.ntmps26
  go_wp2
  go_loopg [1, 5] k (fun kq v1 v5 w' => ∃ (x1_1 : Int) (x5_1 : Int), v1 = .int .i64 x1_1 ∧ v5 = .int .i64 x5_1 ∧ Aside0 (laws_heldInt64S.l0 kq l0 x1_1 x5_1 = some r) ∧ Aside0 (kq ≤ k) ∧ Drawn0 w w')
  case atStart => exact ⟨(a1), (0), (by first | rfl | (simp; done) | (simp [*]; done)), (by first | rfl | (simp; done) | (simp [*]; done)), H', ⟨Nat.le_refl _⟩, by repeat (first | exact Drawn0.refl _ | apply Drawn0.step)⟩
  case round =>
    clear H'
    try clear c2
    try clear p2
    obtain ⟨x1_1, x5_1, rfl, rfl, HA, HK1, ⟨m1, rfl⟩⟩ := hrel
    cases gk with
    | zero => exact absurd HA.out (by simp [laws_heldInt64S.l0])
    | succ k1 =>
      have H := HA.out
      clear HA
      simp only [laws_heldInt64S.l0] at H
      by_cases c3 : x5_1 < (l0.length : Int)
      · rw [if_pos c3] at H
        have c3b0 : decide (x5_1 < (l0.length : Int)) = true := decide_eq_true c3
        clear c3
        by_cases c4 : 0 ≤ x5_1
        · rw [if_pos c4] at H
          have c4b0 : decide (0 ≤ x5_1) = true := decide_eq_true c4
          clear c4
          by_cases c5 : (rd l0 x5_1) = x1_1
          · rw [if_pos c5] at H
            have c5b0 : ((rd l0 x5_1) == x1_1) = true := beq_iff_eq.mpr c5
            have c5b1 : ((rd l0 x5_1) != x1_1) = false := bne_eq_false_iff_eq.mpr c5
            clear c5
            have H' := Aside0.mk H
            clear H
            have p101 : 0 ≤ (x5_1 : Int) := of_decide_eq_true (by first | (with_reducible assumption) | assumption)
            have q101 : x5_1 < (l0.length : Int) := of_decide_eq_true (by first | (with_reducible assumption) | assumption)
            obtain ⟨ad101, e101, hx101_0⟩ := Kd.at_int HR0.out x5_1 p101 q101
            cases e101
            replace p101 := eq_true p101
            replace q101 := eq_true q101
            go_wp2
            go_roundg k1
            case measure => have := HK1.out; omega
            case rel => exact ⟨(wrap64 (x1_1 + 1)), (wrap64 (x5_1 + 1)), (by first | rfl | (simp; done) | (simp [*]; done)), (by first | rfl | (simp; done) | (simp [*]; done)), H', ⟨by have := HK1.out; omega⟩, by repeat (first | exact Drawn0.refl _ | apply Drawn0.step)⟩
          · rw [if_neg c5] at H
            have c5b0 : ((rd l0 x5_1) == x1_1) = false := beq_eq_false_iff_ne.mpr c5
            have c5b1 : ((rd l0 x5_1) != x1_1) = true := bne_iff_ne.mpr c5
            obtain rfl := Option.some.inj H
            have p101 : 0 ≤ (x5_1 : Int) := of_decide_eq_true (by first | (with_reducible assumption) | assumption)
            have q101 : x5_1 < (l0.length : Int) := of_decide_eq_true (by first | (with_reducible assumption) | assumption)
            obtain ⟨ad101, e101, hx101_0⟩ := Kd.at_int HR0.out x5_1 p101 q101
            cases e101
            replace p101 := eq_true p101
            replace q101 := eq_true q101
            go_wp2
            go_ret
            exact ⟨by first | rfl | (simp; done) | (simp [*]; done), by repeat (first | exact Drawn0.refl _ | apply Drawn0.step)⟩
        · rw [if_neg c4] at H
          exact absurd H (by simp)
      · rw [if_neg c3] at H
        have c3b0 : decide (x5_1 < (l0.length : Int)) = false := decide_eq_false c3
        clear c3
        obtain rfl := Option.some.inj H
        go_wp2
        go_ret
        exact ⟨by first | rfl | (simp; done) | (simp [*]; done), by repeat (first | exact Drawn0.refl _ | apply Drawn0.step)⟩
/- Q7 -/
theorem toInt64S_l0 (l : List Int) (hl : l.length ≤ 35184372088832) : ∀ (d i : Nat) (x : List Int), i + d = l.length → x.length = l.length → (∀ j, j < i → x.getD j 0 = l.getD j 0) → Ev (fun k => laws_toInt64S.l0 k l x (i : Int)) l := by
  intro d
  induction d with
  | zero =>
    intro i x hi hx h
    refine Ev.step (fun k => by simp only [laws_toInt64S.l0]; rw [if_neg (by omega)]) ?_
    have e : x = l := by
      refine List.ext_getElem hx (fun j h1 h2 => ?_)
      have h3 := h j (by omega)
      rw [List.getD_eq_getElem?_getD, List.getD_eq_getElem?_getD, List.getElem?_eq_getElem h1, List.getElem?_eq_getElem h2] at h3
      exact h3
    rw [e]
    exact Ev.now _
  | succ d ih =>
    intro i x hi hx h
    refine Ev.step (fun k => by simp only [laws_toInt64S.l0]; rw [if_pos (by omega), if_pos (by omega), if_pos (by omega), rd_nat, show ((i : Int)).toNat = i by omega, wrap_id (by omega) (by omega), show (i : Int) + 1 = ((i + 1 : Nat) : Int) by omega]) ?_
    refine ih (i + 1) _ (by omega) (by rw [List.length_set]; exact hx) (fun j hj => ?_)
    rw [List.getD_eq_getElem?_getD, List.getElem?_set]
    by_cases c : i = j
    · rw [if_pos c, if_pos (by omega), ← c]; rfl
    · rw [if_neg c, ← List.getD_eq_getElem?_getD]
      exact h j (by omega)
theorem toInt64S_ev (l : List Int) (hl : l.length ≤ 35184372088832) : Ev (fun k => laws_toInt64S.f k l) l := by
  unfold laws_toInt64S.f
  refine Ev.congr (fun k => by rw [if_pos (by omega), if_pos (by omega)]) ?_
  exact toInt64S_l0 l hl l.length 0 _ (by omega) (by rw [List.length_replicate]; omega) (fun j hj => by omega)
theorem toSpace_ev (l : List Int) (hl : l.length ≤ 35184372088832) : Ev (fun k => laws_toSpace.f k l) l := Ev.bind (toInt64S_ev l hl) (Ev.now l)
theorem eqInt64S_l0 (l : List Int) (hl : l.length ≤ 35184372088832) : ∀ (d i : Nat), i + d = l.length → Ev (fun k => laws_eqInt64S.l0 k l l (i : Int)) true := by
  intro d
  induction d with
  | zero =>
    intro i hi
    refine Ev.step (fun k => by simp only [laws_eqInt64S.l0]; rw [if_neg (by omega)]) ?_
    exact Ev.now _
  | succ d ih =>
    intro i hi
    refine Ev.step (fun k => by simp only [laws_eqInt64S.l0]; rw [if_pos (by omega), if_pos (by omega), if_pos (by omega), if_true, wrap_id (by omega) (by omega), show (i : Int) + 1 = ((i + 1 : Nat) : Int) by omega]) ?_
    exact ih (i + 1) (by omega)
theorem eqInt64S_ev (l : List Int) (hl : l.length ≤ 35184372088832) : Ev (fun k => laws_eqInt64S.f k l l) true := by
  unfold laws_eqInt64S.f
  refine Ev.congr (fun k => by rw [if_pos rfl]) ?_
  exact eqInt64S_l0 l hl l.length 0 (by omega)
theorem eqSpace_ev (l : List Int) (hl : l.length ≤ 35184372088832) : Ev (fun k => laws_eqSpace.f k l l) true := by
  unfold laws_eqSpace.f
  refine Ev.bind (eqInt64S_ev l hl) ?_
  simp only [if_true]
  exact Ev.now _
theorem szSpace_val (l : List Int) (x : Int) (hx : 0 ≤ x ∧ x ≤ 1048576) (hl : l.length ≤ 9223372036854775807) : laws_szSpace.f l x = some (if l.length ≤ x then x - l.length else -1) := by
  unfold laws_szSpace.f laws_szInt64S.f
  rw [wrap_id (by omega) (by omega)]
  by_cases c : (l.length : Int) ≤ x
  · rw [if_pos c, if_neg (by omega), Option.bind_some, if_neg (by omega)]
  · rw [if_neg c, if_pos (by omega), Option.bind_some, if_pos (by omega)]
/-- a, a + 1, .. -/
def ups (a : Int) : Nat → List Int
  | 0 => []
  | n + 1 => a :: ups (a + 1) n
theorem ups_length : ∀ (n : Nat) (a : Int), (ups a n).length = n
  | 0, _ => rfl
  | n + 1, a => by show (ups (a + 1) n).length + 1 = n + 1; rw [ups_length n]
theorem ups_at : ∀ (n : Nat) (a : Int) (i : Nat), i < n → (ups a n).getD i 0 = a + i
  | n + 1, a, 0, _ => by show a = a + ((0 : Nat) : Int); omega
  | n + 1, a, i + 1, h => by
    have := ups_at n (a + 1) i (by omega)
    show (ups (a + 1) n).getD i 0 = _
    rw [this]
    omega
theorem markInt64S_l0 (n : Nat) (hn : n ≤ 35184372088832) (a : Int) (ha : 0 ≤ a ∧ a ≤ 35184372088832) : ∀ (d i : Nat) (x : List Int), i + d = n → x.length = n → (∀ j, j < i → x.getD j 0 = a + j) → Ev (fun k => laws_markInt64S.l0 k x (a + i) (i : Int)) (a + n, ups a n) := by
  intro d
  induction d with
  | zero =>
    intro i x hi hx h
    refine Ev.step (fun k => by simp only [laws_markInt64S.l0]; rw [if_neg (by omega)]) ?_
    have e : x = ups a n := by
      refine List.ext_getElem (by rw [hx, ups_length]) (fun j h1 h2 => ?_)
      have h3 := h j (by omega)
      have h4 := ups_at n a j (by omega)
      rw [List.getD_eq_getElem?_getD, List.getElem?_eq_getElem h1] at h3
      rw [List.getD_eq_getElem?_getD, List.getElem?_eq_getElem h2] at h4
      exact h3.trans h4.symm
    rw [e, show i = n by omega]
    exact Ev.now _
  | succ d ih =>
    intro i x hi hx h
    refine Ev.step (fun k => by simp only [laws_markInt64S.l0]; rw [if_pos (by omega), if_pos (by omega), show ((i : Int)).toNat = i by omega, wrap_id (by omega) (by omega), wrap_id (by omega) (by omega), show a + (i : Int) + 1 = a + ((i + 1 : Nat) : Int) by omega, show (i : Int) + 1 = ((i + 1 : Nat) : Int) by omega]) ?_
    refine ih (i + 1) _ (by omega) (by rw [List.length_set]; exact hx) (fun j hj => ?_)
    rw [List.getD_eq_getElem?_getD, List.getElem?_set]
    by_cases c : i = j
    · rw [if_pos c, if_pos (by omega), ← c]; rfl
    · rw [if_neg c, ← List.getD_eq_getElem?_getD]
      exact h j (by omega)
theorem markInt64S_ev (l : List Int) (a : Int) (hl : l.length ≤ 35184372088832) (ha : 0 ≤ a ∧ a ≤ 35184372088832) : Ev (fun k => laws_markInt64S.f k l a) (a + l.length, ups a l.length) := by
  have h := markInt64S_l0 l.length hl a ha l.length 0 l (by omega) rfl (fun j hj => by omega)
  rw [show a + ((0 : Nat) : Int) = a by omega] at h
  exact h
theorem markSpace_ev (l : List Int) (a : Int) (hl : l.length ≤ 35184372088832) (ha : 0 ≤ a ∧ a ≤ 35184372088832) : Ev (fun k => laws_markSpace.f k l a) (a + l.length, ups a l.length) := Ev.bind (markInt64S_ev l a hl ha) (Ev.now _)
theorem heldInt64S_l0 (n : Nat) (hn : n ≤ 35184372088832) (a : Int) (ha : 0 ≤ a ∧ a ≤ 35184372088832) : ∀ (d i : Nat), i + d = n → Ev (fun k => laws_heldInt64S.l0 k (ups a n) (a + i) (i : Int)) (a + n) := by
  have hl := ups_length n a
  intro d
  induction d with
  | zero =>
    intro i hi
    refine Ev.step (fun k => by simp only [laws_heldInt64S.l0]; rw [if_neg (by omega)]) ?_
    rw [show i = n by omega]
    exact Ev.now _
  | succ d ih =>
    intro i hi
    have h4 := ups_at n a i (by omega)
    refine Ev.step (fun k => by simp only [laws_heldInt64S.l0]; rw [if_pos (by omega), if_pos (by omega), rd_nat, if_pos h4, wrap_id (by omega) (by omega), wrap_id (by omega) (by omega), show a + (i : Int) + 1 = a + ((i + 1 : Nat) : Int) by omega, show (i : Int) + 1 = ((i + 1 : Nat) : Int) by omega]) ?_
    exact ih (i + 1) (by omega)
theorem heldInt64S_ev (n : Nat) (a : Int) (hl : n ≤ 35184372088832) (ha : 0 ≤ a ∧ a ≤ 35184372088832) : Ev (fun k => laws_heldInt64S.f k (ups a n) a) (a + n) := by
  have h := heldInt64S_l0 n hl a ha n 0 (by omega)
  rw [show a + ((0 : Nat) : Int) = a by omega] at h
  exact h
/- Q9 -/
theorem spec_CountMissing_ev (l rows : List Int) (t : Int) (hrl : rows.length ≤ 1099511627776) : Ev (fun k => spec_CountMissing.f k l rows t) (((missingOf l rows t).1.length : Int), (missingOf l rows t).2) := by
  unfold spec_CountMissing.f missingOf
  refine Ev.bind (l10Rows_ev l rows t (by omega)) ?_
  by_cases c : rowsCode l rows t = 0
  · obtain ⟨hz, h8, h1, hp, hr2, hw, ht1, ht3, ht4⟩ := rowsCode_zero c
    obtain ⟨tn, rfl⟩ : ∃ tn : Nat, t = tn := ⟨t.toNat, by omega⟩
    simp only [if_pos c]
    refine Ev.bind (l10All_ev l h8 hz tn (by omega)) ?_
    refine Ev.bind (l10Missing_ev l h8 hz rows (fun r hr => by have := hw r hr; omega) (by omega) _ (allC_ch l hz _ (places_pl l tn (by omega))) (allC_le l h8 hz tn (by omega))) ?_
    rw [show ((tn : Int)).toNat = tn by omega, ext_nil]
    exact Ev.now _
  · simp only [if_neg c]
    exact Ev.now _
theorem law_CountMissing (l rows : List Int) (t : Int) (hl : l.length ≤ maxLen) (hr : rows.length ≤ maxLen) (_ : (Lit.int .i64 t).wf = true) : ∃ k, laws_FnExactCountMissing.f k l rows t = some true := by
  replace hl : l.length ≤ 9223372036854775807 := hl
  refine Ev.rounds (g := fun k => laws_FnExactCountMissing.f k l rows t) ?_
  unfold laws_FnExactCountMissing.f
  by_cases c1 : (rows.length : Int) > 1048576
  · refine Ev.congr (fun k => by rw [if_pos c1]) (Ev.now _)
  · refine Ev.congr (fun k => by rw [if_neg c1, szSpace_val l 1048576 (by omega) hl, Option.bind_some]) ?_
    by_cases c2 : (l.length : Int) ≤ 1048576
    · refine Ev.congr (fun k => by rw [if_pos c2, if_neg (by omega)]) ?_
      have hi : impl_CountMissing.f l rows t = some (((missingOf l rows t).1.length : Int), (missingOf l rows t).2) := by unfold impl_CountMissing.f impl_MissingChoices.f; rw [if_pos (by omega)]; rfl
      refine Ev.bind (toSpace_ev l (by omega)) ?_
      refine Ev.bind (toInt64S_ev rows (by omega)) ?_
      refine Ev.bind (spec_CountMissing_ev l rows t (by omega)) ?_
      refine Ev.bind (toSpace_ev l (by omega)) ?_
      refine Ev.bind (toInt64S_ev rows (by omega)) ?_
      refine Ev.congr (fun k => by rw [hi, Option.bind_some, if_pos rfl, show ((missingOf l rows t).2 != (missingOf l rows t).2) = false by simp]) ?_
      refine Ev.step (fun k => by simp only [laws_FnExactCountMissing.j0, Bool.false_eq_true, if_false]; rfl) ?_
      refine Ev.bind (toSpace_ev l (by omega)) ?_
      refine Ev.bind (eqSpace_ev l (by omega)) ?_
      simp only [if_true]
      refine Ev.bind (toInt64S_ev rows (by omega)) ?_
      refine Ev.bind (eqInt64S_ev rows (by omega)) ?_
      simp only [if_true]
      exact Ev.now _
    · refine Ev.congr (fun k => by rw [if_neg c2, if_pos (by omega)]) (Ev.now _)
end Go.Proofs.Ytionaakahhgdjaa.P
