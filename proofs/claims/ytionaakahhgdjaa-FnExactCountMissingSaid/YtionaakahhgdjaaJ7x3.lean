/- What some functions of the program return, and plain facts on it; conditions: those that each theorem names. Part 3 of the proof. -/
import Derived.Test.YtionaakahhgdjaaJ7x2
import Derived.Deep.RegionLaw
import Derived.Deep.AppendLies
import Derived.RowKit3
import Derived.Laws.EntriesVeiled
import Derived.Test.YtionaakahhgdjaaJ7x1
import Derived.Lib.AppendZerosOnto
import Derived.Lib.Walk
import Derived.Lib.SliceRun
namespace Go.Proofs.Ytionaakahhgdjaa.P
open Go.RowKit Go.Proofs.YtionaakahhgdjaaW.PrintWords Go.Proofs.YtionaakahhgdjaaW.PrintLast Go.Proofs.YtionaakahhgdjaaW.PrintMore
open Go.Proofs.Ytionaakahhgdjaa.M
attribute [local go_sem] max2_int min2_int max_two min_two max_three min_three max_four min_four
set_option linter.unusedVariables false
set_option linter.unusedSimpArgs false
/- H170 -/
theorem LL.pop {W : World} {L : Nat} {xs : List Int} {i : Int} (h : LL W L (xs ++ [i])) : LL W L xs := by
  have := Kd.R_take (m := xs.length) h (by simp)
  rwa [List.take_left'] at this
  rfl
theorem LL.own {W : World} {L : Nat} {xs : List Int} (h : LL W L xs) : ∃ cur : Array Value, W.heap[L]? = some (.cells cur 2 (0, 0)) ∧ cur.size = 3 ∧ cur.toList.take xs.length = xs.map (Value.int .i64) := by
  have ho := Kd.own_of_R h
  obtain ⟨h1, h2⟩ := ho
  rcases h2 with ⟨h2, _⟩ | ⟨g, cap, cur, he, _, hh, _, _, hs, ht⟩
  · cases h2
  · injection he with e1 e2 e3
    injection e1 with e1
    injection e1 with e1
    subst e1
    subst e3
    exact ⟨cur, hh, by simpa using hs, by simpa [encs] using ht⟩
theorem LL.of {W : World} {L : Nat} {xs : List Int} (cur : Array Value) (hh : W.heap[L]? = some (.cells cur 2 (0, 0))) (hs : cur.size = 3) (hl : xs.length ≤ 3) (ht : cur.toList.take xs.length = xs.map (Value.int .i64)) : LL W L xs := by
  refine Kd.R_of_own ⟨by simp [encs], .inr ⟨L, 3, cur, rfl, Nat.zero_le _, hh, hl, by unfold maxLen; omega, by simpa using hs, by simpa [encs] using ht⟩⟩ (fun k hk => ?_)
  have : L = k := by simpa [Value.ownBlock] using hk
  exact this.symm
theorem LL.push {W : World} {L : Nat} {xs : List Int} (h : LL W L xs) (hx : xs.length < 3) (i : Int) : LL (W.setCell ⟨L, xs.length, none⟩ (.int .i64 i)) L (xs ++ [i]) ∧ W.grownBy (W.setCell ⟨L, xs.length, none⟩ (.int .i64 i)) (some L) ∧ (W.cell? ⟨L, xs.length, none⟩).isSome = true ∧ W.frozen? ⟨L, xs.length, none⟩ = false := by
  obtain ⟨cur, hh, hs, ht⟩ := h.own
  refine ⟨LL.of (cur.setIfInBounds xs.length (.int .i64 i)) (blk_set hh _ _) (by simpa using hs) (by simp; omega) ?_, ⟨rfl, rfl, rfl, by simp, fun k hk hne => Below.heap_setCell W _ _ k (fun e => hne (by rw [e]))⟩, ?_, blk_frozen hh _⟩
  · rw [Array.toList_setIfInBounds, List.length_append, List.map_append, ← ht]
    have hcl : cur.toList.length = 3 := by simpa using hs
    apply List.ext_getElem?
    intro k
    simp only [List.length_cons, List.length_nil, List.getElem?_take, List.getElem?_set, List.getElem?_append, List.length_take, List.map_cons, List.map_nil, Nat.zero_add]
    rw [Nat.min_eq_left (by omega : xs.length ≤ cur.toList.length)]
    by_cases h1 : k < xs.length
    · rw [if_pos (by omega), if_neg (by omega), if_pos h1, if_pos h1]
    · by_cases h2 : k = xs.length
      · subst h2
        rw [if_pos (by omega), if_pos rfl, if_pos (by omega), if_neg (by omega), Nat.sub_self]; rfl
      · rw [if_neg (by omega), if_neg h1]
        have : k - xs.length ≠ 0 := by omega
        cases hk : k - xs.length with
        | zero => omega
        | succ n => rfl
  · rw [blk_cell hh]
    have : xs.length < cur.size := by omega
    simp [this]
/-- What the search leaves behind. -/
def Found (w0 W' : World) (H0 bt bs bc bf gC L : Nat) (A0 : Option Addr) (c0 : Nat) (l : List Int) (t : Nat) (P : List (List Int)) (F : List Int) (m : Int) (new : List (List Int)) (xs : List Int) : Prop :=
  ∃ vP' vF', SS w0 W' H0 bt bs bc bf gC A0 c0 l t vP' (P ++ new) vF' (F ++ offs l m new) (tot l m new) ∧ LL W' L xs ∧ 0 ≤ tot l m new ∧ tot l m new ≤ 64 * (P ++ new).length
def Start (w0 W : World) (H0 bt bs bc bf gC L : Nat) (A0 : Option Addr) (c0 : Nat) (l : List Int) (t : Nat) (P : List (List Int)) (F : List Int) (m : Int) (xs : List Int) : Prop :=
  ∃ vP vF, SS w0 W H0 bt bs bc bf gC A0 c0 l t vP P vF F m ∧ LL W L xs

set_option maxHeartbeats 8000000 in
set_option maxRecDepth 100000 in
theorem search_calls (w0 : World) (H0 bt bs bc bf gC L : Nat) (A0 : Option Addr) (c0 : Nat) (l : List Int) (t : Nat) (s : SSt w0 H0 bt bs bc bf gC L) (hC : Kd.C (Kd.int .i64) w0 A0 l.length l) (hc0 : l.length ≤ c0) (hl : Sz l) (hn8 : l.length ≤ 8) (ht : t ≤ 3) (d : Nat) :
    ∀ (n' : Nat) (xs : List Int) (W : World) (P : List (List Int)) (F : List Int) (m : Int), n' = xs.length → xs.length + d = t → Start w0 W H0 bt bs bc bf gC L A0 c0 l t P F m xs → (∀ i ∈ xs, 0 ≤ i ∧ i < l.length) → P.length + (ext l.length d xs).length ≤ 1000 → F.length = P.length → 0 ≤ m ∧ m ≤ 64 * P.length →
    Calls Try.prog 169 #[.slice (some ⟨L, 0, none⟩) n' 3, .pointer (some ⟨bt, 0, none⟩), .pointer (some ⟨bs, 0, none⟩), .pointer (some ⟨bc, 0, none⟩), .pointer (some ⟨bf, 0, none⟩)] W fun e W' => e = .returned (.tuple #[]) ∧ Found w0 W' H0 bt bs bc bf gC L A0 c0 l t P F m (ext l.length d xs) xs := by
  induction d with
  | zero =>
    intro n' xs W P F m hn' hd hst hp hP hF hm
    subst hn'
    obtain ⟨vP, vF, hss, hll⟩ := hst
    obtain rfl : t = xs.length := by omega
    have hP1 : P.length + 1 ≤ 1000 := hP
    refine (search_end w0 W H0 bt bs bc bf gC L A0 c0 l vP P vF F m xs s hss hC hll hl ⟨by omega, hp⟩ (by omega) hF ⟨hm.1, by omega⟩).mono ?_
    rintro e W' ⟨rfl, vP', vF', h1, h2⟩
    have h3 := szp_range hl (p := xs) ⟨by omega, hp⟩ xs.length
    rw [List.take_length] at h3
    refine ⟨rfl, vP', vF', h1, h2, ?_, ?_⟩
    · show 0 ≤ m + szp l xs; omega
    · show m + szp l xs ≤ 64 * ((P ++ [xs]).length : Int); rw [List.length_append, List.length_singleton]; omega
  | succ d ih =>
    intro n' xs W P F m hn' hd hst hp hP hF hm
    subst hn'
    obtain ⟨vP, vF, hss, hll⟩ := hst
    have hzt : W.cell? ⟨bt, 0, none⟩ = some (.int .i64 t) := (blk_cell hss.hbt 0).trans rfl
    have hne : ((xs.length : Int) == (t : Int)) = false := by simp; omega
    have hl3 : xs.length < 3 := by omega
    have HS := Aside0.mk s
    have HC := Aside0.mk hC
    have HC0 := Aside0.mk hc0
    have HSZ := Aside0.mk hl
    have HPL := Aside0.mk hp
    have HP := Aside0.mk hP
    have HF := Aside0.mk hF
    have HM := Aside0.mk hm
    have HIH := Aside0.mk ih
    have HD := Aside0.mk hd
    have HSS := Aside0.mk hss
    have HLL := Aside0.mk hll
    have hst1 : Found w0 W H0 bt bs bc bf gC L A0 c0 l t P F m [] xs := ⟨vP, vF, by rw [List.append_nil]; show SS w0 W H0 bt bs bc bf gC A0 c0 l t vP P vF (F ++ []) m; rw [List.append_nil]; exact hss, hll, hm.1, by rw [List.append_nil]; exact hm.2⟩
    have HSS0 := hst1
    obtain ⟨i0, hi0, hz0, hz1, hz2⟩ := info_parts info2
    have hnx : next xs ≤ l.length ∧ 0 ≤ next xs := by
      unfold next
      split
      · omega
      · have := hp _ (at_mem xs (xs.length - 1) (by omega) (by omega)); omega
    have HNX := Aside0.mk hnx
    have hlast : Aside0 (¬ xs.length = 0 → next xs = rd xs ((xs.length : Int) - 1) + 1) := ⟨fun h => by unfold next; rw [if_neg h]; rfl⟩
    have hfirst : Aside0 (xs.length = 0 → next xs = 0) := ⟨fun h => by unfold next; rw [if_pos h]⟩
    clear hC hc0 hl hp hP hF hm ih hd hss hll s hnx
    have hu28 := Try.underlying28
    have hcellL : Aside0 (∀ j : Int, 0 ≤ j → j < xs.length → W.cell? ⟨L, j.toNat, none⟩ = some (.int .i64 (rd xs j))) := ⟨fun j h0 h1 => by
      obtain ⟨ad3, hade, hx3⟩ := Kd.at_int (Kd.R_reads' (show Kd.R (Kd.int .i64) 2 W 0 (fun k => k = L) (.slice (some ⟨L, 0, none⟩) xs.length 3) xs from HLL.out)).2.2 j h0 h1
      cases hade
      rw [← add_plain]; exact hx3⟩
    go_enter Try.func169, Try.ntmps169
    rcases Nat.eq_zero_or_pos xs.length with hx0 | hx0
    · have hge : decide ((0:Int) < (xs.length : Int)) = false := decide_eq_false (by omega)
      have hge2 : decide (0 < xs.length) = false := decide_eq_false (by omega)
      have hst0 := hfirst.out hx0
      have HS0 := Aside0.mk hst0
      have HX0 := Aside0.mk hx0
      clear hx0 hst0
      go_wp2
      go_loopw [11] (fun v11 W' => ∃ c : Nat, v11 = .int .i64 (next xs + c) ∧ next xs + c ≤ l.length ∧ Aside0 (Found w0 W' H0 bt bs bc bf gC L A0 c0 l t P F m (run (fun i => ext l.length d (xs ++ [i])) (next xs) c) xs)) (fun v _ => (l.length - intOf v).toNat)
      case atStart => exact ⟨0, by first | (rw [HS0.out]; rfl) | (rw [HS0.out]; simp), by have := HNX.out; omega, ⟨HSS0⟩⟩
      case round =>
        obtain ⟨c, rfl, hc1, HFO⟩ := hrel
        obtain ⟨vP', vF', hss, hll, hm0, hm1⟩ := HFO.out
        have hzs : wr.cell? ⟨bs, 0, none⟩ = some (.slice A0 l.length c0) := (blk_cell hss.hbs 0).trans rfl
        have hzf := (blk_cell hss.hbf 0).trans rfl
        have HS1 := Aside0.mk hss
        have HL1 := Aside0.mk hll
        clear HFO hss hll
        have HNXo := HNX.out
        by_cases hlt : next xs + (c : Int) < (l.length : Int)
        · go_wp2_with (go_at_call 168; (with_reducible refine (impl_places.calls A0 c0 l _ _ (Kd.C_below HC.out HS1.out.hB) HC0.out rfl).mono ?_); rintro e w1 ⟨rfl, hb1⟩; have HB1 := Aside0.mk hb1; clear hb1)
          have HS2 := Aside0.mk (HS1.out.below HB1.out)
          have HL2 := Aside0.mk (HL1.out.below HB1.out)
          have HE1 : Aside0 (xs.length + 1 = (xs ++ [next xs + (c : Int)]).length) := ⟨by simp⟩
          have HE2 : Aside0 ((xs ++ [next xs + (c : Int)]).length + d = t) := ⟨by have := HD.out; simp; omega⟩
          have HE4 : Aside0 (∀ i ∈ xs ++ [next xs + (c : Int)], 0 ≤ i ∧ i < (l.length : Int)) := ⟨fun i hi => by
            rcases List.mem_append.1 hi with h | h
            · exact HPL.out i h
            · rw [List.mem_singleton.1 h]; omega⟩
          have hrl := run_length_le (fun i => ext l.length d (xs ++ [i])) (c + 1) ((l.length : Int) - next xs).toNat (next xs) (by omega)
          have hre : (run (fun i => ext l.length d (xs ++ [i])) (next xs) (c + 1)).length = (run (fun i => ext l.length d (xs ++ [i])) (next xs) c).length + (ext l.length d (xs ++ [next xs + (c : Int)])).length := by rw [run_snoc, List.length_append]
          have HE5 : Aside0 ((P ++ run (fun i => ext l.length d (xs ++ [i])) (next xs) c).length + (ext l.length d (xs ++ [next xs + (c : Int)])).length ≤ 1000) := ⟨by
            have h1 := HP.out
            have h2 : (ext l.length (d + 1) xs).length = (run (fun i => ext l.length d (xs ++ [i])) (next xs) ((l.length : Int) - next xs).toNat).length := rfl
            rw [List.length_append]; omega⟩
          have HE6 : Aside0 ((F ++ offs l m (run (fun i => ext l.length d (xs ++ [i])) (next xs) c)).length = (P ++ run (fun i => ext l.length d (xs ++ [i])) (next xs) c).length) := ⟨by have := HF.out; rw [List.length_append, List.length_append, offs_length]; omega⟩
          clear hrl hre
          have hcf : w1.cell? ⟨bf, 0, none⟩ = some (.func (.func 169) #[] #[.pointer (some ⟨bt, 0, none⟩), .pointer (some ⟨bs, 0, none⟩), .pointer (some ⟨bc, 0, none⟩), .pointer (some ⟨bf, 0, none⟩)]) := (blk_cell HS2.out.hbf 0).trans rfl
          refine start_ (n := 6) (S := fun w' => w'.cell? ⟨bf, 0, none⟩ = some (.func (.func 169) #[] #[.pointer (some ⟨bt, 0, none⟩), .pointer (some ⟨bs, 0, none⟩), .pointer (some ⟨bc, 0, none⟩), .pointer (some ⟨bf, 0, none⟩)])) (ds := []) #[false, false, false, false, false, false] (by kernel_rfl) rfl rfl (hcf) (fun hHeld => ?_)
          refine pure_ (i := 1) (N := some 80) (v := ?_) (a' := ?_) #[false, true, false, false, false, false] rfl rfl (by kernel_rfl) (fun _ _ _ h => h) (Or.inl ⟨by rfl, ?_⟩) ?_ ?_
          rotate_left
          · intro w'
            go_simp
            with_reducible rfl
          rotate_left
          · simp only [Act.put, List.setIfInBounds_toArray, List.set_cons_zero, List.set_cons_succ, i64_w, i32_w]
            rfl
          refine pure_ (i := 2) (N := some 81) (v := ?_) (a' := ?_) #[false, true, true, false, false, false] rfl rfl (by kernel_rfl) (fun _ _ _ h => h) (Or.inl ⟨by rfl, ?_⟩) ?_ ?_
          rotate_left
          · intro w'
            go_simp
            with_reducible rfl
          rotate_left
          · simp only [Act.put, List.setIfInBounds_toArray, List.set_cons_zero, List.set_cons_succ, i64_w, i32_w]
            rfl
          refine take_ (i := 0) (N := some 79) (v := ?_) (a' := ?_) #[true, true, true, false, false, false] rfl rfl (by kernel_rfl) (fun _ _ _ h => h) (Or.inl ⟨by rfl, ?_⟩) hHeld ?_ ?_
          rotate_left
          · intro w' s0
            go_simp
            with_reducible rfl
          rotate_left
          · simp only [Act.put, List.setIfInBounds_toArray, List.set_cons_zero, List.set_cons_succ, i64_w, i32_w]
            rfl
          refine one_ (i := 3) (N := some 82) #[true, true, true, true, false, false] rfl rfl (by kernel_rfl) (by decide) (fun K hK => ?_)
          refine value_ (w1 := ?_) (v := ?_) (by rfl) rfl ?_ ?_
          rotate_left 2
          · go_simp
            constructor
            · rfl
            · rfl
          refine hK.out _ _ ((World.cell?_alloc_lt _ _ _ (World.block_lt_of_cell? _ _ (hcf))).trans (hcf)) (fun hHeld => ?_)
          clear hK K
          refine norm_ (a' := ?_) ?_ ?_
          rotate_left
          · show Act.put _ (some 82) _ = _
            simp only [Act.put, List.setIfInBounds_toArray, List.set_cons_zero, List.set_cons_succ, i64_w, i32_w]
            rfl
          refine one_ (i := 4) (N := some 83) #[true, true, true, true, true, false] rfl rfl (by kernel_rfl) (by decide) (fun K hK => ?_)
          have HS3 := Aside0.mk (HS2.out.below (below_drew (below_alloc (Below.refl _ _) (.cells #[.int .i64 (next xs + (c : Int))] 2))))
          have HL3 := Aside0.mk (HL2.out.below (below_drew (below_alloc (Below.refl _ _) (.cells #[.int .i64 (next xs + (c : Int))] 2))))
          have HPU := Aside0.mk (HL3.out.push hl3 (next xs + (c : Int)))
          refine step_append_room (by rfl) (.tmp 80) (.tmp 82) 22 (by rfl) 2 i0 1 Try.underlying22 hi0 hz1 L 0 xs.length 3 (by rfl) ⟨w1.heap.size, 0, none⟩ 1 1 [.int .i64 (next xs + (c : Int))] (by rfl) rfl (World.news_of_block (cs := #[.int .i64 (next xs + (c : Int))]) (t := 2) (fr := (0, 0)) (heap_alloc_new w1 _)) (by simp [Value.oneCell']) (by omega) (fun j hj => by have h0 : j = 0 := Nat.lt_one_iff.1 hj; subst h0; rw [show 0 + xs.length * 1 + 0 = xs.length by omega]; exact ⟨HPU.out.2.2.1, HPU.out.2.2.2⟩) ?_
          rw [show ∀ W : World, W.setCells L (0 + xs.length * 1) [.int .i64 (next xs + (c : Int))] = W.setCell ⟨L, xs.length, none⟩ (.int .i64 (next xs + (c : Int))) from fun W => by rw [show 0 + xs.length * 1 = xs.length by omega]; rfl]
          have HS5 := Aside0.mk (HS3.out.grownL HS.out HPU.out.2.1)
          have HL5 := Aside0.mk HPU.out.1
          obtain ⟨w5, hw5⟩ : ∃ w5, w5 = ((w1.alloc (.cells #[.int .i64 (next xs + (c : Int))] 2)).drew.setCell ⟨L, xs.length, none⟩ (.int .i64 (next xs + (c : Int)))) := ⟨_, rfl⟩
          rw [← hw5] at HS5 HL5 ⊢
          clear hw5 HPU HL3 HS3
          have hcf5 : w5.cell? ⟨bf, 0, none⟩ = some (.func (.func 169) #[] #[.pointer (some ⟨bt, 0, none⟩), .pointer (some ⟨bs, 0, none⟩), .pointer (some ⟨bc, 0, none⟩), .pointer (some ⟨bf, 0, none⟩)]) := (blk_cell HS5.out.hbf 0).trans rfl
          refine hK.out _ _ (hcf5) (fun hHeld => ?_)
          clear hK K
          refine norm_ (a' := ?_) ?_ ?_
          rotate_left
          · show Act.put _ (some 83) _ = _
            simp only [Act.put, List.setIfInBounds_toArray, List.set_cons_zero, List.set_cons_succ, i64_w, i32_w]
            rfl
          refine one_ (i := 5) (N := some 84) #[true, true, true, true, true, true] rfl rfl (by kernel_rfl) (by decide) (fun K hK => ?_)
          go_simp
          go_at_call 169
          refine (HIH.out (xs.length + 1) (xs ++ [next xs + (c : Int)]) _ (P ++ run (fun i => ext l.length d (xs ++ [i])) (next xs) c) (F ++ offs l m (run (fun i => ext l.length d (xs ++ [i])) (next xs) c)) (tot l m (run (fun i => ext l.length d (xs ++ [i])) (next xs) c)) HE1.out HE2.out ⟨_, _, HS5.out, HL5.out⟩ HE4.out HE5.out HE6.out ⟨hm0, hm1⟩).mono ?_
          rintro e w6 ⟨rfl, hfo⟩
          have HFO := Aside0.mk hfo
          clear hfo
          have hcf6 : w6.cell? ⟨bf, 0, none⟩ = some (.func (.func 169) #[] #[.pointer (some ⟨bt, 0, none⟩), .pointer (some ⟨bs, 0, none⟩), .pointer (some ⟨bc, 0, none⟩), .pointer (some ⟨bf, 0, none⟩)]) := by obtain ⟨_, _, h, _⟩ := HFO.out; exact (blk_cell h.hbf 0).trans rfl
          refine hK.out _ _ (hcf6) (fun hHeld => ?_)
          clear hK K
          refine done_ (by kernel_rfl) ?_
          go_wp2
          go_roundw
          case measure => simp [intOf]; omega
          case rel =>
            obtain ⟨vP2, vF2, k1, k2, k3, k4⟩ := HFO.out
            refine ⟨c + 1, by first | rfl | (simp; omega), by omega, ⟨vP2, vF2, ?_, k2.pop, ?_, ?_⟩⟩
            · rw [run_snoc, offs_append, tot_append, ← List.append_assoc, ← List.append_assoc]; exact k1
            · rw [run_snoc, tot_append]; exact k3
            · rw [run_snoc, tot_append, ← List.append_assoc]; exact k4
        · go_wp2_with (go_at_call 168; (with_reducible refine (impl_places.calls A0 c0 l _ _ (Kd.C_below HC.out HS1.out.hB) HC0.out rfl).mono ?_); rintro e w1 ⟨rfl, hb1⟩; have HB1 := Aside0.mk hb1; clear hb1)
          first | go_end0 | refine bodyPost_ret (results_none rfl _ _ _) rfl ?_
          refine ⟨rfl, vP', vF', ?_, HL1.out.below HB1.out, ?_, ?_⟩
          all_goals
            rw [show ext l.length (d + 1) xs = run (fun i => ext l.length d (xs ++ [i])) (next xs) c from (show run _ _ _ = _ from (by rw [show ((l.length : Int) - next xs).toNat = c by omega]))]
          · exact HS1.out.below HB1.out
          · exact hm0
          · exact hm1
    · have hge : decide ((0:Int) < (xs.length : Int)) = true := decide_eq_true (by omega)
      have hge2 : decide (0 < xs.length) = true := decide_eq_true hx0
      have hx1 : (0:Int) ≤ (xs.length : Int) - 1 := by omega
      have hcl := hcellL.out ((xs.length : Int) - 1) (by omega) (by omega)
      have hcl' : W.cell? ⟨L, xs.length - 1, none⟩ = some (.int .i64 (rd xs ((xs.length : Int) - 1))) := by rw [← hcl]; congr 2; omega
      obtain ⟨y, hy⟩ : ∃ y, y = rd xs ((xs.length : Int) - 1) := ⟨_, rfl⟩
      have hyb := HPL.out _ (at_mem xs ((xs.length : Int) - 1) (by omega) (by omega))
      have hyb0 : 0 ≤ y := by rw [hy]; exact hyb.1
      have hyb1 : y < 8 := by have h1 : y < (l.length : Int) := (by rw [hy]; exact hyb.2); omega
      have hl2 := hlast.out (by omega)
      rw [← hy] at hcl hcl' hl2
      have HS0 := Aside0.mk hl2
      clear hy hyb hl2
      go_wp2
      go_loopw [11] (fun v11 W' => ∃ c : Nat, v11 = .int .i64 (next xs + c) ∧ next xs + c ≤ l.length ∧ Aside0 (Found w0 W' H0 bt bs bc bf gC L A0 c0 l t P F m (run (fun i => ext l.length d (xs ++ [i])) (next xs) c) xs)) (fun v _ => (l.length - intOf v).toNat)
      case atStart => exact ⟨0, by first | (rw [HS0.out]; rfl) | (rw [HS0.out]; simp), by have := HNX.out; omega, ⟨HSS0⟩⟩
      case round =>
        obtain ⟨c, rfl, hc1, HFO⟩ := hrel
        obtain ⟨vP', vF', hss, hll, hm0, hm1⟩ := HFO.out
        have hzs : wr.cell? ⟨bs, 0, none⟩ = some (.slice A0 l.length c0) := (blk_cell hss.hbs 0).trans rfl
        have hzf := (blk_cell hss.hbf 0).trans rfl
        have HS1 := Aside0.mk hss
        have HL1 := Aside0.mk hll
        clear HFO hss hll
        have HNXo := HNX.out
        by_cases hlt : next xs + (c : Int) < (l.length : Int)
        · go_wp2_with (go_at_call 168; (with_reducible refine (impl_places.calls A0 c0 l _ _ (Kd.C_below HC.out HS1.out.hB) HC0.out rfl).mono ?_); rintro e w1 ⟨rfl, hb1⟩; have HB1 := Aside0.mk hb1; clear hb1)
          have HS2 := Aside0.mk (HS1.out.below HB1.out)
          have HL2 := Aside0.mk (HL1.out.below HB1.out)
          have HE1 : Aside0 (xs.length + 1 = (xs ++ [next xs + (c : Int)]).length) := ⟨by simp⟩
          have HE2 : Aside0 ((xs ++ [next xs + (c : Int)]).length + d = t) := ⟨by have := HD.out; simp; omega⟩
          have HE4 : Aside0 (∀ i ∈ xs ++ [next xs + (c : Int)], 0 ≤ i ∧ i < (l.length : Int)) := ⟨fun i hi => by
            rcases List.mem_append.1 hi with h | h
            · exact HPL.out i h
            · rw [List.mem_singleton.1 h]; omega⟩
          have hrl := run_length_le (fun i => ext l.length d (xs ++ [i])) (c + 1) ((l.length : Int) - next xs).toNat (next xs) (by omega)
          have hre : (run (fun i => ext l.length d (xs ++ [i])) (next xs) (c + 1)).length = (run (fun i => ext l.length d (xs ++ [i])) (next xs) c).length + (ext l.length d (xs ++ [next xs + (c : Int)])).length := by rw [run_snoc, List.length_append]
          have HE5 : Aside0 ((P ++ run (fun i => ext l.length d (xs ++ [i])) (next xs) c).length + (ext l.length d (xs ++ [next xs + (c : Int)])).length ≤ 1000) := ⟨by
            have h1 := HP.out
            have h2 : (ext l.length (d + 1) xs).length = (run (fun i => ext l.length d (xs ++ [i])) (next xs) ((l.length : Int) - next xs).toNat).length := rfl
            rw [List.length_append]; omega⟩
          have HE6 : Aside0 ((F ++ offs l m (run (fun i => ext l.length d (xs ++ [i])) (next xs) c)).length = (P ++ run (fun i => ext l.length d (xs ++ [i])) (next xs) c).length) := ⟨by have := HF.out; rw [List.length_append, List.length_append, offs_length]; omega⟩
          clear hrl hre
          have hcf : w1.cell? ⟨bf, 0, none⟩ = some (.func (.func 169) #[] #[.pointer (some ⟨bt, 0, none⟩), .pointer (some ⟨bs, 0, none⟩), .pointer (some ⟨bc, 0, none⟩), .pointer (some ⟨bf, 0, none⟩)]) := (blk_cell HS2.out.hbf 0).trans rfl
          refine start_ (n := 6) (S := fun w' => w'.cell? ⟨bf, 0, none⟩ = some (.func (.func 169) #[] #[.pointer (some ⟨bt, 0, none⟩), .pointer (some ⟨bs, 0, none⟩), .pointer (some ⟨bc, 0, none⟩), .pointer (some ⟨bf, 0, none⟩)])) (ds := []) #[false, false, false, false, false, false] (by kernel_rfl) rfl rfl (hcf) (fun hHeld => ?_)
          refine pure_ (i := 1) (N := some 80) (v := ?_) (a' := ?_) #[false, true, false, false, false, false] rfl rfl (by kernel_rfl) (fun _ _ _ h => h) (Or.inl ⟨by rfl, ?_⟩) ?_ ?_
          rotate_left
          · intro w'
            go_simp
            with_reducible rfl
          rotate_left
          · simp only [Act.put, List.setIfInBounds_toArray, List.set_cons_zero, List.set_cons_succ, i64_w, i32_w]
            rfl
          refine pure_ (i := 2) (N := some 81) (v := ?_) (a' := ?_) #[false, true, true, false, false, false] rfl rfl (by kernel_rfl) (fun _ _ _ h => h) (Or.inl ⟨by rfl, ?_⟩) ?_ ?_
          rotate_left
          · intro w'
            go_simp
            with_reducible rfl
          rotate_left
          · simp only [Act.put, List.setIfInBounds_toArray, List.set_cons_zero, List.set_cons_succ, i64_w, i32_w]
            rfl
          refine take_ (i := 0) (N := some 79) (v := ?_) (a' := ?_) #[true, true, true, false, false, false] rfl rfl (by kernel_rfl) (fun _ _ _ h => h) (Or.inl ⟨by rfl, ?_⟩) hHeld ?_ ?_
          rotate_left
          · intro w' s0
            go_simp
            with_reducible rfl
          rotate_left
          · simp only [Act.put, List.setIfInBounds_toArray, List.set_cons_zero, List.set_cons_succ, i64_w, i32_w]
            rfl
          refine one_ (i := 3) (N := some 82) #[true, true, true, true, false, false] rfl rfl (by kernel_rfl) (by decide) (fun K hK => ?_)
          refine value_ (w1 := ?_) (v := ?_) (by rfl) rfl ?_ ?_
          rotate_left 2
          · go_simp
            constructor
            · rfl
            · rfl
          refine hK.out _ _ ((World.cell?_alloc_lt _ _ _ (World.block_lt_of_cell? _ _ (hcf))).trans (hcf)) (fun hHeld => ?_)
          clear hK K
          refine norm_ (a' := ?_) ?_ ?_
          rotate_left
          · show Act.put _ (some 82) _ = _
            simp only [Act.put, List.setIfInBounds_toArray, List.set_cons_zero, List.set_cons_succ, i64_w, i32_w]
            rfl
          refine one_ (i := 4) (N := some 83) #[true, true, true, true, true, false] rfl rfl (by kernel_rfl) (by decide) (fun K hK => ?_)
          have HS3 := Aside0.mk (HS2.out.below (below_drew (below_alloc (Below.refl _ _) (.cells #[.int .i64 (next xs + (c : Int))] 2))))
          have HL3 := Aside0.mk (HL2.out.below (below_drew (below_alloc (Below.refl _ _) (.cells #[.int .i64 (next xs + (c : Int))] 2))))
          have HPU := Aside0.mk (HL3.out.push hl3 (next xs + (c : Int)))
          refine step_append_room (by rfl) (.tmp 80) (.tmp 82) 22 (by rfl) 2 i0 1 Try.underlying22 hi0 hz1 L 0 xs.length 3 (by rfl) ⟨w1.heap.size, 0, none⟩ 1 1 [.int .i64 (next xs + (c : Int))] (by rfl) rfl (World.news_of_block (cs := #[.int .i64 (next xs + (c : Int))]) (t := 2) (fr := (0, 0)) (heap_alloc_new w1 _)) (by simp [Value.oneCell']) (by omega) (fun j hj => by have h0 : j = 0 := Nat.lt_one_iff.1 hj; subst h0; rw [show 0 + xs.length * 1 + 0 = xs.length by omega]; exact ⟨HPU.out.2.2.1, HPU.out.2.2.2⟩) ?_
          rw [show ∀ W : World, W.setCells L (0 + xs.length * 1) [.int .i64 (next xs + (c : Int))] = W.setCell ⟨L, xs.length, none⟩ (.int .i64 (next xs + (c : Int))) from fun W => by rw [show 0 + xs.length * 1 = xs.length by omega]; rfl]
          have HS5 := Aside0.mk (HS3.out.grownL HS.out HPU.out.2.1)
          have HL5 := Aside0.mk HPU.out.1
          obtain ⟨w5, hw5⟩ : ∃ w5, w5 = ((w1.alloc (.cells #[.int .i64 (next xs + (c : Int))] 2)).drew.setCell ⟨L, xs.length, none⟩ (.int .i64 (next xs + (c : Int)))) := ⟨_, rfl⟩
          rw [← hw5] at HS5 HL5 ⊢
          clear hw5 HPU HL3 HS3
          have hcf5 : w5.cell? ⟨bf, 0, none⟩ = some (.func (.func 169) #[] #[.pointer (some ⟨bt, 0, none⟩), .pointer (some ⟨bs, 0, none⟩), .pointer (some ⟨bc, 0, none⟩), .pointer (some ⟨bf, 0, none⟩)]) := (blk_cell HS5.out.hbf 0).trans rfl
          refine hK.out _ _ (hcf5) (fun hHeld => ?_)
          clear hK K
          refine norm_ (a' := ?_) ?_ ?_
          rotate_left
          · show Act.put _ (some 83) _ = _
            simp only [Act.put, List.setIfInBounds_toArray, List.set_cons_zero, List.set_cons_succ, i64_w, i32_w]
            rfl
          refine one_ (i := 5) (N := some 84) #[true, true, true, true, true, true] rfl rfl (by kernel_rfl) (by decide) (fun K hK => ?_)
          go_simp
          go_at_call 169
          refine (HIH.out (xs.length + 1) (xs ++ [next xs + (c : Int)]) _ (P ++ run (fun i => ext l.length d (xs ++ [i])) (next xs) c) (F ++ offs l m (run (fun i => ext l.length d (xs ++ [i])) (next xs) c)) (tot l m (run (fun i => ext l.length d (xs ++ [i])) (next xs) c)) HE1.out HE2.out ⟨_, _, HS5.out, HL5.out⟩ HE4.out HE5.out HE6.out ⟨hm0, hm1⟩).mono ?_
          rintro e w6 ⟨rfl, hfo⟩
          have HFO := Aside0.mk hfo
          clear hfo
          have hcf6 : w6.cell? ⟨bf, 0, none⟩ = some (.func (.func 169) #[] #[.pointer (some ⟨bt, 0, none⟩), .pointer (some ⟨bs, 0, none⟩), .pointer (some ⟨bc, 0, none⟩), .pointer (some ⟨bf, 0, none⟩)]) := by obtain ⟨_, _, h, _⟩ := HFO.out; exact (blk_cell h.hbf 0).trans rfl
          refine hK.out _ _ (hcf6) (fun hHeld => ?_)
          clear hK K
          refine done_ (by kernel_rfl) ?_
          go_wp2
          go_roundw
          case measure => simp [intOf]; omega
          case rel =>
            obtain ⟨vP2, vF2, k1, k2, k3, k4⟩ := HFO.out
            refine ⟨c + 1, by first | rfl | (simp; omega), by omega, ⟨vP2, vF2, ?_, k2.pop, ?_, ?_⟩⟩
            · rw [run_snoc, offs_append, tot_append, ← List.append_assoc, ← List.append_assoc]; exact k1
            · rw [run_snoc, tot_append]; exact k3
            · rw [run_snoc, tot_append, ← List.append_assoc]; exact k4
        · go_wp2_with (go_at_call 168; (with_reducible refine (impl_places.calls A0 c0 l _ _ (Kd.C_below HC.out HS1.out.hB) HC0.out rfl).mono ?_); rintro e w1 ⟨rfl, hb1⟩; have HB1 := Aside0.mk hb1; clear hb1)
          first | go_end0 | refine bodyPost_ret (results_none rfl _ _ _) rfl ?_
          refine ⟨rfl, vP', vF', ?_, HL1.out.below HB1.out, ?_, ?_⟩
          all_goals
            rw [show ext l.length (d + 1) xs = run (fun i => ext l.length d (xs ++ [i])) (next xs) c from (show run _ _ _ = _ from (by rw [show ((l.length : Int) - next xs).toNat = c by omega]))]
          · exact HS1.out.below HB1.out
          · exact hm0
          · exact hm1
/- H92 -/
set_option maxHeartbeats 8000000 in
set_option maxRecDepth 100000 in
theorem newChoices_calls (A0 : Option Addr) (c0 : Nat) (l : List Int) (t : Nat) (w : World) (hC : Kd.C (Kd.int .i64) w A0 l.length l) (hc0 : l.length ≤ c0) (hl : Sz l) (hn8 : l.length ≤ 8) (ht : t ≤ 3) :
    Calls Try.prog 92 #[.agg #[.slice A0 l.length c0], .int .i64 t] w fun e w' => ∃ g, e = .returned (.pointer (some ⟨g, 0, none⟩)) ∧ ChAt w' g l (ext l.length t []) (offs l 0 (ext l.length t [])) (tot l 0 (ext l.length t [])) ∧ 0 ≤ tot l 0 (ext l.length t []) ∧ tot l 0 (ext l.length t []) ≤ 64 * (ext l.length t []).length ∧ Below w.heap.size w w' := by
  have HC := Aside0.mk hC
  have HC0 := Aside0.mk hc0
  have HSZ := Aside0.mk hl
  have HEX := Aside0.mk (ext_len512 l.length t hn8 ht)
  clear hC hc0 hl
  have hu28 := Try.underlying28
  have hu92 := Try.underlying92
  have hmk : ∀ w, (Instr.makeSlice 22 (.int .i64 0) (.int .i64 3)).run Try.prog w = .ok (.slice (some ⟨w.heap.size, 0, none⟩) 0 3) (w.alloc (.cells #[.int .i64 0, .int .i64 0, .int .i64 0] 2)) := fun _ => by kernel_rfl
  have hmf : ∀ (fn : Fn) (first cap : Array Value) (w : World), (Instr.makeFunc fn first cap).run Try.prog w = .ok (.func fn first cap) w := fun _ _ _ _ => rfl
  go_enter Try.func92, Try.ntmps92
  go_wp2_with (first | ((with_reducible refine gate_dst (N := 2) rfl ?_); refine box_event ?hg (N := 2) ?hd (cs := #[.slice A0 l.length c0]) (t := 28) ?hr ?_; (case hd => rfl); (case hg => rfl); (case hr => first | (go_simp; done) | (go_simp; rfl)); intro bs hg_ w1 hbox_ hb_; have K1 := Aside0.mk hbox_; have B1 := Aside0.mk hb_; have G1 := Aside0.mk hg_; clear hbox_ hb_ hg_; skip) | ((with_reducible refine gate_dst (N := 3) rfl ?_); refine box_event ?hg (N := 3) ?hd (cs := #[.int .i64 t]) (t := 2) ?hr ?_; (case hd => rfl); (case hg => rfl); (case hr => first | (go_simp; done) | (go_simp; rfl)); intro bt hg_ w2 hbox_ hb_; have K2 := Aside0.mk hbox_; have B2 := Aside0.mk hb_; have G2 := Aside0.mk hg_; clear hbox_ hb_ hg_; have hk1 : w2.cell? ⟨bs, 0, none⟩ = some (.slice A0 l.length c0) := (blk_cell (blk_below K1.out B2.out) 0).trans rfl) | ((with_reducible refine gate_dst (N := 9) rfl ?_); refine box_event ?hg (N := 9) ?hd (cs := #[.slice A0 l.length c0, .slice none 0 0, .slice none 0 0, .int .i64 0]) (t := 92) ?hr ?_; (case hd => rfl); (case hg => rfl); (case hr => first | (go_simp; done) | (go_simp; rfl)); intro gC hg_ w3 hbox_ hb_; have K3 := Aside0.mk hbox_; have B3 := Aside0.mk hb_; have G3 := Aside0.mk hg_; clear hbox_ hb_ hg_; skip) | ((with_reducible refine gate_dst (N := 5) rfl ?_); refine box_event ?hg (N := 5) ?hd (cs := #[.pointer none]) (t := 88) ?hr ?_; (case hd => rfl); (case hg => rfl); (case hr => first | (go_simp; done) | (go_simp; rfl)); intro bc hg_ w4 hbox_ hb_; have K4 := Aside0.mk hbox_; have B4 := Aside0.mk hb_; have G4 := Aside0.mk hg_; clear hbox_ hb_ hg_; have hk4 : w4.cell? ⟨bc, 0, none⟩ = some (.pointer none) := (blk_cell K4.out 0).trans rfl; have hf4 := blk_frozen K4.out 0) | ((with_reducible refine gate_dst (N := 6) rfl ?_); refine box_event ?hg (N := 6) ?hd (cs := #[.nilFunc]) (t := 144) ?hr ?_; (case hd => rfl); (case hg => rfl); (case hr => first | (go_simp; done) | (go_simp; rfl)); intro bf hg_ w5 hbox_ hb_; have K5 := Aside0.mk hbox_; have B5 := Aside0.mk hb_; have G5 := Aside0.mk hg_; clear hbox_ hb_ hg_; refine Here.out ?_))
  refine ⟨?_⟩
  have hk5 : w5.cell? ⟨bf, 0, none⟩ = some .nilFunc := (blk_cell K5.out 0).trans rfl
  have hf5 := blk_frozen K5.out 0
  go_wp2
  have e2 : bs < bt := by rw [G2.out]; exact blk_lt K1.out
  have e3 : bt < gC := by rw [G3.out]; exact blk_lt K2.out
  have e4 : gC < bc := by rw [G4.out]; exact blk_lt K3.out
  have e5 : bc < bf := by rw [G5.out]; have := blk_lt K4.out; simpa using this
  have e6 : bf < w5.heap.size := blk_lt K5.out
  have e1 : w.heap.size ≤ bs := by rw [G1.out]; exact Nat.le_refl _
  obtain ⟨w6, hw6⟩ : ∃ w6, w6 = w5.setCell ⟨bf, 0, none⟩ (.func (.func 169) #[] #[.pointer (some ⟨bt, 0, none⟩), .pointer (some ⟨bs, 0, none⟩), .pointer (some ⟨bc, 0, none⟩), .pointer (some ⟨bf, 0, none⟩)]) := ⟨_, rfl⟩
  rw [← hw6]
  have e7 : w6.heap.size = w5.heap.size := by rw [hw6]; simp
  have X1 : w6.heap[bs]? = some (.cells #[.slice A0 l.length c0] 28 (0, 0)) := by
    rw [hw6]; exact blk_far (blk_below (blk_far (blk_below (blk_below (blk_below K1.out B2.out) B3.out) B4.out) (by show bs ≠ bc; omega) _) B5.out) (by show bs ≠ bf; omega) _
  have X2 : w6.heap[bt]? = some (.cells #[.int .i64 t] 2 (0, 0)) := by
    rw [hw6]; exact blk_far (blk_below (blk_far (blk_below (blk_below K2.out B3.out) B4.out) (by show bt ≠ bc; omega) _) B5.out) (by show bt ≠ bf; omega) _
  have X3 : w6.heap[gC]? = some (.cells #[.slice A0 l.length c0, .slice none 0 0, .slice none 0 0, .int .i64 0] 92 (0, 0)) := by
    rw [hw6]; exact blk_far (blk_below (blk_far (blk_below K3.out B4.out) (by show gC ≠ bc; omega) _) B5.out) (by show gC ≠ bf; omega) _
  have X4 : w6.heap[bc]? = some (.cells #[.pointer (some ⟨gC, 0, none⟩)] 88 (0, 0)) := by
    rw [hw6]; exact blk_far (blk_below (blk_put K4.out 0 _ rfl) B5.out) (by show bc ≠ bf; omega) _
  have X5 : w6.heap[bf]? = some (.cells #[(.func (.func 169) #[] #[.pointer (some ⟨bt, 0, none⟩), .pointer (some ⟨bs, 0, none⟩), .pointer (some ⟨bc, 0, none⟩), .pointer (some ⟨bf, 0, none⟩)])] 144 (0, 0)) := by
    rw [hw6]; exact blk_put K5.out 0 _ rfl
  have X6 : Below w.heap.size w w6 := by
    rw [hw6]; exact below_set (below_step (below_set (below_step (below_step (below_step B1.out B2.out) B3.out) B4.out) (by omega)) B5.out) (by omega)
  have SST : Aside0 (SSt w (w6.heap.size + 1) bt bs bc bf gC w6.heap.size) := ⟨⟨⟨by omega, by omega, by omega, by omega, by omega, by omega⟩, ⟨by omega, by omega⟩, ⟨by omega, by omega, by omega, by omega⟩, ⟨by omega, by omega, by omega, by omega, by omega⟩⟩⟩
  have hlen : Aside0 ((([] : List (List Int)).length + (ext l.length t []).length) ≤ 1000) := ⟨by have := HEX.out; simp; omega⟩
  have hcf : w6.cell? ⟨bf, 0, none⟩ = some (.func (.func 169) #[] #[.pointer (some ⟨bt, 0, none⟩), .pointer (some ⟨bs, 0, none⟩), .pointer (some ⟨bc, 0, none⟩), .pointer (some ⟨bf, 0, none⟩)]) := (blk_cell X5 0).trans rfl
  have hcb : w6.cell? ⟨bc, 0, none⟩ = some (.pointer (some ⟨gC, 0, none⟩)) := (blk_cell X4 0).trans rfl
  have STA : Aside0 (Start w ((w6.alloc (.cells #[.int .i64 0, .int .i64 0, .int .i64 0] 2)).drew) (w6.heap.size + 1) bt bs bc bf gC w6.heap.size A0 c0 l t [] [] 0 []) := ⟨.slice none 0 0, .slice none 0 0,
    ⟨blk_alloc X2 _, blk_alloc X1 _, blk_alloc X4 _, blk_alloc X5 _, blk_alloc X3 _, Kd.R_nil _ _ _ _ _, Kd.R_nil _ _ _ _ _, below_drew (below_alloc X6 _), by show _ ≤ (w6.alloc _).heap.size; rw [World.size_alloc]; exact Nat.le_refl _⟩,
    LL.of (W := (w6.alloc (.cells #[.int .i64 0, .int .i64 0, .int .i64 0] 2)).drew) #[.int .i64 0, .int .i64 0, .int .i64 0] (blk_new w6 _) rfl (by decide) rfl⟩
  clear hw6 hk4 hf4 hk5 hf5 hk1 K1 K2 K3 K4 K5 B1 B2 B3 B4 B5 G1 G2 G3 G4 G5 e1 e2 e3 e4 e5 e6 e7 hmf
  have Y1 := Aside0.mk X1
  have Y2 := Aside0.mk X2
  have Y3 := Aside0.mk X3
  have Y4 := Aside0.mk X4
  have Y5 := Aside0.mk X5
  have Y6 := Aside0.mk X6
  clear X1 X2 X3 X4 X5 X6
  refine start_ (n := 3) (S := fun w' => w'.cell? ⟨bf, 0, none⟩ = some (.func (.func 169) #[] #[.pointer (some ⟨bt, 0, none⟩), .pointer (some ⟨bs, 0, none⟩), .pointer (some ⟨bc, 0, none⟩), .pointer (some ⟨bf, 0, none⟩)])) (ds := []) #[false, false, false] (by kernel_rfl) rfl rfl (hcf) (fun hHeld => ?_)
  refine take_ (i := 0) (N := some 11) (v := ?_) (a' := ?_) #[true, false, false] rfl rfl (by kernel_rfl) (fun _ _ _ h => h) (Or.inl ⟨by rfl, ?_⟩) hHeld ?_ ?_
  rotate_left
  · intro w' s0
    go_simp
    with_reducible rfl
  rotate_left
  · simp only [Act.put, List.setIfInBounds_toArray, List.set_cons_zero, List.set_cons_succ, i64_w, i32_w]
    rfl
  refine one_ (i := 1) (N := some 12) #[true, true, false] rfl rfl (by kernel_rfl) (by decide) (fun K hK => ?_)
  refine value_ (w1 := ?_) (v := ?_) (by rfl) rfl ?_ ?_
  rotate_left 2
  · go_simp
    constructor
    · rfl
    · rfl
  refine hK.out _ _ ((World.cell?_alloc_lt _ _ _ (World.block_lt_of_cell? _ _ (hcf))).trans (hcf)) (fun hHeld => ?_)
  clear hK K
  refine norm_ (a' := ?_) ?_ ?_
  rotate_left
  · show Act.put _ (some 12) _ = _
    simp only [Act.put, List.setIfInBounds_toArray, List.set_cons_zero, List.set_cons_succ, i64_w, i32_w]
    rfl
  refine one_ (i := 2) (N := some 13) #[true, true, true] rfl rfl (by kernel_rfl) (by decide) (fun K hK => ?_)
  go_simp
  go_at_call 169
  refine (search_calls w (w6.heap.size + 1) bt bs bc bf gC w6.heap.size A0 c0 l t SST.out HC.out HC0.out HSZ.out hn8 ht t 0 [] _ [] [] 0 rfl (by simp) STA.out (by simp) hlen.out rfl ⟨by omega, by simp⟩).mono ?_
  rintro e w7 ⟨rfl, hfo⟩
  have HFO := Aside0.mk hfo
  clear hfo
  have hcf7 : w7.cell? ⟨bf, 0, none⟩ = some (.func (.func 169) #[] #[.pointer (some ⟨bt, 0, none⟩), .pointer (some ⟨bs, 0, none⟩), .pointer (some ⟨bc, 0, none⟩), .pointer (some ⟨bf, 0, none⟩)]) := by obtain ⟨_, _, h, _⟩ := HFO.out; exact (blk_cell h.hbf 0).trans rfl
  have hcb7 : w7.cell? ⟨bc, 0, none⟩ = some (.pointer (some ⟨gC, 0, none⟩)) := by obtain ⟨_, _, h, _⟩ := HFO.out; exact (blk_cell h.hbc 0).trans rfl
  refine hK.out _ _ (hcf7) (fun hHeld => ?_)
  clear hK K
  refine done_ (by kernel_rfl) ?_
  go_wp2
  go_ret
  obtain ⟨vP, vF, h1, h2, h3, h4⟩ := HFO.out
  rw [List.nil_append] at h1 h4
  rw [List.nil_append] at h1
  obtain ⟨AP, cP, rfl⟩ := Kd.R_slice h1.rP
  obtain ⟨AF, cF, rfl⟩ := Kd.R_slice h1.rF
  exact ⟨gC, rfl, ⟨A0, c0, AP, cP, AF, cF, h1.hgC, HC0.out, Kd.C_below HC.out h1.hB, (Kd.R_reads' h1.rP).2.2, (Kd.R_reads' h1.rF).2.2⟩, h3, h4, h1.hB⟩
/- H93 -/
set_option maxHeartbeats 8000000 in
set_option maxRecDepth 100000 in
theorem often_calls (g : Nat) (l : List Int) (P : List (List Int)) (F : List Int) (m : Int) (A9 : Option Addr) (c9 : Nat) (rows : List Int) (w : World) (hch : ChAt w g l P F m) (hok : ChOk l P F) (hfit : Fits l P F m) (hm : 0 ≤ m ∧ m ≤ 1000000)
    (hR : Kd.C (Kd.int .i64) w A9 rows.length rows) (hr : ∀ r ∈ rows, 0 ≤ r ∧ r < 1073741824) (hrl : rows.length ≤ 1000) :
    Calls Try.prog 93 #[.pointer (some ⟨g, 0, none⟩), .slice A9 rows.length c9] w fun e w' => ∃ v0_ : Value, e = .returned v0_ ∧ Kd.R (Kd.int .i64) 2 w' w.heap.size (fun _ => True) v0_ (oftenTo l P F m rows) ∧ Below w.heap.size w w' := by
  have hz3 : w.cell? ⟨g, 3, none⟩ = some (.int .i64 m) := by obtain ⟨A0, c0, A1, c1, A2, c2, hg, _⟩ := hch; exact (blk_cell hg 3).trans rfl
  have HCH := Aside0.mk hch
  have HK := Aside0.mk hok
  have HF := Aside0.mk hfit
  have HR := Aside0.mk hR
  have HRW := Aside0.mk hr
  obtain ⟨hm0, hm1⟩ := hm
  have hm0' : decide (0 ≤ m) = true := by simp [hm0]
  clear hch hok hfit hR hr
  have hu92 := Try.underlying92
  go_enter Try.func93, Try.ntmps93
  go_wp2_with ((with_reducible refine gate_dst (N := 14) rfl ?_); refine Here.out ?_)
  refine ⟨?_⟩
  refine Kd.R_make (Kd.int .i64) _ 2 rfl (N := 14) rfl 22 _ _ rfl m rfl rfl Try.underlying22 (.int .i64 0) 8 info2 rfl (by decide) (by omega) 0 (ok := fun _ => True) (okp := fun _ => True) rfl (fun _ hk => hk) trivial hm0 (by omega) (Below.refl _ _) (Nat.le_refl _) ?_
  intro v1 w1 ho hb hg_ hnew_
  have HO1 := Aside0.mk ho
  have HB1 := Aside0.mk hb
  clear ho hb hg_ hnew_ hz3
  go_wp2
  go_loopw [17] (fun v17 W => ∃ x : Int, 0 ≤ x ∧ x ≤ rows.length ∧ v17 = .int .i64 x ∧ Aside0 (Kd.R (Kd.int .i64) 2 W w.heap.size (fun _ => True) v1 (oftenTo l P F m (rows.take x.toNat))) ∧ Aside0 (Below w.heap.size w W)) (fun v _ => (rows.length - intOf v).toNat)
  case atStart => exact ⟨0, by omega, by omega, rfl, HO1, HB1⟩
  case round =>
    obtain ⟨x, hx0, hx1, rfl, HOx, HBx⟩ := hrel
    clear HO1 HB1
    by_cases hlt : x < (rows.length : Int)
    · obtain ⟨ad, rfl, hxc⟩ := Kd.at_int HR.out x hx0 hlt
      replace hxc := (HBx.out.cell (World.block_lt_of_cell? w _ hxc)).trans hxc
      obtain ⟨hr0, hr1⟩ := HRW.out _ (at_mem rows x hx0 hlt)
      have hr0' : 0 ≤ rd rows x := hr0
      have hr1' : rd rows x < 1073741824 := hr1
      go_wp2_with (go_at_call 94; (with_reducible refine (of_calls g l P F m (rd rows x) _ (HCH.out.below HBx.out) HK.out ⟨hr0', hr1'⟩).mono ?_); rintro e w2 ⟨v23, rfl, ho23, hb23⟩; obtain ⟨A23, c23, rfl⟩ := Kd.R_slice ho23; have HO23 := Aside0.mk ho23; have HB23 := Aside0.mk hb23; clear ho23 hb23)
      have hl23 : (ofTo l P F (rd rows x) P.length).length = P.length := ofTo_length _ _ _ _ _
      have hmost := HK.out.most
      obtain ⟨ns, hns⟩ : ∃ ns : List Int, ns = ofTo l P F (rd rows x) P.length := ⟨_, rfl⟩
      rw [← hns] at HO23 hl23 ⊢
      have HNS := Aside0.mk hns
      clear hns
      have HO5 := Aside0.mk (Kd.R_below HOx.out HB23.out)
      have HB5 := Aside0.mk (below_step HBx.out HB23.out)
      have HO24 := Aside0.mk (Kd.R_mono (ok' := fun k => wr.heap.size ≤ k) (Kd.R_bound HO23.out) (fun k hk => hk.2.1))
      obtain ⟨wo, hwo⟩ : ∃ wo : World, wo = wr := ⟨_, rfl⟩
      have HLT : Aside0 (∀ k, v1.ownBlock = some k → k < wr.heap.size) := ⟨Kd.R_lt HOx.out⟩
      subst hwo
      clear HOx HBx HB23 HO23
      obtain ⟨o, ho⟩ : ∃ o : List Int, o = oftenTo l P F m (rows.take x.toNat) := ⟨_, rfl⟩
      have hol : (o.length : Int) = m := by rw [ho, oftenTo_length]; omega
      have hup : Upto o (600000 : Int) := by
        rw [ho]
        refine (oftenTo_upto HF.out _ (fun r hr => (HRW.out r (List.mem_of_mem_take hr)).1)).mono ?_
        have h1 : ((rows.take x.toNat).length : Int) ≤ 1000 := by have := List.length_take_le' x.toNat rows; omega
        have h2 : (P.length : Int) ≤ 512 := by omega
        have := Int.mul_le_mul h1 h2 (by omega) (by omega)
        omega
      have hfit : ∀ n ∈ ns, 0 ≤ n ∧ n < m := by rw [HNS.out]; exact HF.out _ hr0
      rw [← ho] at HO5
      have HOE := Aside0.mk ho
      have HUP := Aside0.mk hup
      have HFI := Aside0.mk hfit
      have HOL := Aside0.mk hol
      clear ho hup hfit hol
      go_loopw [25] (fun v25 W => ∃ j : Int, 0 ≤ j ∧ j ≤ ns.length ∧ v25 = .int .i64 j ∧ Aside0 (Kd.R (Kd.int .i64) 2 W w.heap.size (fun _ => True) v1 (incs o (ns.take j.toNat))) ∧ Aside0 (Kd.R (Kd.int .i64) 2 W wo.heap.size (fun k => wo.heap.size ≤ k) (.slice A23 ns.length c23) ns) ∧ Aside0 (Below w.heap.size w W)) (fun v _ => (ns.length - intOf v).toNat)
      case atStart => exact ⟨0, by omega, by omega, rfl, HO5, HO24, HB5⟩
      case round =>
        obtain ⟨j, hj0, hj1, rfl, HOj, HNj, HBj⟩ := hrel
        by_cases hjl : j < (ns.length : Int)
        · obtain ⟨ad3, rfl, hx3⟩ := Kd.at_int (Kd.R_reads' HNj.out).2.2 j hj0 hjl
          obtain ⟨hn0, hn1⟩ := HFI.out _ (at_mem ns j hj0 hjl)
          have hlen : ((incs o (ns.take j.toNat)).length : Int) = m := by rw [incs_length]; exact HOL.out
          have hupj : 0 ≤ at' (incs o (ns.take j.toNat)) (rd ns j) ∧ at' (incs o (ns.take j.toNat)) (rd ns j) ≤ 601000 := by
            have hu := HUP.out.incs (ns := ns.take j.toNat) (fun n hn => by have h1 := HFI.out n (List.mem_of_mem_take hn); have := HOL.out; omega)
            have h3 := hu.at (rd ns j) (by have h4 : 0 ≤ rd ns j := hn0; have h5 : rd ns j < m := hn1; omega)
            have h2 := List.length_take_le' j.toNat ns
            omega
          have hn0' : 0 ≤ rd ns j := hn0
          have hn1' : rd ns j < m := hn1
          obtain ⟨n, hn⟩ : ∃ n : Int, n = rd ns j := ⟨_, rfl⟩
          rw [← hn] at hx3 hn0' hn1' hupj
          have HN := Aside0.mk hn
          clear hn hn0 hn1
          obtain ⟨go, co, eo, gb, gl, cl, HG⟩ := Kd.R_form HOj.out (by omega)
          subst eo
          have hnl : n < ((incs o (ns.take j.toNat)).length : Int) := by omega
          obtain ⟨hx9, hf9⟩ := Kd.R_celln 0 HOj.out n hn0' hnl
          have hgo : go < wo.heap.size := HLT.out go rfl
          have HPUT := Aside0.mk (Kd.R_putg HOj.out n (at' (incs o (ns.take j.toNat)) n + 1))
          have HFAR := Aside0.mk (Kd.R_far (p := ⟨go, n.toNat, none⟩) HNj.out (fun k hk => by have : wo.heap.size ≤ k := hk; show k ≠ go; omega) (.int .i64 (at' (incs o (ns.take j.toNat)) n + 1)))
          obtain ⟨cc, hcc⟩ : ∃ cc : Int, cc = at' (incs o (ns.take j.toNat)) n := ⟨_, rfl⟩
          obtain ⟨hup0, hup1⟩ := hupj
          have hx10 : wr.cell? ⟨go, n.toNat, none⟩ = some (.int .i64 cc) := by rw [hcc]; exact hx9
          rw [← hcc] at hup0 hup1 HPUT HFAR
          have HCC := Aside0.mk hcc
          clear hcc hx9
          go_wp2
          go_roundw
          case measure => simp [intOf]; omega
          case rel =>
            refine ⟨j + 1, by omega, by omega, by first | rfl | (simp; done), ⟨?_⟩, ⟨HFAR.out⟩, ⟨below_set HBj.out gb⟩⟩
            rw [take_snoc ns j hj0 hjl, incs_snoc, show at' ns j = n from HN.out.symm]
            have h := HPUT.out.1
            rw [HCC.out] at h ⊢
            have e : (incs o (ns.take j.toNat)).length = (inc1 (incs o (ns.take j.toNat)) n).length := (inc1_length _ _).symm
            exact h
        · have hje : j = ns.length := by omega
          rw [hje, take_all] at HOj
          go_wp2
          go_roundw
          case measure => simp [intOf]; omega
          case rel =>
            refine ⟨x + 1, by omega, by omega, by first | rfl | (simp; done), ⟨?_⟩, HBj⟩
            rw [take_snoc rows x hx0 hlt, oftenTo_snoc, ← HOE.out, show at' rows x = rd rows x from rfl, ← HNS.out]
            exact HOj.out
    · go_wp2
      go_ret
      exact ⟨_, rfl, by rw [show x = (rows.length : Int) by omega, take_all] at HOx; exact HOx.out, HBx.out⟩
/- F90 -/
def impl_isStrength.f (l0_0 : List Int) (a1 : Int) : Option (Bool) := if a1 ≥ 1 then ((impl_places.f l0_0).bind fun t102 => (some (decide (a1 ≤ (mn 3 t102))))) else (some false)
set_option maxHeartbeats 8000000 in
set_option maxRecDepth 100000 in
theorem impl_isStrength.calls (A0_0 : Option Addr) (c0_0 : Nat) (l0_0 : List Int) (a1 : Int) (r : Bool) (w : World) (hr0_0 : Kd.C (Kd.int .i64) w A0_0 l0_0.length l0_0) (hc0_0 : l0_0.length ≤ c0_0) (h : impl_isStrength.f l0_0 a1 = some r) :
    Calls Try.prog 90 #[.agg #[.slice A0_0 l0_0.length c0_0], .int .i64 a1] w fun e w' => e = .returned (.bool r) ∧ Below w.heap.size w w' := by
  have hu28 := Try.underlying28
  have HR0_0 := Aside0.mk hr0_0
  have HC0_0 := Aside0.mk hc0_0
  clear hr0_0 hc0_0
  have HB := Aside0.mk (Below.refl w.heap.size w)
  have H : (if a1 ≥ 1 then ((impl_places.f l0_0).bind fun t102 => (some (decide (a1 ≤ (mn 3 t102))))) else (some false)) = some r := h
  clear h
  by_cases c3 : a1 ≥ 1
  · rw [if_pos c3] at H
    have c3b0 : decide (1 ≤ a1) = true := decide_eq_true c3
    clear c3
    replace H := Option.bind_eq_some_iff.mp H
    obtain ⟨t102, A40, H⟩ := H
    replace H : (some (decide (a1 ≤ (mn 3 t102)))) = some r := H
    have A4 := Aside0.mk A40
    clear A40
    obtain ⟨ji5, hji5⟩ : ∃ j_ : Int, (mn 3 t102) = j_ := ⟨_, rfl⟩
    replace H : (some (decide (a1 ≤ (ji5)))) = some r := by first | (rw [hji5] at H; exact H) | (simp only [hji5] at H ⊢; exact H)
    (try rw [hji5] at A4)
    (try (have hji5h : ji5 ≤ 3 := by (rw [← hji5]; unfold mn; (repeat' split) <;> omega)))
    (try (have hji5g : ji5 ≤ 64 := by omega))
    have hji5_ : (if t102 < 3 then t102 else 3) = ji5 := hji5
    obtain rfl := Option.some.inj H
    go_enter Try.func90, Try.ntmps90
    go_wp2_with (first | ((with_reducible refine gate_dst (N := 2) rfl ?_); (try (refine gate_guard (by rfl) ?_; dsimp only)); refine box_event ?hg (N := 2) ?hd (cs := #[.slice A0_0 l0_0.length c0_0]) (t := 28) ?hr ?_; (case hd => rfl); (case hg => rfl); (case hr => first | (go_simp; done) | (go_simp; rfl)); intro gb101 hg w6 hbox hb; have n0_ := Aside0.mk (below_step (by repeat (first | (with_reducible first | exact HB.out | apply below_alloc | apply pw_below_drewN | apply below_drew1) | exact HB.out)) hb); have n1_ := Aside0.mk (hbox); have n2_ := Aside0.mk ((by rw [hg]; exact (below_size (by repeat (first | (with_reducible first | exact HB.out | apply below_alloc | apply pw_below_drewN | apply below_drew1) | exact HB.out))) : w.heap.size ≤ gb101)); have n3_ := Aside0.mk ((by rw [hg]; exact (below_size (by repeat (first | (with_reducible first | exact HB.out | apply below_alloc | apply pw_below_drewN | apply below_drew1) | exact HB.out))) : w.heap.size ≤ gb101)); clear HB; have HB := n0_; have BK101 := n1_; have GW101 := n2_; have GE101 := n3_; clear n0_ n1_ n2_ n3_; clear hb hbox hg; have hcz7_0 : w6.cell? ⟨gb101, 0, none⟩ = some (.slice A0_0 l0_0.length c0_0) := (blk_cell BK101.out 0).trans rfl; have hfz7_0 := blk_frozen BK101.out 0) | (go_at_call 168; (with_reducible refine (impl_places.calls _ _ l0_0 t102 _ ?side1 ?side2 A4.out).mono ?_); (case side1 => repeat (first | exact (Kd.C_below HR0_0.out HB.out) | (with_reducible refine Kd.C_alloc ?_ _) | (with_reducible refine Kd.C_drewN ?_ _) | (with_reducible refine Kd.C_drew ?_))); (case side2 => exact HC0_0.out); rintro e w8 ⟨rfl, hb⟩; have n0_ := Aside0.mk (blk_below (g := gb101) (o := .cells #[.slice A0_0 l0_0.length c0_0] 28 (0, 0)) (by (with_reducible repeat (first | refine blk_drewN ?_ _ | refine blk_drew ?_ | refine blk_alloc ?_ _)); exact BK101.out) hb); have n1_ := Aside0.mk (below_step (by repeat (first | (with_reducible first | exact HB.out | apply below_alloc | apply pw_below_drewN | apply below_drew1 | refine below_set ?_ GE101.out) | exact HB.out)) hb); clear BK101; clear HB; have BK101 := n0_; have HB := n1_; clear n0_ n1_; (try clear hb); (try clear hb2); (try clear hk); (try clear hi)))
    go_ret
    exact ⟨by first | rfl | (simp [errW_none, errW_some] <;> rfl) | (simp only [← hji5]; first | rfl | (simp [errW_none, errW_some] <;> rfl)) | (simp [*, errW_none, errW_some] <;> rfl), by repeat (first | (with_reducible first | exact HB.out | apply below_alloc | apply pw_below_drewN | apply below_drew1 | refine below_set ?_ GE101.out) | exact HB.out)⟩
  · rw [if_neg c3] at H
    have c3b0 : decide (1 ≤ a1) = false := decide_eq_false c3
    clear c3
    obtain rfl := Option.some.inj H
    go_enter Try.func90, Try.ntmps90
    go_wp2_with (first | ((with_reducible refine gate_dst (N := 2) rfl ?_); (try (refine gate_guard (by rfl) ?_; dsimp only)); refine box_event ?hg (N := 2) ?hd (cs := #[.slice A0_0 l0_0.length c0_0]) (t := 28) ?hr ?_; (case hd => rfl); (case hg => rfl); (case hr => first | (go_simp; done) | (go_simp; rfl)); intro gb101 hg w9 hbox hb; have n0_ := Aside0.mk (below_step (by repeat (first | (with_reducible first | exact HB.out | apply below_alloc | apply pw_below_drewN | apply below_drew1) | exact HB.out)) hb); have n1_ := Aside0.mk (hbox); have n2_ := Aside0.mk ((by rw [hg]; exact (below_size (by repeat (first | (with_reducible first | exact HB.out | apply below_alloc | apply pw_below_drewN | apply below_drew1) | exact HB.out))) : w.heap.size ≤ gb101)); have n3_ := Aside0.mk ((by rw [hg]; exact (below_size (by repeat (first | (with_reducible first | exact HB.out | apply below_alloc | apply pw_below_drewN | apply below_drew1) | exact HB.out))) : w.heap.size ≤ gb101)); clear HB; have HB := n0_; have BK101 := n1_; have GW101 := n2_; have GE101 := n3_; clear n0_ n1_ n2_ n3_; clear hb hbox hg))
    go_ret
    exact ⟨by first | rfl | (simp [errW_none, errW_some] <;> rfl) | (simp [*, errW_none, errW_some] <;> rfl), by repeat (first | (with_reducible first | exact HB.out | apply below_alloc | apply pw_below_drewN | apply below_drew1 | refine below_set ?_ GE101.out) | exact HB.out)⟩
/- F161 -/
mutual
def impl_IsSpace.j0 : Nat → Bool → List Int → Option (Bool)
  | 0, _, _ => none
  | k + 1, x15, x102000 => if x15 = true then (some false) else (impl_IsSpace.l0 k 1 x102000 (x102000.length : Int) 0)
def impl_IsSpace.l0 : Nat → Int → List Int → Int → Int → Option (Bool)
  | 0, _, _, _, _ => none
  | k + 1, x3, x17, x18, x19 => if x19 < x18 then (if 0 ≤ x19 then (if x19 < (x17.length : Int) then (if (rd x17 x19) < 2 then (some false) else (if (rd x17 x19) > 4 then (some false) else (impl_IsSpace.l0 k (wrap64 (x3 * (rd x17 x19))) x17 x18 (wrap64 (x19 + 1))))) else (none)) else (none)) else (some (decide (x3 ≤ 1024)))
end
def impl_IsSpace.f (k : Nat) (l0_0 : List Int) : Option (Bool) := if (l0_0.length : Int) < 1 then (impl_IsSpace.j0 k true l0_0) else (impl_IsSpace.j0 k (decide ((l0_0.length : Int) > 8)) l0_0)
theorem impl_IsSpace.mono_l : ∀ k, (∀ y0 y1, LeO (impl_IsSpace.j0 k y0 y1) (impl_IsSpace.j0 (k + 1) y0 y1)) ∧ (∀ y0 y1 y2 y3, LeO (impl_IsSpace.l0 k y0 y1 y2 y3) (impl_IsSpace.l0 (k + 1) y0 y1 y2 y3))
  | 0 => ⟨fun _ _ r h => by simp [impl_IsSpace.j0] at h, fun _ _ _ _ r h => by simp [impl_IsSpace.l0] at h⟩
  | k + 1 => by
    obtain ⟨ih0, ih1⟩ := impl_IsSpace.mono_l k
    refine ⟨?_, ?_⟩
    · intro y0 y1
      unfold impl_IsSpace.j0
      repeat' first
      | (with_reducible exact ih0 _ _)
      | (with_reducible exact ih1 _ _ _ _)
      | (with_reducible exact LeO.refl _)
      | (with_reducible exact LeO.none _)
      | (with_reducible refine LeO.ite ?_ ?_)
      | (with_reducible refine LeO.bind ?_ (fun _ => ?_))
      | exact ih0 _ _
      | exact ih1 _ _ _ _
      | exact LeO.none _
      | refine LeO.ite ?_ ?_
      | refine LeO.bind ?_ (fun _ => ?_)
    · intro y0 y1 y2 y3
      unfold impl_IsSpace.l0
      repeat' first
      | (with_reducible exact ih0 _ _)
      | (with_reducible exact ih1 _ _ _ _)
      | (with_reducible exact LeO.refl _)
      | (with_reducible exact LeO.none _)
      | (with_reducible refine LeO.ite ?_ ?_)
      | (with_reducible refine LeO.bind ?_ (fun _ => ?_))
      | exact ih0 _ _
      | exact ih1 _ _ _ _
      | exact LeO.none _
      | refine LeO.ite ?_ ?_
      | refine LeO.bind ?_ (fun _ => ?_)
theorem impl_IsSpace.mono : ∀ a0 k, LeO (impl_IsSpace.f k a0) (impl_IsSpace.f (k + 1) a0) := by
  intro a0 k
  obtain ⟨ih0, ih1⟩ := impl_IsSpace.mono_l k
  unfold impl_IsSpace.f
  repeat' first
      | (with_reducible exact ih0 _ _)
      | (with_reducible exact ih1 _ _ _ _)
      | (with_reducible exact LeO.refl _)
      | (with_reducible exact LeO.none _)
      | (with_reducible refine LeO.ite ?_ ?_)
      | (with_reducible refine LeO.bind ?_ (fun _ => ?_))
      | exact ih0 _ _
      | exact ih1 _ _ _ _
      | exact LeO.none _
      | refine LeO.ite ?_ ?_
      | refine LeO.bind ?_ (fun _ => ?_)
set_option maxHeartbeats 8000000 in
set_option maxRecDepth 100000 in
theorem impl_IsSpace.calls (k : Nat) (A0_0 : Option Addr) (c0_0 : Nat) (l0_0 : List Int) (r : Bool) (w : World) (hr0_0 : Kd.C (Kd.int .i64) w A0_0 l0_0.length l0_0) (hc0_0 : l0_0.length ≤ c0_0) (h : impl_IsSpace.f k l0_0 = some r) :
    Calls Try.prog 161 #[.agg #[.slice A0_0 l0_0.length c0_0]] w fun e w' => e = .returned (.bool r) ∧ Below w.heap.size w w' := by
  have hu28 := Try.underlying28
  have HR0_0 := Aside0.mk hr0_0
  have HC0_0 := Aside0.mk hc0_0
  clear hr0_0 hc0_0
  have HB := Aside0.mk (Below.refl w.heap.size w)
  have H : (if (l0_0.length : Int) < 1 then (impl_IsSpace.j0 k true l0_0) else (impl_IsSpace.j0 k (decide ((l0_0.length : Int) > 8)) l0_0)) = some r := h
  clear h
  have HC2 := Aside0.mk H
  clear H
  go_enter Try.func161, Try.ntmps161
  go_upto_region 1 with (first | ((with_reducible refine gate_dst (N := 1) rfl ?_); (try (refine gate_guard (by rfl) ?_; dsimp only)); refine box_event ?hg (N := 1) ?hd (cs := #[.slice A0_0 l0_0.length c0_0]) (t := 28) ?hr ?_; (case hd => rfl); (case hg => rfl); (case hr => first | (go_simp; done) | (go_simp; rfl)); intro gb101 hg w3 hbox hb; have n0_ := Aside0.mk (below_step (by repeat (first | (with_reducible first | exact HB.out | apply below_alloc | apply pw_below_drewN | apply below_drew1) | exact HB.out)) hb); have n1_ := Aside0.mk (hbox); have n2_ := Aside0.mk ((by rw [hg]; exact (below_size (by repeat (first | (with_reducible first | exact HB.out | apply below_alloc | apply pw_below_drewN | apply below_drew1) | exact HB.out))) : w.heap.size ≤ gb101)); have n3_ := Aside0.mk ((by rw [hg]; exact (below_size (by repeat (first | (with_reducible first | exact HB.out | apply below_alloc | apply pw_below_drewN | apply below_drew1) | exact HB.out))) : w.heap.size ≤ gb101)); clear HB; have HB := n0_; have BK101 := n1_; have GW101 := n2_; have GE101 := n3_; clear n0_ n1_ n2_ n3_; clear hb hbox hg))
  (try simp only [Act.put, List.setIfInBounds_toArray, List.set_cons_zero, List.set_cons_succ])
  go_cut [15] (fun v15 wc => ∃ (kq : Nat) (x15_1 : Bool), v15 = .bool x15_1 ∧ Aside0 (impl_IsSpace.j0 kq x15_1 l0_0 = some r) ∧ Aside0 (kq ≤ k) ∧ Aside0 (wc.heap[gb101]? = some (.cells #[(.slice A0_0 l0_0.length c0_0)] 28 (0, 0))) ∧ Aside0 (Below w.heap.size w wc))
  case first =>
    have H := HC2.out
    clear HC2
    by_cases c4 : (l0_0.length : Int) < 1
    · rw [if_pos c4] at H
      have c4b0 : decide ((l0_0.length : Int) < 1) = true := decide_eq_true c4
      have c4b1 : decide (l0_0.length < 1) = true := decide_eq_true (by omega)
      clear c4
      (first | rw [c4b0] | (simp only [i64_w, i32_w]; rw [c4b0]) | skip)
      have H' := Aside0.mk H
      clear H
      have hcz5_0 : w3.cell? ⟨gb101, 0, none⟩ = some (.slice A0_0 l0_0.length c0_0) := (blk_cell BK101.out 0).trans rfl
      have hfz5_0 := blk_frozen BK101.out 0
      go_wp2
      go_meet
      case rel => exact ⟨_, (true), (by first | rfl | (simp; done) | (simp [*]; done)), H', ⟨by first | omega | exact Nat.le_refl _⟩, ⟨by (with_reducible repeat (first | refine blk_drewN ?_ _ | refine blk_drew ?_ | refine blk_alloc ?_ _)); exact BK101.out⟩, ⟨by repeat (first | (with_reducible first | exact HB.out | apply below_alloc | apply pw_below_drewN | apply below_drew1 | refine below_set ?_ GE101.out) | exact HB.out)⟩⟩
    · rw [if_neg c4] at H
      have c4b0 : decide ((l0_0.length : Int) < 1) = false := decide_eq_false c4
      have c4b1 : decide (l0_0.length < 1) = false := decide_eq_false (by omega)
      clear c4
      (first | rw [c4b0] | (simp only [i64_w, i32_w]; rw [c4b0]) | skip)
      have H' := Aside0.mk H
      clear H
      have hcz6_0 : w3.cell? ⟨gb101, 0, none⟩ = some (.slice A0_0 l0_0.length c0_0) := (blk_cell BK101.out 0).trans rfl
      have hfz6_0 := blk_frozen BK101.out 0
      go_wp2
      go_meet
      case rel => exact ⟨_, (decide ((l0_0.length : Int) > 8)), (by first | rfl | (simp; done) | (simp [*]; done)), H', ⟨by first | omega | exact Nat.le_refl _⟩, ⟨by (with_reducible repeat (first | refine blk_drewN ?_ _ | refine blk_drew ?_ | refine blk_alloc ?_ _)); exact BK101.out⟩, ⟨by repeat (first | (with_reducible first | exact HB.out | apply below_alloc | apply pw_below_drewN | apply below_drew1 | refine below_set ?_ GE101.out) | exact HB.out)⟩⟩
  case rest =>
    clear HC2
    try clear c1
    try clear p2
    try clear c4
    try clear c4b0
    try clear c4b1
    try clear hcz5_0
    try clear hcz6_0
    try clear hfz5_0
    try clear hfz6_0
    obtain ⟨kq, x15_1, rfl, HA, HJ1, BK101, HB⟩ := hcut
    cases kq with
    | zero => exact absurd HA.out (by simp [impl_IsSpace.j0])
    | succ kj1 =>
      have H := HA.out
      clear HA
      simp only [impl_IsSpace.j0] at H
      by_cases c7 : x15_1 = true
      · subst c7
        have H1 : (some false) = some r := by rw [if_pos rfl] at H; exact H
        clear H
        have H := H1
        clear H1
        obtain rfl := Option.some.inj H
        go_wp2
        go_ret
        exact ⟨by first | rfl | (simp [errW_none, errW_some] <;> rfl) | (simp [*, errW_none, errW_some] <;> rfl), by repeat (first | (with_reducible first | exact HB.out | apply below_alloc | apply pw_below_drewN | apply below_drew1 | refine below_set ?_ GE101.out) | exact HB.out)⟩
      · replace c7 := Bool.eq_false_iff.mpr c7
        subst c7
        have H1 : (impl_IsSpace.l0 kj1 1 l0_0 (l0_0.length : Int) 0) = some r := by rw [if_neg (show ¬ (false = true) by decide)] at H; exact H
        clear H
        have H := H1
        clear H1
        have H' := Aside0.mk H
        clear H
        have hcz8_0 : wc.cell? ⟨gb101, 0, none⟩ = some (.slice A0_0 l0_0.length c0_0) := (blk_cell BK101.out 0).trans rfl
        have hfz8_0 := blk_frozen BK101.out 0
        go_wp2
        go_loopg [3, 19] kj1 (fun kq v3 v19 w' => ∃ (x3_2 : Int) (x19_2 : Int), v3 = .int .i64 x3_2 ∧ v19 = .int .i64 x19_2 ∧ Aside0 (impl_IsSpace.l0 kq x3_2 l0_0 (l0_0.length : Int) x19_2 = some r) ∧ Aside0 (kq ≤ kj1) ∧ Aside0 (w'.heap[gb101]? = some (.cells #[(.slice A0_0 l0_0.length c0_0)] 28 (0, 0))) ∧ Aside0 (Below w.heap.size w w'))
        case atStart => exact ⟨(1), (0), (by first | rfl | (simp; done) | (simp [*]; done)), (by first | rfl | (simp; done) | (simp [*]; done)), H', ⟨Nat.le_refl _⟩, ⟨by (with_reducible repeat (first | refine blk_drewN ?_ _ | refine blk_drew ?_ | refine blk_alloc ?_ _)); exact BK101.out⟩, ⟨by repeat (first | (with_reducible first | exact HB.out | apply below_alloc | apply pw_below_drewN | apply below_drew1 | refine below_set ?_ GE101.out) | exact HB.out)⟩⟩
        case round =>
          clear H'
          try clear c1
          try clear p2
          try clear c4
          try clear c4b0
          try clear c4b1
          try clear c7
          try clear hcz5_0
          try clear hcz6_0
          try clear hcz8_0
          try clear hfz5_0
          try clear hfz6_0
          try clear hfz8_0
          try clear p2
          obtain ⟨x3_2, x19_2, rfl, rfl, HA, HK2, BK101, HB⟩ := hrel
          cases gk with
          | zero => exact absurd HA.out (by simp [impl_IsSpace.l0])
          | succ k2 =>
            have H := HA.out
            clear HA
            simp only [impl_IsSpace.l0] at H
            by_cases c9 : x19_2 < (l0_0.length : Int)
            · rw [if_pos c9] at H
              have c9b0 : decide (x19_2 < (l0_0.length : Int)) = true := decide_eq_true c9
              clear c9
              by_cases c10 : 0 ≤ x19_2
              · rw [if_pos c10] at H
                have c10b0 : decide (0 ≤ x19_2) = true := decide_eq_true c10
                clear c10
                by_cases c11 : x19_2 < (l0_0.length : Int)
                · rw [if_pos c11] at H
                  have c11b0 : decide (x19_2 < (l0_0.length : Int)) = true := decide_eq_true c11
                  clear c11
                  by_cases c12 : (rd l0_0 x19_2) < 2
                  · rw [if_pos c12] at H
                    have c12b0 : decide ((rd l0_0 x19_2) < 2) = true := decide_eq_true c12
                    clear c12
                    obtain rfl := Option.some.inj H
                    have p102 : 0 ≤ (x19_2 : Int) := of_decide_eq_true (by first | (with_reducible assumption) | assumption)
                    have q102 : x19_2 < (l0_0.length : Int) := of_decide_eq_true (by first | (with_reducible assumption) | assumption)
                    obtain ⟨ad102, e102, hx102_0⟩ := Kd.at_int HR0_0.out x19_2 p102 q102
                    cases e102
                    replace hx102_0 := (HB.out.cell (World.block_lt_of_cell? w _ hx102_0)).trans hx102_0
                    replace p102 := eq_true p102
                    replace q102 := eq_true q102
                    go_wp2
                    go_ret
                    exact ⟨by first | rfl | (simp [errW_none, errW_some] <;> rfl) | (simp [*, errW_none, errW_some] <;> rfl), by repeat (first | (with_reducible first | exact HB.out | apply below_alloc | apply pw_below_drewN | apply below_drew1 | refine below_set ?_ GE101.out) | exact HB.out)⟩
                  · rw [if_neg c12] at H
                    have c12b0 : decide ((rd l0_0 x19_2) < 2) = false := decide_eq_false c12
                    clear c12
                    by_cases c13 : (rd l0_0 x19_2) > 4
                    · rw [if_pos c13] at H
                      have c13b0 : decide (4 < (rd l0_0 x19_2)) = true := decide_eq_true c13
                      clear c13
                      obtain rfl := Option.some.inj H
                      have p102 : 0 ≤ (x19_2 : Int) := of_decide_eq_true (by first | (with_reducible assumption) | assumption)
                      have q102 : x19_2 < (l0_0.length : Int) := of_decide_eq_true (by first | (with_reducible assumption) | assumption)
                      obtain ⟨ad102, e102, hx102_0⟩ := Kd.at_int HR0_0.out x19_2 p102 q102
                      cases e102
                      replace hx102_0 := (HB.out.cell (World.block_lt_of_cell? w _ hx102_0)).trans hx102_0
                      replace p102 := eq_true p102
                      replace q102 := eq_true q102
                      go_wp2
                      go_ret
                      exact ⟨by first | rfl | (simp [errW_none, errW_some] <;> rfl) | (simp [*, errW_none, errW_some] <;> rfl), by repeat (first | (with_reducible first | exact HB.out | apply below_alloc | apply pw_below_drewN | apply below_drew1 | refine below_set ?_ GE101.out) | exact HB.out)⟩
                    · rw [if_neg c13] at H
                      have c13b0 : decide (4 < (rd l0_0 x19_2)) = false := decide_eq_false c13
                      clear c13
                      have H' := Aside0.mk H
                      clear H
                      have p102 : 0 ≤ (x19_2 : Int) := of_decide_eq_true (by first | (with_reducible assumption) | assumption)
                      have q102 : x19_2 < (l0_0.length : Int) := of_decide_eq_true (by first | (with_reducible assumption) | assumption)
                      obtain ⟨ad102, e102, hx102_0⟩ := Kd.at_int HR0_0.out x19_2 p102 q102
                      cases e102
                      replace hx102_0 := (HB.out.cell (World.block_lt_of_cell? w _ hx102_0)).trans hx102_0
                      replace p102 := eq_true p102
                      replace q102 := eq_true q102
                      go_wp2
                      go_roundg k2
                      case measure => have := HJ1.out; have := HK2.out; omega
                      case rel => exact ⟨(wrap64 (x3_2 * (rd l0_0 x19_2))), (wrap64 (x19_2 + 1)), (by first | rfl | (simp; done) | (simp [*]; done)), (by first | rfl | (simp; done) | (simp [*]; done)), H', ⟨by have := HJ1.out; have := HK2.out; omega⟩, ⟨by (with_reducible repeat (first | refine blk_drewN ?_ _ | refine blk_drew ?_ | refine blk_alloc ?_ _)); exact BK101.out⟩, ⟨by repeat (first | (with_reducible first | exact HB.out | apply below_alloc | apply pw_below_drewN | apply below_drew1 | refine below_set ?_ GE101.out) | exact HB.out)⟩⟩
                · rw [if_neg c11] at H
                  exact absurd H (by simp)
              · rw [if_neg c10] at H
                exact absurd H (by simp)
            · rw [if_neg c9] at H
              have c9b0 : decide (x19_2 < (l0_0.length : Int)) = false := decide_eq_false c9
              clear c9
              obtain rfl := Option.some.inj H
              go_wp2
              go_ret
              exact ⟨by first | rfl | (simp [errW_none, errW_some] <;> rfl) | (simp [*, errW_none, errW_some] <;> rfl), by repeat (first | (with_reducible first | exact HB.out | apply below_alloc | apply pw_below_drewN | apply below_drew1 | refine below_set ?_ GE101.out) | exact HB.out)⟩
/- F99 -/
def impl_count.l0 : Nat → Int → List Int → Int → Int → Option (Int)
  | 0, _, _, _, _ => none
  | k + 1, x3, x7, x8, x9 => if x9 < x8 then (if 0 ≤ x9 then (if x9 < (x7.length : Int) then (impl_count.l0 k (wrap64 (x3 * (rd x7 x9))) x7 x8 (wrap64 (x9 + 1))) else (none)) else (none)) else (some x3)
def impl_count.f (k : Nat) (l0_0 : List Int) : Option (Int) := impl_count.l0 k 1 l0_0 (l0_0.length : Int) 0
theorem impl_count.mono_l : ∀ k, (∀ y0 y1 y2 y3, LeO (impl_count.l0 k y0 y1 y2 y3) (impl_count.l0 (k + 1) y0 y1 y2 y3))
  | 0 => fun _ _ _ _ r h => by simp [impl_count.l0] at h
  | k + 1 => by
    have ih0 := impl_count.mono_l k
    · intro y0 y1 y2 y3
      unfold impl_count.l0
      repeat' first
      | (with_reducible exact ih0 _ _ _ _)
      | (with_reducible exact LeO.refl _)
      | (with_reducible exact LeO.none _)
      | (with_reducible refine LeO.ite ?_ ?_)
      | (with_reducible refine LeO.bind ?_ (fun _ => ?_))
      | exact ih0 _ _ _ _
      | exact LeO.none _
      | refine LeO.ite ?_ ?_
      | refine LeO.bind ?_ (fun _ => ?_)
theorem impl_count.mono : ∀ a0 k, LeO (impl_count.f k a0) (impl_count.f (k + 1) a0) := by
  intro a0 k
  have ih0 := impl_count.mono_l k
  unfold impl_count.f
  repeat' first
      | (with_reducible exact ih0 _ _ _ _)
      | (with_reducible exact LeO.refl _)
      | (with_reducible exact LeO.none _)
      | (with_reducible refine LeO.ite ?_ ?_)
      | (with_reducible refine LeO.bind ?_ (fun _ => ?_))
      | exact ih0 _ _ _ _
      | exact LeO.none _
      | refine LeO.ite ?_ ?_
      | refine LeO.bind ?_ (fun _ => ?_)
set_option maxHeartbeats 8000000 in
set_option maxRecDepth 100000 in
theorem impl_count.calls (k : Nat) (A0_0 : Option Addr) (c0_0 : Nat) (l0_0 : List Int) (r : Int) (w : World) (hr0_0 : Kd.C (Kd.int .i64) w A0_0 l0_0.length l0_0) (hc0_0 : l0_0.length ≤ c0_0) (h : impl_count.f k l0_0 = some r) :
    Calls Try.prog 99 #[.agg #[.slice A0_0 l0_0.length c0_0]] w fun e w' => e = .returned (.int .i64 r) ∧ Below w.heap.size w w' := by
  have hu28 := Try.underlying28
  have HR0_0 := Aside0.mk hr0_0
  have HC0_0 := Aside0.mk hc0_0
  clear hr0_0 hc0_0
  have HB := Aside0.mk (Below.refl w.heap.size w)
  have H : (impl_count.l0 k 1 l0_0 (l0_0.length : Int) 0) = some r := h
  clear h
  have H' := Aside0.mk H
  clear H
  go_enter Try.func99, Try.ntmps99
  go_wp2_with (first | ((with_reducible refine gate_dst (N := 1) rfl ?_); refine box_event ?hg (N := 1) ?hd (cs := #[.slice A0_0 l0_0.length c0_0]) (t := 28) ?hr ?_; (case hd => rfl); (case hg => rfl); (case hr => first | (go_simp; done) | (go_simp; rfl)); intro gb101 hg w2 hbox hb; have n0_ := Aside0.mk (below_step (by repeat (first | (with_reducible first | exact HB.out | apply below_alloc | apply pw_below_drewN | apply below_drew1) | exact HB.out)) hb); have n1_ := Aside0.mk (hbox); have n2_ := Aside0.mk ((by rw [hg]; exact (below_size (by repeat (first | (with_reducible first | exact HB.out | apply below_alloc | apply pw_below_drewN | apply below_drew1) | exact HB.out))) : w.heap.size ≤ gb101)); have n3_ := Aside0.mk ((by rw [hg]; exact (below_size (by repeat (first | (with_reducible first | exact HB.out | apply below_alloc | apply pw_below_drewN | apply below_drew1) | exact HB.out))) : w.heap.size ≤ gb101)); clear HB; have HB := n0_; have BK101 := n1_; have GW101 := n2_; have GE101 := n3_; clear n0_ n1_ n2_ n3_; clear hb hbox hg; have hcz3_0 : w2.cell? ⟨gb101, 0, none⟩ = some (.slice A0_0 l0_0.length c0_0) := (blk_cell BK101.out 0).trans rfl; have hfz3_0 := blk_frozen BK101.out 0))
  go_loopg [3, 9] k (fun kq v3 v9 w' => ∃ (x3_1 : Int) (x9_1 : Int), v3 = .int .i64 x3_1 ∧ v9 = .int .i64 x9_1 ∧ Aside0 (impl_count.l0 kq x3_1 l0_0 (l0_0.length : Int) x9_1 = some r) ∧ Aside0 (kq ≤ k) ∧ Aside0 (w'.heap[gb101]? = some (.cells #[(.slice A0_0 l0_0.length c0_0)] 28 (0, 0))) ∧ Aside0 (Below w.heap.size w w'))
  case atStart => exact ⟨(1), (0), (by first | rfl | (simp; done) | (simp [*]; done)), (by first | rfl | (simp; done) | (simp [*]; done)), H', ⟨Nat.le_refl _⟩, ⟨by (with_reducible repeat (first | refine blk_drewN ?_ _ | refine blk_drew ?_ | refine blk_alloc ?_ _)); exact BK101.out⟩, ⟨by repeat (first | (with_reducible first | exact HB.out | apply below_alloc | apply pw_below_drewN | apply below_drew1 | refine below_set ?_ GE101.out) | exact HB.out)⟩⟩
  case round =>
    clear H'
    try clear p2
    try clear hcz3_0
    try clear hfz3_0
    obtain ⟨x3_1, x9_1, rfl, rfl, HA, HK1, BK101, HB⟩ := hrel
    cases gk with
    | zero => exact absurd HA.out (by simp [impl_count.l0])
    | succ k1 =>
      have H := HA.out
      clear HA
      simp only [impl_count.l0] at H
      by_cases c4 : x9_1 < (l0_0.length : Int)
      · rw [if_pos c4] at H
        have c4b0 : decide (x9_1 < (l0_0.length : Int)) = true := decide_eq_true c4
        clear c4
        by_cases c5 : 0 ≤ x9_1
        · rw [if_pos c5] at H
          have c5b0 : decide (0 ≤ x9_1) = true := decide_eq_true c5
          clear c5
          by_cases c6 : x9_1 < (l0_0.length : Int)
          · rw [if_pos c6] at H
            have c6b0 : decide (x9_1 < (l0_0.length : Int)) = true := decide_eq_true c6
            clear c6
            have H' := Aside0.mk H
            clear H
            have p102 : 0 ≤ (x9_1 : Int) := of_decide_eq_true (by first | (with_reducible assumption) | assumption)
            have q102 : x9_1 < (l0_0.length : Int) := of_decide_eq_true (by first | (with_reducible assumption) | assumption)
            obtain ⟨ad102, e102, hx102_0⟩ := Kd.at_int HR0_0.out x9_1 p102 q102
            cases e102
            replace hx102_0 := (HB.out.cell (World.block_lt_of_cell? w _ hx102_0)).trans hx102_0
            replace p102 := eq_true p102
            replace q102 := eq_true q102
            go_wp2
            go_roundg k1
            case measure => have := HK1.out; omega
            case rel => exact ⟨(wrap64 (x3_1 * (rd l0_0 x9_1))), (wrap64 (x9_1 + 1)), (by first | rfl | (simp; done) | (simp [*]; done)), (by first | rfl | (simp; done) | (simp [*]; done)), H', ⟨by have := HK1.out; omega⟩, ⟨by (with_reducible repeat (first | refine blk_drewN ?_ _ | refine blk_drew ?_ | refine blk_alloc ?_ _)); exact BK101.out⟩, ⟨by repeat (first | (with_reducible first | exact HB.out | apply below_alloc | apply pw_below_drewN | apply below_drew1 | refine below_set ?_ GE101.out) | exact HB.out)⟩⟩
          · rw [if_neg c6] at H
            exact absurd H (by simp)
        · rw [if_neg c5] at H
          exact absurd H (by simp)
      · rw [if_neg c4] at H
        have c4b0 : decide (x9_1 < (l0_0.length : Int)) = false := decide_eq_false c4
        clear c4
        obtain rfl := Option.some.inj H
        go_wp2
        go_ret
        exact ⟨by first | rfl | (simp [errW_none, errW_some] <;> rfl) | (simp [*, errW_none, errW_some] <;> rfl), by repeat (first | (with_reducible first | exact HB.out | apply below_alloc | apply pw_below_drewN | apply below_drew1 | refine below_set ?_ GE101.out) | exact HB.out)⟩
/- F167 -/
def impl_areWords.l0 : Nat → Int → List Int → Int → Int → Option (Bool)
  | 0, _, _, _, _ => none
  | k + 1, x5, x10, x11, x12 => if x12 < x11 then (if 0 ≤ x12 then (if x12 < (x10.length : Int) then (if (rd x10 x12) < 0 then (some false) else (if (rd x10 x12) ≥ x5 then (some false) else (impl_areWords.l0 k x5 x10 x11 (wrap64 (x12 + 1))))) else (none)) else (none)) else (some true)
def impl_areWords.f (k : Nat) (l0_0 : List Int) (l1 : List Int) : Option (Bool) := (impl_count.f k l0_0).bind fun t102 => (impl_areWords.l0 k t102 l1 (l1.length : Int) 0)
theorem impl_areWords.mono_l : ∀ k, (∀ y0 y1 y2 y3, LeO (impl_areWords.l0 k y0 y1 y2 y3) (impl_areWords.l0 (k + 1) y0 y1 y2 y3))
  | 0 => fun _ _ _ _ r h => by simp [impl_areWords.l0] at h
  | k + 1 => by
    have ih0 := impl_areWords.mono_l k
    · intro y0 y1 y2 y3
      unfold impl_areWords.l0
      repeat' first
      | (with_reducible exact ih0 _ _ _ _)
      | (with_reducible exact impl_count.mono _ _)
      | (with_reducible exact LeO.refl _)
      | (with_reducible exact LeO.none _)
      | (with_reducible refine LeO.ite ?_ ?_)
      | (with_reducible refine LeO.bind ?_ (fun _ => ?_))
      | exact ih0 _ _ _ _
      | exact impl_count.mono _ _
      | exact LeO.none _
      | refine LeO.ite ?_ ?_
      | refine LeO.bind ?_ (fun _ => ?_)
theorem impl_areWords.mono : ∀ a0 a1 k, LeO (impl_areWords.f k a0 a1) (impl_areWords.f (k + 1) a0 a1) := by
  intro a0 a1 k
  have ih0 := impl_areWords.mono_l k
  unfold impl_areWords.f
  repeat' first
      | (with_reducible exact ih0 _ _ _ _)
      | (with_reducible exact impl_count.mono _ _)
      | (with_reducible exact LeO.refl _)
      | (with_reducible exact LeO.none _)
      | (with_reducible refine LeO.ite ?_ ?_)
      | (with_reducible refine LeO.bind ?_ (fun _ => ?_))
      | exact ih0 _ _ _ _
      | exact impl_count.mono _ _
      | exact LeO.none _
      | refine LeO.ite ?_ ?_
      | refine LeO.bind ?_ (fun _ => ?_)
set_option maxHeartbeats 8000000 in
set_option maxRecDepth 100000 in
theorem impl_areWords.calls (k : Nat) (A0_0 : Option Addr) (c0_0 : Nat) (l0_0 : List Int) (A1 : Option Addr) (c1 : Nat) (l1 : List Int) (r : Bool) (w : World) (hr0_0 : Kd.C (Kd.int .i64) w A0_0 l0_0.length l0_0) (hc0_0 : l0_0.length ≤ c0_0) (hr1 : Kd.C (Kd.int .i64) w A1 l1.length l1) (hc1 : l1.length ≤ c1) (h : impl_areWords.f k l0_0 l1 = some r) :
    Calls Try.prog 167 #[.agg #[.slice A0_0 l0_0.length c0_0], .slice A1 l1.length c1] w fun e w' => e = .returned (.bool r) ∧ Below w.heap.size w w' := by
  have hu28 := Try.underlying28
  have HR0_0 := Aside0.mk hr0_0
  have HC0_0 := Aside0.mk hc0_0
  clear hr0_0 hc0_0
  have HR1 := Aside0.mk hr1
  have HC1 := Aside0.mk hc1
  clear hr1 hc1
  have HB := Aside0.mk (Below.refl w.heap.size w)
  have H : ((impl_count.f k l0_0).bind fun t102 => (impl_areWords.l0 k t102 l1 (l1.length : Int) 0)) = some r := h
  clear h
  replace H := Option.bind_eq_some_iff.mp H
  obtain ⟨t102, A30, H⟩ := H
  replace H : (impl_areWords.l0 k t102 l1 (l1.length : Int) 0) = some r := H
  have A3 := Aside0.mk A30
  clear A30
  have H' := Aside0.mk H
  clear H
  go_enter Try.func167, Try.ntmps167
  go_wp2_with (first | ((with_reducible refine gate_dst (N := 2) rfl ?_); refine box_event ?hg (N := 2) ?hd (cs := #[.slice A0_0 l0_0.length c0_0]) (t := 28) ?hr ?_; (case hd => rfl); (case hg => rfl); (case hr => first | (go_simp; done) | (go_simp; rfl)); intro gb101 hg w4 hbox hb; have n0_ := Aside0.mk (below_step (by repeat (first | (with_reducible first | exact HB.out | apply below_alloc | apply pw_below_drewN | apply below_drew1) | exact HB.out)) hb); have n1_ := Aside0.mk (hbox); have n2_ := Aside0.mk ((by rw [hg]; exact (below_size (by repeat (first | (with_reducible first | exact HB.out | apply below_alloc | apply pw_below_drewN | apply below_drew1) | exact HB.out))) : w.heap.size ≤ gb101)); have n3_ := Aside0.mk ((by rw [hg]; exact (below_size (by repeat (first | (with_reducible first | exact HB.out | apply below_alloc | apply pw_below_drewN | apply below_drew1) | exact HB.out))) : w.heap.size ≤ gb101)); clear HB; have HB := n0_; have BK101 := n1_; have GW101 := n2_; have GE101 := n3_; clear n0_ n1_ n2_ n3_; clear hb hbox hg; have hcz5_0 : w4.cell? ⟨gb101, 0, none⟩ = some (.slice A0_0 l0_0.length c0_0) := (blk_cell BK101.out 0).trans rfl; have hfz5_0 := blk_frozen BK101.out 0) | ((with_reducible refine gate_callee (f := 99) rfl ?_); refine goesL_ (some 9) rfl rfl Try.func99 (by kernel_rfl) rfl #[.agg #[.slice A0_0 l0_0.length c0_0]] rfl (by (try simp only [List.map_toArray, List.map_cons, List.map_nil]); first | done | rfl | (simp only [List.length_drop, List.length_take]; rfl)) ?_; (with_reducible refine (impl_count.calls k _ _ l0_0 t102 _ ?side1 ?side2 A3.out).mono ?_); (case side1 => repeat (first | exact (Kd.C_below HR0_0.out HB.out) | (with_reducible refine Kd.C_alloc ?_ _) | (with_reducible refine Kd.C_drewN ?_ _) | (with_reducible refine Kd.C_drew ?_))); (case side2 => exact HC0_0.out); rintro e w6 ⟨rfl, hb⟩; refine ⟨_, rfl, ?_⟩; have n0_ := Aside0.mk (blk_below (g := gb101) (o := .cells #[.slice A0_0 l0_0.length c0_0] 28 (0, 0)) (by (with_reducible repeat (first | refine blk_drewN ?_ _ | refine blk_drew ?_ | refine blk_alloc ?_ _)); exact BK101.out) hb); have n1_ := Aside0.mk (below_step (by repeat (first | (with_reducible first | exact HB.out | apply below_alloc | apply pw_below_drewN | apply below_drew1 | refine below_set ?_ GE101.out) | exact HB.out)) hb); clear BK101; clear HB; have BK101 := n0_; have HB := n1_; clear n0_ n1_; (try clear hb); (try clear hb2); (try clear hk); (try clear hi)))
  go_loopg [12] k (fun kq v12 w' => ∃ (x12_1 : Int), v12 = .int .i64 x12_1 ∧ Aside0 (impl_areWords.l0 kq t102 l1 (l1.length : Int) x12_1 = some r) ∧ Aside0 (kq ≤ k) ∧ Aside0 (w'.heap[gb101]? = some (.cells #[(.slice A0_0 l0_0.length c0_0)] 28 (0, 0))) ∧ Aside0 (Below w.heap.size w w'))
  case atStart => exact ⟨(0), (by first | rfl | (simp; done) | (simp [*]; done)), H', ⟨Nat.le_refl _⟩, ⟨by (with_reducible repeat (first | refine blk_drewN ?_ _ | refine blk_drew ?_ | refine blk_alloc ?_ _)); exact BK101.out⟩, ⟨by repeat (first | (with_reducible first | exact HB.out | apply below_alloc | apply pw_below_drewN | apply below_drew1 | refine below_set ?_ GE101.out) | exact HB.out)⟩⟩
  case round =>
    clear H'
    try clear c1
    try clear p2
    try clear hcz5_0
    try clear hfz5_0
    obtain ⟨x12_1, rfl, HA, HK1, BK101, HB⟩ := hrel
    cases gk with
    | zero => exact absurd HA.out (by simp [impl_areWords.l0])
    | succ k1 =>
      have H := HA.out
      clear HA
      simp only [impl_areWords.l0] at H
      by_cases c7 : x12_1 < (l1.length : Int)
      · rw [if_pos c7] at H
        have c7b0 : decide (x12_1 < (l1.length : Int)) = true := decide_eq_true c7
        clear c7
        by_cases c8 : 0 ≤ x12_1
        · rw [if_pos c8] at H
          have c8b0 : decide (0 ≤ x12_1) = true := decide_eq_true c8
          clear c8
          by_cases c9 : x12_1 < (l1.length : Int)
          · rw [if_pos c9] at H
            have c9b0 : decide (x12_1 < (l1.length : Int)) = true := decide_eq_true c9
            clear c9
            by_cases c10 : (rd l1 x12_1) < 0
            · rw [if_pos c10] at H
              have c10b0 : decide ((rd l1 x12_1) < 0) = true := decide_eq_true c10
              clear c10
              obtain rfl := Option.some.inj H
              have p103 : 0 ≤ (x12_1 : Int) := of_decide_eq_true (by first | (with_reducible assumption) | assumption)
              have q103 : x12_1 < (l1.length : Int) := of_decide_eq_true (by first | (with_reducible assumption) | assumption)
              obtain ⟨ad103, e103, hx103_0⟩ := Kd.at_int HR1.out x12_1 p103 q103
              cases e103
              replace hx103_0 := (HB.out.cell (World.block_lt_of_cell? w _ hx103_0)).trans hx103_0
              replace p103 := eq_true p103
              replace q103 := eq_true q103
              go_wp2
              go_ret
              exact ⟨by first | rfl | (simp [errW_none, errW_some] <;> rfl) | (simp [*, errW_none, errW_some] <;> rfl), by repeat (first | (with_reducible first | exact HB.out | apply below_alloc | apply pw_below_drewN | apply below_drew1 | refine below_set ?_ GE101.out) | exact HB.out)⟩
            · rw [if_neg c10] at H
              have c10b0 : decide ((rd l1 x12_1) < 0) = false := decide_eq_false c10
              clear c10
              by_cases c11 : (rd l1 x12_1) ≥ t102
              · rw [if_pos c11] at H
                have c11b0 : decide (t102 ≤ (rd l1 x12_1)) = true := decide_eq_true c11
                clear c11
                obtain rfl := Option.some.inj H
                have p103 : 0 ≤ (x12_1 : Int) := of_decide_eq_true (by first | (with_reducible assumption) | assumption)
                have q103 : x12_1 < (l1.length : Int) := of_decide_eq_true (by first | (with_reducible assumption) | assumption)
                obtain ⟨ad103, e103, hx103_0⟩ := Kd.at_int HR1.out x12_1 p103 q103
                cases e103
                replace hx103_0 := (HB.out.cell (World.block_lt_of_cell? w _ hx103_0)).trans hx103_0
                replace p103 := eq_true p103
                replace q103 := eq_true q103
                go_wp2
                go_ret
                exact ⟨by first | rfl | (simp [errW_none, errW_some] <;> rfl) | (simp [*, errW_none, errW_some] <;> rfl), by repeat (first | (with_reducible first | exact HB.out | apply below_alloc | apply pw_below_drewN | apply below_drew1 | refine below_set ?_ GE101.out) | exact HB.out)⟩
              · rw [if_neg c11] at H
                have c11b0 : decide (t102 ≤ (rd l1 x12_1)) = false := decide_eq_false c11
                clear c11
                have H' := Aside0.mk H
                clear H
                have p103 : 0 ≤ (x12_1 : Int) := of_decide_eq_true (by first | (with_reducible assumption) | assumption)
                have q103 : x12_1 < (l1.length : Int) := of_decide_eq_true (by first | (with_reducible assumption) | assumption)
                obtain ⟨ad103, e103, hx103_0⟩ := Kd.at_int HR1.out x12_1 p103 q103
                cases e103
                replace hx103_0 := (HB.out.cell (World.block_lt_of_cell? w _ hx103_0)).trans hx103_0
                replace p103 := eq_true p103
                replace q103 := eq_true q103
                go_wp2
                go_roundg k1
                case measure => have := HK1.out; omega
                case rel => exact ⟨(wrap64 (x12_1 + 1)), (by first | rfl | (simp; done) | (simp [*]; done)), H', ⟨by have := HK1.out; omega⟩, ⟨by (with_reducible repeat (first | refine blk_drewN ?_ _ | refine blk_drew ?_ | refine blk_alloc ?_ _)); exact BK101.out⟩, ⟨by repeat (first | (with_reducible first | exact HB.out | apply below_alloc | apply pw_below_drewN | apply below_drew1 | refine below_set ?_ GE101.out) | exact HB.out)⟩⟩
          · rw [if_neg c9] at H
            exact absurd H (by simp)
        · rw [if_neg c8] at H
          exact absurd H (by simp)
      · rw [if_neg c7] at H
        have c7b0 : decide (x12_1 < (l1.length : Int)) = false := decide_eq_false c7
        clear c7
        obtain rfl := Option.some.inj H
        go_wp2
        go_ret
        exact ⟨by first | rfl | (simp [errW_none, errW_some] <;> rfl) | (simp [*, errW_none, errW_some] <;> rfl), by repeat (first | (with_reducible first | exact HB.out | apply below_alloc | apply pw_below_drewN | apply below_drew1 | refine below_set ?_ GE101.out) | exact HB.out)⟩
/- F89 -/
def impl_rowsCode.f (k : Nat) (l0_0 : List Int) (l1 : List Int) (a2 : Int) : Option (Int) := (impl_IsSpace.f k l0_0).bind fun t102 => (if t102 = true then (if (l1.length : Int) > 200 then (some 2) else ((impl_areWords.f k l0_0 l1).bind fun t103 => (if t103 = true then ((impl_isStrength.f l0_0 a2).bind fun t104 => (if t104 = true then (some 0) else (some 2))) else (some 2)))) else (some 1))
theorem impl_rowsCode.mono : ∀ a0 a1 a2 k, LeO (impl_rowsCode.f k a0 a1 a2) (impl_rowsCode.f (k + 1) a0 a1 a2) := by
  intro a0 a1 a2 k
  unfold impl_rowsCode.f
  repeat' first
      | (with_reducible exact impl_IsSpace.mono _ _)
      | (with_reducible exact impl_areWords.mono _ _ _)
      | (with_reducible exact LeO.refl _)
      | (with_reducible exact LeO.none _)
      | (with_reducible refine LeO.ite ?_ ?_)
      | (with_reducible refine LeO.bind ?_ (fun _ => ?_))
      | exact impl_IsSpace.mono _ _
      | exact impl_areWords.mono _ _ _
      | exact LeO.none _
      | refine LeO.ite ?_ ?_
      | refine LeO.bind ?_ (fun _ => ?_)
set_option maxHeartbeats 8000000 in
set_option maxRecDepth 100000 in
theorem impl_rowsCode.calls (k : Nat) (A0_0 : Option Addr) (c0_0 : Nat) (l0_0 : List Int) (A1 : Option Addr) (c1 : Nat) (l1 : List Int) (a2 : Int) (r : Int) (w : World) (hr0_0 : Kd.C (Kd.int .i64) w A0_0 l0_0.length l0_0) (hc0_0 : l0_0.length ≤ c0_0) (hr1 : Kd.C (Kd.int .i64) w A1 l1.length l1) (hc1 : l1.length ≤ c1) (h : impl_rowsCode.f k l0_0 l1 a2 = some r) :
    Calls Try.prog 89 #[.agg #[.slice A0_0 l0_0.length c0_0], .slice A1 l1.length c1, .int .i64 a2] w fun e w' => e = .returned (.int .i64 r) ∧ Below w.heap.size w w' := by
  have hu28 := Try.underlying28
  have HR0_0 := Aside0.mk hr0_0
  have HC0_0 := Aside0.mk hc0_0
  clear hr0_0 hc0_0
  have HR1 := Aside0.mk hr1
  have HC1 := Aside0.mk hc1
  clear hr1 hc1
  have HB := Aside0.mk (Below.refl w.heap.size w)
  have H : ((impl_IsSpace.f k l0_0).bind fun t102 => (if t102 = true then (if (l1.length : Int) > 200 then (some 2) else ((impl_areWords.f k l0_0 l1).bind fun t103 => (if t103 = true then ((impl_isStrength.f l0_0 a2).bind fun t104 => (if t104 = true then (some 0) else (some 2))) else (some 2)))) else (some 1))) = some r := h
  clear h
  replace H := Option.bind_eq_some_iff.mp H
  obtain ⟨t102, A40, H⟩ := H
  replace H : (if t102 = true then (if (l1.length : Int) > 200 then (some 2) else ((impl_areWords.f k l0_0 l1).bind fun t103 => (if t103 = true then ((impl_isStrength.f l0_0 a2).bind fun t104 => (if t104 = true then (some 0) else (some 2))) else (some 2)))) else (some 1)) = some r := H
  have A4 := Aside0.mk A40
  clear A40
  by_cases c5 : t102 = true
  · subst c5
    have H1 : (if (l1.length : Int) > 200 then (some 2) else ((impl_areWords.f k l0_0 l1).bind fun t103 => (if t103 = true then ((impl_isStrength.f l0_0 a2).bind fun t104 => (if t104 = true then (some 0) else (some 2))) else (some 2)))) = some r := by rw [if_pos rfl] at H; exact H
    clear H
    have H := H1
    clear H1
    by_cases c6 : (l1.length : Int) > 200
    · rw [if_pos c6] at H
      have c6b0 : decide (200 < (l1.length : Int)) = true := decide_eq_true c6
      have c6b1 : decide (200 < l1.length) = true := decide_eq_true (by omega)
      clear c6
      obtain rfl := Option.some.inj H
      go_enter Try.func89, Try.ntmps89
      go_wp2_with (first | ((with_reducible refine gate_dst (N := 3) rfl ?_); refine box_event ?hg (N := 3) ?hd (cs := #[.slice A0_0 l0_0.length c0_0]) (t := 28) ?hr ?_; (case hd => rfl); (case hg => rfl); (case hr => first | (go_simp; done) | (go_simp; rfl)); intro gb101 hg w7 hbox hb; have n0_ := Aside0.mk (below_step (by repeat (first | (with_reducible first | exact HB.out | apply below_alloc | apply pw_below_drewN | apply below_drew1) | exact HB.out)) hb); have n1_ := Aside0.mk (hbox); have n2_ := Aside0.mk ((by rw [hg]; exact (below_size (by repeat (first | (with_reducible first | exact HB.out | apply below_alloc | apply pw_below_drewN | apply below_drew1) | exact HB.out))) : w.heap.size ≤ gb101)); have n3_ := Aside0.mk ((by rw [hg]; exact (below_size (by repeat (first | (with_reducible first | exact HB.out | apply below_alloc | apply pw_below_drewN | apply below_drew1) | exact HB.out))) : w.heap.size ≤ gb101)); clear HB; have HB := n0_; have BK101 := n1_; have GW101 := n2_; have GE101 := n3_; clear n0_ n1_ n2_ n3_; clear hb hbox hg; have hcz8_0 : w7.cell? ⟨gb101, 0, none⟩ = some (.slice A0_0 l0_0.length c0_0) := (blk_cell BK101.out 0).trans rfl; have hfz8_0 := blk_frozen BK101.out 0) | ((with_reducible refine gate_callee (f := 161) rfl ?_); refine goesL_ (some 9) rfl rfl Try.func161 (by kernel_rfl) rfl #[.agg #[.slice A0_0 l0_0.length c0_0]] rfl (by (try simp only [List.map_toArray, List.map_cons, List.map_nil]); first | done | rfl | (simp only [List.length_drop, List.length_take]; rfl)) ?_; (with_reducible refine (impl_IsSpace.calls k _ _ l0_0 true _ ?side1 ?side2 A4.out).mono ?_); (case side1 => repeat (first | exact (Kd.C_below HR0_0.out HB.out) | (with_reducible refine Kd.C_alloc ?_ _) | (with_reducible refine Kd.C_drewN ?_ _) | (with_reducible refine Kd.C_drew ?_))); (case side2 => exact HC0_0.out); rintro e w9 ⟨rfl, hb⟩; refine ⟨_, rfl, ?_⟩; have n0_ := Aside0.mk (blk_below (g := gb101) (o := .cells #[.slice A0_0 l0_0.length c0_0] 28 (0, 0)) (by (with_reducible repeat (first | refine blk_drewN ?_ _ | refine blk_drew ?_ | refine blk_alloc ?_ _)); exact BK101.out) hb); have n1_ := Aside0.mk (below_step (by repeat (first | (with_reducible first | exact HB.out | apply below_alloc | apply pw_below_drewN | apply below_drew1 | refine below_set ?_ GE101.out) | exact HB.out)) hb); clear BK101; clear HB; have BK101 := n0_; have HB := n1_; clear n0_ n1_; (try clear hb); (try clear hb2); (try clear hk); (try clear hi)))
      go_ret
      exact ⟨by first | rfl | (simp [errW_none, errW_some] <;> rfl) | (simp [*, errW_none, errW_some] <;> rfl), by repeat (first | (with_reducible first | exact HB.out | apply below_alloc | apply pw_below_drewN | apply below_drew1 | refine below_set ?_ GE101.out) | exact HB.out)⟩
    · rw [if_neg c6] at H
      have c6b0 : decide (200 < (l1.length : Int)) = false := decide_eq_false c6
      have c6b1 : decide (200 < l1.length) = false := decide_eq_false (by omega)
      clear c6
      replace H := Option.bind_eq_some_iff.mp H
      obtain ⟨t103, A100, H⟩ := H
      replace H : (if t103 = true then ((impl_isStrength.f l0_0 a2).bind fun t104 => (if t104 = true then (some 0) else (some 2))) else (some 2)) = some r := H
      have A10 := Aside0.mk A100
      clear A100
      by_cases c11 : t103 = true
      · subst c11
        have H1 : ((impl_isStrength.f l0_0 a2).bind fun t104 => (if t104 = true then (some 0) else (some 2))) = some r := by rw [if_pos rfl] at H; exact H
        clear H
        have H := H1
        clear H1
        replace H := Option.bind_eq_some_iff.mp H
        obtain ⟨t104, A120, H⟩ := H
        replace H : (if t104 = true then (some 0) else (some 2)) = some r := H
        have A12 := Aside0.mk A120
        clear A120
        by_cases c13 : t104 = true
        · subst c13
          have H1 : (some 0) = some r := by rw [if_pos rfl] at H; exact H
          clear H
          have H := H1
          clear H1
          obtain rfl := Option.some.inj H
          go_enter Try.func89, Try.ntmps89
          go_wp2_with (first | ((with_reducible refine gate_dst (N := 3) rfl ?_); refine box_event ?hg (N := 3) ?hd (cs := #[.slice A0_0 l0_0.length c0_0]) (t := 28) ?hr ?_; (case hd => rfl); (case hg => rfl); (case hr => first | (go_simp; done) | (go_simp; rfl)); intro gb101 hg w14 hbox hb; have n0_ := Aside0.mk (below_step (by repeat (first | (with_reducible first | exact HB.out | apply below_alloc | apply pw_below_drewN | apply below_drew1) | exact HB.out)) hb); have n1_ := Aside0.mk (hbox); have n2_ := Aside0.mk ((by rw [hg]; exact (below_size (by repeat (first | (with_reducible first | exact HB.out | apply below_alloc | apply pw_below_drewN | apply below_drew1) | exact HB.out))) : w.heap.size ≤ gb101)); have n3_ := Aside0.mk ((by rw [hg]; exact (below_size (by repeat (first | (with_reducible first | exact HB.out | apply below_alloc | apply pw_below_drewN | apply below_drew1) | exact HB.out))) : w.heap.size ≤ gb101)); clear HB; have HB := n0_; have BK101 := n1_; have GW101 := n2_; have GE101 := n3_; clear n0_ n1_ n2_ n3_; clear hb hbox hg; have hcz15_0 : w14.cell? ⟨gb101, 0, none⟩ = some (.slice A0_0 l0_0.length c0_0) := (blk_cell BK101.out 0).trans rfl; have hfz15_0 := blk_frozen BK101.out 0) | ((with_reducible refine gate_callee (f := 161) rfl ?_); refine goesL_ (some 9) rfl rfl Try.func161 (by kernel_rfl) rfl #[.agg #[.slice A0_0 l0_0.length c0_0]] rfl (by (try simp only [List.map_toArray, List.map_cons, List.map_nil]); first | done | rfl | (simp only [List.length_drop, List.length_take]; rfl)) ?_; (with_reducible refine (impl_IsSpace.calls k _ _ l0_0 true _ ?side1 ?side2 A4.out).mono ?_); (case side1 => repeat (first | exact (Kd.C_below HR0_0.out HB.out) | (with_reducible refine Kd.C_alloc ?_ _) | (with_reducible refine Kd.C_drewN ?_ _) | (with_reducible refine Kd.C_drew ?_))); (case side2 => exact HC0_0.out); rintro e w16 ⟨rfl, hb⟩; refine ⟨_, rfl, ?_⟩; have n0_ := Aside0.mk (blk_below (g := gb101) (o := .cells #[.slice A0_0 l0_0.length c0_0] 28 (0, 0)) (by (with_reducible repeat (first | refine blk_drewN ?_ _ | refine blk_drew ?_ | refine blk_alloc ?_ _)); exact BK101.out) hb); have n1_ := Aside0.mk (below_step (by repeat (first | (with_reducible first | exact HB.out | apply below_alloc | apply pw_below_drewN | apply below_drew1 | refine below_set ?_ GE101.out) | exact HB.out)) hb); clear BK101; clear HB; have BK101 := n0_; have HB := n1_; clear n0_ n1_; (try clear hb); (try clear hb2); (try clear hk); (try clear hi); have hcz17_0 : w16.cell? ⟨gb101, 0, none⟩ = some (.slice A0_0 l0_0.length c0_0) := (blk_cell BK101.out 0).trans rfl; have hfz17_0 := blk_frozen BK101.out 0) | (go_at_call 167; (with_reducible refine (impl_areWords.calls k _ _ l0_0 _ _ l1 true _ ?side1 ?side2 ?side3 ?side4 A10.out).mono ?_); (case side1 => repeat (first | exact (Kd.C_below HR0_0.out HB.out) | (with_reducible refine Kd.C_alloc ?_ _) | (with_reducible refine Kd.C_drewN ?_ _) | (with_reducible refine Kd.C_drew ?_))); (case side2 => exact HC0_0.out); (case side3 => repeat (first | exact (Kd.C_below HR1.out HB.out) | (with_reducible refine Kd.C_alloc ?_ _) | (with_reducible refine Kd.C_drewN ?_ _) | (with_reducible refine Kd.C_drew ?_))); (case side4 => exact HC1.out); rintro e w18 ⟨rfl, hb⟩; have n0_ := Aside0.mk (blk_below (g := gb101) (o := .cells #[.slice A0_0 l0_0.length c0_0] 28 (0, 0)) (by (with_reducible repeat (first | refine blk_drewN ?_ _ | refine blk_drew ?_ | refine blk_alloc ?_ _)); exact BK101.out) hb); have n1_ := Aside0.mk (below_step (by repeat (first | (with_reducible first | exact HB.out | apply below_alloc | apply pw_below_drewN | apply below_drew1 | refine below_set ?_ GE101.out) | exact HB.out)) hb); clear BK101; clear HB; have BK101 := n0_; have HB := n1_; clear n0_ n1_; (try clear hb); (try clear hb2); (try clear hk); (try clear hi); have hcz19_0 : w18.cell? ⟨gb101, 0, none⟩ = some (.slice A0_0 l0_0.length c0_0) := (blk_cell BK101.out 0).trans rfl; have hfz19_0 := blk_frozen BK101.out 0) | (go_at_call 90; (with_reducible refine (impl_isStrength.calls _ _ l0_0 a2 true _ ?side1 ?side2 A12.out).mono ?_); (case side1 => repeat (first | exact (Kd.C_below HR0_0.out HB.out) | (with_reducible refine Kd.C_alloc ?_ _) | (with_reducible refine Kd.C_drewN ?_ _) | (with_reducible refine Kd.C_drew ?_))); (case side2 => exact HC0_0.out); rintro e w20 ⟨rfl, hb⟩; have n0_ := Aside0.mk (blk_below (g := gb101) (o := .cells #[.slice A0_0 l0_0.length c0_0] 28 (0, 0)) (by (with_reducible repeat (first | refine blk_drewN ?_ _ | refine blk_drew ?_ | refine blk_alloc ?_ _)); exact BK101.out) hb); have n1_ := Aside0.mk (below_step (by repeat (first | (with_reducible first | exact HB.out | apply below_alloc | apply pw_below_drewN | apply below_drew1 | refine below_set ?_ GE101.out) | exact HB.out)) hb); clear BK101; clear HB; have BK101 := n0_; have HB := n1_; clear n0_ n1_; (try clear hb); (try clear hb2); (try clear hk); (try clear hi)))
          go_ret
          exact ⟨by first | rfl | (simp [errW_none, errW_some] <;> rfl) | (simp [*, errW_none, errW_some] <;> rfl), by repeat (first | (with_reducible first | exact HB.out | apply below_alloc | apply pw_below_drewN | apply below_drew1 | refine below_set ?_ GE101.out) | exact HB.out)⟩
        · replace c13 := Bool.eq_false_iff.mpr c13
          subst c13
          have H1 : (some 2) = some r := by rw [if_neg (show ¬ (false = true) by decide)] at H; exact H
          clear H
          have H := H1
          clear H1
          obtain rfl := Option.some.inj H
          go_enter Try.func89, Try.ntmps89
          go_wp2_with (first | ((with_reducible refine gate_dst (N := 3) rfl ?_); refine box_event ?hg (N := 3) ?hd (cs := #[.slice A0_0 l0_0.length c0_0]) (t := 28) ?hr ?_; (case hd => rfl); (case hg => rfl); (case hr => first | (go_simp; done) | (go_simp; rfl)); intro gb101 hg w21 hbox hb; have n0_ := Aside0.mk (below_step (by repeat (first | (with_reducible first | exact HB.out | apply below_alloc | apply pw_below_drewN | apply below_drew1) | exact HB.out)) hb); have n1_ := Aside0.mk (hbox); have n2_ := Aside0.mk ((by rw [hg]; exact (below_size (by repeat (first | (with_reducible first | exact HB.out | apply below_alloc | apply pw_below_drewN | apply below_drew1) | exact HB.out))) : w.heap.size ≤ gb101)); have n3_ := Aside0.mk ((by rw [hg]; exact (below_size (by repeat (first | (with_reducible first | exact HB.out | apply below_alloc | apply pw_below_drewN | apply below_drew1) | exact HB.out))) : w.heap.size ≤ gb101)); clear HB; have HB := n0_; have BK101 := n1_; have GW101 := n2_; have GE101 := n3_; clear n0_ n1_ n2_ n3_; clear hb hbox hg; have hcz22_0 : w21.cell? ⟨gb101, 0, none⟩ = some (.slice A0_0 l0_0.length c0_0) := (blk_cell BK101.out 0).trans rfl; have hfz22_0 := blk_frozen BK101.out 0) | ((with_reducible refine gate_callee (f := 161) rfl ?_); refine goesL_ (some 9) rfl rfl Try.func161 (by kernel_rfl) rfl #[.agg #[.slice A0_0 l0_0.length c0_0]] rfl (by (try simp only [List.map_toArray, List.map_cons, List.map_nil]); first | done | rfl | (simp only [List.length_drop, List.length_take]; rfl)) ?_; (with_reducible refine (impl_IsSpace.calls k _ _ l0_0 true _ ?side1 ?side2 A4.out).mono ?_); (case side1 => repeat (first | exact (Kd.C_below HR0_0.out HB.out) | (with_reducible refine Kd.C_alloc ?_ _) | (with_reducible refine Kd.C_drewN ?_ _) | (with_reducible refine Kd.C_drew ?_))); (case side2 => exact HC0_0.out); rintro e w23 ⟨rfl, hb⟩; refine ⟨_, rfl, ?_⟩; have n0_ := Aside0.mk (blk_below (g := gb101) (o := .cells #[.slice A0_0 l0_0.length c0_0] 28 (0, 0)) (by (with_reducible repeat (first | refine blk_drewN ?_ _ | refine blk_drew ?_ | refine blk_alloc ?_ _)); exact BK101.out) hb); have n1_ := Aside0.mk (below_step (by repeat (first | (with_reducible first | exact HB.out | apply below_alloc | apply pw_below_drewN | apply below_drew1 | refine below_set ?_ GE101.out) | exact HB.out)) hb); clear BK101; clear HB; have BK101 := n0_; have HB := n1_; clear n0_ n1_; (try clear hb); (try clear hb2); (try clear hk); (try clear hi); have hcz24_0 : w23.cell? ⟨gb101, 0, none⟩ = some (.slice A0_0 l0_0.length c0_0) := (blk_cell BK101.out 0).trans rfl; have hfz24_0 := blk_frozen BK101.out 0) | (go_at_call 167; (with_reducible refine (impl_areWords.calls k _ _ l0_0 _ _ l1 true _ ?side1 ?side2 ?side3 ?side4 A10.out).mono ?_); (case side1 => repeat (first | exact (Kd.C_below HR0_0.out HB.out) | (with_reducible refine Kd.C_alloc ?_ _) | (with_reducible refine Kd.C_drewN ?_ _) | (with_reducible refine Kd.C_drew ?_))); (case side2 => exact HC0_0.out); (case side3 => repeat (first | exact (Kd.C_below HR1.out HB.out) | (with_reducible refine Kd.C_alloc ?_ _) | (with_reducible refine Kd.C_drewN ?_ _) | (with_reducible refine Kd.C_drew ?_))); (case side4 => exact HC1.out); rintro e w25 ⟨rfl, hb⟩; have n0_ := Aside0.mk (blk_below (g := gb101) (o := .cells #[.slice A0_0 l0_0.length c0_0] 28 (0, 0)) (by (with_reducible repeat (first | refine blk_drewN ?_ _ | refine blk_drew ?_ | refine blk_alloc ?_ _)); exact BK101.out) hb); have n1_ := Aside0.mk (below_step (by repeat (first | (with_reducible first | exact HB.out | apply below_alloc | apply pw_below_drewN | apply below_drew1 | refine below_set ?_ GE101.out) | exact HB.out)) hb); clear BK101; clear HB; have BK101 := n0_; have HB := n1_; clear n0_ n1_; (try clear hb); (try clear hb2); (try clear hk); (try clear hi); have hcz26_0 : w25.cell? ⟨gb101, 0, none⟩ = some (.slice A0_0 l0_0.length c0_0) := (blk_cell BK101.out 0).trans rfl; have hfz26_0 := blk_frozen BK101.out 0) | (go_at_call 90; (with_reducible refine (impl_isStrength.calls _ _ l0_0 a2 false _ ?side1 ?side2 A12.out).mono ?_); (case side1 => repeat (first | exact (Kd.C_below HR0_0.out HB.out) | (with_reducible refine Kd.C_alloc ?_ _) | (with_reducible refine Kd.C_drewN ?_ _) | (with_reducible refine Kd.C_drew ?_))); (case side2 => exact HC0_0.out); rintro e w27 ⟨rfl, hb⟩; have n0_ := Aside0.mk (blk_below (g := gb101) (o := .cells #[.slice A0_0 l0_0.length c0_0] 28 (0, 0)) (by (with_reducible repeat (first | refine blk_drewN ?_ _ | refine blk_drew ?_ | refine blk_alloc ?_ _)); exact BK101.out) hb); have n1_ := Aside0.mk (below_step (by repeat (first | (with_reducible first | exact HB.out | apply below_alloc | apply pw_below_drewN | apply below_drew1 | refine below_set ?_ GE101.out) | exact HB.out)) hb); clear BK101; clear HB; have BK101 := n0_; have HB := n1_; clear n0_ n1_; (try clear hb); (try clear hb2); (try clear hk); (try clear hi)))
          go_ret
          exact ⟨by first | rfl | (simp [errW_none, errW_some] <;> rfl) | (simp [*, errW_none, errW_some] <;> rfl), by repeat (first | (with_reducible first | exact HB.out | apply below_alloc | apply pw_below_drewN | apply below_drew1 | refine below_set ?_ GE101.out) | exact HB.out)⟩
      · replace c11 := Bool.eq_false_iff.mpr c11
        subst c11
        have H1 : (some 2) = some r := by rw [if_neg (show ¬ (false = true) by decide)] at H; exact H
        clear H
        have H := H1
        clear H1
        obtain rfl := Option.some.inj H
        go_enter Try.func89, Try.ntmps89
        go_wp2_with (first | ((with_reducible refine gate_dst (N := 3) rfl ?_); refine box_event ?hg (N := 3) ?hd (cs := #[.slice A0_0 l0_0.length c0_0]) (t := 28) ?hr ?_; (case hd => rfl); (case hg => rfl); (case hr => first | (go_simp; done) | (go_simp; rfl)); intro gb101 hg w28 hbox hb; have n0_ := Aside0.mk (below_step (by repeat (first | (with_reducible first | exact HB.out | apply below_alloc | apply pw_below_drewN | apply below_drew1) | exact HB.out)) hb); have n1_ := Aside0.mk (hbox); have n2_ := Aside0.mk ((by rw [hg]; exact (below_size (by repeat (first | (with_reducible first | exact HB.out | apply below_alloc | apply pw_below_drewN | apply below_drew1) | exact HB.out))) : w.heap.size ≤ gb101)); have n3_ := Aside0.mk ((by rw [hg]; exact (below_size (by repeat (first | (with_reducible first | exact HB.out | apply below_alloc | apply pw_below_drewN | apply below_drew1) | exact HB.out))) : w.heap.size ≤ gb101)); clear HB; have HB := n0_; have BK101 := n1_; have GW101 := n2_; have GE101 := n3_; clear n0_ n1_ n2_ n3_; clear hb hbox hg; have hcz29_0 : w28.cell? ⟨gb101, 0, none⟩ = some (.slice A0_0 l0_0.length c0_0) := (blk_cell BK101.out 0).trans rfl; have hfz29_0 := blk_frozen BK101.out 0) | ((with_reducible refine gate_callee (f := 161) rfl ?_); refine goesL_ (some 9) rfl rfl Try.func161 (by kernel_rfl) rfl #[.agg #[.slice A0_0 l0_0.length c0_0]] rfl (by (try simp only [List.map_toArray, List.map_cons, List.map_nil]); first | done | rfl | (simp only [List.length_drop, List.length_take]; rfl)) ?_; (with_reducible refine (impl_IsSpace.calls k _ _ l0_0 true _ ?side1 ?side2 A4.out).mono ?_); (case side1 => repeat (first | exact (Kd.C_below HR0_0.out HB.out) | (with_reducible refine Kd.C_alloc ?_ _) | (with_reducible refine Kd.C_drewN ?_ _) | (with_reducible refine Kd.C_drew ?_))); (case side2 => exact HC0_0.out); rintro e w30 ⟨rfl, hb⟩; refine ⟨_, rfl, ?_⟩; have n0_ := Aside0.mk (blk_below (g := gb101) (o := .cells #[.slice A0_0 l0_0.length c0_0] 28 (0, 0)) (by (with_reducible repeat (first | refine blk_drewN ?_ _ | refine blk_drew ?_ | refine blk_alloc ?_ _)); exact BK101.out) hb); have n1_ := Aside0.mk (below_step (by repeat (first | (with_reducible first | exact HB.out | apply below_alloc | apply pw_below_drewN | apply below_drew1 | refine below_set ?_ GE101.out) | exact HB.out)) hb); clear BK101; clear HB; have BK101 := n0_; have HB := n1_; clear n0_ n1_; (try clear hb); (try clear hb2); (try clear hk); (try clear hi); have hcz31_0 : w30.cell? ⟨gb101, 0, none⟩ = some (.slice A0_0 l0_0.length c0_0) := (blk_cell BK101.out 0).trans rfl; have hfz31_0 := blk_frozen BK101.out 0) | (go_at_call 167; (with_reducible refine (impl_areWords.calls k _ _ l0_0 _ _ l1 false _ ?side1 ?side2 ?side3 ?side4 A10.out).mono ?_); (case side1 => repeat (first | exact (Kd.C_below HR0_0.out HB.out) | (with_reducible refine Kd.C_alloc ?_ _) | (with_reducible refine Kd.C_drewN ?_ _) | (with_reducible refine Kd.C_drew ?_))); (case side2 => exact HC0_0.out); (case side3 => repeat (first | exact (Kd.C_below HR1.out HB.out) | (with_reducible refine Kd.C_alloc ?_ _) | (with_reducible refine Kd.C_drewN ?_ _) | (with_reducible refine Kd.C_drew ?_))); (case side4 => exact HC1.out); rintro e w32 ⟨rfl, hb⟩; have n0_ := Aside0.mk (blk_below (g := gb101) (o := .cells #[.slice A0_0 l0_0.length c0_0] 28 (0, 0)) (by (with_reducible repeat (first | refine blk_drewN ?_ _ | refine blk_drew ?_ | refine blk_alloc ?_ _)); exact BK101.out) hb); have n1_ := Aside0.mk (below_step (by repeat (first | (with_reducible first | exact HB.out | apply below_alloc | apply pw_below_drewN | apply below_drew1 | refine below_set ?_ GE101.out) | exact HB.out)) hb); clear BK101; clear HB; have BK101 := n0_; have HB := n1_; clear n0_ n1_; (try clear hb); (try clear hb2); (try clear hk); (try clear hi)))
        go_ret
        exact ⟨by first | rfl | (simp [errW_none, errW_some] <;> rfl) | (simp [*, errW_none, errW_some] <;> rfl), by repeat (first | (with_reducible first | exact HB.out | apply below_alloc | apply pw_below_drewN | apply below_drew1 | refine below_set ?_ GE101.out) | exact HB.out)⟩
  · replace c5 := Bool.eq_false_iff.mpr c5
    subst c5
    have H1 : (some 1) = some r := by rw [if_neg (show ¬ (false = true) by decide)] at H; exact H
    clear H
    have H := H1
    clear H1
    obtain rfl := Option.some.inj H
    go_enter Try.func89, Try.ntmps89
    go_wp2_with (first | ((with_reducible refine gate_dst (N := 3) rfl ?_); refine box_event ?hg (N := 3) ?hd (cs := #[.slice A0_0 l0_0.length c0_0]) (t := 28) ?hr ?_; (case hd => rfl); (case hg => rfl); (case hr => first | (go_simp; done) | (go_simp; rfl)); intro gb101 hg w33 hbox hb; have n0_ := Aside0.mk (below_step (by repeat (first | (with_reducible first | exact HB.out | apply below_alloc | apply pw_below_drewN | apply below_drew1) | exact HB.out)) hb); have n1_ := Aside0.mk (hbox); have n2_ := Aside0.mk ((by rw [hg]; exact (below_size (by repeat (first | (with_reducible first | exact HB.out | apply below_alloc | apply pw_below_drewN | apply below_drew1) | exact HB.out))) : w.heap.size ≤ gb101)); have n3_ := Aside0.mk ((by rw [hg]; exact (below_size (by repeat (first | (with_reducible first | exact HB.out | apply below_alloc | apply pw_below_drewN | apply below_drew1) | exact HB.out))) : w.heap.size ≤ gb101)); clear HB; have HB := n0_; have BK101 := n1_; have GW101 := n2_; have GE101 := n3_; clear n0_ n1_ n2_ n3_; clear hb hbox hg; have hcz34_0 : w33.cell? ⟨gb101, 0, none⟩ = some (.slice A0_0 l0_0.length c0_0) := (blk_cell BK101.out 0).trans rfl; have hfz34_0 := blk_frozen BK101.out 0) | ((with_reducible refine gate_callee (f := 161) rfl ?_); refine goesL_ (some 9) rfl rfl Try.func161 (by kernel_rfl) rfl #[.agg #[.slice A0_0 l0_0.length c0_0]] rfl (by (try simp only [List.map_toArray, List.map_cons, List.map_nil]); first | done | rfl | (simp only [List.length_drop, List.length_take]; rfl)) ?_; (with_reducible refine (impl_IsSpace.calls k _ _ l0_0 false _ ?side1 ?side2 A4.out).mono ?_); (case side1 => repeat (first | exact (Kd.C_below HR0_0.out HB.out) | (with_reducible refine Kd.C_alloc ?_ _) | (with_reducible refine Kd.C_drewN ?_ _) | (with_reducible refine Kd.C_drew ?_))); (case side2 => exact HC0_0.out); rintro e w35 ⟨rfl, hb⟩; refine ⟨_, rfl, ?_⟩; have n0_ := Aside0.mk (blk_below (g := gb101) (o := .cells #[.slice A0_0 l0_0.length c0_0] 28 (0, 0)) (by (with_reducible repeat (first | refine blk_drewN ?_ _ | refine blk_drew ?_ | refine blk_alloc ?_ _)); exact BK101.out) hb); have n1_ := Aside0.mk (below_step (by repeat (first | (with_reducible first | exact HB.out | apply below_alloc | apply pw_below_drewN | apply below_drew1 | refine below_set ?_ GE101.out) | exact HB.out)) hb); clear BK101; clear HB; have BK101 := n0_; have HB := n1_; clear n0_ n1_; (try clear hb); (try clear hb2); (try clear hk); (try clear hi)))
    go_ret
    exact ⟨by first | rfl | (simp [errW_none, errW_some] <;> rfl) | (simp [*, errW_none, errW_some] <;> rfl), by repeat (first | (with_reducible first | exact HB.out | apply below_alloc | apply pw_below_drewN | apply below_drew1 | refine below_set ?_ GE101.out) | exact HB.out)⟩
/- F132 -/
def slices_Index_int64_int64.l0 : Nat → List Int → Int → Int → Int → Option (Int)
  | 0, _, _, _, _ => none
  | k + 1, x0, x1, x7, x8 => if x8 < x7 then (if 0 ≤ x8 then (if x8 < (x0.length : Int) then (if x1 = (rd x0 x8) then (some x8) else (slices_Index_int64_int64.l0 k x0 x1 x7 (wrap64 (x8 + 1)))) else (none)) else (none)) else (some (-1))
def slices_Index_int64_int64.f (k : Nat) (l0 : List Int) (a1 : Int) : Option (Int) := slices_Index_int64_int64.l0 k l0 a1 (l0.length : Int) 0
theorem slices_Index_int64_int64.mono_l : ∀ k, (∀ y0 y1 y2 y3, LeO (slices_Index_int64_int64.l0 k y0 y1 y2 y3) (slices_Index_int64_int64.l0 (k + 1) y0 y1 y2 y3))
  | 0 => fun _ _ _ _ r h => by simp [slices_Index_int64_int64.l0] at h
  | k + 1 => by
    have ih0 := slices_Index_int64_int64.mono_l k
    · intro y0 y1 y2 y3
      unfold slices_Index_int64_int64.l0
      repeat' first
      | (with_reducible exact ih0 _ _ _ _)
      | (with_reducible exact LeO.refl _)
      | (with_reducible exact LeO.none _)
      | (with_reducible refine LeO.ite ?_ ?_)
      | (with_reducible refine LeO.bind ?_ (fun _ => ?_))
      | exact ih0 _ _ _ _
      | exact LeO.none _
      | refine LeO.ite ?_ ?_
      | refine LeO.bind ?_ (fun _ => ?_)
theorem slices_Index_int64_int64.mono : ∀ a0 a1 k, LeO (slices_Index_int64_int64.f k a0 a1) (slices_Index_int64_int64.f (k + 1) a0 a1) := by
  intro a0 a1 k
  have ih0 := slices_Index_int64_int64.mono_l k
  unfold slices_Index_int64_int64.f
  repeat' first
      | (with_reducible exact ih0 _ _ _ _)
      | (with_reducible exact LeO.refl _)
      | (with_reducible exact LeO.none _)
      | (with_reducible refine LeO.ite ?_ ?_)
      | (with_reducible refine LeO.bind ?_ (fun _ => ?_))
      | exact ih0 _ _ _ _
      | exact LeO.none _
      | refine LeO.ite ?_ ?_
      | refine LeO.bind ?_ (fun _ => ?_)
set_option maxHeartbeats 8000000 in
set_option maxRecDepth 100000 in
theorem slices_Index_int64_int64.calls (k : Nat) (A0 : Option Addr) (c0 : Nat) (l0 : List Int) (a1 : Int) (r : Int) (w : World) (hr0 : Kd.C (Kd.int .i64) w A0 l0.length l0) (hc0 : l0.length ≤ c0) (h : slices_Index_int64_int64.f k l0 a1 = some r) :
    Calls Try.prog 132 #[.slice A0 l0.length c0, .int .i64 a1] w fun e w' => e = .returned (.int .i64 r) ∧ Drawn0 w w' := by
  have HR0 := Aside0.mk hr0
  have HC0 := Aside0.mk hc0
  clear hr0 hc0
  have H : (slices_Index_int64_int64.l0 k l0 a1 (l0.length : Int) 0) = some r := h
  clear h
  have H' := Aside0.mk H
  clear H
  go_enter Try.func132, Try.ntmps132
  go_wp2
  go_loopg [8] k (fun kq v8 w' => ∃ (x8_1 : Int), v8 = .int .i64 x8_1 ∧ Aside0 (slices_Index_int64_int64.l0 kq l0 a1 (l0.length : Int) x8_1 = some r) ∧ Aside0 (kq ≤ k) ∧ Drawn0 w w')
  case atStart => exact ⟨(0), (by first | rfl | (simp; done) | (simp [*]; done)), H', ⟨Nat.le_refl _⟩, by repeat (first | exact Drawn0.refl _ | apply Drawn0.step)⟩
  case round =>
    clear H'
    try clear c1
    try clear p2
    obtain ⟨x8_1, rfl, HA, HK1, ⟨m1, rfl⟩⟩ := hrel
    cases gk with
    | zero => exact absurd HA.out (by simp [slices_Index_int64_int64.l0])
    | succ k1 =>
      have H := HA.out
      clear HA
      simp only [slices_Index_int64_int64.l0] at H
      by_cases c3 : x8_1 < (l0.length : Int)
      · rw [if_pos c3] at H
        have c3b0 : decide (x8_1 < (l0.length : Int)) = true := decide_eq_true c3
        clear c3
        by_cases c4 : 0 ≤ x8_1
        · rw [if_pos c4] at H
          have c4b0 : decide (0 ≤ x8_1) = true := decide_eq_true c4
          clear c4
          by_cases c5 : x8_1 < (l0.length : Int)
          · rw [if_pos c5] at H
            have c5b0 : decide (x8_1 < (l0.length : Int)) = true := decide_eq_true c5
            clear c5
            by_cases c6 : a1 = (rd l0 x8_1)
            · rw [if_pos c6] at H
              have c6b0 : (a1 == (rd l0 x8_1)) = true := beq_iff_eq.mpr c6
              have c6b1 : (a1 != (rd l0 x8_1)) = false := bne_eq_false_iff_eq.mpr c6
              clear c6
              obtain rfl := Option.some.inj H
              have p101 : 0 ≤ (x8_1 : Int) := of_decide_eq_true (by first | (with_reducible assumption) | assumption)
              have q101 : x8_1 < (l0.length : Int) := of_decide_eq_true (by first | (with_reducible assumption) | assumption)
              obtain ⟨ad101, e101, hx101_0⟩ := Kd.at_int HR0.out x8_1 p101 q101
              cases e101
              replace p101 := eq_true p101
              replace q101 := eq_true q101
              go_wp2
              go_ret
              exact ⟨by first | rfl | (simp; done) | (simp [*]; done), by repeat (first | exact Drawn0.refl _ | apply Drawn0.step)⟩
            · rw [if_neg c6] at H
              have c6b0 : (a1 == (rd l0 x8_1)) = false := beq_eq_false_iff_ne.mpr c6
              have c6b1 : (a1 != (rd l0 x8_1)) = true := bne_iff_ne.mpr c6
              have H' := Aside0.mk H
              clear H
              have p101 : 0 ≤ (x8_1 : Int) := of_decide_eq_true (by first | (with_reducible assumption) | assumption)
              have q101 : x8_1 < (l0.length : Int) := of_decide_eq_true (by first | (with_reducible assumption) | assumption)
              obtain ⟨ad101, e101, hx101_0⟩ := Kd.at_int HR0.out x8_1 p101 q101
              cases e101
              replace p101 := eq_true p101
              replace q101 := eq_true q101
              go_wp2
              go_roundg k1
              case measure => have := HK1.out; omega
              case rel => exact ⟨(wrap64 (x8_1 + 1)), (by first | rfl | (simp; done) | (simp [*]; done)), H', ⟨by have := HK1.out; omega⟩, by repeat (first | exact Drawn0.refl _ | apply Drawn0.step)⟩
          · rw [if_neg c5] at H
            exact absurd H (by simp)
        · rw [if_neg c4] at H
          exact absurd H (by simp)
      · rw [if_neg c3] at H
        have c3b0 : decide (x8_1 < (l0.length : Int)) = false := decide_eq_false c3
        clear c3
        obtain rfl := Option.some.inj H
        go_wp2
        go_ret
        exact ⟨by first | rfl | (simp; done) | (simp [*]; done), by repeat (first | exact Drawn0.refl _ | apply Drawn0.step)⟩
/- F91 -/
def slices_Contains_int64_int64.f (k : Nat) (l0 : List Int) (a1 : Int) : Option (Bool) := (slices_Index_int64_int64.f k l0 a1).bind fun t101 => (some (decide (t101 ≥ 0)))
theorem slices_Contains_int64_int64.mono : ∀ a0 a1 k, LeO (slices_Contains_int64_int64.f k a0 a1) (slices_Contains_int64_int64.f (k + 1) a0 a1) := by
  intro a0 a1 k
  unfold slices_Contains_int64_int64.f
  repeat' first
      | (with_reducible exact slices_Index_int64_int64.mono _ _ _)
      | (with_reducible exact LeO.refl _)
      | (with_reducible exact LeO.none _)
      | (with_reducible refine LeO.ite ?_ ?_)
      | (with_reducible refine LeO.bind ?_ (fun _ => ?_))
      | exact slices_Index_int64_int64.mono _ _ _
      | exact LeO.none _
      | refine LeO.ite ?_ ?_
      | refine LeO.bind ?_ (fun _ => ?_)
set_option maxHeartbeats 8000000 in
set_option maxRecDepth 100000 in
theorem slices_Contains_int64_int64.calls (k : Nat) (A0 : Option Addr) (c0 : Nat) (l0 : List Int) (a1 : Int) (r : Bool) (w : World) (hr0 : Kd.C (Kd.int .i64) w A0 l0.length l0) (hc0 : l0.length ≤ c0) (h : slices_Contains_int64_int64.f k l0 a1 = some r) :
    Calls Try.prog 91 #[.slice A0 l0.length c0, .int .i64 a1] w fun e w' => e = .returned (.bool r) ∧ Drawn0 w w' := by
  have HR0 := Aside0.mk hr0
  have HC0 := Aside0.mk hc0
  clear hr0 hc0
  have H : ((slices_Index_int64_int64.f k l0 a1).bind fun t101 => (some (decide (t101 ≥ 0)))) = some r := h
  clear h
  replace H := Option.bind_eq_some_iff.mp H
  obtain ⟨t101, A30, H⟩ := H
  replace H : (some (decide (t101 ≥ 0))) = some r := H
  have A3 := Aside0.mk A30
  clear A30
  obtain rfl := Option.some.inj H
  go_enter Try.func91, Try.ntmps91
  go_wp2_with (first | ((with_reducible refine gate_callee (f := 132) rfl ?_); refine goesL_ (some 7) rfl rfl Try.func132 (by kernel_rfl) rfl #[.slice A0 l0.length c0, .int .i64 a1] rfl (by (try simp only [List.map_toArray, List.map_cons, List.map_nil]); first | done | rfl | (simp only [List.length_drop, List.length_take]; rfl)) ?_; (with_reducible refine (slices_Index_int64_int64.calls k _ _ l0 a1 t101 _ ?side1 ?side2 A3.out).mono ?_); (case side1 => repeat (first | exact HR0.out | (with_reducible refine Kd.C_alloc ?_ _) | (with_reducible refine Kd.C_drewN ?_ _) | (with_reducible refine Kd.C_drew ?_))); (case side2 => exact HC0.out); rintro e w' ⟨rfl, ⟨nd, rfl⟩⟩; refine ⟨_, rfl, ?_⟩))
  go_ret
  exact ⟨by first | rfl | (simp; done) | (simp [*]; done), by repeat (first | exact Drawn0.refl _ | apply Drawn0.step)⟩
/- Q1 -/
theorem wrap_id {x : Int} (h0 : -9223372036854775808 ≤ x) (h1 : x ≤ 9223372036854775807) : wrap64 x = x := by
  unfold wrap64
  omega
theorem rd_nat (l : List Int) (i : Nat) : rd l (i : Int) = l.getD i 0 := rfl
theorem drop_get (l : List Int) (i : Nat) (h : i < l.length) : l.drop i = l.getD i 0 :: l.drop (i + 1) := drop_at l i h 0
/-- A space's sizes. -/
def isSp (l : List Int) : Bool := decide (1 ≤ l.length ∧ l.length ≤ 8 ∧ (∀ q ∈ l, 2 ≤ q ∧ q ≤ 4) ∧ pr l ≤ 1024)
theorem pow4 (n : Nat) : (1 : Int) ≤ 4 ^ n := by
  induction n with
  | zero => exact Int.le_refl 1
  | succ n ih => rw [Int.pow_succ]; omega
theorem IsSpace_l0 (l : List Int) (hl : l.length ≤ 8) : ∀ (d k i : Nat) (x : Int), i + d = l.length → d < k → 1 ≤ x → x * 4 ^ d ≤ 65536 →
    impl_IsSpace.l0 k x l (l.length : Int) (i : Int) = some (decide ((∀ q ∈ l.drop i, 2 ≤ q ∧ q ≤ 4) ∧ x * pr (l.drop i) ≤ 1024)) := by
  intro d
  induction d with
  | zero =>
    intro k i x hi hk h0 h1
    obtain ⟨k, rfl⟩ : ∃ m, k = m + 1 := ⟨k - 1, by omega⟩
    simp only [impl_IsSpace.l0]
    rw [if_neg (by omega), List.drop_of_length_le (by omega), pr_nil, Int.mul_one]
    simp
  | succ d ih =>
    intro k i x hi hk h0 h1
    obtain ⟨k, rfl⟩ : ∃ m, k = m + 1 := ⟨k - 1, by omega⟩
    simp only [impl_IsSpace.l0]
    rw [if_pos (by omega), if_pos (by omega), if_pos (by omega), rd_nat, drop_get l i (by omega), pr_cons]
    obtain ⟨q, hq⟩ : ∃ q, q = l.getD i 0 := ⟨_, rfl⟩
    rw [← hq]
    have h4 := pow4 d
    by_cases c1 : q < 2
    · rw [if_pos c1]
      refine congrArg some (Eq.symm (decide_eq_false (fun h => ?_)))
      have := h.1 q List.mem_cons_self
      omega
    · rw [if_neg c1]
      by_cases c2 : q > 4
      · rw [if_pos c2]
        refine congrArg some (Eq.symm (decide_eq_false (fun h => ?_)))
        have := h.1 q List.mem_cons_self
        omega
      · rw [if_neg c2]
        rw [Int.pow_succ, Int.mul_comm (4 ^ d) 4, ← Int.mul_assoc] at h1
        have hx4 : x * q ≤ x * 4 := Int.mul_le_mul_of_nonneg_left (by omega) (by omega)
        have hx1 : x * 1 ≤ x * q := Int.mul_le_mul_of_nonneg_left (by omega) (by omega)
        have hb : x * q * 4 ^ d ≤ x * 4 * 4 ^ d := Int.mul_le_mul_of_nonneg_right hx4 (by omega)
        have hb2 : x * q * 1 ≤ x * q * 4 ^ d := Int.mul_le_mul_of_nonneg_left h4 (by omega)
        rw [wrap_id (by omega) (by omega), wrap_id (by omega) (by omega), show (i : Int) + 1 = ((i + 1 : Nat) : Int) by omega, ih k (i + 1) (x * q) (by omega) (by omega) (by omega) (by omega), Int.mul_assoc]
        refine congrArg some (decide_eq_decide.2 ⟨fun h => ⟨fun p hp => ?_, h.2⟩, fun h => ⟨fun p hp => h.1 p (List.mem_cons_of_mem _ hp), h.2⟩⟩)
        rcases List.mem_cons.1 hp with rfl | hp
        · omega
        · exact h.1 p hp
theorem IsSpace_ev (l : List Int) : Ev (fun k => impl_IsSpace.f k l) (isSp l) := by
  refine ⟨11, fun k hk => ?_⟩
  obtain ⟨k, rfl⟩ : ∃ m, k = m + 1 := ⟨k - 1, by omega⟩
  show impl_IsSpace.f (k + 1) l = some (isSp l)
  unfold impl_IsSpace.f isSp
  by_cases c1 : (l.length : Int) < 1
  · rw [if_pos c1]
    simp only [impl_IsSpace.j0, if_true]
    exact congrArg some (Eq.symm (decide_eq_false (fun h => by omega)))
  · rw [if_neg c1]
    simp only [impl_IsSpace.j0]
    by_cases c2 : (l.length : Int) > 8
    · rw [if_pos (by simpa using c2)]
      exact congrArg some (Eq.symm (decide_eq_false (fun h => by omega)))
    · rw [if_neg (by simpa using c2)]
      have h4 : (1 : Int) * 4 ^ l.length ≤ 65536 := by
        rw [Int.one_mul]
        have h8 : l.length ≤ 8 := by omega
        generalize l.length = n at h8
        rcases n with _|_|_|_|_|_|_|_|_|n <;> first | decide | omega
      have := IsSpace_l0 l (by omega) l.length k 0 1 (by omega) (by omega) (by omega) h4
      rw [List.drop_zero, Int.one_mul] at this
      rw [show (0 : Int) = ((0 : Nat) : Int) from rfl, this]
      exact congrArg some (decide_eq_decide.2 ⟨fun h => ⟨by omega, by omega, h⟩, fun h => h.2.2⟩)
theorem isSp_sz {l : List Int} (h : isSp l = true) : 1 ≤ l.length ∧ l.length ≤ 8 ∧ Sz l ∧ pr l ≤ 1024 := by
  unfold isSp at h
  have h2 := of_decide_eq_true h
  exact ⟨h2.1, h2.2.1, h2.2.2.1, h2.2.2.2⟩
theorem pr_take_le {l : List Int} (h : Sz l) : ∀ (d : Nat) (x : Int), l.length = d → 1 ≤ x → x * pr l ≤ x * 4 ^ d := by
  induction l with
  | nil => intro d x hd hx; rw [pr_nil]; exact Int.mul_le_mul_of_nonneg_left (pow4 d) (by omega)
  | cons q l ih =>
    intro d x hd hx
    obtain ⟨d, rfl⟩ : ∃ m, d = m + 1 := ⟨d - 1, by simp at hd; omega⟩
    have h1 := h q List.mem_cons_self
    have h2 := ih h.tail d 1 (by simpa using hd) (by omega)
    rw [Int.one_mul, Int.one_mul] at h2
    have h3 := pr_pos h.tail
    rw [pr_cons, Int.pow_succ, Int.mul_comm (4 ^ d) 4]
    refine Int.mul_le_mul_of_nonneg_left ?_ (by omega)
    exact Int.mul_le_mul (by omega) h2 (by omega) (by omega)
theorem count_l0 (l : List Int) (hl : l.length ≤ 8) (hz : Sz l) : ∀ (d k i : Nat) (x : Int), i + d = l.length → d < k → 1 ≤ x → x * 4 ^ d ≤ 65536 →
    impl_count.l0 k x l (l.length : Int) (i : Int) = some (x * pr (l.drop i)) := by
  intro d
  induction d with
  | zero =>
    intro k i x hi hk h0 h1
    obtain ⟨k, rfl⟩ : ∃ m, k = m + 1 := ⟨k - 1, by omega⟩
    simp only [impl_count.l0]
    rw [if_neg (by omega), List.drop_of_length_le (by omega), pr_nil, Int.mul_one]
  | succ d ih =>
    intro k i x hi hk h0 h1
    obtain ⟨k, rfl⟩ : ∃ m, k = m + 1 := ⟨k - 1, by omega⟩
    simp only [impl_count.l0]
    have hq0 : 2 ≤ l.getD i 0 ∧ l.getD i 0 ≤ 4 := hz _ (by rw [List.getD_eq_getElem?_getD, List.getElem?_eq_getElem (show i < l.length by omega)]; exact List.getElem_mem _)
    rw [if_pos (by omega), if_pos (by omega), if_pos (by omega), rd_nat, drop_get l i (by omega), pr_cons]
    obtain ⟨q, hq⟩ : ∃ q, q = l.getD i 0 := ⟨_, rfl⟩
    have hq1 : 2 ≤ q ∧ q ≤ 4 := by rw [hq]; exact hq0
    rw [← hq]
    have h4 := pow4 d
    rw [Int.pow_succ, Int.mul_comm (4 ^ d) 4, ← Int.mul_assoc] at h1
    have hx4 : x * q ≤ x * 4 := Int.mul_le_mul_of_nonneg_left (by omega) (by omega)
    have hx1 : x * 1 ≤ x * q := Int.mul_le_mul_of_nonneg_left (by omega) (by omega)
    have hb : x * q * 4 ^ d ≤ x * 4 * 4 ^ d := Int.mul_le_mul_of_nonneg_right hx4 (by omega)
    have hb2 : x * q * 1 ≤ x * q * 4 ^ d := Int.mul_le_mul_of_nonneg_left h4 (by omega)
    rw [wrap_id (by omega) (by omega), wrap_id (by omega) (by omega), show (i : Int) + 1 = ((i + 1 : Nat) : Int) by omega, ih k (i + 1) (x * q) (by omega) (by omega) (by omega) (by omega), Int.mul_assoc]
theorem pow4_8 (n : Nat) (h8 : n ≤ 8) : (1 : Int) * 4 ^ n ≤ 65536 := by
  rw [Int.one_mul]
  rcases n with _|_|_|_|_|_|_|_|_|n <;> first | decide | omega
theorem count_ev (l : List Int) (hl : l.length ≤ 8) (hz : Sz l) : Ev (fun k => impl_count.f k l) (pr l) := by
  refine ⟨11, fun k hk => ?_⟩
  have := count_l0 l hl hz l.length k 0 1 (by omega) (by omega) (by omega) (pow4_8 _ hl)
  rw [List.drop_zero, Int.one_mul] at this
  exact this
theorem areWords_l0 (n : Int) (rows : List Int) (hr : rows.length ≤ 140737488351232) : ∀ (d k i : Nat), i + d = rows.length → d < k →
    impl_areWords.l0 k n rows (rows.length : Int) (i : Int) = some (decide (∀ r ∈ rows.drop i, 0 ≤ r ∧ r < n)) := by
  intro d
  induction d with
  | zero =>
    intro k i hi hk
    obtain ⟨k, rfl⟩ : ∃ m, k = m + 1 := ⟨k - 1, by omega⟩
    simp only [impl_areWords.l0]
    rw [if_neg (by omega), List.drop_of_length_le (by omega)]
    simp
  | succ d ih =>
    intro k i hi hk
    obtain ⟨k, rfl⟩ : ∃ m, k = m + 1 := ⟨k - 1, by omega⟩
    simp only [impl_areWords.l0]
    rw [if_pos (by omega), if_pos (by omega), if_pos (by omega), rd_nat, drop_get rows i (by omega)]
    obtain ⟨q, hq⟩ : ∃ q, q = rows.getD i 0 := ⟨_, rfl⟩
    rw [← hq]
    by_cases c1 : q < 0
    · rw [if_pos c1]
      refine congrArg some (Eq.symm (decide_eq_false (fun h => ?_)))
      have := h q List.mem_cons_self
      omega
    · rw [if_neg c1]
      by_cases c2 : q ≥ n
      · rw [if_pos c2]
        refine congrArg some (Eq.symm (decide_eq_false (fun h => ?_)))
        have := h q List.mem_cons_self
        omega
      · rw [if_neg c2, wrap_id (by omega) (by omega), show (i : Int) + 1 = ((i + 1 : Nat) : Int) by omega, ih k (i + 1) (by omega) (by omega)]
        refine congrArg some (decide_eq_decide.2 ⟨fun h p hp => ?_, fun h p hp => h p (List.mem_cons_of_mem _ hp)⟩)
        rcases List.mem_cons.1 hp with rfl | hp
        · omega
        · exact h p hp
theorem areWords_ev (l rows : List Int) (hl : l.length ≤ 8) (hz : Sz l) (hr : rows.length ≤ 140737488351232) : Ev (fun k => impl_areWords.f k l rows) (decide (∀ r ∈ rows, 0 ≤ r ∧ r < pr l)) := by
  unfold impl_areWords.f
  refine Ev.bind (count_ev l hl hz) ⟨rows.length + 1, fun k hk => ?_⟩
  have := areWords_l0 (pr l) rows hr rows.length k 0 (by omega) (by omega)
  rw [List.drop_zero] at this
  exact this
theorem isStrength_val (l : List Int) (t : Int) : impl_isStrength.f l t = some (decide (1 ≤ t ∧ t ≤ 3 ∧ t ≤ l.length)) := by
  unfold impl_isStrength.f impl_places.f
  by_cases c : t ≥ 1
  · rw [if_pos c, Option.bind_some]
    refine congrArg some (decide_eq_decide.2 ?_)
    unfold mn
    constructor
    · intro h; split at h <;> omega
    · intro h; split <;> omega
  · rw [if_neg c]
    exact congrArg some (Eq.symm (decide_eq_false (fun h => c h.1)))
/-- The code of a space, rows and a number of places. -/
def rowsCode (l rows : List Int) (t : Int) : Int := if isSp l = true then (if rows.length > 200 ∨ ¬ (∀ r ∈ rows, 0 ≤ r ∧ r < pr l) ∨ ¬ (1 ≤ t ∧ t ≤ 3 ∧ t ≤ l.length) then 2 else 0) else 1
theorem rowsCode_ev (l rows : List Int) (t : Int) (hr : rows.length ≤ 140737488351232) : Ev (fun k => impl_rowsCode.f k l rows t) (rowsCode l rows t) := by
  unfold impl_rowsCode.f rowsCode
  refine Ev.bind (IsSpace_ev l) ?_
  by_cases c : isSp l = true
  · rw [c]
    obtain ⟨h1, h2, h3, h4⟩ := isSp_sz c
    simp only [if_true]
    by_cases c2 : (rows.length : Int) > 200
    · simp only [if_pos c2]
      rw [if_pos (Or.inl (by omega))]
      exact Ev.now _
    · simp only [if_neg c2]
      refine Ev.bind (areWords_ev l rows h2 h3 hr) ?_
      by_cases c3 : ∀ r ∈ rows, 0 ≤ r ∧ r < pr l
      · simp only [decide_eq_true c3, if_true, isStrength_val, Option.bind_some]
        by_cases c4 : 1 ≤ t ∧ t ≤ 3 ∧ t ≤ l.length
        · rw [decide_eq_true c4]
          simp only [if_true]
          rw [if_neg (fun h => by rcases h with h | h | h; (· omega); (· exact h c3); (· exact h c4))]
          exact Ev.now _
        · rw [decide_eq_false c4]
          simp only [Bool.false_eq_true, if_false]
          rw [if_pos (Or.inr (Or.inr c4))]
          exact Ev.now _
      · simp only [decide_eq_false c3, Bool.false_eq_true, if_false]
        rw [if_pos (Or.inr (Or.inl c3))]
        exact Ev.now _
  · rw [Bool.not_eq_true] at c
    rw [c]
    simp only [Bool.false_eq_true, if_false]
    exact Ev.now _
theorem Index_l0 (l : List Int) (x : Int) (hr : l.length ≤ 140737488351232) : ∀ (d k i : Nat), i + d = l.length → d < k →
    ∃ r, slices_Index_int64_int64.l0 k l x (l.length : Int) (i : Int) = some r ∧ decide (r ≥ 0) = decide (x ∈ l.drop i) := by
  intro d
  induction d with
  | zero =>
    intro k i hi hk
    obtain ⟨k, rfl⟩ : ∃ m, k = m + 1 := ⟨k - 1, by omega⟩
    simp only [slices_Index_int64_int64.l0]
    rw [if_neg (by omega), List.drop_of_length_le (by omega)]
    exact ⟨-1, rfl, by simp⟩
  | succ d ih =>
    intro k i hi hk
    obtain ⟨k, rfl⟩ : ∃ m, k = m + 1 := ⟨k - 1, by omega⟩
    simp only [slices_Index_int64_int64.l0]
    rw [if_pos (by omega), if_pos (by omega), if_pos (by omega), rd_nat, drop_get l i (by omega)]
    by_cases c1 : x = l.getD i 0
    · rw [if_pos c1]
      exact ⟨(i : Int), rfl, by rw [decide_eq_true (by omega), decide_eq_true (by rw [← c1]; exact List.mem_cons_self)]⟩
    · rw [if_neg c1, wrap_id (by omega) (by omega), show (i : Int) + 1 = ((i + 1 : Nat) : Int) by omega]
      obtain ⟨r, h1, h2⟩ := ih k (i + 1) (by omega) (by omega)
      refine ⟨r, h1, h2.trans (decide_eq_decide.2 ⟨List.mem_cons_of_mem _, fun h => ?_⟩)⟩
      rcases List.mem_cons.1 h with h | h
      · exact absurd h c1
      · exact h
theorem Contains_ev (l : List Int) (x : Int) (hr : l.length ≤ 140737488351232) : Ev (fun k => slices_Contains_int64_int64.f k l x) (decide (x ∈ l)) := by
  refine ⟨l.length + 1, fun k hk => ?_⟩
  obtain ⟨r, h1, h2⟩ := Index_l0 l x hr l.length k 0 (by omega) (by omega)
  rw [List.drop_zero] at h2
  show slices_Contains_int64_int64.f k l x = _
  unfold slices_Contains_int64_int64.f slices_Index_int64_int64.f
  rw [show (0 : Int) = ((0 : Nat) : Int) from rfl, h1, Option.bind_some]
  exact congrArg some h2
/- H19 -/
theorem rowsCode_zero {l rows : List Int} {t : Int} (h : rowsCode l rows t = 0) : Sz l ∧ l.length ≤ 8 ∧ 1 ≤ l.length ∧ pr l ≤ 1024 ∧ rows.length ≤ 200 ∧ (∀ r ∈ rows, 0 ≤ r ∧ r < pr l) ∧ 1 ≤ t ∧ t ≤ 3 ∧ t ≤ l.length := by
  unfold rowsCode at h
  by_cases c : isSp l = true
  · rw [if_pos c] at h
    obtain ⟨h1, h2, h3, h4⟩ := isSp_sz c
    by_cases c1 : rows.length > 200 ∨ ¬ (∀ r ∈ rows, 0 ≤ r ∧ r < pr l) ∨ ¬ (1 ≤ t ∧ t ≤ 3 ∧ t ≤ l.length)
    · rw [if_pos c1] at h; exact absurd h (by decide)
    · rw [not_or, not_or] at c1
      obtain ⟨c2, c3, c4⟩ := c1
      refine ⟨h3, h2, h1, h4, by omega, Classical.not_not.1 c3, ?_⟩
      exact Classical.not_not.1 c4
  · rw [if_neg c] at h; exact absurd h (by decide)
/-- The last number of places from t on with nothing missing. -/
def best (l rows : List Int) : Nat → Nat → Int → Int
  | 0, _, b => b
  | d + 1, t, b => best l rows d (t + 1) (if 0 ∈ often l rows t then b else t)
def strengthOf (l rows : List Int) : Int × Int := if rowsCode l rows 1 = 0 then (best l rows (min 3 l.length) 1 0, 0) else (0, rowsCode l rows 1)
def impl_StrengthOf.f (l rows : List Int) : Option (Int × Int) := if rows.length ≤ 1099511627776 then some (strengthOf l rows) else none
set_option maxHeartbeats 8000000 in
set_option maxRecDepth 100000 in
theorem impl_StrengthOf.calls (A0 : Option Addr) (c0 : Nat) (l : List Int) (A1 : Option Addr) (c1 : Nat) (rows : List Int) (r1 r2 : Int) (w : World) (hC : Kd.C (Kd.int .i64) w A0 l.length l) (hc0 : l.length ≤ c0) (hR : Kd.C (Kd.int .i64) w A1 rows.length rows) (hc1 : rows.length ≤ c1) (h : impl_StrengthOf.f l rows = some (r1, r2)) :
    Calls Try.prog 19 #[.agg #[.slice A0 l.length c0], .slice A1 rows.length c1] w fun e w' => e = .returned (.tuple #[.int .i64 r1, .int .i64 r2]) ∧ Below w.heap.size w w' := by
  have hu28 := Try.underlying28
  have HC := Aside0.mk hC
  have HC0 := Aside0.mk hc0
  have HR := Aside0.mk hR
  have HR0 := Aside0.mk hc1
  clear hC hc0 hR hc1
  unfold impl_StrengthOf.f at h
  by_cases hb : rows.length ≤ 1099511627776
  case neg => rw [if_neg hb] at h; exact absurd h (by simp)
  rw [if_pos hb] at h
  have h := Option.some.inj h
  obtain ⟨K0, hK0⟩ := rowsCode_ev l rows 1 (by omega)
  have hk := hK0 K0 (Nat.le_refl _)
  have HK := Aside0.mk hk
  clear hk hK0
  obtain ⟨code, hcode⟩ : ∃ c, rowsCode l rows 1 = c := ⟨_, rfl⟩
  have HZ := Aside0.mk hcode
  rw [hcode] at HK
  unfold strengthOf at h
  rw [hcode] at h
  clear hcode
  have HB := Aside0.mk (Below.refl w.heap.size w)
  by_cases cz : code = 0
  case neg =>
    rw [if_neg cz] at h
    have czb : (code != 0) = true := bne_iff_ne.mpr cz
    clear cz
    obtain ⟨rfl, rfl⟩ := Prod.mk.inj h
    clear h
    go_enter Try.func19, Try.ntmps19
    go_wp2_with (first | ((with_reducible refine gate_dst (N := 2) rfl ?_); refine box_event ?hg (N := 2) ?hd (cs := #[.slice A0 l.length c0]) (t := 28) ?hr ?_; (case hd => rfl); (case hg => rfl); (case hr => first | (go_simp; done) | (go_simp; rfl)); intro gb hg_ w1 hbox_ hb_; have BK := Aside0.mk hbox_; have B1 := Aside0.mk hb_; have GB := Aside0.mk hg_; clear hbox_ hb_ hg_; have HB := Aside0.mk (below_step HB.out B1.out); have hk1 : w1.cell? ⟨gb, 0, none⟩ = some (.slice A0 l.length c0) := (blk_cell BK.out 0).trans rfl) | (go_at_call 89; (with_reducible refine (impl_rowsCode.calls K0 _ _ l _ _ rows 1 code _ ?s1 HC0.out ?s2 HR0.out HK.out).mono ?_); (case s1 => exact Kd.C_below HC.out (by repeat (first | (with_reducible first | exact HB.out | apply below_alloc | apply pw_below_drewN | apply below_drew1) | exact HB.out))); (case s2 => exact Kd.C_below HR.out (by repeat (first | (with_reducible first | exact HB.out | apply below_alloc | apply pw_below_drewN | apply below_drew1) | exact HB.out))); rintro e w2 ⟨rfl, hb2⟩; have BK := Aside0.mk (blk_below (by (with_reducible repeat (first | refine blk_drewN ?_ _ | refine blk_drew ?_ | refine blk_alloc ?_ _)); exact BK.out) hb2); have HB := Aside0.mk (below_step (by repeat (first | (with_reducible first | exact HB.out | apply below_alloc | apply pw_below_drewN | apply below_drew1) | exact HB.out)) hb2); clear hb2; have hk2 : w2.cell? ⟨gb, 0, none⟩ = some (.slice A0 l.length c0) := (blk_cell BK.out 0).trans rfl))
    go_ret2
    exact ⟨rfl, (by repeat (first | (with_reducible first | exact HB.out | apply below_alloc | apply pw_below_drewN | apply below_drew1) | exact HB.out))⟩
  case pos =>
  subst cz
  rw [if_pos rfl] at h
  have HH := Aside0.mk h
  clear h
  obtain ⟨hsz, hl8, hl1, hpr, hrl, hrw, _⟩ := rowsCode_zero HZ.out
  have HSZ := Aside0.mk hsz
  have HRW := Aside0.mk hrw
  clear hsz hrw
  have HRW1 : Aside0 (∀ r ∈ rows, 0 ≤ r ∧ r < 1073741824) := ⟨fun r hr => by have := HRW.out r hr; omega⟩
  go_enter Try.func19, Try.ntmps19
  go_wp2_with (first | ((with_reducible refine gate_dst (N := 2) rfl ?_); refine box_event ?hg (N := 2) ?hd (cs := #[.slice A0 l.length c0]) (t := 28) ?hr ?_; (case hd => rfl); (case hg => rfl); (case hr => first | (go_simp; done) | (go_simp; rfl)); intro gb hg_ w1 hbox_ hb_; have BK := Aside0.mk hbox_; have B1 := Aside0.mk hb_; have GB := Aside0.mk hg_; clear hbox_ hb_ hg_; have HB := Aside0.mk (below_step HB.out B1.out); have hk1 : w1.cell? ⟨gb, 0, none⟩ = some (.slice A0 l.length c0) := (blk_cell BK.out 0).trans rfl) | (go_at_call 89; (with_reducible refine (impl_rowsCode.calls K0 _ _ l _ _ rows 1 0 _ ?s1 HC0.out ?s2 HR0.out HK.out).mono ?_); (case s1 => exact Kd.C_below HC.out (by repeat (first | (with_reducible first | exact HB.out | apply below_alloc | apply pw_below_drewN | apply below_drew1) | exact HB.out))); (case s2 => exact Kd.C_below HR.out (by repeat (first | (with_reducible first | exact HB.out | apply below_alloc | apply pw_below_drewN | apply below_drew1) | exact HB.out))); rintro e w2 ⟨rfl, hb2⟩; have BK := Aside0.mk (blk_below (by (with_reducible repeat (first | refine blk_drewN ?_ _ | refine blk_drew ?_ | refine blk_alloc ?_ _)); exact BK.out) hb2); have HB := Aside0.mk (below_step (by repeat (first | (with_reducible first | exact HB.out | apply below_alloc | apply pw_below_drewN | apply below_drew1) | exact HB.out)) hb2); clear hb2; have hk2 : w2.cell? ⟨gb, 0, none⟩ = some (.slice A0 l.length c0) := (blk_cell BK.out 0).trans rfl))
  have hw2 := BK
  go_loopw [7, 8] (fun v7 v8 W => ∃ (t : Nat) (b : Int), v7 = .int .i64 b ∧ v8 = .int .i64 t ∧ 1 ≤ t ∧ t ≤ min 3 l.length + 1 ∧ Aside0 ((best l rows (min 3 l.length + 1 - t) t b, 0) = (r1, r2)) ∧ Aside0 (W.heap[gb]? = some (.cells #[.slice A0 l.length c0] 28 (0, 0))) ∧ Aside0 (Below w.heap.size w W)) (fun _ v _ => (4 - intOf v).toNat)
  case atStart => exact ⟨1, 0, rfl, rfl, by omega, by omega, ⟨by rw [show min 3 l.length + 1 - 1 = min 3 l.length by omega]; exact HH.out⟩, BK, HB⟩
  case round =>
    clear HB BK HH
    obtain ⟨t, b, rfl, rfl, ht1, ht2, HA, BK, HB⟩ := hrel
    have hk1 : wr.cell? ⟨gb, 0, none⟩ = some (.slice A0 l.length c0) := (blk_cell BK.out 0).trans rfl
    by_cases ht : t ≤ min 3 l.length
    · have HS := isStrength_val l (t : Int)
      rw [decide_eq_true (show (1 : Int) ≤ t ∧ (t : Int) ≤ 3 ∧ (t : Int) ≤ l.length by omega)] at HS
      have HST := Aside0.mk HS
      clear HS
      have HPL := Aside0.mk (ext_pl l.length t l rfl (by omega))
      have HOK : Aside0 (ChOk l (ext l.length t []) (offs l 0 (ext l.length t []))) := ⟨hl8, HSZ.out, HPL.out, offs_length _ _ _, ext_len512 l.length t hl8 (by omega), fun f hf => by have h1 := offs_range HSZ.out _ HPL.out f hf; have h2 := tot_le_max HSZ.out HPL.out (ext_len512 l.length t hl8 (by omega)); omega⟩
      have HFT := Aside0.mk (fits_of HSZ.out _ HPL.out)
      have hlt3 : t ≤ 3 := by omega
      obtain ⟨KC, hKC⟩ := Contains_ev (often l rows t) 0 (by have h := often_len l rows t HSZ.out hl8 hlt3; omega)
      have HKC := Aside0.mk (hKC KC (Nat.le_refl _))
      clear hKC
      by_cases hmem : (0 : Int) ∈ often l rows t
      · rw [decide_eq_true hmem] at HKC
        have HM := Aside0.mk hmem
        clear hmem
        go_wp2_with (first | (go_at_call 90; (with_reducible refine (impl_isStrength.calls _ _ l (t : Int) _ _ ?s1 HC0.out HST.out).mono ?_); (case s1 => exact Kd.C_below HC.out (by repeat (first | (with_reducible first | exact HB.out | apply below_alloc | apply pw_below_drewN | apply below_drew1) | exact HB.out))); rintro e w3 ⟨rfl, hb2⟩; have BK := Aside0.mk (blk_below (by (with_reducible repeat (first | refine blk_drewN ?_ _ | refine blk_drew ?_ | refine blk_alloc ?_ _)); exact BK.out) hb2); have HB := Aside0.mk (below_step (by repeat (first | (with_reducible first | exact HB.out | apply below_alloc | apply pw_below_drewN | apply below_drew1) | exact HB.out)) hb2); clear hb2; have hk2 : w3.cell? ⟨gb, 0, none⟩ = some (.slice A0 l.length c0) := (blk_cell BK.out 0).trans rfl) | (go_at_call 92; (with_reducible refine (newChoices_calls A0 c0 l t _ ?s1 HC0.out HSZ.out hl8 hlt3).mono ?_); (case s1 => exact Kd.C_below HC.out (by repeat (first | (with_reducible first | exact HB.out | apply below_alloc | apply pw_below_drewN | apply below_drew1) | exact HB.out))); rintro e w4 ⟨g, rfl, hch, ht0, ht64, hb2⟩; have HCH := Aside0.mk hch; clear hch; have BK := Aside0.mk (blk_below (by (with_reducible repeat (first | refine blk_drewN ?_ _ | refine blk_drew ?_ | refine blk_alloc ?_ _)); exact BK.out) hb2); have HB := Aside0.mk (below_step (by repeat (first | (with_reducible first | exact HB.out | apply below_alloc | apply pw_below_drewN | apply below_drew1) | exact HB.out)) hb2); clear hb2; have hk2 : w4.cell? ⟨gb, 0, none⟩ = some (.slice A0 l.length c0) := (blk_cell BK.out 0).trans rfl) | (go_at_call 93; (with_reducible refine (often_calls g l _ _ _ A1 c1 rows _ HCH.out HOK.out HFT.out ?s0 ?s1 HRW1.out ?s2).mono ?_); (case s0 => have := HOK.out.most; omega); (case s1 => exact Kd.C_below HR.out (by repeat (first | (with_reducible first | exact HB.out | apply below_alloc | apply pw_below_drewN | apply below_drew1) | exact HB.out))); (case s2 => omega); rintro e w5 ⟨v24, rfl, ho24, hb2⟩; replace ho24 : Kd.R (Kd.int .i64) 2 w5 _ (fun _ => True) v24 (often l rows t) := ho24; obtain ⟨A24, c24, rfl⟩ := Kd.R_slice ho24; have HO24 := Aside0.mk ho24; clear ho24; have BK := Aside0.mk (blk_below (by (with_reducible repeat (first | refine blk_drewN ?_ _ | refine blk_drew ?_ | refine blk_alloc ?_ _)); exact BK.out) hb2); have HB := Aside0.mk (below_step (by repeat (first | (with_reducible first | exact HB.out | apply below_alloc | apply pw_below_drewN | apply below_drew1) | exact HB.out)) hb2); clear hb2; have hk2 : w5.cell? ⟨gb, 0, none⟩ = some (.slice A0 l.length c0) := (blk_cell BK.out 0).trans rfl) | (go_at_call 91; ((with_reducible refine (slices_Contains_int64_int64.calls KC _ _ (often l rows t) 0 _ _ ?s1 ?s2 HKC.out).mono ?_); (case s1 => exact (Kd.R_reads' HO24.out).2.2); (case s2 => exact (Kd.R_reads' HO24.out).2.1); rintro e w6 ⟨rfl, n_, rfl⟩)))
        go_roundw
        case measure => simp [intOf]; omega
        case rel => exact ⟨t + 1, b, rfl, by first | rfl | (simp; done), by omega, by omega, ⟨by have h := HA.out; rw [show min 3 l.length + 1 - t = (min 3 l.length + 1 - (t + 1)) + 1 by omega] at h; unfold best at h; rw [if_pos HM.out] at h; exact h⟩, ⟨(by (with_reducible repeat (first | refine blk_drewN ?_ _ | refine blk_drew ?_ | refine blk_alloc ?_ _)); exact BK.out)⟩, ⟨(by repeat (first | (with_reducible first | exact HB.out | apply below_alloc | apply pw_below_drewN | apply below_drew1) | exact HB.out))⟩⟩
      · rw [decide_eq_false hmem] at HKC
        have HM := Aside0.mk hmem
        clear hmem
        go_wp2_with (first | (go_at_call 90; (with_reducible refine (impl_isStrength.calls _ _ l (t : Int) _ _ ?s1 HC0.out HST.out).mono ?_); (case s1 => exact Kd.C_below HC.out (by repeat (first | (with_reducible first | exact HB.out | apply below_alloc | apply pw_below_drewN | apply below_drew1) | exact HB.out))); rintro e w3 ⟨rfl, hb2⟩; have BK := Aside0.mk (blk_below (by (with_reducible repeat (first | refine blk_drewN ?_ _ | refine blk_drew ?_ | refine blk_alloc ?_ _)); exact BK.out) hb2); have HB := Aside0.mk (below_step (by repeat (first | (with_reducible first | exact HB.out | apply below_alloc | apply pw_below_drewN | apply below_drew1) | exact HB.out)) hb2); clear hb2; have hk2 : w3.cell? ⟨gb, 0, none⟩ = some (.slice A0 l.length c0) := (blk_cell BK.out 0).trans rfl) | (go_at_call 92; (with_reducible refine (newChoices_calls A0 c0 l t _ ?s1 HC0.out HSZ.out hl8 hlt3).mono ?_); (case s1 => exact Kd.C_below HC.out (by repeat (first | (with_reducible first | exact HB.out | apply below_alloc | apply pw_below_drewN | apply below_drew1) | exact HB.out))); rintro e w4 ⟨g, rfl, hch, ht0, ht64, hb2⟩; have HCH := Aside0.mk hch; clear hch; have BK := Aside0.mk (blk_below (by (with_reducible repeat (first | refine blk_drewN ?_ _ | refine blk_drew ?_ | refine blk_alloc ?_ _)); exact BK.out) hb2); have HB := Aside0.mk (below_step (by repeat (first | (with_reducible first | exact HB.out | apply below_alloc | apply pw_below_drewN | apply below_drew1) | exact HB.out)) hb2); clear hb2; have hk2 : w4.cell? ⟨gb, 0, none⟩ = some (.slice A0 l.length c0) := (blk_cell BK.out 0).trans rfl) | (go_at_call 93; (with_reducible refine (often_calls g l _ _ _ A1 c1 rows _ HCH.out HOK.out HFT.out ?s0 ?s1 HRW1.out ?s2).mono ?_); (case s0 => have := HOK.out.most; omega); (case s1 => exact Kd.C_below HR.out (by repeat (first | (with_reducible first | exact HB.out | apply below_alloc | apply pw_below_drewN | apply below_drew1) | exact HB.out))); (case s2 => omega); rintro e w5 ⟨v24, rfl, ho24, hb2⟩; replace ho24 : Kd.R (Kd.int .i64) 2 w5 _ (fun _ => True) v24 (often l rows t) := ho24; obtain ⟨A24, c24, rfl⟩ := Kd.R_slice ho24; have HO24 := Aside0.mk ho24; clear ho24; have BK := Aside0.mk (blk_below (by (with_reducible repeat (first | refine blk_drewN ?_ _ | refine blk_drew ?_ | refine blk_alloc ?_ _)); exact BK.out) hb2); have HB := Aside0.mk (below_step (by repeat (first | (with_reducible first | exact HB.out | apply below_alloc | apply pw_below_drewN | apply below_drew1) | exact HB.out)) hb2); clear hb2; have hk2 : w5.cell? ⟨gb, 0, none⟩ = some (.slice A0 l.length c0) := (blk_cell BK.out 0).trans rfl) | (go_at_call 91; ((with_reducible refine (slices_Contains_int64_int64.calls KC _ _ (often l rows t) 0 _ _ ?s1 ?s2 HKC.out).mono ?_); (case s1 => exact (Kd.R_reads' HO24.out).2.2); (case s2 => exact (Kd.R_reads' HO24.out).2.1); rintro e w6 ⟨rfl, n_, rfl⟩)))
        go_roundw
        case measure => simp [intOf]; omega
        case rel => exact ⟨t + 1, t, rfl, by first | rfl | (simp; done), by omega, by omega, ⟨by have h := HA.out; rw [show min 3 l.length + 1 - t = (min 3 l.length + 1 - (t + 1)) + 1 by omega] at h; unfold best at h; rw [if_neg HM.out] at h; exact h⟩, ⟨(by (with_reducible repeat (first | refine blk_drewN ?_ _ | refine blk_drew ?_ | refine blk_alloc ?_ _)); exact BK.out)⟩, ⟨(by repeat (first | (with_reducible first | exact HB.out | apply below_alloc | apply pw_below_drewN | apply below_drew1) | exact HB.out))⟩⟩
    · have HS := isStrength_val l (t : Int)
      rw [decide_eq_false (show ¬ ((1 : Int) ≤ t ∧ (t : Int) ≤ 3 ∧ (t : Int) ≤ l.length) by omega)] at HS
      have HST := Aside0.mk HS
      clear HS
      go_wp2_with (go_at_call 90; (with_reducible refine (impl_isStrength.calls _ _ l (t : Int) _ _ ?s1 HC0.out HST.out).mono ?_); (case s1 => exact Kd.C_below HC.out (by repeat (first | (with_reducible first | exact HB.out | apply below_alloc | apply pw_below_drewN | apply below_drew1) | exact HB.out))); rintro e w3 ⟨rfl, hb2⟩; have BK := Aside0.mk (blk_below (by (with_reducible repeat (first | refine blk_drewN ?_ _ | refine blk_drew ?_ | refine blk_alloc ?_ _)); exact BK.out) hb2); have HB := Aside0.mk (below_step (by repeat (first | (with_reducible first | exact HB.out | apply below_alloc | apply pw_below_drewN | apply below_drew1) | exact HB.out)) hb2); clear hb2; have hk2 : w3.cell? ⟨gb, 0, none⟩ = some (.slice A0 l.length c0) := (blk_cell BK.out 0).trans rfl)
      have h := HA.out
      rw [show min 3 l.length + 1 - t = 0 by omega] at h
      obtain ⟨rfl, rfl⟩ := Prod.mk.inj h
      go_ret2
      exact ⟨rfl, (by repeat (first | (with_reducible first | exact HB.out | apply below_alloc | apply pw_below_drewN | apply below_drew1) | exact HB.out))⟩
/- H212 -/
theorem info2_ : ∃ i0, Try.prog.info? 2 = some i0 ∧ i0.zero = some (.int .i64 0) ∧ i0.size = 1 ∧ i0.bytes = 8 := by
  obtain ⟨i0, h1, h2⟩ := Option.map_eq_some_iff.1 info2
  simp only [Prod.mk.injEq] at h2
  exact ⟨i0, h1, h2⟩
theorem grow_run (n : Nat) (h1 : 1 ≤ n) (h2 : n ≤ 1000000) (w : World) (ty : TypeId) : ∃ (G : Nat) (cs : Array Value), n ≤ G ∧ G ≤ maxLen ∧ cs.size = G ∧
    (Builtin.append_ #[22, 3] ty #[.slice none 0 0, .int .i64 n]).run Try.prog w = .ok (.slice (some ⟨w.heap.size, 0, none⟩) n G) (w.drew.alloc (.cells cs 2)) := by
  obtain ⟨i0, hi, hz, hs, hb⟩ := info2_
  have hold : (Builtin.firstCells i0.size 0 (.slice none 0 0)).run Try.prog w.drew = .ok ([] : List Value).toArray w.drew := run_firstCells_none w.drew i0.size 0 0 0
  have h := Lib.run_append_grow_zeros (P := Try.prog) w 22 3 ty 2 i0 _ .i64 .i64 Try.underlying22 Try.underlying3 hi hz none 0 0 [] hold n (by omega) (by omega) (by omega) (by omega) (by rw [hb]; omega) (by
    rw [Nat.zero_add]
    exact growslice_fits (by omega) (by rw [hb]; omega))
  rw [Nat.zero_add] at h
  have hg1 := grownCap_ge w n 0 2
  have hg2 := grownCap_le_maxLen w n 0 2 (by unfold maxLen; omega)
  exact ⟨_, _, hg1, hg2, by rw [Array.size_append, Array.size_append]; simp [Builtin.zeroCells, show (Value.int IntKind.i64 0).cells.size = 1 from rfl]; omega, h⟩
set_option maxHeartbeats 8000000 in
set_option maxRecDepth 100000 in
theorem grow_calls (n : Nat) (w : World) (h1 : 1 ≤ n) (h2 : n ≤ 1000000) :
    Calls Try.prog 212 #[.slice none 0 0, .int .i64 n] w fun e w' => ∃ v0_ : Value, e = .returned v0_ ∧ Kd.R (Kd.int .i64) 2 w' w.heap.size (fun _ => True) v0_ [] ∧ Below w.heap.size w w' := by
  have b1 : decide ((n : Int) < 0) = false := decide_eq_false (by omega)
  have h3 : wrap64 ((n : Int) - 0) = (n : Int) := by unfold wrap64; omega
  have h4 : decide ((n : Int) > 0) = true := decide_eq_true (by omega)
  have h5 : decide ((0 : Int) < n) = true := decide_eq_true (by omega)
  obtain ⟨G, cs, g1, g2, g3, hap⟩ : ∃ (G : Nat) (cs : Array Value), n ≤ G ∧ G ≤ maxLen ∧ cs.size = G ∧ ∀ ty, (Builtin.append_ #[22, 3] ty #[.slice none 0 0, .int .i64 n]).run Try.prog w = .ok (.slice (some ⟨w.heap.size, 0, none⟩) n G) (w.drew.alloc (.cells cs 2)) := by
    obtain ⟨G, cs, a, b, c, d⟩ := grow_run n h1 h2 w 22
    exact ⟨G, cs, a, b, c, fun ty => d⟩
  go_enter Try.func212, Try.ntmps212
  go_wp2_with (at_builtin; refine Lib.wpList_append_run _ rfl _ _ _ _ rfl _ _ rfl rfl _ _ (hap _) ?_)
  go_ret
  refine ⟨_, rfl, ?_, below_alloc (below_drew (Below.refl _ _)) _⟩
  refine Kd.R_of_own ⟨by simp [encs], .inr ⟨w.heap.size, G, cs, rfl, Nat.le_refl _, ?_, Nat.zero_le _, g2, by omega, by simp [encs]⟩⟩ (fun _ _ => trivial)
  exact blk_new w.drew (.cells cs 2)
/- H194 -/
set_option maxHeartbeats 8000000 in
set_option maxRecDepth 100000 in
theorem concat_calls (g : Nat) (A B : Option Addr) (c d : Nat) (xs ys : List Int) (w : World) (hb : w.heap[g]? = some (.cells #[.slice A xs.length c, .slice B ys.length d] 22 (0, 0))) (hx : Kd.C (Kd.int .i64) w A xs.length xs) (hy : Kd.C (Kd.int .i64) w B ys.length ys)
    (hx1 : xs.length ≤ 1000) (hy1 : ys.length ≤ 1000) (h1 : 1 ≤ xs.length + ys.length) :
    Calls Try.prog 194 #[.slice (some ⟨g, 0, none⟩) 2 2] w fun e w' => ∃ v0_ : Value, e = .returned v0_ ∧ Kd.R (Kd.int .i64) 2 w' w.heap.size (fun _ => True) v0_ (xs ++ ys) ∧ Below w.heap.size w w' := by
  have hz0 : w.cell? ⟨g, 0, none⟩ = some (.slice A xs.length c) := (blk_cell hb 0).trans rfl
  have hz1 : w.cell? ⟨g, 1, none⟩ = some (.slice B ys.length d) := (blk_cell hb 1).trans rfl
  have HG := Aside0.mk hb
  have HX := Aside0.mk hx
  have HY := Aside0.mk hy
  clear hb hx hy
  obtain ⟨sm, hsm⟩ : ∃ sm : Nat, sm = xs.length + ys.length := ⟨_, rfl⟩
  have n1 : wrap64 (0 + (xs.length : Int)) = xs.length := by unfold wrap64; omega
  have n2 : wrap64 ((xs.length : Int) + ys.length) = (sm : Int) := by unfold wrap64; omega
  have p1 : decide (((xs.length : Nat) : Int) < 0) = false := decide_eq_false (by omega)
  have p2 : decide ((sm : Int) < 0) = false := decide_eq_false (by omega)
  have HSM := Aside0.mk hsm
  have hs1 : 1 ≤ sm ∧ sm ≤ 2000 := by omega
  clear hsm
  go_enter Try.func194, Try.ntmps194
  go_wp2
  go_loopw [3, 11] (fun v3 v11 W => ∃ i : Nat, i ≤ 2 ∧ v11 = .int .i64 i ∧ v3 = .int .i64 ((if i = 0 then 0 else if i = 1 then xs.length else sm : Nat) : Int) ∧ Aside0 (Below w.heap.size w W)) (fun _ v _ => (2 - intOf v).toNat)
  case atStart => exact ⟨0, by omega, rfl, rfl, ⟨(by repeat (first | (with_reducible first | exact Below.refl _ _ | apply below_alloc | apply pw_below_drewN | apply below_drew1) | exact Below.refl _ _))⟩⟩
  case round =>
    obtain ⟨i, hi, rfl, rfl, HB⟩ := hrel
    have hy0 : wr.cell? ⟨g, 0, none⟩ = some (.slice A xs.length c) := (HB.out.cell (World.block_lt_of_cell? w _ hz0)).trans hz0
    have hy1 : wr.cell? ⟨g, 1, none⟩ = some (.slice B ys.length d) := (HB.out.cell (World.block_lt_of_cell? w _ hz1)).trans hz1
    rcases i with _ | _ | _ | i
    · go_wp2
      go_roundw
      case measure => simp [intOf]
      case rel => exact ⟨1, by omega, by first | rfl | (simp; done), by first | rfl | (simp; done), ⟨(by repeat (first | (with_reducible first | exact HB.out | apply below_alloc | apply pw_below_drewN | apply below_drew1) | exact HB.out))⟩⟩
    · go_wp2
      go_roundw
      case measure => simp [intOf]
      case rel => exact ⟨2, by omega, by first | rfl | (simp; done), by first | rfl | (simp; done) | (simp; have := HSM.out; omega), ⟨(by repeat (first | (with_reducible first | exact HB.out | apply below_alloc | apply pw_below_drewN | apply below_drew1) | exact HB.out))⟩⟩
    · simp only [show ((0 + 1 + 1 : Nat) : Int) = 2 from rfl]
      have hne : (if (0 + 1 + 1 : Nat) = 0 then (0 : Nat) else if (0 + 1 + 1 : Nat) = 1 then xs.length else sm) = sm := rfl
      rw [hne]
      clear hne
      go_wp2_with (go_at_call 212; (with_reducible refine (grow_calls sm _ hs1.1 (by omega)).mono ?_); rintro e w2 ⟨v6, rfl, ho6, hb6⟩; have HO6 := Aside0.mk ho6; have HB0 := HB; have HB := Aside0.mk (below_step (by repeat (first | (with_reducible first | exact HB.out | apply below_alloc | apply pw_below_drewN | apply below_drew1) | exact HB.out)) hb6); clear ho6 hb6)
      go_wp2
      go_loopw [6, 27] (fun v6 v27 W => ∃ i : Nat, i ≤ 2 ∧ v27 = .int .i64 i ∧ Aside0 (Kd.R (Kd.int .i64) 2 W w.heap.size (fun _ => True) v6 (if i = 0 then [] else if i = 1 then xs else xs ++ ys)) ∧ Aside0 (Below w.heap.size w W)) (fun _ v _ => (2 - intOf v).toNat)
      case atStart => exact ⟨0, by omega, rfl, ⟨Kd.R_lower HO6.out (below_size HB0.out)⟩, HB⟩
      case round =>
        obtain ⟨i, hi2, rfl, HO, HB⟩ := hrel
        have hy0 : wr.cell? ⟨g, 0, none⟩ = some (.slice A xs.length c) := (HB.out.cell (World.block_lt_of_cell? w _ hz0)).trans hz0
        have hy1 : wr.cell? ⟨g, 1, none⟩ = some (.slice B ys.length d) := (HB.out.cell (World.block_lt_of_cell? w _ hz1)).trans hz1
        rcases i with _ | _ | _ | i
        · replace HO : Aside0 (Kd.R (Kd.int .i64) 2 wr w.heap.size (fun _ => True) u6 []) := HO
          go_wp2_with ((with_reducible refine gate_builtin (b := .append) (xs := #[.tmp 31, .tmp 32]) rfl ?_); at_builtin; refine Here.out ?_)
          refine ⟨?_⟩
          refine Kd.R_append_row (Value.int .i64) 0 (w0 := w) w.heap.size rfl (.tmp 31) (.tmp 32) 22 2 (.int .i64 0) 8 rfl Try.underlying22 info2 rfl (by decide) u6 [] xs A xs.length c (fun _ => True) rfl rfl (fun _ _ => trivial) HO.out (Kd.C_below HX.out HB.out) HB.out (below_size HB.out) (by simp only [List.length_nil]; omega) ?_
          intro v7 w7 ho hb hg_ hat_
          go_wp2
          go_roundw
          case measure => simp [intOf]
          case rel => exact ⟨1, by omega, by first | rfl | (simp; done), ⟨ho⟩, ⟨hb⟩⟩
        · replace HO : Aside0 (Kd.R (Kd.int .i64) 2 wr w.heap.size (fun _ => True) u6 xs) := HO
          go_wp2_with ((with_reducible refine gate_builtin (b := .append) (xs := #[.tmp 31, .tmp 32]) rfl ?_); at_builtin; refine Here.out ?_)
          refine ⟨?_⟩
          refine Kd.R_append_row (Value.int .i64) 0 (w0 := w) w.heap.size rfl (.tmp 31) (.tmp 32) 22 2 (.int .i64 0) 8 rfl Try.underlying22 info2 rfl (by decide) u6 xs ys B ys.length d (fun _ => True) rfl rfl (fun _ _ => trivial) HO.out (Kd.C_below HY.out HB.out) HB.out (below_size HB.out) (by omega) ?_
          intro v7 w7 ho hb hg_ hat_
          go_wp2
          go_roundw
          case measure => simp [intOf]
          case rel => exact ⟨2, by omega, by first | rfl | (simp; done), ⟨ho⟩, ⟨hb⟩⟩
        · replace HO : Aside0 (Kd.R (Kd.int .i64) 2 wr w.heap.size (fun _ => True) u6 (xs ++ ys)) := HO
          go_wp2
          go_ret
          exact ⟨_, rfl, HO.out, HB.out⟩
        · omega
    · omega
/- H171 -/
set_option maxHeartbeats 8000000 in
set_option maxRecDepth 100000 in
theorem told_calls (g : Nat) (l : List Int) (P : List (List Int)) (F : List Int) (m n : Int) (w : World) (hch : ChAt w g l P F m) (hok : ChOk l P F) (hp1 : ∀ p ∈ P, 1 ≤ p.length) (hP0 : 0 < P.length) (h0 : F.getD 0 0 ≤ n) (hn1 : n ≤ 1000000) :
    Calls Try.prog 171 #[.pointer (some ⟨g, 0, none⟩), .int .i64 n] w fun e w' => ∃ v0_ : Value, e = .returned v0_ ∧ Kd.R (Kd.int .i64) 2 w' w.heap.size (fun _ => True) v0_ (told l P F n) ∧ Below w.heap.size w w' := by
  obtain ⟨A0, c0, A1, c1, A2, c2, hg, hl0, hC0, hC1, hC2⟩ := hch
  have hu28 := Try.underlying28
  have hu92 := Try.underlying92
  have hz0 : w.cell? ⟨g, 0, none⟩ = some (.slice A0 l.length c0) := (blk_cell hg 0).trans rfl
  have hz1 : w.cell? ⟨g, 1, none⟩ = some (.slice A1 P.length c1) := (blk_cell hg 1).trans rfl
  have hz2 : w.cell? ⟨g, 2, none⟩ = some (.slice A2 F.length c2) := (blk_cell hg 2).trans rfl
  have HG := Aside0.mk hg
  have HK := Aside0.mk hok
  have HC0 := Aside0.mk hC0
  have HC1 := Aside0.mk hC1
  have HC2 := Aside0.mk hC2
  have HP1 := Aside0.mk hp1
  have HN0 := Aside0.mk h0
  have hFl : Aside0 (F.length = P.length) := ⟨hok.len⟩
  have hF0 : 0 < F.length := by have := hFl.out; omega
  have hF1 : F.length ≤ 512 := by have := hFl.out; have := hok.most; omega
  clear hg hok hC0 hC1 hC2 hp1 h0
  go_enter Try.func171, Try.ntmps171
  go_wp2
  go_loopw [5] (fun v5 W => ∃ k : Nat, v5 = .int .i64 k ∧ k < F.length ∧ Aside0 (pick F n (F.length - 1) = pick F n k) ∧ Aside0 (Below w.heap.size w W)) (fun v _ => (intOf v).toNat)
  case atStart => exact ⟨F.length - 1, by rw [show ((F.length - 1 : Nat) : Int) = (F.length : Int) - 1 by omega], by omega, ⟨rfl⟩, ⟨(by repeat (first | (with_reducible first | exact Below.refl _ _ | apply below_alloc | apply pw_below_drewN | apply below_drew1) | exact Below.refl _ _))⟩⟩
  case round =>
    obtain ⟨k, rfl, hk, HPK, HB⟩ := hrel
    have hy0 : wr.cell? ⟨g, 0, none⟩ = some (.slice A0 l.length c0) := (HB.out.cell (World.block_lt_of_cell? w _ hz0)).trans hz0
    have hy1 : wr.cell? ⟨g, 1, none⟩ = some (.slice A1 P.length c1) := (HB.out.cell (World.block_lt_of_cell? w _ hz1)).trans hz1
    have hy2 : wr.cell? ⟨g, 2, none⟩ = some (.slice A2 F.length c2) := (HB.out.cell (World.block_lt_of_cell? w _ hz2)).trans hz2
    obtain ⟨ad2, rfl, hx2⟩ := Kd.at_int HC2.out k (by omega) (by omega)
    replace hx2 : wr.cell? (ad2.add k) = some (.int .i64 (rd F k)) := (HB.out.cell (World.block_lt_of_cell? w _ hx2)).trans hx2
    have hfi := HK.out.fi (rd F k) (at_mem F k (by omega) (by omega))
    obtain ⟨hf0, hf1⟩ := hfi
    have hk0 : 0 ≤ (k : Int) := by omega
    have hk1 : (k : Int) < F.length := by omega
    by_cases hgt : n < rd F k
    · have hkp : 1 ≤ k := by
        rcases k with _ | k
        · exact absurd HN0.out (by have : n < F.getD 0 0 := hgt; omega)
        · omega
      go_wp2
      go_roundw
      case measure => simp [intOf]; omega
      case rel =>
        refine ⟨k - 1, by rw [show ((k - 1 : Nat) : Int) = (k : Int) - 1 by omega], by omega, ⟨?_⟩, ⟨(by repeat (first | (with_reducible first | exact HB.out | apply below_alloc | apply pw_below_drewN | apply below_drew1) | exact HB.out))⟩⟩
        rw [HPK.out]
        obtain ⟨j, rfl⟩ : ∃ j, k = j + 1 := ⟨k - 1, by omega⟩
        show (if F.getD (j + 1) 0 > n then pick F n j else j + 1) = pick F n (j + 1 - 1)
        exact if_pos hgt
    · have hke : pick F n (F.length - 1) = k := by
        rw [HPK.out]
        cases k with
        | zero => rfl
        | succ j => exact if_neg (by have : ¬ n < F.getD (j + 1) 0 := hgt; omega)
      have HKE := Aside0.mk hke
      clear hke HPK
      have hkP : (k : Int) < P.length := by have := hFl.out; omega
      obtain ⟨ad1, Ap, cp, rfl, hx1, hcp, hCp⟩ := at_L1 HC1.out k (by omega) hkP
      replace hx1 : wr.cell? (ad1.add k) = some (.slice Ap (rd_L1 P k).length cp) := (HB.out.cell (World.block_lt_of_cell? w _ hx1)).trans hx1
      have HCp := Aside0.mk hCp
      have hpm : rd_L1 P k ∈ P := by
        show P.getD k [] ∈ P
        rw [List.getD_eq_getElem?_getD, List.getElem?_eq_getElem (show k < P.length by omega)]; exact List.getElem_mem _
      have hpl := HK.out.pl _ hpm
      have hp1 := HP1.out _ hpm
      obtain ⟨p, hp⟩ : ∃ p : List Int, p = rd_L1 P k := ⟨_, rfl⟩
      rw [← hp] at hx1 hcp HCp hpl hp1
      have HPE := Aside0.mk hp
      obtain ⟨hp3, hpi⟩ := hpl
      have HPI := Aside0.mk hpi
      clear hp hpm hCp hpi
      obtain ⟨n0, hn0⟩ : ∃ n0 : Int, n0 = n - rd F k := ⟨_, rfl⟩
      have hnr : 0 ≤ n0 ∧ n0 ≤ 1000000 := by omega
      have hwr : wrap64 (n - rd F k) = n0 := by unfold wrap64; omega
      have HN1 := Aside0.mk hn0
      clear hn0
      go_wp2_with ((with_reducible refine gate_dst (N := 45) rfl ?_); refine Here.out ?_)
      refine ⟨?_⟩
      refine Kd.R_make (Kd.int .i64) w.heap.size 2 rfl (N := 45) rfl 22 _ _ rfl (p.length : Int) rfl rfl Try.underlying22 (.int .i64 0) 8 info2 rfl (by decide) (by omega) 0 (ok := fun _ => True) (okp := fun _ => True) rfl (fun _ hk => hk) trivial (by omega) (by omega) (by repeat (first | (with_reducible first | exact HB.out | apply below_alloc | apply pw_below_drewN | apply below_drew1) | exact HB.out)) (below_size (by repeat (first | (with_reducible first | exact HB.out | apply below_alloc | apply pw_below_drewN | apply below_drew1) | exact HB.out))) ?_
      intro v7 w7 ho_ hb_ hg_ hnew_
      have HO7 := Aside0.mk ho_
      have HB7 := Aside0.mk hb_
      clear ho_ hb_ hg_ hnew_ hy0 hy1 hy2 hx1 hx2 HB
      go_wp2
      go_loopw [1, 8] (fun v1 v8 W => ∃ (u i : Int) (ss : List Int), v1 = .int .i64 u ∧ v8 = .int .i64 i ∧ -1 ≤ i ∧ i < p.length ∧ 0 ≤ u ∧ u ≤ 1000000 ∧ ss.length = p.length ∧ Aside0 (dec l p (n - rd F k) = dec l (p.take (i + 1).toNat) u ++ ss.drop (i + 1).toNat) ∧ Aside0 (Kd.R (Kd.int .i64) 2 W w.heap.size (fun _ => True) v7 ss) ∧ Aside0 (Below w.heap.size w W)) (fun _ v _ => (intOf v + 1).toNat)
      case atStart => exact ⟨n - rd F k, (p.length : Int) - 1, List.replicate p.length 0, by first | rfl | (simp; done), by first | rfl | (simp; done), by omega, by omega, by omega, by omega, by simp, ⟨by rw [show ((p.length : Int) - 1 + 1).toNat = p.length by omega, List.take_of_length_le (Nat.le_refl _), List.drop_of_length_le (by simp), List.append_nil]⟩, HO7, HB7⟩
      case round =>
        clear HO7 HB7
        obtain ⟨u, i, ss, rfl, rfl, hi0, hi1, hu0, hu1, hsl, HD, HO, HB⟩ := hrel
        have hy0 : wr.cell? ⟨g, 0, none⟩ = some (.slice A0 l.length c0) := (HB.out.cell (World.block_lt_of_cell? w _ hz0)).trans hz0
        by_cases him : 0 ≤ i
        · obtain ⟨ad3, rfl, hx3⟩ := Kd.at_int HCp.out i him hi1
          replace hx3 := (HB.out.cell (World.block_lt_of_cell? w _ hx3)).trans hx3
          obtain ⟨hpi0, hpi1⟩ := HPI.out (rd p i) (at_mem p i him hi1)
          have hq := at_range HK.out.sz hpi0 hpi1
          obtain ⟨ad4, rfl, hx4⟩ := Kd.at_int HC0.out (rd p i) hpi0 hpi1
          replace hx4 := (HB.out.cell (World.block_lt_of_cell? w _ hx4)).trans hx4
          have hq1 : 2 ≤ rd l (rd p i) := hq.1
          have hq2 : rd l (rd p i) ≤ 4 := hq.2
          clear hq
          obtain ⟨go, co, eo, gbo, gl, cl, HG7⟩ := Kd.R_form HO.out (by omega)
          subst eo
          have hil : i < (ss.length : Int) := by omega
          obtain ⟨hx9, hf9⟩ := Kd.R_celln 0 HO.out i him hil
          obtain ⟨q, hqe⟩ : ∃ q : Int, q = rd l (rd p i) := ⟨_, rfl⟩
          rw [← hqe] at hx4 hq1 hq2
          have HQE := Aside0.mk hqe
          clear hqe
          have HPUT := Aside0.mk (Kd.R_putg HO.out i (u % q))
          have HSL := Aside0.mk hsl
          clear hsl
          go_wp2
          refine start_ (n := 12) (S := fun w' => w'.cell? ⟨g, 0, none⟩ = some (.slice (some ad4) l.length c0) ∧ w'.cell? (ad3.add i.toNat) = some (.int .i64 (rd p i)) ∧ w'.cell? (ad4.add (rd p i).toNat) = some (.int .i64 q)) (ds := []) #[false, false, false, false, false, false, false, false, false, false, false, false] (by kernel_rfl) rfl rfl ⟨hy0, hx3, hx4⟩ (fun hHeld => ?_)
          refine pure_ (i := 0) (N := some 53) (v := ?_) (a' := ?_) #[true, false, false, false, false, false, false, false, false, false, false, false] rfl rfl (by kernel_rfl) (fun _ _ _ h => h) (Or.inl ⟨by rfl, ?_⟩) ?_ ?_
          rotate_left
          · intro w'
            go_simp
            with_reducible rfl
          rotate_left
          · simp only [Act.put, List.setIfInBounds_toArray, List.set_cons_zero, List.set_cons_succ, i64_w, i32_w]
            rfl
          refine pure_ (i := 1) (N := some 54) (v := ?_) (a' := ?_) #[true, true, false, false, false, false, false, false, false, false, false, false] rfl rfl (by kernel_rfl) (fun _ _ _ h => h) (Or.inl ⟨by rfl, ?_⟩) ?_ ?_
          rotate_left
          · intro w'
            go_simp
            with_reducible rfl
          rotate_left
          · simp only [Act.put, List.setIfInBounds_toArray, List.set_cons_zero, List.set_cons_succ, i64_w, i32_w]
            rfl
          refine pure_ (i := 2) (N := some 55) (v := ?_) (a' := ?_) #[true, true, true, false, false, false, false, false, false, false, false, false] rfl rfl (by kernel_rfl) (fun _ _ _ h => h) (Or.inl ⟨by rfl, ?_⟩) ?_ ?_
          rotate_left
          · intro w'
            go_simp
            with_reducible rfl
          rotate_left
          · simp only [Act.put, List.setIfInBounds_toArray, List.set_cons_zero, List.set_cons_succ, i64_w, i32_w]
            rfl
          refine pure_ (i := 3) (N := some 56) (v := ?_) (a' := ?_) #[true, true, true, true, false, false, false, false, false, false, false, false] rfl rfl (by kernel_rfl) (fun _ _ _ h => h) (Or.inl ⟨by rfl, ?_⟩) ?_ ?_
          rotate_left
          · intro w'
            go_simp
            with_reducible rfl
          rotate_left
          · simp only [Act.put, List.setIfInBounds_toArray, List.set_cons_zero, List.set_cons_succ, i64_w, i32_w]
            rfl
          refine pure_ (i := 5) (N := some 58) (v := ?_) (a' := ?_) #[true, true, true, true, false, true, false, false, false, false, false, false] rfl rfl (by kernel_rfl) (fun _ _ _ h => h) (Or.inl ⟨by rfl, ?_⟩) ?_ ?_
          rotate_left
          · intro w'
            go_simp
            with_reducible rfl
          rotate_left
          · simp only [Act.put, List.setIfInBounds_toArray, List.set_cons_zero, List.set_cons_succ, i64_w, i32_w]
            rfl
          refine pure_ (i := 6) (N := some 59) (v := ?_) (a' := ?_) #[true, true, true, true, false, true, true, false, false, false, false, false] rfl rfl (by kernel_rfl) (fun _ _ _ h => h) (Or.inl ⟨by rfl, ?_⟩) ?_ ?_
          rotate_left
          · intro w'
            go_simp
            with_reducible rfl
          rotate_left
          · simp only [Act.put, List.setIfInBounds_toArray, List.set_cons_zero, List.set_cons_succ, i64_w, i32_w]
            rfl
          refine pure_ (i := 7) (N := some 60) (v := ?_) (a' := ?_) #[true, true, true, true, false, true, true, true, false, false, false, false] rfl rfl (by kernel_rfl) (fun _ _ _ h => h) (Or.inl ⟨by rfl, ?_⟩) ?_ ?_
          rotate_left
          · intro w'
            go_simp
            with_reducible rfl
          rotate_left
          · simp only [Act.put, List.setIfInBounds_toArray, List.set_cons_zero, List.set_cons_succ, i64_w, i32_w]
            rfl
          refine take_ (i := 4) (N := some 57) (v := ?_) (a' := ?_) #[true, true, true, true, true, true, true, true, false, false, false, false] rfl rfl (by kernel_rfl) (fun _ _ _ h => h) (Or.inl ⟨by rfl, ?_⟩) hHeld ?_ ?_
          rotate_left
          · rintro w' ⟨s0, s1, s2⟩
            go_simp
            with_reducible rfl
          rotate_left
          · simp only [Act.put, List.setIfInBounds_toArray, List.set_cons_zero, List.set_cons_succ, i64_w, i32_w]
            rfl
          refine take_ (i := 8) (N := some 61) (v := ?_) (a' := ?_) #[true, true, true, true, true, true, true, true, true, false, false, false] rfl rfl (by kernel_rfl) (fun _ _ _ h => h) (Or.inl ⟨by rfl, ?_⟩) hHeld ?_ ?_
          rotate_left
          · rintro w' ⟨s0, s1, s2⟩
            go_simp
            with_reducible rfl
          rotate_left
          · simp only [Act.put, List.setIfInBounds_toArray, List.set_cons_zero, List.set_cons_succ, i64_w, i32_w]
            rfl
          refine pure_ (i := 9) (N := some 62) (v := ?_) (a' := ?_) #[true, true, true, true, true, true, true, true, true, true, false, false] rfl rfl (by kernel_rfl) (fun _ _ _ h => h) (Or.inl ⟨by rfl, ?_⟩) ?_ ?_
          rotate_left
          · intro w'
            go_simp
            with_reducible rfl
          rotate_left
          · simp only [Act.put, List.setIfInBounds_toArray, List.set_cons_zero, List.set_cons_succ, i64_w, i32_w]
            rfl
          refine take_ (i := 10) (N := some 63) (v := ?_) (a' := ?_) #[true, true, true, true, true, true, true, true, true, true, true, false] rfl rfl (by kernel_rfl) (fun _ _ _ h => h) (Or.inl ⟨by rfl, ?_⟩) hHeld ?_ ?_
          rotate_left
          · rintro w' ⟨s0, s1, s2⟩
            go_simp
            with_reducible rfl
          rotate_left
          · simp only [Act.put, List.setIfInBounds_toArray, List.set_cons_zero, List.set_cons_succ, i64_w, i32_w]
            rfl
          refine pure_ (i := 11) (N := some 9) (v := ?_) (a' := ?_) #[true, true, true, true, true, true, true, true, true, true, true, true] rfl rfl (by kernel_rfl) (fun _ _ _ h => h) (Or.inl ⟨by rfl, ?_⟩) ?_ ?_
          rotate_left
          · intro w'
            go_simp
            with_reducible rfl
          rotate_left
          · simp only [Act.put, List.setIfInBounds_toArray, List.set_cons_zero, List.set_cons_succ, i64_w, i32_w]
            rfl
          refine done_ (by kernel_rfl) ?_
          go_wp2
          go_roundw
          case measure => simp [intOf]; omega
          case rel =>
            refine ⟨u / q, i - 1, ss.set i.toNat (u % q), by first | rfl | (simp; done), by first | rfl | (simp; done), by omega, by omega, Int.ediv_nonneg hu0 (by omega), Int.le_trans (Int.ediv_le_self _ hu0) hu1, by rw [List.length_set]; exact HSL.out, ⟨?_⟩, ⟨Kd.R_drew HPUT.out.1⟩, ⟨below_drew (below_set HB.out gbo)⟩⟩
            rw [HD.out, show (i + 1).toNat = i.toNat + 1 by omega, show (i - 1 + 1).toNat = i.toNat by omega, List.take_succ_eq_append_getElem (show i.toNat < p.length by omega), dec_snoc, List.append_assoc]
            have e1 : p[i.toNat]'(by omega) = rd p i := by show _ = p.getD i.toNat 0; rw [List.getD_eq_getElem?_getD, List.getElem?_eq_getElem (show i.toNat < p.length by omega)]; rfl
            have e2 : at' l (rd p i) = q := HQE.out.symm
            rw [e1, e2, List.drop_eq_getElem_cons (show i.toNat < (ss.set i.toNat (u % q)).length by rw [List.length_set]; have := HSL.out; omega), List.getElem_set_self, List.drop_set_of_lt (by omega)]
            rfl
        · have hie : i = -1 := by omega
          subst hie
          have hd := HD.out
          rw [show ((-1 : Int) + 1).toNat = 0 by omega, List.take_zero, List.drop_zero] at hd
          have HDD : Aside0 (dec l p (n - rd F k) = ss) := ⟨hd⟩
          clear hd HD
          obtain ⟨go, co, eo, gbo, gl, cl, HG7⟩ := Kd.R_form HO.out (by omega)
          subst eo
          have HSL := Aside0.mk hsl
          clear hsl
          go_wp2_with (go_at_call 194; ((with_reducible refine (concat_calls wr.heap.size Ap (some ⟨go, 0, none⟩) cp co p ss _ ?hb ?hx ?hy ?l1 ?l2 ?l3).mono ?_); (case hb => exact blk_new _ _); (case hx => exact Kd.C_alloc (Kd.C_below HCp.out HB.out) _); (case hy => exact Kd.C_alloc (Kd.R_reads' HO.out).2.2 _); (case l1 => omega); (case l2 => have := HSL.out; omega); (case l3 => omega); rintro e w9 ⟨v76, rfl, ho76, hb76⟩))
          go_ret
          refine ⟨_, rfl, ?_, below_step (by repeat (first | (with_reducible first | exact HB.out | apply below_alloc | apply pw_below_drewN | apply below_drew1) | exact HB.out)) hb76⟩
          have h := Kd.R_lower ho76 (below_size (by repeat (first | (with_reducible first | exact HB.out | apply below_alloc | apply pw_below_drewN | apply below_drew1) | exact HB.out)))
          unfold told
          rw [HKE.out]
          rw [← HDD.out, HPE.out] at h
          exact h
/- H103 -/
/-- The choices whose number stands with 0 in a list, up to a bound. -/
def missTo (l : List Int) (P : List (List Int)) (F : List Int) (o : List Int) (n : Nat) : List (List Int) := ((List.range n).filter (fun (i : Nat) => decide (at' o i = 0))).map (fun (i : Nat) => told l P F i)
theorem missTo_succ (l : List Int) (P : List (List Int)) (F : List Int) (o : List Int) (n : Nat) : missTo l P F o (n + 1) = if at' o n = 0 then missTo l P F o n ++ [told l P F n] else missTo l P F o n := by
  unfold missTo
  rw [List.range_succ, List.filter_append, List.map_append]
  by_cases c : at' o n = 0
  · rw [if_pos c, List.filter_cons, if_pos (by simp [c])]; rfl
  · rw [if_neg c, List.filter_cons, if_neg (by simp [c])]; simp
theorem missTo_len (l : List Int) (P : List (List Int)) (F : List Int) (o : List Int) (n : Nat) : (missTo l P F o n).length ≤ n := by
  unfold missTo
  rw [List.length_map]
  exact Nat.le_trans (List.length_filter_le _ _) (Nat.le_of_eq List.length_range)
set_option maxHeartbeats 8000000 in
set_option maxRecDepth 100000 in
theorem missing_calls (g : Nat) (l : List Int) (P : List (List Int)) (F : List Int) (m : Int) (A9 : Option Addr) (c9 : Nat) (rows : List Int) (w : World) (hch : ChAt w g l P F m) (hok : ChOk l P F) (hfit : Fits l P F m) (hm : 0 ≤ m ∧ m ≤ 32768)
    (hR : Kd.C (Kd.int .i64) w A9 rows.length rows) (hr : ∀ r ∈ rows, 0 ≤ r ∧ r < 1073741824) (hrl : rows.length ≤ 1000) (hp1 : ∀ p ∈ P, 1 ≤ p.length) (hP0 : 0 < P.length) (hF0 : F.getD 0 0 = 0) :
    Calls Try.prog 103 #[.pointer (some ⟨g, 0, none⟩), .slice A9 rows.length c9] w fun e w' => ∃ v0_ : Value, e = .returned v0_ ∧ Kd.R (Kd.slice 2 (Kd.int .i64)) 22 w' w.heap.size (fun _ => True) v0_ (missTo l P F (oftenTo l P F m rows) m.toNat) ∧ Below w.heap.size w w' := by
  have HCH := Aside0.mk hch
  have HK := Aside0.mk hok
  have HF := Aside0.mk hfit
  have HR := Aside0.mk hR
  have HRW := Aside0.mk hr
  have HP1 := Aside0.mk hp1
  have HF0 := Aside0.mk hF0
  obtain ⟨hm0, hm1⟩ := hm
  clear hch hok hfit hR hr hp1 hF0
  have HB := Aside0.mk (Below.refl w.heap.size w)
  go_enter Try.func103, Try.ntmps103
  go_wp2_with (first | ((with_reducible refine gate_dst (N := 8) rfl ?_); refine Kd.R_lit (Kd.slice 2 (Kd.int .i64)) w.heap.size 22 ?hg (N := 8) ?hd (xs := ([] : List (List Int))) (inner := []) (ok := fun _ => True) (okp := fun _ => True) ?hr ?hp (fun _ hk => hk) trivial (by repeat (first | (with_reducible first | exact HB.out | apply below_alloc | apply pw_below_drewN | apply below_drew1) | exact HB.out)) (below_size (by repeat (first | (with_reducible first | exact HB.out | apply below_alloc | apply pw_below_drewN | apply below_drew1) | exact HB.out))) (by simp) ?_; (case hd => rfl); (case hg => rfl); (case hr => first | (go_simp; done) | (go_simp; rfl)); (case hp => exact (Reps.none _ _)); intro v5 w5 ho_ hb_ hg_ hnew_; have HO5 := Aside0.mk ho_; have HB := Aside0.mk hb_; clear ho_ hb_ hg_ hnew_) | (go_at_call 93; (with_reducible refine (often_calls g l P F m A9 c9 rows _ (HCH.out.below (by repeat (first | (with_reducible first | exact HB.out | apply below_alloc | apply pw_below_drewN | apply below_drew1) | exact HB.out))) HK.out HF.out ?s0 ?s1 HRW.out hrl).mono ?_); (case s0 => omega); (case s1 => exact Kd.C_below HR.out (by repeat (first | (with_reducible first | exact HB.out | apply below_alloc | apply pw_below_drewN | apply below_drew1) | exact HB.out))); rintro e w6 ⟨v11, rfl, ho11, hb2⟩; obtain ⟨A11, c11, rfl⟩ := Kd.R_slice ho11; have HO5 := Aside0.mk (Kd.R_below HO5.out hb2); have HO11 := Aside0.mk (Kd.R_lower ho11 (below_size (by repeat (first | (with_reducible first | exact HB.out | apply below_alloc | apply pw_below_drewN | apply below_drew1) | exact HB.out)))); have HB := Aside0.mk (below_step (by repeat (first | (with_reducible first | exact HB.out | apply below_alloc | apply pw_below_drewN | apply below_drew1) | exact HB.out)) hb2); clear ho11 hb2))
  obtain ⟨of, hof⟩ : ∃ of : List Int, of = oftenTo l P F m rows := ⟨_, rfl⟩
  have hol : (of.length : Int) = m := by rw [hof, oftenTo_length]; omega
  rw [← hof] at HO11 ⊢
  have HOF := Aside0.mk hof
  have HOL := Aside0.mk hol
  clear hof hol
  go_loopw [5, 13] (fun v5 v13 W => ∃ x : Nat, x ≤ of.length ∧ v13 = .int .i64 x ∧ Aside0 (Kd.R (Kd.slice 2 (Kd.int .i64)) 22 W w.heap.size (fun _ => True) v5 (missTo l P F of x)) ∧ Aside0 (Kd.R (Kd.int .i64) 2 W w.heap.size (fun _ => True) (.slice A11 of.length c11) of) ∧ Aside0 (Below w.heap.size w W)) (fun _ v _ => (of.length - intOf v).toNat)
  case atStart => exact ⟨0, by omega, rfl, HO5, HO11, HB⟩
  case round =>
    clear HO5 HO11 HB
    obtain ⟨x, hx, rfl, HO, HN, HB⟩ := hrel
    by_cases hlt : (x : Int) < (of.length : Int)
    · obtain ⟨ad, rfl, hxc0⟩ := Kd.at_int (Kd.R_reads' HN.out).2.2 x (by omega) hlt
      have hxc : wr.cell? (ad.add x) = some (.int .i64 (rd of x)) := hxc0
      clear hxc0
      have hx0 : 0 ≤ (x : Int) := by omega
      have hxb : (x : Int) < 32768 := by have := HOL.out; omega
      have hml := missTo_len l P F of x
      have hms := missTo_succ l P F of x
      have HMS := Aside0.mk hms
      clear hms
      by_cases hz : rd of x = 0
      · rw [if_pos (show at' of (x : Int) = 0 from hz)] at HMS
        rw [hz] at hxc
        obtain ⟨pv, hpv⟩ : ∃ pv : List (List Int), pv = missTo l P F of x := ⟨_, rfl⟩
        rw [← hpv] at HO HMS hml
        clear hpv
        obtain ⟨tt, htt⟩ : ∃ tt : List Int, tt = told l P F x := ⟨_, rfl⟩
        rw [← htt] at HMS
        have HTT := Aside0.mk htt
        clear htt
        go_wp2_with (first | (go_at_call 171; (with_reducible refine (told_calls g l P F m x _ (HCH.out.below HB.out) HK.out HP1.out hP0 ?s0 ?s1).mono ?_); (case s0 => rw [HF0.out]; omega); (case s1 => have := HOL.out; omega); rintro e w6 ⟨v23, rfl, ho23, hb2⟩; rw [← HTT.out] at ho23; obtain ⟨A23, c23, rfl⟩ := Kd.R_slice ho23; have HLT : Aside0 (∀ k, u5.ownBlock = some k → k < wr.heap.size) := ⟨Kd.R_lt HO.out⟩; have HO2 := Aside0.mk (Kd.R_below HO.out hb2); have HN2 := Aside0.mk (Kd.R_below HN.out hb2); have HO23 := Aside0.mk (Kd.R_lower (Kd.R_mono (ok' := fun k => wr.heap.size ≤ k) (Kd.R_bound ho23) (fun k hk => hk.2.1)) (below_size HB.out)); have HB2 := Aside0.mk (below_step HB.out hb2); clear ho23 hb2) | ((with_reducible refine gate_builtin (b := .append) (xs := #[.tmp 20, .tmp 24]) rfl ?_); at_builtin; refine Here.out ?_))
        refine ⟨?_⟩
        refine Kd.R_append (Kd.slice 2 (Kd.int .i64)) (w0 := w) w.heap.size rfl (.tmp 20) (.tmp 24) 42 22 (.slice none 0 0) 24 rfl Try.underlying42 info22 rfl (by decide) (by omega) u5 pv tt [.slice A23 tt.length c23] (fun _ => True) (fun k => wr.heap.size ≤ k) rfl rfl ?aP (fun k hk => ⟨trivial, fun e => by have h1 := HLT.out k e.symm; have h2 : wr.heap.size ≤ k := hk; omega⟩) ?aF ?aO ?aB ?aS ?aL ?_
        case aP => exact ⟨_, rfl, HO23.out⟩
        case aB => exact (by repeat (first | (with_reducible first | exact HB2.out | apply below_alloc | apply pw_below_drewN | apply below_drew1) | exact HB2.out))
        case aF => exact (fun _ _ => trivial)
        case aO => exact (by (with_reducible repeat (first | apply Kd.R_alloc | apply Kd.R_drewN | apply Kd.R_drew)); exact HO2.out)
        case aS => exact (below_size (by repeat (first | (with_reducible first | exact HB2.out | apply below_alloc | apply pw_below_drewN | apply below_drew1) | exact HB2.out)))
        case aL => have := HOL.out; omega
        intro v7 w7 ho_ hb_ hg_ hat_
        have HO7 := Aside0.mk ho_
        have HB7 := Aside0.mk hb_
        have HG7 := Aside0.mk hg_
        have HAT7 := Aside0.mk hat_
        clear ho_ hb_ hg_ hat_
        go_wp2
        go_roundw
        case measure => simp [intOf]; omega
        case rel => exact ⟨x + 1, by omega, by first | rfl | (simp; done), ⟨by rw [HMS.out]; exact HO7.out⟩, ⟨Kd.R_over HN2.out HO2.out (by decide) HG7.out⟩, HB7⟩
      · rw [if_neg (show ¬ at' of (x : Int) = 0 from hz)] at HMS
        obtain ⟨z, hze⟩ : ∃ z : Int, z = rd of x := ⟨_, rfl⟩
        rw [← hze] at hxc hz
        have hzb : (z == 0) = false := by simp [hz]
        clear hze hz
        go_wp2
        go_roundw
        case measure => simp [intOf]; omega
        case rel => exact ⟨x + 1, by omega, by first | rfl | (simp; done), ⟨by rw [HMS.out]; exact HO.out⟩, HN, HB⟩
    · go_wp2
      go_ret
      have e : x = m.toNat := by have := HOL.out; omega
      rw [e, HOF.out] at HO
      exact ⟨_, rfl, HO.out, HB.out⟩
/- H34 -/
def missingOf (l rows : List Int) (t : Int) : List (List Int) × Int := if rowsCode l rows t = 0 then (missing l (allC l (ext l.length t.toNat [])) rows, 0) else ([], rowsCode l rows t)
def impl_MissingChoices.f (l rows : List Int) (t : Int) : Option (List (List Int) × Int) := if rows.length ≤ 1099511627776 then some (missingOf l rows t) else none
set_option maxHeartbeats 8000000 in
set_option maxRecDepth 100000 in
theorem impl_MissingChoices.calls (A0 : Option Addr) (c0 : Nat) (l : List Int) (A1 : Option Addr) (c1 : Nat) (rows : List Int) (t : Int) (r1 : List (List Int)) (r2 : Int) (w : World) (hC : Kd.C (Kd.int .i64) w A0 l.length l) (hc0 : l.length ≤ c0) (hR : Kd.C (Kd.int .i64) w A1 rows.length rows) (hc1 : rows.length ≤ c1) (h : impl_MissingChoices.f l rows t = some (r1, r2)) :
    Calls Try.prog 34 #[.agg #[.slice A0 l.length c0], .slice A1 rows.length c1, .int .i64 t] w fun e w' => ∃ v0_ : Value, e = .returned (.tuple #[v0_, .int .i64 r2]) ∧ Kd.R (Kd.slice 2 (Kd.int .i64)) 22 w' w.heap.size (fun _ => True) v0_ r1 ∧ Below w.heap.size w w' := by
  have hu28 := Try.underlying28
  have hu92 := Try.underlying92
  have HC := Aside0.mk hC
  have HC0 := Aside0.mk hc0
  have HR := Aside0.mk hR
  have HR0 := Aside0.mk hc1
  clear hC hc0 hR hc1
  unfold impl_MissingChoices.f at h
  by_cases hb : rows.length ≤ 1099511627776
  case neg => rw [if_neg hb] at h; exact absurd h (by simp)
  rw [if_pos hb] at h
  replace h := Option.some.inj h
  obtain ⟨K0, hK0⟩ := rowsCode_ev l rows t (by omega)
  have hk := hK0 K0 (Nat.le_refl _)
  have HK := Aside0.mk hk
  clear hk hK0
  obtain ⟨code, hcode⟩ : ∃ c, rowsCode l rows t = c := ⟨_, rfl⟩
  have HZ := Aside0.mk hcode
  rw [hcode] at HK
  unfold missingOf at h
  rw [hcode] at h
  clear hcode
  have HB := Aside0.mk (Below.refl w.heap.size w)
  by_cases cz : code = 0
  case neg =>
    rw [if_neg cz] at h
    have czb : (code != 0) = true := bne_iff_ne.mpr cz
    clear cz
    obtain ⟨rfl, rfl⟩ := Prod.mk.inj h
    clear h
    go_enter Try.func34, Try.ntmps34
    go_wp2_with (first | ((with_reducible refine gate_dst (N := 3) rfl ?_); refine box_event ?hg (N := 3) ?hd (cs := #[.slice A0 l.length c0]) (t := 28) ?hr ?_; (case hd => rfl); (case hg => rfl); (case hr => first | (go_simp; done) | (go_simp; rfl)); intro gb hg_ w1 hbox_ hb_; have BK := Aside0.mk hbox_; have B1 := Aside0.mk hb_; have GB := Aside0.mk hg_; clear hbox_ hb_ hg_; have HB := Aside0.mk (below_step HB.out B1.out); have hk1 : w1.cell? ⟨gb, 0, none⟩ = some (.slice A0 l.length c0) := (blk_cell BK.out 0).trans rfl) | (go_at_call 89; (with_reducible refine (impl_rowsCode.calls K0 _ _ l _ _ rows _ code _ ?s1 HC0.out ?s2 HR0.out HK.out).mono ?_); (case s1 => exact Kd.C_below HC.out (by repeat (first | (with_reducible first | exact HB.out | apply below_alloc | apply pw_below_drewN | apply below_drew1) | exact HB.out))); (case s2 => exact Kd.C_below HR.out (by repeat (first | (with_reducible first | exact HB.out | apply below_alloc | apply pw_below_drewN | apply below_drew1) | exact HB.out))); rintro e w2 ⟨rfl, hb2⟩; have BK := Aside0.mk (blk_below (by (with_reducible repeat (first | refine blk_drewN ?_ _ | refine blk_drew ?_ | refine blk_alloc ?_ _)); exact BK.out) hb2); have HB := Aside0.mk (below_step (by repeat (first | (with_reducible first | exact HB.out | apply below_alloc | apply pw_below_drewN | apply below_drew1) | exact HB.out)) hb2); clear hb2; have hk2 : w2.cell? ⟨gb, 0, none⟩ = some (.slice A0 l.length c0) := (blk_cell BK.out 0).trans rfl))
    go_ret2
    exact ⟨_, rfl, Kd.R_nil _ _ _ _ _, (by repeat (first | (with_reducible first | exact HB.out | apply below_alloc | apply pw_below_drewN | apply below_drew1) | exact HB.out))⟩
  case pos =>
  subst cz
  rw [if_pos rfl] at h
  have HH := Aside0.mk h
  clear h
  obtain ⟨hsz, hl8, hl1, hpr, hrl, hrw, ht1, ht3, ht4⟩ := rowsCode_zero HZ.out
  obtain ⟨tn, rfl⟩ : ∃ tn : Nat, t = tn := ⟨t.toNat, by omega⟩
  have HSZ := Aside0.mk hsz
  have HRW1 : Aside0 (∀ r ∈ rows, 0 ≤ r ∧ r < 1073741824) := ⟨fun r hr => by have := hrw r hr; omega⟩
  clear hsz hrw
  have hlt3 : tn ≤ 3 := by omega
  have HPL := Aside0.mk (ext_pl l.length tn l rfl (by omega))
  have HOK : Aside0 (ChOk l (ext l.length tn []) (offs l 0 (ext l.length tn []))) := ⟨hl8, HSZ.out, HPL.out, offs_length _ _ _, ext_len512 l.length tn hl8 (by omega), fun f hf => by have h1 := offs_range HSZ.out _ HPL.out f hf; have h2 := tot_le_max HSZ.out HPL.out (ext_len512 l.length tn hl8 (by omega)); omega⟩
  have HFT := Aside0.mk (fits_of HSZ.out _ HPL.out)
  rw [show ((tn : Int)).toNat = tn by omega] at HH
  obtain ⟨P, hP⟩ : ∃ P, ext l.length tn [] = P := ⟨_, rfl⟩
  obtain ⟨F, hF⟩ : ∃ F, offs l 0 P = F := ⟨_, rfl⟩
  obtain ⟨m, hm⟩ : ∃ m, tot l 0 P = m := ⟨_, rfl⟩
  rw [hP] at HH HFT
  rw [hF, hm] at HFT
  rw [hP, hF] at HOK
  have HPF : Aside0 (ext l.length tn [] = P ∧ offs l 0 P = F ∧ tot l 0 P = m) := ⟨⟨hP, hF, hm⟩⟩
  have HP1 : Aside0 (∀ p ∈ P, 1 ≤ p.length) := ⟨fun p hp => by rw [← hP] at hp; have := ext_each l.length tn p hp; omega⟩
  have HPP : Aside0 (0 < P.length) := ⟨by rw [← hP]; exact ext_ne l.length tn (by omega)⟩
  have HF00 : Aside0 (F.getD 0 0 = 0) := ⟨by rw [← hF]; exact offs_zero l P⟩
  have HMT : Aside0 (missTo l P F (oftenTo l P F m rows) m.toNat = missing l (allC l P) rows) := ⟨by rw [← hF, ← hm]; exact missing_told HSZ.out P (by rw [← hP]; exact HPL.out) rows (fun r hr => (HRW1.out r hr).1)⟩
  clear hP hF hm
  go_enter Try.func34, Try.ntmps34
  go_wp2_with (first | ((with_reducible refine gate_dst (N := 3) rfl ?_); refine box_event ?hg (N := 3) ?hd (cs := #[.slice A0 l.length c0]) (t := 28) ?hr ?_; (case hd => rfl); (case hg => rfl); (case hr => first | (go_simp; done) | (go_simp; rfl)); intro gb hg_ w1 hbox_ hb_; have BK := Aside0.mk hbox_; have B1 := Aside0.mk hb_; have GB := Aside0.mk hg_; clear hbox_ hb_ hg_; have HB := Aside0.mk (below_step HB.out B1.out); have hk1 : w1.cell? ⟨gb, 0, none⟩ = some (.slice A0 l.length c0) := (blk_cell BK.out 0).trans rfl) | (go_at_call 89; (with_reducible refine (impl_rowsCode.calls K0 _ _ l _ _ rows _ 0 _ ?s1 HC0.out ?s2 HR0.out HK.out).mono ?_); (case s1 => exact Kd.C_below HC.out (by repeat (first | (with_reducible first | exact HB.out | apply below_alloc | apply pw_below_drewN | apply below_drew1) | exact HB.out))); (case s2 => exact Kd.C_below HR.out (by repeat (first | (with_reducible first | exact HB.out | apply below_alloc | apply pw_below_drewN | apply below_drew1) | exact HB.out))); rintro e w2 ⟨rfl, hb2⟩; have BK := Aside0.mk (blk_below (by (with_reducible repeat (first | refine blk_drewN ?_ _ | refine blk_drew ?_ | refine blk_alloc ?_ _)); exact BK.out) hb2); have HB := Aside0.mk (below_step (by repeat (first | (with_reducible first | exact HB.out | apply below_alloc | apply pw_below_drewN | apply below_drew1) | exact HB.out)) hb2); clear hb2; have hk2 : w2.cell? ⟨gb, 0, none⟩ = some (.slice A0 l.length c0) := (blk_cell BK.out 0).trans rfl) | (go_at_call 92; (with_reducible refine (newChoices_calls A0 c0 l tn _ ?s1 HC0.out HSZ.out hl8 hlt3).mono ?_); (case s1 => exact Kd.C_below HC.out (by repeat (first | (with_reducible first | exact HB.out | apply below_alloc | apply pw_below_drewN | apply below_drew1) | exact HB.out))); rintro e w4 ⟨g, rfl, hch, ht0, ht64, hb2⟩; rw [HPF.out.1, HPF.out.2.1, HPF.out.2.2] at hch; rw [HPF.out.1, HPF.out.2.2] at ht0 ht64; have hm0 : 0 ≤ m := ht0; have hm1 : m ≤ 32768 := (by have := HOK.out.most; omega); have HCH := Aside0.mk hch; clear hch ht0 ht64; have BK := Aside0.mk (blk_below (by (with_reducible repeat (first | refine blk_drewN ?_ _ | refine blk_drew ?_ | refine blk_alloc ?_ _)); exact BK.out) hb2); have HB := Aside0.mk (below_step (by repeat (first | (with_reducible first | exact HB.out | apply below_alloc | apply pw_below_drewN | apply below_drew1) | exact HB.out)) hb2); clear hb2; have hk2 : w4.cell? ⟨gb, 0, none⟩ = some (.slice A0 l.length c0) := (blk_cell BK.out 0).trans rfl) | (go_at_call 103; (with_reducible refine (missing_calls g l P F m A1 c1 rows _ HCH.out HOK.out HFT.out ?s0 ?s1 HRW1.out ?s2 HP1.out HPP.out HF00.out).mono ?_); (case s0 => omega); (case s1 => exact Kd.C_below HR.out (by repeat (first | (with_reducible first | exact HB.out | apply below_alloc | apply pw_below_drewN | apply below_drew1) | exact HB.out))); (case s2 => omega); rintro e w5 ⟨v20, rfl, ho20, hb2⟩; have HO20 := Aside0.mk (Kd.R_lower ho20 (below_size HB.out)); clear ho20; have BK := Aside0.mk (blk_below (by (with_reducible repeat (first | refine blk_drewN ?_ _ | refine blk_drew ?_ | refine blk_alloc ?_ _)); exact BK.out) hb2); have HB := Aside0.mk (below_step (by repeat (first | (with_reducible first | exact HB.out | apply below_alloc | apply pw_below_drewN | apply below_drew1) | exact HB.out)) hb2); clear hb2; have hk2 : w5.cell? ⟨gb, 0, none⟩ = some (.slice A0 l.length c0) := (blk_cell BK.out 0).trans rfl))
  go_ret2
  obtain ⟨rfl, rfl⟩ := Prod.mk.inj HH.out
  exact ⟨_, rfl, by rw [← HMT.out]; exact HO20.out, (by repeat (first | (with_reducible first | exact HB.out | apply below_alloc | apply pw_below_drewN | apply below_drew1) | exact HB.out))⟩
/- H32 -/
def impl_CountMissing.f (l rows : List Int) (t : Int) : Option (Int × Int) := (impl_MissingChoices.f l rows t).bind fun r => some ((r.1.length : Int), r.2)
set_option maxHeartbeats 8000000 in
set_option maxRecDepth 100000 in
theorem impl_CountMissing.calls (A0 : Option Addr) (c0 : Nat) (l : List Int) (A1 : Option Addr) (c1 : Nat) (rows : List Int) (t : Int) (r1 r2 : Int) (w : World) (hC : Kd.C (Kd.int .i64) w A0 l.length l) (hc0 : l.length ≤ c0) (hR : Kd.C (Kd.int .i64) w A1 rows.length rows) (hc1 : rows.length ≤ c1) (h : impl_CountMissing.f l rows t = some (r1, r2)) :
    Calls Try.prog 32 #[.agg #[.slice A0 l.length c0], .slice A1 rows.length c1, .int .i64 t] w fun e w' => e = .returned (.tuple #[.int .i64 r1, .int .i64 r2]) ∧ Below w.heap.size w w' := by
  have hu28 := Try.underlying28
  have HC := Aside0.mk hC
  have HC0 := Aside0.mk hc0
  have HR := Aside0.mk hR
  have HR0 := Aside0.mk hc1
  clear hC hc0 hR hc1
  obtain ⟨⟨xs, code⟩, h1, h2⟩ := Option.bind_eq_some_iff.1 h
  obtain ⟨rfl, rfl⟩ := Prod.mk.inj (Option.some.inj h2)
  have HM := Aside0.mk h1
  clear h h1 h2
  have HB := Aside0.mk (Below.refl w.heap.size w)
  go_enter Try.func32, Try.ntmps32
  go_wp2_with (first | ((with_reducible refine gate_dst (N := 3) rfl ?_); refine box_event ?hg (N := 3) ?hd (cs := #[.slice A0 l.length c0]) (t := 28) ?hr ?_; (case hd => rfl); (case hg => rfl); (case hr => first | (go_simp; done) | (go_simp; rfl)); intro gb hg_ w1 hbox_ hb_; have BK := Aside0.mk hbox_; have B1 := Aside0.mk hb_; have GB := Aside0.mk hg_; clear hbox_ hb_ hg_; have HB := Aside0.mk (below_step HB.out B1.out); have hk1 : w1.cell? ⟨gb, 0, none⟩ = some (.slice A0 l.length c0) := (blk_cell BK.out 0).trans rfl) | (go_at_call 34; (with_reducible refine (impl_MissingChoices.calls _ _ l _ _ rows t xs code _ ?s1 HC0.out ?s2 HR0.out HM.out).mono ?_); (case s1 => exact Kd.C_below HC.out (by repeat (first | (with_reducible first | exact HB.out | apply below_alloc | apply pw_below_drewN | apply below_drew1) | exact HB.out))); (case s2 => exact Kd.C_below HR.out (by repeat (first | (with_reducible first | exact HB.out | apply below_alloc | apply pw_below_drewN | apply below_drew1) | exact HB.out))); rintro e w2 ⟨v14, rfl, ho14, hb2⟩; obtain ⟨A14, c14, rfl⟩ := Kd.R_slice ho14; have HB := Aside0.mk (below_step (by repeat (first | (with_reducible first | exact HB.out | apply below_alloc | apply pw_below_drewN | apply below_drew1) | exact HB.out)) hb2); clear ho14 hb2))
  go_ret2
  exact ⟨rfl, (by repeat (first | (with_reducible first | exact HB.out | apply below_alloc | apply pw_below_drewN | apply below_drew1) | exact HB.out))⟩
/- F7 -/
def laws_FnExactCountMissing.j0 : Nat → List Int → List Int → Bool → List Int → List Int → Option (Bool)
  | 0, _, _, _, _, _ => none
  | k + 1, x1, x11, x49, x102000, x115000 => if x49 = true then (some false) else ((laws_toSpace.f k x102000).bind fun t120 => ((laws_eqSpace.f k x115000 t120).bind fun t123 => (if t123 = true then ((laws_toInt64S.f k x1).bind fun t124 => ((laws_eqInt64S.f k x11 t124).bind fun t127 => (if t127 = true then (some true) else (some false)))) else (some false))))
def laws_FnExactCountMissing.f (k : Nat) (l0_0 : List Int) (l1 : List Int) (a2 : Int) : Option (Bool) := if (l1.length : Int) > 1048576 then (some true) else ((laws_szSpace.f l0_0 1048576).bind fun t102 => (if t102 < 0 then (some true) else ((laws_toSpace.f k l0_0).bind fun t103 => ((laws_toInt64S.f k l1).bind fun t106 => ((spec_CountMissing.f k t103 t106 a2).bind fun bt109 => ((laws_toSpace.f k l0_0).bind fun t111 => ((laws_toInt64S.f k l1).bind fun t115 => ((impl_CountMissing.f t111 t115 a2).bind fun bt118 => (if bt118.1 = bt109.1 then (laws_FnExactCountMissing.j0 k l1 t115 (bt118.2 != bt109.2) l0_0 t111) else (laws_FnExactCountMissing.j0 k l1 t115 true l0_0 t111))))))))))
theorem laws_FnExactCountMissing.mono_l : ∀ k, (∀ y0 y1 y2 y3 y4, LeO (laws_FnExactCountMissing.j0 k y0 y1 y2 y3 y4) (laws_FnExactCountMissing.j0 (k + 1) y0 y1 y2 y3 y4))
  | 0 => fun _ _ _ _ _ r h => by simp [laws_FnExactCountMissing.j0] at h
  | k + 1 => by
    have ih0 := laws_FnExactCountMissing.mono_l k
    · intro y0 y1 y2 y3 y4
      unfold laws_FnExactCountMissing.j0
      repeat' first
      | (with_reducible exact ih0 _ _ _ _ _)
      | (with_reducible exact laws_eqInt64S.mono _ _ _)
      | (with_reducible exact laws_eqSpace.mono _ _ _)
      | (with_reducible exact laws_toInt64S.mono _ _)
      | (with_reducible exact laws_toSpace.mono _ _)
      | (with_reducible exact spec_CountMissing.mono _ _ _ _)
      | (with_reducible exact LeO.refl _)
      | (with_reducible exact LeO.none _)
      | (with_reducible refine LeO.ite ?_ ?_)
      | (with_reducible refine LeO.bind ?_ (fun _ => ?_))
      | exact ih0 _ _ _ _ _
      | exact laws_eqInt64S.mono _ _ _
      | exact laws_eqSpace.mono _ _ _
      | exact laws_toInt64S.mono _ _
      | exact laws_toSpace.mono _ _
      | exact spec_CountMissing.mono _ _ _ _
      | exact LeO.none _
      | refine LeO.ite ?_ ?_
      | refine LeO.bind ?_ (fun _ => ?_)
theorem laws_FnExactCountMissing.mono : ∀ a0 a1 a2 k, LeO (laws_FnExactCountMissing.f k a0 a1 a2) (laws_FnExactCountMissing.f (k + 1) a0 a1 a2) := by
  intro a0 a1 a2 k
  have ih0 := laws_FnExactCountMissing.mono_l k
  unfold laws_FnExactCountMissing.f
  repeat' first
      | (with_reducible exact ih0 _ _ _ _ _)
      | (with_reducible exact laws_eqInt64S.mono _ _ _)
      | (with_reducible exact laws_eqSpace.mono _ _ _)
      | (with_reducible exact laws_toInt64S.mono _ _)
      | (with_reducible exact laws_toSpace.mono _ _)
      | (with_reducible exact spec_CountMissing.mono _ _ _ _)
      | (with_reducible exact LeO.refl _)
      | (with_reducible exact LeO.none _)
      | (with_reducible refine LeO.ite ?_ ?_)
      | (with_reducible refine LeO.bind ?_ (fun _ => ?_))
      | exact ih0 _ _ _ _ _
      | exact laws_eqInt64S.mono _ _ _
      | exact laws_eqSpace.mono _ _ _
      | exact laws_toInt64S.mono _ _
      | exact laws_toSpace.mono _ _
      | exact spec_CountMissing.mono _ _ _ _
      | exact LeO.none _
      | refine LeO.ite ?_ ?_
      | refine LeO.bind ?_ (fun _ => ?_)
set_option maxHeartbeats 8000000 in
set_option maxRecDepth 100000 in
theorem laws_FnExactCountMissing.calls (k : Nat) (A0_0 : Option Addr) (c0_0 : Nat) (l0_0 : List Int) (A1 : Option Addr) (c1 : Nat) (l1 : List Int) (a2 : Int) (r : Bool) (w : World) (hr0_0 : Kd.C (Kd.int .i64) w A0_0 l0_0.length l0_0) (hc0_0 : l0_0.length ≤ c0_0) (hr1 : Kd.C (Kd.int .i64) w A1 l1.length l1) (hc1 : l1.length ≤ c1) (h : laws_FnExactCountMissing.f k l0_0 l1 a2 = some r) :
    Calls Try.prog 7 #[.agg #[.slice A0_0 l0_0.length c0_0], .slice A1 l1.length c1, .int .i64 a2] w fun e w' => e = .returned (.bool r) ∧ Below w.heap.size w w' := by
  have hu24 := Try.underlying24
  have hu28 := Try.underlying28
  have HR0_0 := Aside0.mk hr0_0
  have HC0_0 := Aside0.mk hc0_0
  clear hr0_0 hc0_0
  have HR1 := Aside0.mk hr1
  have HC1 := Aside0.mk hc1
  clear hr1 hc1
  have HB := Aside0.mk (Below.refl w.heap.size w)
  have H : (if (l1.length : Int) > 1048576 then (some true) else ((laws_szSpace.f l0_0 1048576).bind fun t102 => (if t102 < 0 then (some true) else ((laws_toSpace.f k l0_0).bind fun t103 => ((laws_toInt64S.f k l1).bind fun t106 => ((spec_CountMissing.f k t103 t106 a2).bind fun bt109 => ((laws_toSpace.f k l0_0).bind fun t111 => ((laws_toInt64S.f k l1).bind fun t115 => ((impl_CountMissing.f t111 t115 a2).bind fun bt118 => (if bt118.1 = bt109.1 then (laws_FnExactCountMissing.j0 k l1 t115 (bt118.2 != bt109.2) l0_0 t111) else (laws_FnExactCountMissing.j0 k l1 t115 true l0_0 t111))))))))))) = some r := h
  clear h
  by_cases c4 : (l1.length : Int) > 1048576
  · rw [if_pos c4] at H
    have c4b0 : decide (1048576 < (l1.length : Int)) = true := decide_eq_true c4
    have c4b1 : decide (1048576 < l1.length) = true := decide_eq_true (by omega)
    clear c4
    obtain rfl := Option.some.inj H
    go_enter Try.func7, Try.ntmps7
    go_wp2_with (first | ((with_reducible refine gate_dst (N := 3) rfl ?_); refine box_event ?hg (N := 3) ?hd (cs := #[.slice A0_0 l0_0.length c0_0]) (t := 24) ?hr ?_; (case hd => rfl); (case hg => rfl); (case hr => first | (go_simp; done) | (go_simp; rfl)); intro gb101 hg w5 hbox hb; have n0_ := Aside0.mk (below_step (by repeat (first | (with_reducible first | exact HB.out | apply below_alloc | apply pw_below_drewN | apply below_drew1) | exact HB.out)) hb); have n1_ := Aside0.mk (hbox); have n2_ := Aside0.mk ((by rw [hg]; exact (below_size (by repeat (first | (with_reducible first | exact HB.out | apply below_alloc | apply pw_below_drewN | apply below_drew1) | exact HB.out))) : w.heap.size ≤ gb101)); have n3_ := Aside0.mk ((by rw [hg]; exact (below_size (by repeat (first | (with_reducible first | exact HB.out | apply below_alloc | apply pw_below_drewN | apply below_drew1) | exact HB.out))) : w.heap.size ≤ gb101)); clear HB; have HB := n0_; have BK101 := n1_; have GW101 := n2_; have GE101 := n3_; clear n0_ n1_ n2_ n3_; clear hb hbox hg))
    go_ret
    exact ⟨by first | rfl | (simp [errW_none, errW_some] <;> rfl) | (simp [*, errW_none, errW_some] <;> rfl), by repeat (first | (with_reducible first | exact HB.out | apply below_alloc | apply pw_below_drewN | apply below_drew1 | refine below_set ?_ GE101.out) | exact HB.out)⟩
  · rw [if_neg c4] at H
    have c4b0 : decide (1048576 < (l1.length : Int)) = false := decide_eq_false c4
    have c4b1 : decide (1048576 < l1.length) = false := decide_eq_false (by omega)
    clear c4
    replace H := Option.bind_eq_some_iff.mp H
    obtain ⟨t102, A60, H⟩ := H
    replace H : (if t102 < 0 then (some true) else ((laws_toSpace.f k l0_0).bind fun t103 => ((laws_toInt64S.f k l1).bind fun t106 => ((spec_CountMissing.f k t103 t106 a2).bind fun bt109 => ((laws_toSpace.f k l0_0).bind fun t111 => ((laws_toInt64S.f k l1).bind fun t115 => ((impl_CountMissing.f t111 t115 a2).bind fun bt118 => (if bt118.1 = bt109.1 then (laws_FnExactCountMissing.j0 k l1 t115 (bt118.2 != bt109.2) l0_0 t111) else (laws_FnExactCountMissing.j0 k l1 t115 true l0_0 t111))))))))) = some r := H
    have A6 := Aside0.mk A60
    clear A60
    by_cases c7 : t102 < 0
    · rw [if_pos c7] at H
      have c7b0 : decide (t102 < 0) = true := decide_eq_true c7
      clear c7
      obtain rfl := Option.some.inj H
      go_enter Try.func7, Try.ntmps7
      go_wp2_with (first | ((with_reducible refine gate_dst (N := 3) rfl ?_); refine box_event ?hg (N := 3) ?hd (cs := #[.slice A0_0 l0_0.length c0_0]) (t := 24) ?hr ?_; (case hd => rfl); (case hg => rfl); (case hr => first | (go_simp; done) | (go_simp; rfl)); intro gb101 hg w8 hbox hb; have n0_ := Aside0.mk (below_step (by repeat (first | (with_reducible first | exact HB.out | apply below_alloc | apply pw_below_drewN | apply below_drew1) | exact HB.out)) hb); have n1_ := Aside0.mk (hbox); have n2_ := Aside0.mk ((by rw [hg]; exact (below_size (by repeat (first | (with_reducible first | exact HB.out | apply below_alloc | apply pw_below_drewN | apply below_drew1) | exact HB.out))) : w.heap.size ≤ gb101)); have n3_ := Aside0.mk ((by rw [hg]; exact (below_size (by repeat (first | (with_reducible first | exact HB.out | apply below_alloc | apply pw_below_drewN | apply below_drew1) | exact HB.out))) : w.heap.size ≤ gb101)); clear HB; have HB := n0_; have BK101 := n1_; have GW101 := n2_; have GE101 := n3_; clear n0_ n1_ n2_ n3_; clear hb hbox hg; have hcz9_0 : w8.cell? ⟨gb101, 0, none⟩ = some (.slice A0_0 l0_0.length c0_0) := (blk_cell BK101.out 0).trans rfl; have hfz9_0 := blk_frozen BK101.out 0) | ((with_reducible refine gate_callee (f := 15) rfl ?_); refine goesL_ (some 19) rfl rfl Try.func15 (by kernel_rfl) rfl #[.agg #[.slice A0_0 l0_0.length c0_0], .int .i64 1048576] rfl (by (try simp only [List.map_toArray, List.map_cons, List.map_nil]); first | done | rfl | (simp only [List.length_drop, List.length_take]; rfl)) ?_; (with_reducible refine (laws_szSpace.calls _ _ l0_0 1048576 t102 _ ?side1 ?side2 A6.out).mono ?_); (case side1 => repeat (first | exact (Kd.C_below HR0_0.out HB.out) | (with_reducible refine Kd.C_alloc ?_ _) | (with_reducible refine Kd.C_drewN ?_ _) | (with_reducible refine Kd.C_drew ?_))); (case side2 => exact HC0_0.out); rintro e w10 ⟨rfl, hb⟩; refine ⟨_, rfl, ?_⟩; have n0_ := Aside0.mk (blk_below (g := gb101) (o := .cells #[.slice A0_0 l0_0.length c0_0] 24 (0, 0)) (by (with_reducible repeat (first | refine blk_drewN ?_ _ | refine blk_drew ?_ | refine blk_alloc ?_ _)); exact BK101.out) hb); have n1_ := Aside0.mk (below_step (by repeat (first | (with_reducible first | exact HB.out | apply below_alloc | apply pw_below_drewN | apply below_drew1 | refine below_set ?_ GE101.out) | exact HB.out)) hb); clear BK101; clear HB; have BK101 := n0_; have HB := n1_; clear n0_ n1_; (try clear hb); (try clear hb2); (try clear hk); (try clear hi)))
      go_ret
      exact ⟨by first | rfl | (simp [errW_none, errW_some] <;> rfl) | (simp [*, errW_none, errW_some] <;> rfl), by repeat (first | (with_reducible first | exact HB.out | apply below_alloc | apply pw_below_drewN | apply below_drew1 | refine below_set ?_ GE101.out) | exact HB.out)⟩
    · rw [if_neg c7] at H
      have c7b0 : decide (t102 < 0) = false := decide_eq_false c7
      clear c7
      replace H := Option.bind_eq_some_iff.mp H
      obtain ⟨t103, A110, H⟩ := H
      replace H : ((laws_toInt64S.f k l1).bind fun t106 => ((spec_CountMissing.f k t103 t106 a2).bind fun bt109 => ((laws_toSpace.f k l0_0).bind fun t111 => ((laws_toInt64S.f k l1).bind fun t115 => ((impl_CountMissing.f t111 t115 a2).bind fun bt118 => (if bt118.1 = bt109.1 then (laws_FnExactCountMissing.j0 k l1 t115 (bt118.2 != bt109.2) l0_0 t111) else (laws_FnExactCountMissing.j0 k l1 t115 true l0_0 t111))))))) = some r := H
      have A11 := Aside0.mk A110
      clear A110
      replace H := Option.bind_eq_some_iff.mp H
      obtain ⟨t106, A120, H⟩ := H
      replace H : ((spec_CountMissing.f k t103 t106 a2).bind fun bt109 => ((laws_toSpace.f k l0_0).bind fun t111 => ((laws_toInt64S.f k l1).bind fun t115 => ((impl_CountMissing.f t111 t115 a2).bind fun bt118 => (if bt118.1 = bt109.1 then (laws_FnExactCountMissing.j0 k l1 t115 (bt118.2 != bt109.2) l0_0 t111) else (laws_FnExactCountMissing.j0 k l1 t115 true l0_0 t111)))))) = some r := H
      have A12 := Aside0.mk A120
      clear A120
      replace H := Option.bind_eq_some_iff.mp H
      obtain ⟨⟨t109, t110⟩, A130, H⟩ := H
      replace H : ((laws_toSpace.f k l0_0).bind fun t111 => ((laws_toInt64S.f k l1).bind fun t115 => ((impl_CountMissing.f t111 t115 a2).bind fun bt118 => (if bt118.1 = t109 then (laws_FnExactCountMissing.j0 k l1 t115 (bt118.2 != t110) l0_0 t111) else (laws_FnExactCountMissing.j0 k l1 t115 true l0_0 t111))))) = some r := H
      have A13 := Aside0.mk A130
      clear A130
      replace H := Option.bind_eq_some_iff.mp H
      obtain ⟨t111, A140, H⟩ := H
      replace H : ((laws_toInt64S.f k l1).bind fun t115 => ((impl_CountMissing.f t111 t115 a2).bind fun bt118 => (if bt118.1 = t109 then (laws_FnExactCountMissing.j0 k l1 t115 (bt118.2 != t110) l0_0 t111) else (laws_FnExactCountMissing.j0 k l1 t115 true l0_0 t111)))) = some r := H
      have A14 := Aside0.mk A140
      clear A140
      replace H := Option.bind_eq_some_iff.mp H
      obtain ⟨t115, A150, H⟩ := H
      replace H : ((impl_CountMissing.f t111 t115 a2).bind fun bt118 => (if bt118.1 = t109 then (laws_FnExactCountMissing.j0 k l1 t115 (bt118.2 != t110) l0_0 t111) else (laws_FnExactCountMissing.j0 k l1 t115 true l0_0 t111))) = some r := H
      have A15 := Aside0.mk A150
      clear A150
      replace H := Option.bind_eq_some_iff.mp H
      obtain ⟨⟨t118, t119⟩, A160, H⟩ := H
      replace H : (if t118 = t109 then (laws_FnExactCountMissing.j0 k l1 t115 (t119 != t110) l0_0 t111) else (laws_FnExactCountMissing.j0 k l1 t115 true l0_0 t111)) = some r := H
      have A16 := Aside0.mk A160
      clear A160
      have HC17 := Aside0.mk H
      clear H
      go_enter Try.func7, Try.ntmps7
      go_upto_region 11 with (first | ((with_reducible refine gate_dst (N := 3) rfl ?_); refine box_event ?hg (N := 3) ?hd (cs := #[.slice A0_0 l0_0.length c0_0]) (t := 24) ?hr ?_; (case hd => rfl); (case hg => rfl); (case hr => first | (go_simp; done) | (go_simp; rfl)); intro gb101 hg w18 hbox hb; have n0_ := Aside0.mk (below_step (by repeat (first | (with_reducible first | exact HB.out | apply below_alloc | apply pw_below_drewN | apply below_drew1) | exact HB.out)) hb); have n1_ := Aside0.mk (hbox); have n2_ := Aside0.mk ((by rw [hg]; exact (below_size (by repeat (first | (with_reducible first | exact HB.out | apply below_alloc | apply pw_below_drewN | apply below_drew1) | exact HB.out))) : w.heap.size ≤ gb101)); have n3_ := Aside0.mk ((by rw [hg]; exact (below_size (by repeat (first | (with_reducible first | exact HB.out | apply below_alloc | apply pw_below_drewN | apply below_drew1) | exact HB.out))) : w.heap.size ≤ gb101)); clear HB; have HB := n0_; have BK101 := n1_; have GW101 := n2_; have GE101 := n3_; clear n0_ n1_ n2_ n3_; clear hb hbox hg; have hcz19_0 : w18.cell? ⟨gb101, 0, none⟩ = some (.slice A0_0 l0_0.length c0_0) := (blk_cell BK101.out 0).trans rfl; have hfz19_0 := blk_frozen BK101.out 0) | ((with_reducible refine gate_callee (f := 15) rfl ?_); refine goesL_ (some 19) rfl rfl Try.func15 (by kernel_rfl) rfl #[.agg #[.slice A0_0 l0_0.length c0_0], .int .i64 1048576] rfl (by (try simp only [List.map_toArray, List.map_cons, List.map_nil]); first | done | rfl | (simp only [List.length_drop, List.length_take]; rfl)) ?_; (with_reducible refine (laws_szSpace.calls _ _ l0_0 1048576 t102 _ ?side1 ?side2 A6.out).mono ?_); (case side1 => repeat (first | exact (Kd.C_below HR0_0.out HB.out) | (with_reducible refine Kd.C_alloc ?_ _) | (with_reducible refine Kd.C_drewN ?_ _) | (with_reducible refine Kd.C_drew ?_))); (case side2 => exact HC0_0.out); rintro e w20 ⟨rfl, hb⟩; refine ⟨_, rfl, ?_⟩; have n0_ := Aside0.mk (blk_below (g := gb101) (o := .cells #[.slice A0_0 l0_0.length c0_0] 24 (0, 0)) (by (with_reducible repeat (first | refine blk_drewN ?_ _ | refine blk_drew ?_ | refine blk_alloc ?_ _)); exact BK101.out) hb); have n1_ := Aside0.mk (below_step (by repeat (first | (with_reducible first | exact HB.out | apply below_alloc | apply pw_below_drewN | apply below_drew1 | refine below_set ?_ GE101.out) | exact HB.out)) hb); clear BK101; clear HB; have BK101 := n0_; have HB := n1_; clear n0_ n1_; (try clear hb); (try clear hb2); (try clear hk); (try clear hi); have hcz21_0 : w20.cell? ⟨gb101, 0, none⟩ = some (.slice A0_0 l0_0.length c0_0) := (blk_cell BK101.out 0).trans rfl; have hfz21_0 := blk_frozen BK101.out 0) | ((with_reducible refine gate_callee (f := 17) rfl ?_); refine goesL_ (some 24) rfl rfl Try.func17 (by kernel_rfl) rfl #[.agg #[.slice A0_0 l0_0.length c0_0]] rfl (by (try simp only [List.map_toArray, List.map_cons, List.map_nil]); first | done | rfl | (simp only [List.length_drop, List.length_take]; rfl)) ?_; (with_reducible refine (laws_toSpace.calls k _ _ l0_0 t103 _ ?side1 ?side2 A11.out).mono ?_); (case side1 => repeat (first | exact (Kd.C_below HR0_0.out HB.out) | (with_reducible refine Kd.C_alloc ?_ _) | (with_reducible refine Kd.C_drewN ?_ _) | (with_reducible refine Kd.C_drew ?_))); (case side2 => exact HC0_0.out); rintro e w22 ⟨v104, rfl, ho0, hb⟩; refine ⟨_, rfl, ?_⟩; have n0_ := Aside0.mk (Kd.R_lower ho0 (below_size (by repeat (first | (with_reducible first | exact HB.out | apply below_alloc | apply pw_below_drewN | apply below_drew1 | refine below_set ?_ GE101.out) | exact HB.out)))); have n1_ := Aside0.mk (blk_below (g := gb101) (o := .cells #[.slice A0_0 l0_0.length c0_0] 24 (0, 0)) (by (with_reducible repeat (first | refine blk_drewN ?_ _ | refine blk_drew ?_ | refine blk_alloc ?_ _)); exact BK101.out) hb); have n2_ := Aside0.mk (below_step (by repeat (first | (with_reducible first | exact HB.out | apply below_alloc | apply pw_below_drewN | apply below_drew1 | refine below_set ?_ GE101.out) | exact HB.out)) hb); clear BK101; clear HB; have HO105 := n0_; have BK101 := n1_; have HB := n2_; clear n0_ n1_ n2_; (try clear hb); (try clear hb2); (try clear hk); (try clear hi); (try clear ho0)) | ((with_reducible refine gate_callee (f := 18) rfl ?_); refine goesL_ (some 26) rfl rfl Try.func18 (by kernel_rfl) rfl #[.slice A1 l1.length c1] rfl (by (try simp only [List.map_toArray, List.map_cons, List.map_nil]); first | done | rfl | (simp only [List.length_drop, List.length_take]; rfl)) ?_; (with_reducible refine (laws_toInt64S.calls k _ _ l1 t106 _ ?side1 ?side2 A12.out).mono ?_); (case side1 => repeat (first | exact (Kd.C_below HR1.out HB.out) | (with_reducible refine Kd.C_alloc ?_ _) | (with_reducible refine Kd.C_drewN ?_ _) | (with_reducible refine Kd.C_drew ?_))); (case side2 => exact HC1.out); rintro e w23 ⟨v107, rfl, ho0, hb⟩; refine ⟨_, rfl, ?_⟩; have n0_ := Aside0.mk (Kd.R_elder' (by (with_reducible repeat (first | apply Kd.R_alloc | apply Kd.R_drewN | apply Kd.R_drew)); exact HO105.out) (Kd.R_base ho0) hb); have n1_ := Aside0.mk (Kd.R_lower (Kd.R_new' ho0 (Kd.R_lt (by (with_reducible repeat (first | apply Kd.R_alloc | apply Kd.R_drewN | apply Kd.R_drew)); exact HO105.out))) (below_size (by repeat (first | (with_reducible first | exact HB.out | apply below_alloc | apply pw_below_drewN | apply below_drew1 | refine below_set ?_ GE101.out) | exact HB.out)))); have n2_ := Aside0.mk (blk_below (g := gb101) (o := .cells #[.slice A0_0 l0_0.length c0_0] 24 (0, 0)) (by (with_reducible repeat (first | refine blk_drewN ?_ _ | refine blk_drew ?_ | refine blk_alloc ?_ _)); exact BK101.out) hb); have n3_ := Aside0.mk (below_step (by repeat (first | (with_reducible first | exact HB.out | apply below_alloc | apply pw_below_drewN | apply below_drew1 | refine below_set ?_ GE101.out) | exact HB.out)) hb); clear HO105; clear BK101; clear HB; have HO105 := n0_; have HO108 := n1_; have BK101 := n2_; have HB := n3_; clear n0_ n1_ n2_ n3_; (try clear hb); (try clear hb2); (try clear hk); (try clear hi); (try clear ho0); obtain ⟨Ao24, co24, eo24⟩ := Kd.R_slice HO105.out; subst eo24; obtain ⟨Ao25, co25, eo25⟩ := Kd.R_slice HO108.out; subst eo25) | ((with_reducible refine gate_callee (f := 31) rfl ?_); refine goesL_ (some 28) rfl rfl Try.func31 (by kernel_rfl) rfl #[.agg #[.slice Ao24 t103.length co24], .slice Ao25 t106.length co25, .int .i64 a2] rfl (by (try simp only [List.map_toArray, List.map_cons, List.map_nil]); first | done | rfl | (simp only [List.length_drop, List.length_take]; rfl)) ?_; (with_reducible refine (spec_CountMissing.calls k _ _ t103 _ _ t106 a2 t109 t110 _ ?side1 ?side2 ?side3 ?side4 A13.out).mono ?_); (case side1 => repeat (first | exact (Kd.R_reads' HO105.out).2.2 | (with_reducible refine Kd.C_alloc ?_ _) | (with_reducible refine Kd.C_drewN ?_ _) | (with_reducible refine Kd.C_drew ?_))); (case side2 => exact (Kd.R_reads' HO105.out).2.1); (case side3 => repeat (first | exact (Kd.R_reads' HO108.out).2.2 | (with_reducible refine Kd.C_alloc ?_ _) | (with_reducible refine Kd.C_drewN ?_ _) | (with_reducible refine Kd.C_drew ?_))); (case side4 => exact (Kd.R_reads' HO108.out).2.1); rintro e w26 ⟨rfl, hb⟩; refine ⟨_, rfl, ?_⟩; have n0_ := Aside0.mk (Kd.R_below (by (with_reducible repeat (first | apply Kd.R_alloc | apply Kd.R_drewN | apply Kd.R_drew)); exact HO105.out) hb); have n1_ := Aside0.mk (Kd.R_below (by (with_reducible repeat (first | apply Kd.R_alloc | apply Kd.R_drewN | apply Kd.R_drew)); exact HO108.out) hb); have n2_ := Aside0.mk (blk_below (g := gb101) (o := .cells #[.slice A0_0 l0_0.length c0_0] 24 (0, 0)) (by (with_reducible repeat (first | refine blk_drewN ?_ _ | refine blk_drew ?_ | refine blk_alloc ?_ _)); exact BK101.out) hb); have n3_ := Aside0.mk (below_step (by repeat (first | (with_reducible first | exact HB.out | apply below_alloc | apply pw_below_drewN | apply below_drew1 | refine below_set ?_ GE101.out) | exact HB.out)) hb); clear HO105; clear HO108; clear BK101; clear HB; have HO105 := n0_; have HO108 := n1_; have BK101 := n2_; have HB := n3_; clear n0_ n1_ n2_ n3_; (try clear hb); (try clear hb2); (try clear hk); (try clear hi); have hcz27_0 : w26.cell? ⟨gb101, 0, none⟩ = some (.slice A0_0 l0_0.length c0_0) := (blk_cell BK101.out 0).trans rfl; have hfz27_0 := blk_frozen BK101.out 0) | ((with_reducible refine gate_callee (f := 17) rfl ?_); refine goesL_ (some 32) rfl rfl Try.func17 (by kernel_rfl) rfl #[.agg #[.slice A0_0 l0_0.length c0_0]] rfl (by (try simp only [List.map_toArray, List.map_cons, List.map_nil]); first | done | rfl | (simp only [List.length_drop, List.length_take]; rfl)) ?_; (with_reducible refine (laws_toSpace.calls k _ _ l0_0 t111 _ ?side1 ?side2 A14.out).mono ?_); (case side1 => repeat (first | exact (Kd.C_below HR0_0.out HB.out) | (with_reducible refine Kd.C_alloc ?_ _) | (with_reducible refine Kd.C_drewN ?_ _) | (with_reducible refine Kd.C_drew ?_))); (case side2 => exact HC0_0.out); rintro e w28 ⟨v112, rfl, ho0, hb⟩; refine ⟨_, rfl, ?_⟩; have n0_ := Aside0.mk (Kd.R_elder' (by (with_reducible repeat (first | apply Kd.R_alloc | apply Kd.R_drewN | apply Kd.R_drew)); exact HO105.out) (Kd.R_base ho0) hb); have n1_ := Aside0.mk (Kd.R_elder' (by (with_reducible repeat (first | apply Kd.R_alloc | apply Kd.R_drewN | apply Kd.R_drew)); exact HO108.out) (Kd.R_base ho0) hb); have n2_ := Aside0.mk (Kd.R_lower (Kd.R_new' (Kd.R_new' ho0 (Kd.R_lt (by (with_reducible repeat (first | apply Kd.R_alloc | apply Kd.R_drewN | apply Kd.R_drew)); exact HO105.out))) (Kd.R_lt (by (with_reducible repeat (first | apply Kd.R_alloc | apply Kd.R_drewN | apply Kd.R_drew)); exact HO108.out))) (below_size (by repeat (first | (with_reducible first | exact HB.out | apply below_alloc | apply pw_below_drewN | apply below_drew1 | refine below_set ?_ GE101.out) | exact HB.out)))); have n3_ := Aside0.mk (blk_below (g := gb101) (o := .cells #[.slice A0_0 l0_0.length c0_0] 24 (0, 0)) (by (with_reducible repeat (first | refine blk_drewN ?_ _ | refine blk_drew ?_ | refine blk_alloc ?_ _)); exact BK101.out) hb); have n4_ := Aside0.mk (below_step (by repeat (first | (with_reducible first | exact HB.out | apply below_alloc | apply pw_below_drewN | apply below_drew1 | refine below_set ?_ GE101.out) | exact HB.out)) hb); clear HO105; clear HO108; clear BK101; clear HB; have HO105 := n0_; have HO108 := n1_; have HO113 := n2_; have BK101 := n3_; have HB := n4_; clear n0_ n1_ n2_ n3_ n4_; (try clear hb); (try clear hb2); (try clear hk); (try clear hi); (try clear ho0)) | ((with_reducible refine gate_dst (N := 10) rfl ?_); refine box_event ?hg (N := 10) ?hd (cs := #[.slice none 0 0]) (t := 28) ?hr ?_; (case hd => rfl); (case hg => rfl); (case hr => first | (go_simp; done) | (go_simp; rfl)); intro gb114 hg w29 hbox hb; have n0_ := Aside0.mk (Kd.R_below (by (with_reducible repeat (first | apply Kd.R_alloc | apply Kd.R_drewN | apply Kd.R_drew)); exact HO105.out) hb); have n1_ := Aside0.mk (Kd.R_below (by (with_reducible repeat (first | apply Kd.R_alloc | apply Kd.R_drewN | apply Kd.R_drew)); exact HO108.out) hb); have n2_ := Aside0.mk (Kd.R_below (by (with_reducible repeat (first | apply Kd.R_alloc | apply Kd.R_drewN | apply Kd.R_drew)); exact HO113.out) hb); have n3_ := Aside0.mk (blk_below (g := gb101) (o := .cells #[.slice A0_0 l0_0.length c0_0] 24 (0, 0)) (by (with_reducible repeat (first | refine blk_drewN ?_ _ | refine blk_drew ?_ | refine blk_alloc ?_ _)); exact BK101.out) hb); have n4_ := Aside0.mk (below_step (by repeat (first | (with_reducible first | exact HB.out | apply below_alloc | apply pw_below_drewN | apply below_drew1 | refine below_set ?_ GE101.out) | exact HB.out)) hb); have n5_ := Aside0.mk (hbox); have n6_ := Aside0.mk ((by rw [hg]; exact (below_size (by repeat (first | (with_reducible first | exact HB.out | apply below_alloc | apply pw_below_drewN | apply below_drew1 | refine below_set ?_ GE101.out) | exact HB.out))) : w.heap.size ≤ gb114)); have n7_ := Aside0.mk ((by rw [hg]; exact (below_size (by repeat (first | (with_reducible first | exact HB.out | apply below_alloc | apply pw_below_drewN | apply below_drew1 | refine below_set ?_ GE101.out) | exact HB.out))) : w.heap.size ≤ gb114)); have n8_ := Aside0.mk ((by rw [hg]; exact Nat.ne_of_lt (blk_lt (g := gb101) (o := .cells #[.slice A0_0 l0_0.length c0_0] 24 (0, 0)) (by (with_reducible repeat (first | refine blk_drewN ?_ _ | refine blk_drew ?_ | refine blk_alloc ?_ _)); exact BK101.out)) : gb101 ≠ gb114)); have n9_ := Aside0.mk ((by rw [hg]; exact Nat.ne_of_gt (blk_lt (g := gb101) (o := .cells #[.slice A0_0 l0_0.length c0_0] 24 (0, 0)) (by (with_reducible repeat (first | refine blk_drewN ?_ _ | refine blk_drew ?_ | refine blk_alloc ?_ _)); exact BK101.out)) : gb114 ≠ gb101)); clear HO105; clear HO108; clear HO113; clear BK101; clear HB; have HO105 := n0_; have HO108 := n1_; have HO113 := n2_; have BK101 := n3_; have HB := n4_; have BK114 := n5_; have GW114 := n6_; have GE114 := n7_; have NB101_114 := n8_; have NB114_101 := n9_; clear n0_ n1_ n2_ n3_ n4_ n5_ n6_ n7_ n8_ n9_; clear hb hbox hg; obtain ⟨Ao30, co30, eo30⟩ := Kd.R_slice HO113.out; subst eo30; have hnb31 := NB114_101.out; have hnc31 := NB101_114.out; have hcz32_0 : w29.cell? ⟨gb114, 0, none⟩ = some (.slice none 0 0) := (blk_cell BK114.out 0).trans rfl; have hfz32_0 := blk_frozen BK114.out 0) | ((with_reducible refine gate_callee (f := 18) rfl ?_); refine goesL_ (some 34) rfl rfl Try.func18 (by kernel_rfl) rfl #[.slice A1 l1.length c1] rfl (by (try simp only [List.map_toArray, List.map_cons, List.map_nil]); first | done | rfl | (simp only [List.length_drop, List.length_take]; rfl)) ?_; (with_reducible refine (laws_toInt64S.calls k _ _ l1 t115 _ ?side1 ?side2 A15.out).mono ?_); (case side1 => exact Kd.C_below HR1.out (by repeat (first | (with_reducible first | exact HB.out | apply below_alloc | apply pw_below_drewN | apply below_drew1 | refine below_set ?_ GE101.out | refine below_set ?_ GE114.out) | exact HB.out))); (case side2 => exact HC1.out); rintro e w33 ⟨v116, rfl, ho0, hb⟩; refine ⟨_, rfl, ?_⟩; have n0_ := Aside0.mk (Kd.R_elder' (by (with_reducible repeat (first | apply Kd.R_alloc | apply Kd.R_drewN | apply Kd.R_drew)); exact (Kd.R_mono (Kd.R_far (p := ⟨gb114, 0, none⟩) (Kd.R_types HO105.out BK114.out (by decide)) (fun _ hk => hk.2) (.slice Ao30 t111.length co30)) (fun _ h_ => h_.1))) (Kd.R_base ho0) hb); have n1_ := Aside0.mk (Kd.R_elder' (by (with_reducible repeat (first | apply Kd.R_alloc | apply Kd.R_drewN | apply Kd.R_drew)); exact (Kd.R_mono (Kd.R_far (p := ⟨gb114, 0, none⟩) (Kd.R_types HO108.out BK114.out (by decide)) (fun _ hk => hk.2) (.slice Ao30 t111.length co30)) (fun _ h_ => h_.1))) (Kd.R_base ho0) hb); have n2_ := Aside0.mk (Kd.R_elder' (by (with_reducible repeat (first | apply Kd.R_alloc | apply Kd.R_drewN | apply Kd.R_drew)); exact (Kd.R_mono (Kd.R_far (p := ⟨gb114, 0, none⟩) (Kd.R_types HO113.out BK114.out (by decide)) (fun _ hk => hk.2) (.slice Ao30 t111.length co30)) (fun _ h_ => h_.1))) (Kd.R_base ho0) hb); have n3_ := Aside0.mk (Kd.R_lower (Kd.R_new' (Kd.R_new' (Kd.R_new' ho0 (Kd.R_lt (by (with_reducible repeat (first | apply Kd.R_alloc | apply Kd.R_drewN | apply Kd.R_drew)); exact (Kd.R_mono (Kd.R_far (p := ⟨gb114, 0, none⟩) (Kd.R_types HO105.out BK114.out (by decide)) (fun _ hk => hk.2) (.slice Ao30 t111.length co30)) (fun _ h_ => h_.1))))) (Kd.R_lt (by (with_reducible repeat (first | apply Kd.R_alloc | apply Kd.R_drewN | apply Kd.R_drew)); exact (Kd.R_mono (Kd.R_far (p := ⟨gb114, 0, none⟩) (Kd.R_types HO108.out BK114.out (by decide)) (fun _ hk => hk.2) (.slice Ao30 t111.length co30)) (fun _ h_ => h_.1))))) (Kd.R_lt (by (with_reducible repeat (first | apply Kd.R_alloc | apply Kd.R_drewN | apply Kd.R_drew)); exact (Kd.R_mono (Kd.R_far (p := ⟨gb114, 0, none⟩) (Kd.R_types HO113.out BK114.out (by decide)) (fun _ hk => hk.2) (.slice Ao30 t111.length co30)) (fun _ h_ => h_.1))))) (below_size (by repeat (first | (with_reducible first | exact HB.out | apply below_alloc | apply pw_below_drewN | apply below_drew1 | refine below_set ?_ GE101.out | refine below_set ?_ GE114.out) | exact HB.out)))); have n4_ := Aside0.mk (blk_below (g := gb101) (o := .cells #[.slice A0_0 l0_0.length c0_0] 24 (0, 0)) (by (with_reducible repeat (first | refine blk_drewN ?_ _ | refine blk_drew ?_ | refine blk_alloc ?_ _)); refine blk_far ?_ NB101_114.out _; (with_reducible repeat (first | refine blk_drewN ?_ _ | refine blk_drew ?_ | refine blk_alloc ?_ _)); exact BK101.out) hb); have n5_ := Aside0.mk (blk_below (g := gb114) (o := .cells #[.slice Ao30 t111.length co30] 28 (0, 0)) (by (with_reducible repeat (first | refine blk_drewN ?_ _ | refine blk_drew ?_ | refine blk_alloc ?_ _)); refine blk_put (cs := #[.slice none 0 0]) ?_ 0 _ rfl; (with_reducible repeat (first | refine blk_drewN ?_ _ | refine blk_drew ?_ | refine blk_alloc ?_ _)); exact BK114.out) hb); have n6_ := Aside0.mk (below_step (by repeat (first | (with_reducible first | exact HB.out | apply below_alloc | apply pw_below_drewN | apply below_drew1 | refine below_set ?_ GE101.out | refine below_set ?_ GE114.out) | exact HB.out)) hb); clear HO105; clear HO108; clear HO113; clear BK101; clear BK114; clear HB; have HO105 := n0_; have HO108 := n1_; have HO113 := n2_; have HO117 := n3_; have BK101 := n4_; have BK114 := n5_; have HB := n6_; clear n0_ n1_ n2_ n3_ n4_ n5_ n6_; (try clear hb); (try clear hb2); (try clear hk); (try clear hi); (try clear ho0); have hcz34_0 : w33.cell? ⟨gb114, 0, none⟩ = some (.slice Ao30 t111.length co30) := (blk_cell BK114.out 0).trans rfl; have hfz34_0 := blk_frozen BK114.out 0; obtain ⟨Ao35, co35, eo35⟩ := Kd.R_slice HO117.out; subst eo35) | ((with_reducible refine gate_callee (f := 32) rfl ?_); refine goesL_ (some 39) rfl rfl Try.func32 (by kernel_rfl) rfl #[.agg #[.slice Ao30 t111.length co30], .slice Ao35 t115.length co35, .int .i64 a2] rfl (by (try simp only [List.map_toArray, List.map_cons, List.map_nil]); first | done | rfl | (simp only [List.length_drop, List.length_take]; rfl)) ?_; (with_reducible refine (impl_CountMissing.calls _ _ t111 _ _ t115 a2 t118 t119 _ ?side1 ?side2 ?side3 ?side4 A16.out).mono ?_); (case side1 => repeat (first | exact (Kd.R_reads' HO113.out).2.2 | (with_reducible refine Kd.C_alloc ?_ _) | (with_reducible refine Kd.C_drewN ?_ _) | (with_reducible refine Kd.C_drew ?_))); (case side2 => exact (Kd.R_reads' HO113.out).2.1); (case side3 => repeat (first | exact (Kd.R_reads' HO117.out).2.2 | (with_reducible refine Kd.C_alloc ?_ _) | (with_reducible refine Kd.C_drewN ?_ _) | (with_reducible refine Kd.C_drew ?_))); (case side4 => exact (Kd.R_reads' HO117.out).2.1); rintro e w36 ⟨rfl, hb⟩; refine ⟨_, rfl, ?_⟩; have n0_ := Aside0.mk (Kd.R_below (by (with_reducible repeat (first | apply Kd.R_alloc | apply Kd.R_drewN | apply Kd.R_drew)); exact HO105.out) hb); have n1_ := Aside0.mk (Kd.R_below (by (with_reducible repeat (first | apply Kd.R_alloc | apply Kd.R_drewN | apply Kd.R_drew)); exact HO108.out) hb); have n2_ := Aside0.mk (Kd.R_below (by (with_reducible repeat (first | apply Kd.R_alloc | apply Kd.R_drewN | apply Kd.R_drew)); exact HO113.out) hb); have n3_ := Aside0.mk (Kd.R_below (by (with_reducible repeat (first | apply Kd.R_alloc | apply Kd.R_drewN | apply Kd.R_drew)); exact HO117.out) hb); have n4_ := Aside0.mk (blk_below (g := gb101) (o := .cells #[.slice A0_0 l0_0.length c0_0] 24 (0, 0)) (by (with_reducible repeat (first | refine blk_drewN ?_ _ | refine blk_drew ?_ | refine blk_alloc ?_ _)); exact BK101.out) hb); have n5_ := Aside0.mk (blk_below (g := gb114) (o := .cells #[.slice Ao30 t111.length co30] 28 (0, 0)) (by (with_reducible repeat (first | refine blk_drewN ?_ _ | refine blk_drew ?_ | refine blk_alloc ?_ _)); exact BK114.out) hb); have n6_ := Aside0.mk (below_step (by repeat (first | (with_reducible first | exact HB.out | apply below_alloc | apply pw_below_drewN | apply below_drew1 | refine below_set ?_ GE101.out | refine below_set ?_ GE114.out) | exact HB.out)) hb); clear HO105; clear HO108; clear HO113; clear HO117; clear BK101; clear BK114; clear HB; have HO105 := n0_; have HO108 := n1_; have HO113 := n2_; have HO117 := n3_; have BK101 := n4_; have BK114 := n5_; have HB := n6_; clear n0_ n1_ n2_ n3_ n4_ n5_ n6_; (try clear hb); (try clear hb2); (try clear hk); (try clear hi)))
      (try simp only [Act.put, List.setIfInBounds_toArray, List.set_cons_zero, List.set_cons_succ])
      go_cut [49] (fun v49 wc => ∃ (kq : Nat) (x49_16 : Bool), v49 = .bool x49_16 ∧ Aside0 (laws_FnExactCountMissing.j0 kq l1 t115 x49_16 l0_0 t111 = some r) ∧ Aside0 (kq ≤ k) ∧ Aside0 (Kd.R (Kd.int .i64) 2 wc w.heap.size (fun k_ => some k_ ≠ ((.slice Ao30 t111.length co30) : Value).ownBlock) (.slice Ao35 t115.length co35) t115) ∧ Aside0 (Kd.R (Kd.int .i64) 2 wc w.heap.size (fun k_ => some k_ ≠ ((.slice Ao35 t115.length co35) : Value).ownBlock) (.slice Ao30 t111.length co30) t111) ∧ Aside0 (wc.heap[gb101]? = some (.cells #[(.slice A0_0 l0_0.length c0_0)] 24 (0, 0))) ∧ Aside0 (wc.heap[gb114]? = some (.cells #[(.slice Ao30 t111.length co30)] 28 (0, 0))) ∧ Aside0 (Below w.heap.size w wc))
      case first =>
        have H := HC17.out
        clear HC17
        by_cases c37 : t118 = t109
        · rw [if_pos c37] at H
          have c37b0 : (t118 == t109) = true := beq_iff_eq.mpr c37
          have c37b1 : (t118 != t109) = false := bne_eq_false_iff_eq.mpr c37
          clear c37
          (first | rw [c37b0] | (simp only [i64_w, i32_w]; rw [c37b0]) | skip)
          have H' := Aside0.mk H
          clear H
          go_wp2
          go_meet
          case rel => exact ⟨_, ((t119 != t110)), (by first | rfl | (simp; done) | (simp [*]; done)), H', ⟨by first | omega | exact Nat.le_refl _⟩, ⟨by (with_reducible repeat (first | apply Kd.R_alloc | apply Kd.R_drewN | apply Kd.R_drew)); exact Kd.R_mono HO117.out (fun _ hk => hk.2)⟩, ⟨by (with_reducible repeat (first | apply Kd.R_alloc | apply Kd.R_drewN | apply Kd.R_drew)); exact Kd.R_mono HO113.out (fun _ hk => hk.2)⟩, ⟨by (with_reducible repeat (first | refine blk_drewN ?_ _ | refine blk_drew ?_ | refine blk_alloc ?_ _)); exact BK101.out⟩, ⟨by (with_reducible repeat (first | refine blk_drewN ?_ _ | refine blk_drew ?_ | refine blk_alloc ?_ _)); exact BK114.out⟩, ⟨by repeat (first | (with_reducible first | exact HB.out | apply below_alloc | apply pw_below_drewN | apply below_drew1 | refine below_set ?_ GE101.out | refine below_set ?_ GE114.out) | exact HB.out)⟩⟩
        · rw [if_neg c37] at H
          have c37b0 : (t118 == t109) = false := beq_eq_false_iff_ne.mpr c37
          have c37b1 : (t118 != t109) = true := bne_iff_ne.mpr c37
          (first | rw [c37b0] | (simp only [i64_w, i32_w]; rw [c37b0]) | skip)
          have H' := Aside0.mk H
          clear H
          go_wp2
          go_meet
          case rel => exact ⟨_, (true), (by first | rfl | (simp; done) | (simp [*]; done)), H', ⟨by first | omega | exact Nat.le_refl _⟩, ⟨by (with_reducible repeat (first | apply Kd.R_alloc | apply Kd.R_drewN | apply Kd.R_drew)); exact Kd.R_mono HO117.out (fun _ hk => hk.2)⟩, ⟨by (with_reducible repeat (first | apply Kd.R_alloc | apply Kd.R_drewN | apply Kd.R_drew)); exact Kd.R_mono HO113.out (fun _ hk => hk.2)⟩, ⟨by (with_reducible repeat (first | refine blk_drewN ?_ _ | refine blk_drew ?_ | refine blk_alloc ?_ _)); exact BK101.out⟩, ⟨by (with_reducible repeat (first | refine blk_drewN ?_ _ | refine blk_drew ?_ | refine blk_alloc ?_ _)); exact BK114.out⟩, ⟨by repeat (first | (with_reducible first | exact HB.out | apply below_alloc | apply pw_below_drewN | apply below_drew1 | refine below_set ?_ GE101.out | refine below_set ?_ GE114.out) | exact HB.out)⟩⟩
      case rest =>
        clear HC17
        try clear c1
        try clear p2
        try clear c3
        try clear c4
        try clear c4b0
        try clear c4b1
        try clear c7
        try clear c7b0
        try clear c15
        try clear c17
        try clear c18
        try clear c31
        try clear c32
        try clear c37
        try clear c37b0
        try clear c37b1
        try clear hcz19_0
        try clear hcz21_0
        try clear hcz27_0
        try clear hcz32_0
        try clear hcz34_0
        try clear hcz9_0
        try clear hfz19_0
        try clear hfz21_0
        try clear hfz27_0
        try clear hfz32_0
        try clear hfz34_0
        try clear hfz9_0
        obtain ⟨kq, x49_16, rfl, HA, HJ16, HO_11, HO_115000, BK101, BK114, HB⟩ := hcut
        cases kq with
        | zero => exact absurd HA.out (by simp [laws_FnExactCountMissing.j0])
        | succ kj16 =>
          have H := HA.out
          clear HA
          simp only [laws_FnExactCountMissing.j0] at H
          by_cases c38 : x49_16 = true
          · subst c38
            have H1 : (some false) = some r := by rw [if_pos rfl] at H; exact H
            clear H
            have H := H1
            clear H1
            obtain rfl := Option.some.inj H
            go_wp2
            go_ret
            exact ⟨by first | rfl | (simp [errW_none, errW_some] <;> rfl) | (simp [*, errW_none, errW_some] <;> rfl), by repeat (first | (with_reducible first | exact HB.out | apply below_alloc | apply pw_below_drewN | apply below_drew1 | refine below_set ?_ GE101.out | refine below_set ?_ GE114.out) | exact HB.out)⟩
          · replace c38 := Bool.eq_false_iff.mpr c38
            subst c38
            have H1 : ((laws_toSpace.f kj16 l0_0).bind fun t120 => ((laws_eqSpace.f kj16 t111 t120).bind fun t123 => (if t123 = true then ((laws_toInt64S.f kj16 l1).bind fun t124 => ((laws_eqInt64S.f kj16 t115 t124).bind fun t127 => (if t127 = true then (some true) else (some false)))) else (some false)))) = some r := by rw [if_neg (show ¬ (false = true) by decide)] at H; exact H
            clear H
            have H := H1
            clear H1
            replace H := Option.bind_eq_some_iff.mp H
            obtain ⟨t120, A390, H⟩ := H
            replace H : ((laws_eqSpace.f kj16 t111 t120).bind fun t123 => (if t123 = true then ((laws_toInt64S.f kj16 l1).bind fun t124 => ((laws_eqInt64S.f kj16 t115 t124).bind fun t127 => (if t127 = true then (some true) else (some false)))) else (some false))) = some r := H
            have A39 := Aside0.mk A390
            clear A390
            replace H := Option.bind_eq_some_iff.mp H
            obtain ⟨t123, A400, H⟩ := H
            replace H : (if t123 = true then ((laws_toInt64S.f kj16 l1).bind fun t124 => ((laws_eqInt64S.f kj16 t115 t124).bind fun t127 => (if t127 = true then (some true) else (some false)))) else (some false)) = some r := H
            have A40 := Aside0.mk A400
            clear A400
            by_cases c41 : t123 = true
            · subst c41
              have H1 : ((laws_toInt64S.f kj16 l1).bind fun t124 => ((laws_eqInt64S.f kj16 t115 t124).bind fun t127 => (if t127 = true then (some true) else (some false)))) = some r := by rw [if_pos rfl] at H; exact H
              clear H
              have H := H1
              clear H1
              replace H := Option.bind_eq_some_iff.mp H
              obtain ⟨t124, A420, H⟩ := H
              replace H : ((laws_eqInt64S.f kj16 t115 t124).bind fun t127 => (if t127 = true then (some true) else (some false))) = some r := H
              have A42 := Aside0.mk A420
              clear A420
              replace H := Option.bind_eq_some_iff.mp H
              obtain ⟨t127, A430, H⟩ := H
              replace H : (if t127 = true then (some true) else (some false)) = some r := H
              have A43 := Aside0.mk A430
              clear A430
              by_cases c44 : t127 = true
              · subst c44
                have H1 : (some true) = some r := by rw [if_pos rfl] at H; exact H
                clear H
                have H := H1
                clear H1
                obtain rfl := Option.some.inj H
                try go_wp2
                have n0_ := Aside0.mk (Kd.R_drew HO_11.out)
                have n1_ := Aside0.mk (Kd.R_drew HO_115000.out)
                have n2_ := Aside0.mk (blk_drew BK101.out)
                have n3_ := Aside0.mk (blk_drew BK114.out)
                have n4_ := Aside0.mk (below_drew1 HB.out)
                clear HO_11
                clear HO_115000
                clear BK101
                clear BK114
                clear HB
                have HO_11 := n0_
                have HO_115000 := n1_
                have BK101 := n2_
                have BK114 := n3_
                have HB := n4_
                clear n0_ n1_ n2_ n3_ n4_
                refine start_ (n := 5) (S := fun w' => w'.cell? ⟨gb114, 0, none⟩ = some (.slice Ao30 t111.length co30) ∧ w'.cell? ⟨gb101, 0, none⟩ = some (.slice A0_0 l0_0.length c0_0)) (ds := []) #[false, false, false, false, false] (by kernel_rfl) rfl rfl ⟨(blk_cell BK114.out 0).trans rfl, (blk_cell BK101.out 0).trans rfl⟩ (fun hHeld => ?_)
                generalize wc.drew = w45 at HO_11 HO_115000 BK101 BK114 HB hHeld ⊢
                refine take_ (i := 0) (N := some 50) (v := ?_) (a' := ?_) #[true, false, false, false, false] rfl rfl (by kernel_rfl) (fun _ _ _ h => h) (Or.inl ⟨by rfl, ?_⟩) hHeld ?_ ?_
                rotate_left
                · rintro w' ⟨s0, s1⟩
                  go_simp
                  with_reducible rfl
                rotate_left
                · simp only [Act.put, List.setIfInBounds_toArray, List.set_cons_zero, List.set_cons_succ, i64_w, i32_w]
                  rfl
                refine take_ (i := 1) (N := some 51) (v := ?_) (a' := ?_) #[true, true, false, false, false] rfl rfl (by kernel_rfl) (fun _ _ _ h => h) (Or.inl ⟨by rfl, ?_⟩) hHeld ?_ ?_
                rotate_left
                · rintro w' ⟨s0, s1⟩
                  go_simp
                  with_reducible rfl
                rotate_left
                · simp only [Act.put, List.setIfInBounds_toArray, List.set_cons_zero, List.set_cons_succ, i64_w, i32_w]
                  rfl
                refine one_ (i := 2) (N := some 52) #[true, true, true, false, false] rfl rfl (by kernel_rfl) (by decide) (fun K hK => ?_)
                refine goes_ Try.func17 (by kernel_rfl) rfl #[.agg #[.slice A0_0 l0_0.length c0_0]] (by rfl) rfl rfl (by (try simp only [List.map_toArray, List.map_cons, List.map_nil]); first | done | rfl | (simp only [List.length_drop, List.length_take]; rfl)) ?_
                with_reducible refine (laws_toSpace.calls kj16 _ _ l0_0 t120 _ ?side1 ?side2 A39.out).mono ?_
                (case side1 => repeat (first | exact (Kd.C_below HR0_0.out HB.out) | (with_reducible refine Kd.C_alloc ?_ _) | (with_reducible refine Kd.C_drewN ?_ _) | (with_reducible refine Kd.C_drew ?_)))
                (case side2 => exact HC0_0.out)
                rintro e w46 ⟨v121, rfl, ho0, hb⟩
                refine ⟨_, rfl, ?_⟩
                have n0_ := Aside0.mk (Kd.R_elder' (by (with_reducible repeat (first | apply Kd.R_alloc | apply Kd.R_drewN | apply Kd.R_drew)); exact HO_11.out) (Kd.R_base ho0) hb)
                have n1_ := Aside0.mk (Kd.R_elder' (by (with_reducible repeat (first | apply Kd.R_alloc | apply Kd.R_drewN | apply Kd.R_drew)); exact HO_115000.out) (Kd.R_base ho0) hb)
                have n2_ := Aside0.mk (Kd.R_lower (Kd.R_new' (Kd.R_new' ho0 (Kd.R_lt (by (with_reducible repeat (first | apply Kd.R_alloc | apply Kd.R_drewN | apply Kd.R_drew)); exact HO_11.out))) (Kd.R_lt (by (with_reducible repeat (first | apply Kd.R_alloc | apply Kd.R_drewN | apply Kd.R_drew)); exact HO_115000.out))) (below_size (by repeat (first | (with_reducible first | exact HB.out | apply below_alloc | apply pw_below_drewN | apply below_drew1 | refine below_set ?_ GE101.out | refine below_set ?_ GE114.out) | exact HB.out))))
                have n3_ := Aside0.mk (blk_below (g := gb101) (o := .cells #[.slice A0_0 l0_0.length c0_0] 24 (0, 0)) (by (with_reducible repeat (first | refine blk_drewN ?_ _ | refine blk_drew ?_ | refine blk_alloc ?_ _)); exact BK101.out) hb)
                have n4_ := Aside0.mk (blk_below (g := gb114) (o := .cells #[.slice Ao30 t111.length co30] 28 (0, 0)) (by (with_reducible repeat (first | refine blk_drewN ?_ _ | refine blk_drew ?_ | refine blk_alloc ?_ _)); exact BK114.out) hb)
                have n5_ := Aside0.mk (below_step (by repeat (first | (with_reducible first | exact HB.out | apply below_alloc | apply pw_below_drewN | apply below_drew1 | refine below_set ?_ GE101.out | refine below_set ?_ GE114.out) | exact HB.out)) hb)
                clear HO_11
                clear HO_115000
                clear BK101
                clear BK114
                clear HB
                have HO_11 := n0_
                have HO_115000 := n1_
                have HO122 := n2_
                have BK101 := n3_
                have BK114 := n4_
                have HB := n5_
                clear n0_ n1_ n2_ n3_ n4_ n5_
                (try clear hb)
                (try clear hb2)
                (try clear hk)
                (try clear hi)
                (try clear ho0)
                obtain ⟨Ao47, co47, eo47⟩ := Kd.R_slice HO122.out
                (first | subst eo47 | (injection eo47 with f1_ f2_ f3_; have f4_ := f1_.symm; have f5_ := f3_.symm; clear f1_ f2_ f3_; subst f4_; subst f5_))
                refine hK.out _ _ ⟨(blk_cell BK114.out 0).trans rfl, (blk_cell BK101.out 0).trans rfl⟩ (fun hHeld => ?_)
                clear hK K
                refine norm_ (a' := ?_) ?_ ?_
                rotate_left
                · show Act.put _ (some 52) _ = _
                  simp only [Act.put, List.setIfInBounds_toArray, List.set_cons_zero, List.set_cons_succ, i64_w, i32_w]
                  rfl
                refine one_ (i := 3) (N := some 53) #[true, true, true, true, false] rfl rfl (by kernel_rfl) (by decide) (fun K hK => ?_)
                refine goes_ Try.func20 (by kernel_rfl) rfl #[.agg #[.slice Ao30 t111.length co30], .agg #[.slice Ao47 t120.length co47]] (by rfl) rfl rfl (by (try simp only [List.map_toArray, List.map_cons, List.map_nil]); first | done | rfl | (simp only [List.length_drop, List.length_take]; rfl)) ?_
                with_reducible refine (laws_eqSpace.calls kj16 _ _ t111 _ _ t120 true _ ?side1 ?side2 ?side3 ?side4 A40.out).mono ?_
                (case side1 => repeat (first | exact (Kd.R_reads' HO_115000.out).2.2 | (with_reducible refine Kd.C_alloc ?_ _) | (with_reducible refine Kd.C_drewN ?_ _) | (with_reducible refine Kd.C_drew ?_)))
                (case side2 => exact (Kd.R_reads' HO_115000.out).2.1)
                (case side3 => repeat (first | exact (Kd.R_reads' HO122.out).2.2 | (with_reducible refine Kd.C_alloc ?_ _) | (with_reducible refine Kd.C_drewN ?_ _) | (with_reducible refine Kd.C_drew ?_)))
                (case side4 => exact (Kd.R_reads' HO122.out).2.1)
                rintro e w48 ⟨rfl, hb⟩
                refine ⟨_, rfl, ?_⟩
                have n0_ := Aside0.mk (Kd.R_below (by (with_reducible repeat (first | apply Kd.R_alloc | apply Kd.R_drewN | apply Kd.R_drew)); exact HO_11.out) hb)
                have n1_ := Aside0.mk (Kd.R_below (by (with_reducible repeat (first | apply Kd.R_alloc | apply Kd.R_drewN | apply Kd.R_drew)); exact HO_115000.out) hb)
                have n2_ := Aside0.mk (Kd.R_below (by (with_reducible repeat (first | apply Kd.R_alloc | apply Kd.R_drewN | apply Kd.R_drew)); exact HO122.out) hb)
                have n3_ := Aside0.mk (blk_below (g := gb101) (o := .cells #[.slice A0_0 l0_0.length c0_0] 24 (0, 0)) (by (with_reducible repeat (first | refine blk_drewN ?_ _ | refine blk_drew ?_ | refine blk_alloc ?_ _)); exact BK101.out) hb)
                have n4_ := Aside0.mk (blk_below (g := gb114) (o := .cells #[.slice Ao30 t111.length co30] 28 (0, 0)) (by (with_reducible repeat (first | refine blk_drewN ?_ _ | refine blk_drew ?_ | refine blk_alloc ?_ _)); exact BK114.out) hb)
                have n5_ := Aside0.mk (below_step (by repeat (first | (with_reducible first | exact HB.out | apply below_alloc | apply pw_below_drewN | apply below_drew1 | refine below_set ?_ GE101.out | refine below_set ?_ GE114.out) | exact HB.out)) hb)
                clear HO_11
                clear HO_115000
                clear HO122
                clear BK101
                clear BK114
                clear HB
                have HO_11 := n0_
                have HO_115000 := n1_
                have HO122 := n2_
                have BK101 := n3_
                have BK114 := n4_
                have HB := n5_
                clear n0_ n1_ n2_ n3_ n4_ n5_
                (try clear hb)
                (try clear hb2)
                (try clear hk)
                (try clear hi)
                refine hK.out _ _ ⟨(blk_cell BK114.out 0).trans rfl, (blk_cell BK101.out 0).trans rfl⟩ (fun hHeld => ?_)
                clear hK K
                refine norm_ (a' := ?_) ?_ ?_
                rotate_left
                · show Act.put _ (some 53) _ = _
                  simp only [Act.put, List.setIfInBounds_toArray, List.set_cons_zero, List.set_cons_succ, i64_w, i32_w]
                  rfl
                refine pure_ (i := 4) (N := some 54) (v := ?_) (a' := ?_) #[true, true, true, true, true] rfl rfl (by kernel_rfl) (fun _ _ _ h => h) (Or.inl ⟨by rfl, ?_⟩) ?_ ?_
                rotate_left
                · intro w'
                  go_simp
                  with_reducible rfl
                rotate_left
                · simp only [Act.put, List.setIfInBounds_toArray, List.set_cons_zero, List.set_cons_succ, i64_w, i32_w]
                  rfl
                refine done_ (by kernel_rfl) ?_
                try go_wp2_with (first | ((with_reducible refine gate_callee (f := 18) rfl ?_); refine goesL_ (some 57) rfl rfl Try.func18 (by kernel_rfl) rfl #[.slice A1 l1.length c1] rfl (by (try simp only [List.map_toArray, List.map_cons, List.map_nil]); first | done | rfl | (simp only [List.length_drop, List.length_take]; rfl)) ?_; (with_reducible refine (laws_toInt64S.calls kj16 _ _ l1 t124 _ ?side1 ?side2 A42.out).mono ?_); (case side1 => repeat (first | exact (Kd.C_below HR1.out HB.out) | (with_reducible refine Kd.C_alloc ?_ _) | (with_reducible refine Kd.C_drewN ?_ _) | (with_reducible refine Kd.C_drew ?_))); (case side2 => exact HC1.out); rintro e w49 ⟨v125, rfl, ho0, hb⟩; refine ⟨_, rfl, ?_⟩; have n0_ := Aside0.mk (Kd.R_elder' (by (with_reducible repeat (first | apply Kd.R_alloc | apply Kd.R_drewN | apply Kd.R_drew)); exact HO_11.out) (Kd.R_base ho0) hb); have n1_ := Aside0.mk (Kd.R_elder' (by (with_reducible repeat (first | apply Kd.R_alloc | apply Kd.R_drewN | apply Kd.R_drew)); exact HO_115000.out) (Kd.R_base ho0) hb); have n2_ := Aside0.mk (Kd.R_elder' (by (with_reducible repeat (first | apply Kd.R_alloc | apply Kd.R_drewN | apply Kd.R_drew)); exact HO122.out) (Kd.R_base ho0) hb); have n3_ := Aside0.mk (Kd.R_lower (Kd.R_new' (Kd.R_new' (Kd.R_new' ho0 (Kd.R_lt (by (with_reducible repeat (first | apply Kd.R_alloc | apply Kd.R_drewN | apply Kd.R_drew)); exact HO_11.out))) (Kd.R_lt (by (with_reducible repeat (first | apply Kd.R_alloc | apply Kd.R_drewN | apply Kd.R_drew)); exact HO_115000.out))) (Kd.R_lt (by (with_reducible repeat (first | apply Kd.R_alloc | apply Kd.R_drewN | apply Kd.R_drew)); exact HO122.out))) (below_size (by repeat (first | (with_reducible first | exact HB.out | apply below_alloc | apply pw_below_drewN | apply below_drew1 | refine below_set ?_ GE101.out | refine below_set ?_ GE114.out) | exact HB.out)))); have n4_ := Aside0.mk (blk_below (g := gb101) (o := .cells #[.slice A0_0 l0_0.length c0_0] 24 (0, 0)) (by (with_reducible repeat (first | refine blk_drewN ?_ _ | refine blk_drew ?_ | refine blk_alloc ?_ _)); exact BK101.out) hb); have n5_ := Aside0.mk (blk_below (g := gb114) (o := .cells #[.slice Ao30 t111.length co30] 28 (0, 0)) (by (with_reducible repeat (first | refine blk_drewN ?_ _ | refine blk_drew ?_ | refine blk_alloc ?_ _)); exact BK114.out) hb); have n6_ := Aside0.mk (below_step (by repeat (first | (with_reducible first | exact HB.out | apply below_alloc | apply pw_below_drewN | apply below_drew1 | refine below_set ?_ GE101.out | refine below_set ?_ GE114.out) | exact HB.out)) hb); clear HO_11; clear HO_115000; clear HO122; clear BK101; clear BK114; clear HB; have HO_11 := n0_; have HO_115000 := n1_; have HO122 := n2_; have HO126 := n3_; have BK101 := n4_; have BK114 := n5_; have HB := n6_; clear n0_ n1_ n2_ n3_ n4_ n5_ n6_; (try clear hb); (try clear hb2); (try clear hk); (try clear hi); (try clear ho0); obtain ⟨Ao50, co50, eo50⟩ := Kd.R_slice HO126.out; subst eo50) | ((with_reducible refine gate_callee (f := 21) rfl ?_); refine goesL_ (some 58) rfl rfl Try.func21 (by kernel_rfl) rfl #[.slice Ao35 t115.length co35, .slice Ao50 t124.length co50] rfl (by (try simp only [List.map_toArray, List.map_cons, List.map_nil]); first | done | rfl | (simp only [List.length_drop, List.length_take]; rfl)) ?_; (with_reducible refine (laws_eqInt64S.calls kj16 _ _ t115 _ _ t124 true _ ?side1 ?side2 ?side3 ?side4 A43.out).mono ?_); (case side1 => repeat (first | exact (Kd.R_reads' HO_11.out).2.2 | (with_reducible refine Kd.C_alloc ?_ _) | (with_reducible refine Kd.C_drewN ?_ _) | (with_reducible refine Kd.C_drew ?_))); (case side2 => exact (Kd.R_reads' HO_11.out).2.1); (case side3 => repeat (first | exact (Kd.R_reads' HO126.out).2.2 | (with_reducible refine Kd.C_alloc ?_ _) | (with_reducible refine Kd.C_drewN ?_ _) | (with_reducible refine Kd.C_drew ?_))); (case side4 => exact (Kd.R_reads' HO126.out).2.1); rintro e w' ⟨rfl, ⟨nd, rfl⟩⟩; refine ⟨_, rfl, ?_⟩))
                go_ret
                exact ⟨by first | rfl | (simp [errW_none, errW_some] <;> rfl) | (simp [*, errW_none, errW_some] <;> rfl), by repeat (first | (with_reducible first | exact HB.out | apply below_alloc | apply pw_below_drewN | apply below_drew1 | refine below_set ?_ GE101.out | refine below_set ?_ GE114.out) | exact HB.out)⟩
              · replace c44 := Bool.eq_false_iff.mpr c44
                subst c44
                have H1 : (some false) = some r := by rw [if_neg (show ¬ (false = true) by decide)] at H; exact H
                clear H
                have H := H1
                clear H1
                obtain rfl := Option.some.inj H
                try go_wp2
                have n0_ := Aside0.mk (Kd.R_drew HO_11.out)
                have n1_ := Aside0.mk (Kd.R_drew HO_115000.out)
                have n2_ := Aside0.mk (blk_drew BK101.out)
                have n3_ := Aside0.mk (blk_drew BK114.out)
                have n4_ := Aside0.mk (below_drew1 HB.out)
                clear HO_11
                clear HO_115000
                clear BK101
                clear BK114
                clear HB
                have HO_11 := n0_
                have HO_115000 := n1_
                have BK101 := n2_
                have BK114 := n3_
                have HB := n4_
                clear n0_ n1_ n2_ n3_ n4_
                refine start_ (n := 5) (S := fun w' => w'.cell? ⟨gb114, 0, none⟩ = some (.slice Ao30 t111.length co30) ∧ w'.cell? ⟨gb101, 0, none⟩ = some (.slice A0_0 l0_0.length c0_0)) (ds := []) #[false, false, false, false, false] (by kernel_rfl) rfl rfl ⟨(blk_cell BK114.out 0).trans rfl, (blk_cell BK101.out 0).trans rfl⟩ (fun hHeld => ?_)
                generalize wc.drew = w51 at HO_11 HO_115000 BK101 BK114 HB hHeld ⊢
                refine take_ (i := 0) (N := some 50) (v := ?_) (a' := ?_) #[true, false, false, false, false] rfl rfl (by kernel_rfl) (fun _ _ _ h => h) (Or.inl ⟨by rfl, ?_⟩) hHeld ?_ ?_
                rotate_left
                · rintro w' ⟨s0, s1⟩
                  go_simp
                  with_reducible rfl
                rotate_left
                · simp only [Act.put, List.setIfInBounds_toArray, List.set_cons_zero, List.set_cons_succ, i64_w, i32_w]
                  rfl
                refine take_ (i := 1) (N := some 51) (v := ?_) (a' := ?_) #[true, true, false, false, false] rfl rfl (by kernel_rfl) (fun _ _ _ h => h) (Or.inl ⟨by rfl, ?_⟩) hHeld ?_ ?_
                rotate_left
                · rintro w' ⟨s0, s1⟩
                  go_simp
                  with_reducible rfl
                rotate_left
                · simp only [Act.put, List.setIfInBounds_toArray, List.set_cons_zero, List.set_cons_succ, i64_w, i32_w]
                  rfl
                refine one_ (i := 2) (N := some 52) #[true, true, true, false, false] rfl rfl (by kernel_rfl) (by decide) (fun K hK => ?_)
                refine goes_ Try.func17 (by kernel_rfl) rfl #[.agg #[.slice A0_0 l0_0.length c0_0]] (by rfl) rfl rfl (by (try simp only [List.map_toArray, List.map_cons, List.map_nil]); first | done | rfl | (simp only [List.length_drop, List.length_take]; rfl)) ?_
                with_reducible refine (laws_toSpace.calls kj16 _ _ l0_0 t120 _ ?side1 ?side2 A39.out).mono ?_
                (case side1 => repeat (first | exact (Kd.C_below HR0_0.out HB.out) | (with_reducible refine Kd.C_alloc ?_ _) | (with_reducible refine Kd.C_drewN ?_ _) | (with_reducible refine Kd.C_drew ?_)))
                (case side2 => exact HC0_0.out)
                rintro e w52 ⟨v121, rfl, ho0, hb⟩
                refine ⟨_, rfl, ?_⟩
                have n0_ := Aside0.mk (Kd.R_elder' (by (with_reducible repeat (first | apply Kd.R_alloc | apply Kd.R_drewN | apply Kd.R_drew)); exact HO_11.out) (Kd.R_base ho0) hb)
                have n1_ := Aside0.mk (Kd.R_elder' (by (with_reducible repeat (first | apply Kd.R_alloc | apply Kd.R_drewN | apply Kd.R_drew)); exact HO_115000.out) (Kd.R_base ho0) hb)
                have n2_ := Aside0.mk (Kd.R_lower (Kd.R_new' (Kd.R_new' ho0 (Kd.R_lt (by (with_reducible repeat (first | apply Kd.R_alloc | apply Kd.R_drewN | apply Kd.R_drew)); exact HO_11.out))) (Kd.R_lt (by (with_reducible repeat (first | apply Kd.R_alloc | apply Kd.R_drewN | apply Kd.R_drew)); exact HO_115000.out))) (below_size (by repeat (first | (with_reducible first | exact HB.out | apply below_alloc | apply pw_below_drewN | apply below_drew1 | refine below_set ?_ GE101.out | refine below_set ?_ GE114.out) | exact HB.out))))
                have n3_ := Aside0.mk (blk_below (g := gb101) (o := .cells #[.slice A0_0 l0_0.length c0_0] 24 (0, 0)) (by (with_reducible repeat (first | refine blk_drewN ?_ _ | refine blk_drew ?_ | refine blk_alloc ?_ _)); exact BK101.out) hb)
                have n4_ := Aside0.mk (blk_below (g := gb114) (o := .cells #[.slice Ao30 t111.length co30] 28 (0, 0)) (by (with_reducible repeat (first | refine blk_drewN ?_ _ | refine blk_drew ?_ | refine blk_alloc ?_ _)); exact BK114.out) hb)
                have n5_ := Aside0.mk (below_step (by repeat (first | (with_reducible first | exact HB.out | apply below_alloc | apply pw_below_drewN | apply below_drew1 | refine below_set ?_ GE101.out | refine below_set ?_ GE114.out) | exact HB.out)) hb)
                clear HO_11
                clear HO_115000
                clear BK101
                clear BK114
                clear HB
                have HO_11 := n0_
                have HO_115000 := n1_
                have HO122 := n2_
                have BK101 := n3_
                have BK114 := n4_
                have HB := n5_
                clear n0_ n1_ n2_ n3_ n4_ n5_
                (try clear hb)
                (try clear hb2)
                (try clear hk)
                (try clear hi)
                (try clear ho0)
                obtain ⟨Ao53, co53, eo53⟩ := Kd.R_slice HO122.out
                (first | subst eo53 | (injection eo53 with f1_ f2_ f3_; have f4_ := f1_.symm; have f5_ := f3_.symm; clear f1_ f2_ f3_; subst f4_; subst f5_))
                refine hK.out _ _ ⟨(blk_cell BK114.out 0).trans rfl, (blk_cell BK101.out 0).trans rfl⟩ (fun hHeld => ?_)
                clear hK K
                refine norm_ (a' := ?_) ?_ ?_
                rotate_left
                · show Act.put _ (some 52) _ = _
                  simp only [Act.put, List.setIfInBounds_toArray, List.set_cons_zero, List.set_cons_succ, i64_w, i32_w]
                  rfl
                refine one_ (i := 3) (N := some 53) #[true, true, true, true, false] rfl rfl (by kernel_rfl) (by decide) (fun K hK => ?_)
                refine goes_ Try.func20 (by kernel_rfl) rfl #[.agg #[.slice Ao30 t111.length co30], .agg #[.slice Ao53 t120.length co53]] (by rfl) rfl rfl (by (try simp only [List.map_toArray, List.map_cons, List.map_nil]); first | done | rfl | (simp only [List.length_drop, List.length_take]; rfl)) ?_
                with_reducible refine (laws_eqSpace.calls kj16 _ _ t111 _ _ t120 true _ ?side1 ?side2 ?side3 ?side4 A40.out).mono ?_
                (case side1 => repeat (first | exact (Kd.R_reads' HO_115000.out).2.2 | (with_reducible refine Kd.C_alloc ?_ _) | (with_reducible refine Kd.C_drewN ?_ _) | (with_reducible refine Kd.C_drew ?_)))
                (case side2 => exact (Kd.R_reads' HO_115000.out).2.1)
                (case side3 => repeat (first | exact (Kd.R_reads' HO122.out).2.2 | (with_reducible refine Kd.C_alloc ?_ _) | (with_reducible refine Kd.C_drewN ?_ _) | (with_reducible refine Kd.C_drew ?_)))
                (case side4 => exact (Kd.R_reads' HO122.out).2.1)
                rintro e w54 ⟨rfl, hb⟩
                refine ⟨_, rfl, ?_⟩
                have n0_ := Aside0.mk (Kd.R_below (by (with_reducible repeat (first | apply Kd.R_alloc | apply Kd.R_drewN | apply Kd.R_drew)); exact HO_11.out) hb)
                have n1_ := Aside0.mk (Kd.R_below (by (with_reducible repeat (first | apply Kd.R_alloc | apply Kd.R_drewN | apply Kd.R_drew)); exact HO_115000.out) hb)
                have n2_ := Aside0.mk (Kd.R_below (by (with_reducible repeat (first | apply Kd.R_alloc | apply Kd.R_drewN | apply Kd.R_drew)); exact HO122.out) hb)
                have n3_ := Aside0.mk (blk_below (g := gb101) (o := .cells #[.slice A0_0 l0_0.length c0_0] 24 (0, 0)) (by (with_reducible repeat (first | refine blk_drewN ?_ _ | refine blk_drew ?_ | refine blk_alloc ?_ _)); exact BK101.out) hb)
                have n4_ := Aside0.mk (blk_below (g := gb114) (o := .cells #[.slice Ao30 t111.length co30] 28 (0, 0)) (by (with_reducible repeat (first | refine blk_drewN ?_ _ | refine blk_drew ?_ | refine blk_alloc ?_ _)); exact BK114.out) hb)
                have n5_ := Aside0.mk (below_step (by repeat (first | (with_reducible first | exact HB.out | apply below_alloc | apply pw_below_drewN | apply below_drew1 | refine below_set ?_ GE101.out | refine below_set ?_ GE114.out) | exact HB.out)) hb)
                clear HO_11
                clear HO_115000
                clear HO122
                clear BK101
                clear BK114
                clear HB
                have HO_11 := n0_
                have HO_115000 := n1_
                have HO122 := n2_
                have BK101 := n3_
                have BK114 := n4_
                have HB := n5_
                clear n0_ n1_ n2_ n3_ n4_ n5_
                (try clear hb)
                (try clear hb2)
                (try clear hk)
                (try clear hi)
                refine hK.out _ _ ⟨(blk_cell BK114.out 0).trans rfl, (blk_cell BK101.out 0).trans rfl⟩ (fun hHeld => ?_)
                clear hK K
                refine norm_ (a' := ?_) ?_ ?_
                rotate_left
                · show Act.put _ (some 53) _ = _
                  simp only [Act.put, List.setIfInBounds_toArray, List.set_cons_zero, List.set_cons_succ, i64_w, i32_w]
                  rfl
                refine pure_ (i := 4) (N := some 54) (v := ?_) (a' := ?_) #[true, true, true, true, true] rfl rfl (by kernel_rfl) (fun _ _ _ h => h) (Or.inl ⟨by rfl, ?_⟩) ?_ ?_
                rotate_left
                · intro w'
                  go_simp
                  with_reducible rfl
                rotate_left
                · simp only [Act.put, List.setIfInBounds_toArray, List.set_cons_zero, List.set_cons_succ, i64_w, i32_w]
                  rfl
                refine done_ (by kernel_rfl) ?_
                try go_wp2_with (first | ((with_reducible refine gate_callee (f := 18) rfl ?_); refine goesL_ (some 57) rfl rfl Try.func18 (by kernel_rfl) rfl #[.slice A1 l1.length c1] rfl (by (try simp only [List.map_toArray, List.map_cons, List.map_nil]); first | done | rfl | (simp only [List.length_drop, List.length_take]; rfl)) ?_; (with_reducible refine (laws_toInt64S.calls kj16 _ _ l1 t124 _ ?side1 ?side2 A42.out).mono ?_); (case side1 => repeat (first | exact (Kd.C_below HR1.out HB.out) | (with_reducible refine Kd.C_alloc ?_ _) | (with_reducible refine Kd.C_drewN ?_ _) | (with_reducible refine Kd.C_drew ?_))); (case side2 => exact HC1.out); rintro e w55 ⟨v125, rfl, ho0, hb⟩; refine ⟨_, rfl, ?_⟩; have n0_ := Aside0.mk (Kd.R_elder' (by (with_reducible repeat (first | apply Kd.R_alloc | apply Kd.R_drewN | apply Kd.R_drew)); exact HO_11.out) (Kd.R_base ho0) hb); have n1_ := Aside0.mk (Kd.R_elder' (by (with_reducible repeat (first | apply Kd.R_alloc | apply Kd.R_drewN | apply Kd.R_drew)); exact HO_115000.out) (Kd.R_base ho0) hb); have n2_ := Aside0.mk (Kd.R_elder' (by (with_reducible repeat (first | apply Kd.R_alloc | apply Kd.R_drewN | apply Kd.R_drew)); exact HO122.out) (Kd.R_base ho0) hb); have n3_ := Aside0.mk (Kd.R_lower (Kd.R_new' (Kd.R_new' (Kd.R_new' ho0 (Kd.R_lt (by (with_reducible repeat (first | apply Kd.R_alloc | apply Kd.R_drewN | apply Kd.R_drew)); exact HO_11.out))) (Kd.R_lt (by (with_reducible repeat (first | apply Kd.R_alloc | apply Kd.R_drewN | apply Kd.R_drew)); exact HO_115000.out))) (Kd.R_lt (by (with_reducible repeat (first | apply Kd.R_alloc | apply Kd.R_drewN | apply Kd.R_drew)); exact HO122.out))) (below_size (by repeat (first | (with_reducible first | exact HB.out | apply below_alloc | apply pw_below_drewN | apply below_drew1 | refine below_set ?_ GE101.out | refine below_set ?_ GE114.out) | exact HB.out)))); have n4_ := Aside0.mk (blk_below (g := gb101) (o := .cells #[.slice A0_0 l0_0.length c0_0] 24 (0, 0)) (by (with_reducible repeat (first | refine blk_drewN ?_ _ | refine blk_drew ?_ | refine blk_alloc ?_ _)); exact BK101.out) hb); have n5_ := Aside0.mk (blk_below (g := gb114) (o := .cells #[.slice Ao30 t111.length co30] 28 (0, 0)) (by (with_reducible repeat (first | refine blk_drewN ?_ _ | refine blk_drew ?_ | refine blk_alloc ?_ _)); exact BK114.out) hb); have n6_ := Aside0.mk (below_step (by repeat (first | (with_reducible first | exact HB.out | apply below_alloc | apply pw_below_drewN | apply below_drew1 | refine below_set ?_ GE101.out | refine below_set ?_ GE114.out) | exact HB.out)) hb); clear HO_11; clear HO_115000; clear HO122; clear BK101; clear BK114; clear HB; have HO_11 := n0_; have HO_115000 := n1_; have HO122 := n2_; have HO126 := n3_; have BK101 := n4_; have BK114 := n5_; have HB := n6_; clear n0_ n1_ n2_ n3_ n4_ n5_ n6_; (try clear hb); (try clear hb2); (try clear hk); (try clear hi); (try clear ho0); obtain ⟨Ao56, co56, eo56⟩ := Kd.R_slice HO126.out; subst eo56) | ((with_reducible refine gate_callee (f := 21) rfl ?_); refine goesL_ (some 58) rfl rfl Try.func21 (by kernel_rfl) rfl #[.slice Ao35 t115.length co35, .slice Ao56 t124.length co56] rfl (by (try simp only [List.map_toArray, List.map_cons, List.map_nil]); first | done | rfl | (simp only [List.length_drop, List.length_take]; rfl)) ?_; (with_reducible refine (laws_eqInt64S.calls kj16 _ _ t115 _ _ t124 false _ ?side1 ?side2 ?side3 ?side4 A43.out).mono ?_); (case side1 => repeat (first | exact (Kd.R_reads' HO_11.out).2.2 | (with_reducible refine Kd.C_alloc ?_ _) | (with_reducible refine Kd.C_drewN ?_ _) | (with_reducible refine Kd.C_drew ?_))); (case side2 => exact (Kd.R_reads' HO_11.out).2.1); (case side3 => repeat (first | exact (Kd.R_reads' HO126.out).2.2 | (with_reducible refine Kd.C_alloc ?_ _) | (with_reducible refine Kd.C_drewN ?_ _) | (with_reducible refine Kd.C_drew ?_))); (case side4 => exact (Kd.R_reads' HO126.out).2.1); rintro e w' ⟨rfl, ⟨nd, rfl⟩⟩; refine ⟨_, rfl, ?_⟩))
                go_ret
                exact ⟨by first | rfl | (simp [errW_none, errW_some] <;> rfl) | (simp [*, errW_none, errW_some] <;> rfl), by repeat (first | (with_reducible first | exact HB.out | apply below_alloc | apply pw_below_drewN | apply below_drew1 | refine below_set ?_ GE101.out | refine below_set ?_ GE114.out) | exact HB.out)⟩
            · replace c41 := Bool.eq_false_iff.mpr c41
              subst c41
              have H1 : (some false) = some r := by rw [if_neg (show ¬ (false = true) by decide)] at H; exact H
              clear H
              have H := H1
              clear H1
              obtain rfl := Option.some.inj H
              try go_wp2
              have n0_ := Aside0.mk (Kd.R_drew HO_11.out)
              have n1_ := Aside0.mk (Kd.R_drew HO_115000.out)
              have n2_ := Aside0.mk (blk_drew BK101.out)
              have n3_ := Aside0.mk (blk_drew BK114.out)
              have n4_ := Aside0.mk (below_drew1 HB.out)
              clear HO_11
              clear HO_115000
              clear BK101
              clear BK114
              clear HB
              have HO_11 := n0_
              have HO_115000 := n1_
              have BK101 := n2_
              have BK114 := n3_
              have HB := n4_
              clear n0_ n1_ n2_ n3_ n4_
              refine start_ (n := 5) (S := fun w' => w'.cell? ⟨gb114, 0, none⟩ = some (.slice Ao30 t111.length co30) ∧ w'.cell? ⟨gb101, 0, none⟩ = some (.slice A0_0 l0_0.length c0_0)) (ds := []) #[false, false, false, false, false] (by kernel_rfl) rfl rfl ⟨(blk_cell BK114.out 0).trans rfl, (blk_cell BK101.out 0).trans rfl⟩ (fun hHeld => ?_)
              generalize wc.drew = w57 at HO_11 HO_115000 BK101 BK114 HB hHeld ⊢
              refine take_ (i := 0) (N := some 50) (v := ?_) (a' := ?_) #[true, false, false, false, false] rfl rfl (by kernel_rfl) (fun _ _ _ h => h) (Or.inl ⟨by rfl, ?_⟩) hHeld ?_ ?_
              rotate_left
              · rintro w' ⟨s0, s1⟩
                go_simp
                with_reducible rfl
              rotate_left
              · simp only [Act.put, List.setIfInBounds_toArray, List.set_cons_zero, List.set_cons_succ, i64_w, i32_w]
                rfl
              refine take_ (i := 1) (N := some 51) (v := ?_) (a' := ?_) #[true, true, false, false, false] rfl rfl (by kernel_rfl) (fun _ _ _ h => h) (Or.inl ⟨by rfl, ?_⟩) hHeld ?_ ?_
              rotate_left
              · rintro w' ⟨s0, s1⟩
                go_simp
                with_reducible rfl
              rotate_left
              · simp only [Act.put, List.setIfInBounds_toArray, List.set_cons_zero, List.set_cons_succ, i64_w, i32_w]
                rfl
              refine one_ (i := 2) (N := some 52) #[true, true, true, false, false] rfl rfl (by kernel_rfl) (by decide) (fun K hK => ?_)
              refine goes_ Try.func17 (by kernel_rfl) rfl #[.agg #[.slice A0_0 l0_0.length c0_0]] (by rfl) rfl rfl (by (try simp only [List.map_toArray, List.map_cons, List.map_nil]); first | done | rfl | (simp only [List.length_drop, List.length_take]; rfl)) ?_
              with_reducible refine (laws_toSpace.calls kj16 _ _ l0_0 t120 _ ?side1 ?side2 A39.out).mono ?_
              (case side1 => repeat (first | exact (Kd.C_below HR0_0.out HB.out) | (with_reducible refine Kd.C_alloc ?_ _) | (with_reducible refine Kd.C_drewN ?_ _) | (with_reducible refine Kd.C_drew ?_)))
              (case side2 => exact HC0_0.out)
              rintro e w58 ⟨v121, rfl, ho0, hb⟩
              refine ⟨_, rfl, ?_⟩
              have n0_ := Aside0.mk (Kd.R_elder' (by (with_reducible repeat (first | apply Kd.R_alloc | apply Kd.R_drewN | apply Kd.R_drew)); exact HO_11.out) (Kd.R_base ho0) hb)
              have n1_ := Aside0.mk (Kd.R_elder' (by (with_reducible repeat (first | apply Kd.R_alloc | apply Kd.R_drewN | apply Kd.R_drew)); exact HO_115000.out) (Kd.R_base ho0) hb)
              have n2_ := Aside0.mk (Kd.R_lower (Kd.R_new' (Kd.R_new' ho0 (Kd.R_lt (by (with_reducible repeat (first | apply Kd.R_alloc | apply Kd.R_drewN | apply Kd.R_drew)); exact HO_11.out))) (Kd.R_lt (by (with_reducible repeat (first | apply Kd.R_alloc | apply Kd.R_drewN | apply Kd.R_drew)); exact HO_115000.out))) (below_size (by repeat (first | (with_reducible first | exact HB.out | apply below_alloc | apply pw_below_drewN | apply below_drew1 | refine below_set ?_ GE101.out | refine below_set ?_ GE114.out) | exact HB.out))))
              have n3_ := Aside0.mk (blk_below (g := gb101) (o := .cells #[.slice A0_0 l0_0.length c0_0] 24 (0, 0)) (by (with_reducible repeat (first | refine blk_drewN ?_ _ | refine blk_drew ?_ | refine blk_alloc ?_ _)); exact BK101.out) hb)
              have n4_ := Aside0.mk (blk_below (g := gb114) (o := .cells #[.slice Ao30 t111.length co30] 28 (0, 0)) (by (with_reducible repeat (first | refine blk_drewN ?_ _ | refine blk_drew ?_ | refine blk_alloc ?_ _)); exact BK114.out) hb)
              have n5_ := Aside0.mk (below_step (by repeat (first | (with_reducible first | exact HB.out | apply below_alloc | apply pw_below_drewN | apply below_drew1 | refine below_set ?_ GE101.out | refine below_set ?_ GE114.out) | exact HB.out)) hb)
              clear HO_11
              clear HO_115000
              clear BK101
              clear BK114
              clear HB
              have HO_11 := n0_
              have HO_115000 := n1_
              have HO122 := n2_
              have BK101 := n3_
              have BK114 := n4_
              have HB := n5_
              clear n0_ n1_ n2_ n3_ n4_ n5_
              (try clear hb)
              (try clear hb2)
              (try clear hk)
              (try clear hi)
              (try clear ho0)
              obtain ⟨Ao59, co59, eo59⟩ := Kd.R_slice HO122.out
              (first | subst eo59 | (injection eo59 with f1_ f2_ f3_; have f4_ := f1_.symm; have f5_ := f3_.symm; clear f1_ f2_ f3_; subst f4_; subst f5_))
              refine hK.out _ _ ⟨(blk_cell BK114.out 0).trans rfl, (blk_cell BK101.out 0).trans rfl⟩ (fun hHeld => ?_)
              clear hK K
              refine norm_ (a' := ?_) ?_ ?_
              rotate_left
              · show Act.put _ (some 52) _ = _
                simp only [Act.put, List.setIfInBounds_toArray, List.set_cons_zero, List.set_cons_succ, i64_w, i32_w]
                rfl
              refine one_ (i := 3) (N := some 53) #[true, true, true, true, false] rfl rfl (by kernel_rfl) (by decide) (fun K hK => ?_)
              refine goes_ Try.func20 (by kernel_rfl) rfl #[.agg #[.slice Ao30 t111.length co30], .agg #[.slice Ao59 t120.length co59]] (by rfl) rfl rfl (by (try simp only [List.map_toArray, List.map_cons, List.map_nil]); first | done | rfl | (simp only [List.length_drop, List.length_take]; rfl)) ?_
              with_reducible refine (laws_eqSpace.calls kj16 _ _ t111 _ _ t120 false _ ?side1 ?side2 ?side3 ?side4 A40.out).mono ?_
              (case side1 => repeat (first | exact (Kd.R_reads' HO_115000.out).2.2 | (with_reducible refine Kd.C_alloc ?_ _) | (with_reducible refine Kd.C_drewN ?_ _) | (with_reducible refine Kd.C_drew ?_)))
              (case side2 => exact (Kd.R_reads' HO_115000.out).2.1)
              (case side3 => repeat (first | exact (Kd.R_reads' HO122.out).2.2 | (with_reducible refine Kd.C_alloc ?_ _) | (with_reducible refine Kd.C_drewN ?_ _) | (with_reducible refine Kd.C_drew ?_)))
              (case side4 => exact (Kd.R_reads' HO122.out).2.1)
              rintro e w60 ⟨rfl, hb⟩
              refine ⟨_, rfl, ?_⟩
              have n0_ := Aside0.mk (Kd.R_below (by (with_reducible repeat (first | apply Kd.R_alloc | apply Kd.R_drewN | apply Kd.R_drew)); exact HO_11.out) hb)
              have n1_ := Aside0.mk (Kd.R_below (by (with_reducible repeat (first | apply Kd.R_alloc | apply Kd.R_drewN | apply Kd.R_drew)); exact HO_115000.out) hb)
              have n2_ := Aside0.mk (Kd.R_below (by (with_reducible repeat (first | apply Kd.R_alloc | apply Kd.R_drewN | apply Kd.R_drew)); exact HO122.out) hb)
              have n3_ := Aside0.mk (blk_below (g := gb101) (o := .cells #[.slice A0_0 l0_0.length c0_0] 24 (0, 0)) (by (with_reducible repeat (first | refine blk_drewN ?_ _ | refine blk_drew ?_ | refine blk_alloc ?_ _)); exact BK101.out) hb)
              have n4_ := Aside0.mk (blk_below (g := gb114) (o := .cells #[.slice Ao30 t111.length co30] 28 (0, 0)) (by (with_reducible repeat (first | refine blk_drewN ?_ _ | refine blk_drew ?_ | refine blk_alloc ?_ _)); exact BK114.out) hb)
              have n5_ := Aside0.mk (below_step (by repeat (first | (with_reducible first | exact HB.out | apply below_alloc | apply pw_below_drewN | apply below_drew1 | refine below_set ?_ GE101.out | refine below_set ?_ GE114.out) | exact HB.out)) hb)
              clear HO_11
              clear HO_115000
              clear HO122
              clear BK101
              clear BK114
              clear HB
              have HO_11 := n0_
              have HO_115000 := n1_
              have HO122 := n2_
              have BK101 := n3_
              have BK114 := n4_
              have HB := n5_
              clear n0_ n1_ n2_ n3_ n4_ n5_
              (try clear hb)
              (try clear hb2)
              (try clear hk)
              (try clear hi)
              refine hK.out _ _ ⟨(blk_cell BK114.out 0).trans rfl, (blk_cell BK101.out 0).trans rfl⟩ (fun hHeld => ?_)
              clear hK K
              refine norm_ (a' := ?_) ?_ ?_
              rotate_left
              · show Act.put _ (some 53) _ = _
                simp only [Act.put, List.setIfInBounds_toArray, List.set_cons_zero, List.set_cons_succ, i64_w, i32_w]
                rfl
              refine pure_ (i := 4) (N := some 54) (v := ?_) (a' := ?_) #[true, true, true, true, true] rfl rfl (by kernel_rfl) (fun _ _ _ h => h) (Or.inl ⟨by rfl, ?_⟩) ?_ ?_
              rotate_left
              · intro w'
                go_simp
                with_reducible rfl
              rotate_left
              · simp only [Act.put, List.setIfInBounds_toArray, List.set_cons_zero, List.set_cons_succ, i64_w, i32_w]
                rfl
              refine done_ (by kernel_rfl) ?_
              try go_wp2
              go_ret
              exact ⟨by first | rfl | (simp [errW_none, errW_some] <;> rfl) | (simp [*, errW_none, errW_some] <;> rfl), by repeat (first | (with_reducible first | exact HB.out | apply below_alloc | apply pw_below_drewN | apply below_drew1 | refine below_set ?_ GE101.out | refine below_set ?_ GE114.out) | exact HB.out)⟩
end Go.Proofs.Ytionaakahhgdjaa.P
