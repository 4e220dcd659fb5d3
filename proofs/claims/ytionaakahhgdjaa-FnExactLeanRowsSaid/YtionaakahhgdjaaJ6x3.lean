/- What some functions of the program return, and plain facts on it; conditions: those that each theorem names. Part 3 of the proof. -/
import Derived.Test.YtionaakahhgdjaaJ6x2
import Derived.Test.YtionaakahhgdjaaJ6x1
import Derived.Deep.RegionLaw
import Derived.Deep.AppendLies
import Derived.RowKit3
import Derived.Laws.EntriesVeiled
namespace Go.Proofs.Ytionaakahhgdjaa.P
open Go.RowKit Go.Proofs.YtionaakahhgdjaaW.PrintWords Go.Proofs.YtionaakahhgdjaaW.PrintLast Go.Proofs.YtionaakahhgdjaaW.PrintMore
open Go.Proofs.Ytionaakahhgdjaa.M
attribute [local go_sem] max2_int min2_int max_two min_two max_three min_three max_four min_four
set_option linter.unusedVariables false
set_option linter.unusedSimpArgs false
/-- Six variables in memory, all older than H0 and younger than w0. -/
structure SSt (w0 : World) (H0 bt bs bc bf gC L : Nat) : Prop where
 lt : bt < H0 ∧ bs < H0 ∧ bc < H0 ∧ bf < H0 ∧ gC < H0 ∧ L < H0
 ge : w0.heap.size ≤ gC ∧ w0.heap.size ≤ L
 gne : bt ≠ gC ∧ bs ≠ gC ∧ bc ≠ gC ∧ bf ≠ gC
 lne : bt ≠ L ∧ bs ≠ L ∧ bc ≠ L ∧ bf ≠ L ∧ gC ≠ L
/-- How memory stands during the search. -/
structure SS (w0 W : World) (H0 bt bs bc bf gC : Nat) (A0 : Option Addr) (c0 : Nat) (l : List Int) (t : Int) (vP : Value) (P : List (List Int)) (vF : Value) (F : List Int) (m : Int) : Prop where
 hbt : W.heap[bt]? = some (.cells #[.int .i64 t] 2 (0, 0))
 hbs : W.heap[bs]? = some (.cells #[.slice A0 l.length c0] 28 (0, 0))
 hbc : W.heap[bc]? = some (.cells #[.pointer (some ⟨gC, 0, none⟩)] 88 (0, 0))
 hbf : W.heap[bf]? = some (.cells #[.func (.func 169) #[] #[.pointer (some ⟨bt, 0, none⟩), .pointer (some ⟨bs, 0, none⟩), .pointer (some ⟨bc, 0, none⟩), .pointer (some ⟨bf, 0, none⟩)]] 144 (0, 0))
 hgC : W.heap[gC]? = some (.cells #[.slice A0 l.length c0, vP, vF, .int .i64 m] 92 (0, 0))
 rP : Kd.R (Kd.slice 2 (Kd.int .i64)) 22 W w0.heap.size (fun k => H0 ≤ k ∧ some k ≠ vF.ownBlock) vP P
 rF : Kd.R (Kd.int .i64) 2 W w0.heap.size (fun k => H0 ≤ k) vF F
 hB : Below w0.heap.size w0 W
 hs : H0 ≤ W.heap.size
section
variable {w0 W w1 : World} {H0 bt bs bc bf gC L : Nat} {A0 : Option Addr} {c0 : Nat} {l : List Int} {t : Int} {vP : Value} {P : List (List Int)} {vF : Value} {F : List Int} {m : Int}
theorem SS.below (h : SS w0 W H0 bt bs bc bf gC A0 c0 l t vP P vF F m) (hb : Below W.heap.size W w1) : SS w0 w1 H0 bt bs bc bf gC A0 c0 l t vP P vF F m :=
 ⟨blk_below h.hbt hb, blk_below h.hbs hb, blk_below h.hbc hb, blk_below h.hbf hb, blk_below h.hgC hb, Kd.R_below h.rP hb, Kd.R_below h.rF hb, below_step h.hB hb, Nat.le_trans h.hs hb.size⟩
theorem SS.grownL (h : SS w0 W H0 bt bs bc bf gC A0 c0 l t vP P vF F m) (s : SSt w0 H0 bt bs bc bf gC L) (hg : W.grownBy w1 (some L)) : SS w0 w1 H0 bt bs bc bf gC A0 c0 l t vP P vF F m := by
 have n (k : Nat) (hk : k ≠ L) : some k ≠ some L := fun e => hk (Option.some.inj e)
 exact ⟨blk_grown h.hbt hg (n _ s.lne.1), blk_grown h.hbs hg (n _ s.lne.2.1), blk_grown h.hbc hg (n _ s.lne.2.2.1), blk_grown h.hbf hg (n _ s.lne.2.2.2.1), blk_grown h.hgC hg (n _ s.lne.2.2.2.2),
  Kd.R_grown h.rP hg (fun k hk => n _ (by have := s.lt.2.2.2.2.2; have := hk.1; omega)), Kd.R_grown h.rF hg (fun k hk => n _ (by have := s.lt.2.2.2.2.2; have : H0 ≤ k := hk; omega)), h.hB.grown hg h.hB.size (fun k hk => by injection hk with hk; have := s.ge.2; omega), Nat.le_trans h.hs hg.size⟩
theorem SS.neP (h : SS w0 W H0 bt bs bc bf gC A0 c0 l t vP P vF F m) {k : Nat} (hk : k < H0) : some k ≠ vP.ownBlock := fun e => by have := (h.rP.1 k e.symm).1; omega
theorem SS.neF (h : SS w0 W H0 bt bs bc bf gC A0 c0 l t vP P vF F m) {k : Nat} (hk : k < H0) : some k ≠ vF.ownBlock := fun e => by have : H0 ≤ k := h.rF.1 k e.symm; omega
theorem SS.setP (h : SS w0 W H0 bt bs bc bf gC A0 c0 l t vP P vF F m) (s : SSt w0 H0 bt bs bc bf gC L) {v1 : Value} {P1 : List (List Int)} (hg : W.grownBy w1 vP.ownBlock)
  (ho : Kd.R (Kd.slice 2 (Kd.int .i64)) 22 w1 w0.heap.size (fun k => H0 ≤ k ∧ some k ≠ vF.ownBlock) v1 P1) : SS w0 (w1.setCell ⟨gC, 1, none⟩ v1) H0 bt bs bc bf gC A0 c0 l t v1 P1 vF F m :=
 ⟨blk_far (blk_grown h.hbt hg (h.neP s.lt.1)) s.gne.1 _, blk_far (blk_grown h.hbs hg (h.neP s.lt.2.1)) s.gne.2.1 _, blk_far (blk_grown h.hbc hg (h.neP s.lt.2.2.1)) s.gne.2.2.1 _, blk_far (blk_grown h.hbf hg (h.neP s.lt.2.2.2.1)) s.gne.2.2.2 _,
  blk_put (blk_grown h.hgC hg (h.neP s.lt.2.2.2.2.1)) 1 _ rfl, Kd.R_far ho (fun k hk => by have := s.lt.2.2.2.2.1; have := hk.1; show k ≠ gC; omega) _,
  Kd.R_far (Kd.R_over h.rF h.rP (by decide) hg) (fun k hk => by have := s.lt.2.2.2.2.1; have : H0 ≤ k := hk; show k ≠ gC; omega) _,
  below_set (h.hB.grown hg h.hB.size (fun k hk => Nat.le_trans (by have := s.lt.2.2.2.2.1; have := s.ge.1; omega) (h.rP.1 k hk).1)) s.ge.1, by rw [World.size_setCell]; exact Nat.le_trans h.hs hg.size⟩
theorem SS.setF (h : SS w0 W H0 bt bs bc bf gC A0 c0 l t vP P vF F m) (s : SSt w0 H0 bt bs bc bf gC L) {v1 : Value} {F1 : List Int} (hg : W.grownBy w1 vF.ownBlock) (hat : v1.ownBlock = vF.ownBlock ∨ ∃ b, v1.ownBlock = some b ∧ W.heap.size ≤ b)
  (ho : Kd.R (Kd.int .i64) 2 w1 w0.heap.size (fun k => H0 ≤ k) v1 F1) : SS w0 (w1.setCell ⟨gC, 2, none⟩ v1) H0 bt bs bc bf gC A0 c0 l t vP P v1 F1 m :=
 ⟨blk_far (blk_grown h.hbt hg (h.neF s.lt.1)) s.gne.1 _, blk_far (blk_grown h.hbs hg (h.neF s.lt.2.1)) s.gne.2.1 _, blk_far (blk_grown h.hbc hg (h.neF s.lt.2.2.1)) s.gne.2.2.1 _, blk_far (blk_grown h.hbf hg (h.neF s.lt.2.2.2.1)) s.gne.2.2.2 _,
  blk_put (blk_grown h.hgC hg (h.neF s.lt.2.2.2.2.1)) 2 _ rfl, Kd.R_far (Kd.R_after h.rP hg hat) (fun k hk => by have := s.lt.2.2.2.2.1; have := hk.1; show k ≠ gC; omega) _,
  Kd.R_far ho (fun k hk => by have := s.lt.2.2.2.2.1; have : H0 ≤ k := hk; show k ≠ gC; omega) _,
  below_set (h.hB.grown hg h.hB.size (fun k hk => Nat.le_trans (by have := s.lt.2.2.2.2.1; have := s.ge.1; omega) (h.rF.1 k hk))) s.ge.1, by rw [World.size_setCell]; exact Nat.le_trans h.hs hg.size⟩
theorem SS.setM (h : SS w0 W H0 bt bs bc bf gC A0 c0 l t vP P vF F m) (s : SSt w0 H0 bt bs bc bf gC L) (m1 : Int) : SS w0 (W.setCell ⟨gC, 3, none⟩ (.int .i64 m1)) H0 bt bs bc bf gC A0 c0 l t vP P vF F m1 :=
 ⟨blk_far h.hbt s.gne.1 _, blk_far h.hbs s.gne.2.1 _, blk_far h.hbc s.gne.2.2.1 _, blk_far h.hbf s.gne.2.2.2 _,
  blk_put h.hgC 3 _ rfl, Kd.R_far h.rP (fun k hk => by have := s.lt.2.2.2.2.1; have := hk.1; show k ≠ gC; omega) _,
  Kd.R_far h.rF (fun k hk => by have := s.lt.2.2.2.2.1; have : H0 ≤ k := hk; show k ≠ gC; omega) _, below_set h.hB s.ge.1, by rw [World.size_setCell]; exact h.hs⟩
/-- The list that is searched on. -/
def LL (W : World) (L : Nat) (xs : List Int) : Prop := Kd.R (Kd.int .i64) 2 W 0 (fun k => k = L) (.slice (some ⟨L, 0, none⟩) xs.length 3) xs
theorem LL.below {xs : List Int} (h : LL W L xs) (hb : Below W.heap.size W w1) : LL w1 L xs := Kd.R_below h hb
theorem LL.grown {xs : List Int} (h : LL W L xs) {v : Value} (hg : W.grownBy w1 v.ownBlock) (hne : some L ≠ v.ownBlock) : LL w1 L xs := Kd.R_grown h hg (fun k hk => by have : k = L := hk; subst this; exact hne)
theorem LL.far {xs : List Int} (h : LL W L xs) {i : Nat} (hne : gC ≠ L) (u : Value) : LL (W.setCell ⟨gC, i, none⟩ u) L xs := Kd.R_far h (fun k hk => by have : k = L := hk; show k ≠ gC; omega) u
end

set_option maxHeartbeats 8000000 in
set_option maxRecDepth 100000 in
theorem search_end (w0 W : World) (H0 bt bs bc bf gC L : Nat) (A0 : Option Addr) (c0 : Nat) (l : List Int) (vP : Value) (P : List (List Int)) (vF : Value) (F : List Int) (m : Int) (xs : List Int)
  (s : SSt w0 H0 bt bs bc bf gC L) (h : SS w0 W H0 bt bs bc bf gC A0 c0 l xs.length vP P vF F m) (hC : Kd.C (Kd.int .i64) w0 A0 l.length l) (hL : LL W L xs)
  (hl : Sz l) (hp : Pl l xs) (hP : P.length ≤ 1000) (hF : F.length = P.length) (hm : 0 ≤ m ∧ m ≤ 100000) :
  Calls Try.prog 169 #[.slice (some ⟨L, 0, none⟩) xs.length 3, .pointer (some ⟨bt, 0, none⟩), .pointer (some ⟨bs, 0, none⟩), .pointer (some ⟨bc, 0, none⟩), .pointer (some ⟨bf, 0, none⟩)] W fun e W' => e = .returned (.tuple #[]) ∧ ∃ vP' vF', SS w0 W' H0 bt bs bc bf gC A0 c0 l xs.length vP' (P ++ [xs]) vF' (F ++ [m]) (m + szp l xs) ∧ LL W' L xs := by
 obtain ⟨AP, cP, rfl⟩ := Kd.R_slice h.rP
 obtain ⟨AF, cF, rfl⟩ := Kd.R_slice h.rF
 have hzt : W.cell? ⟨bt, 0, none⟩ = some (.int .i64 xs.length) := (blk_cell h.hbt 0).trans rfl
 have hzs : W.cell? ⟨bs, 0, none⟩ = some (.slice A0 l.length c0) := (blk_cell h.hbs 0).trans rfl
 have HS := Aside0.mk s
 have HH := Aside0.mk h
 have HC := Aside0.mk hC
 have HL := Aside0.mk hL
 have HSZ := Aside0.mk hl
 have HPL := Aside0.mk hp
 have HFP := Aside0.mk hF
 obtain ⟨hm0, hm1⟩ := hm
 have hx3 : xs.length ≤ 3 := hp.1
 have hu28 := Try.underlying28
 have hu92 := Try.underlying92
 clear s h hC hL hl hp hF
 go_enter Try.func169, Try.ntmps169
 go_wp2
 go_loop [6, 18] (fun v6 v18 => ∃ j : Int, 0 ≤ j ∧ j ≤ xs.length ∧ v18 = .int .i64 j ∧ v6 = .int .i64 (szp l (xs.take j.toNat))) (fun _ v => (xs.length - intOf v).toNat)
 case atStart => exact ⟨0, by omega, by omega, rfl, rfl⟩
 case round =>
  obtain ⟨j, hj0, hj1, rfl, rfl⟩ := hrel
  obtain ⟨hv0, hv1⟩ := szp_range HSZ.out HPL.out j.toNat
  by_cases hjl : j < (xs.length : Int)
  ·obtain ⟨ad3, hade, hx3⟩ := Kd.at_int (Kd.R_reads' (show Kd.R (Kd.int .i64) 2 W 0 (fun k => k = L) (.slice (some ⟨L, 0, none⟩) xs.length 3) xs from HL.out)).2.2 j hj0 hjl
   cases hade
   have hx3' : W.cell? ⟨L, j.toNat, none⟩ = some (.int .i64 (rd xs j)) := by rw [← add_plain]; exact hx3
   clear hx3
   obtain ⟨he0, he1⟩ := HPL.out.2 _ (at_mem xs j hj0 hjl)
   have hstep : szp l (xs.take (j + 1).toNat) = szp l (xs.take j.toNat) * rd l (rd xs j) := by
    rw [take_snoc xs j hj0 hjl, szp_snoc]; rfl
   have HST := Aside0.mk hstep
   clear hstep
   obtain ⟨e, he⟩ : ∃ e : Int, e = rd xs j := ⟨_, rfl⟩
   have he0' : 0 ≤ e := by rw [he]; exact he0
   have he1' : e < (l.length : Int) := by rw [he]; exact he1
   rw [← he] at hx3' HST
   clear he he0 he1
   have hq := HSZ.out.at e.toNat (by omega)
   rw [← at_getD l e (by omega) 1] at hq
   obtain ⟨hq0, hq1⟩ : 2 ≤ rd l e ∧ rd l e ≤ 4 := hq
   obtain ⟨ad4, rfl, hx4⟩ := Kd.at_int HC.out e he0' he1'
   replace hx4 := (HH.out.hB.cell (World.block_lt_of_cell? w0 _ hx4)).trans hx4
   obtain ⟨vv, hvv⟩ : ∃ vv : Int, vv = szp l (xs.take j.toNat) := ⟨_, rfl⟩
   rw [← hvv] at hv0 hv1 HST ⊢
   clear hvv
   have hm1 : vv * rd l e ≤ vv * 4 := Int.mul_le_mul_of_nonneg_left hq1 (by omega)
   have hm0 : 0 ≤ vv * rd l e := Int.mul_nonneg (by omega) (by omega)
   go_wp2
   go_round
   case measure => simp [intOf]; omega
   case rel => exact ⟨j + 1, by omega, by omega, by first | rfl | (simp; done), by rw [HST.out]⟩
  ·have HT : xs.take j.toNat = xs := by rw [show j = (xs.length : Int) by omega]; exact take_all xs
   rw [HT] at hv0 hv1 ⊢
   clear HT
   obtain ⟨vv, hvv⟩ : ∃ vv : Int, vv = szp l xs := ⟨_, rfl⟩
   rw [← hvv] at hv0 hv1 ⊢
   have HVV := Aside0.mk hvv
   clear hvv hzt hzs
   have hcc : W.cell? ⟨bc, 0, none⟩ = some (.pointer (some ⟨gC, 0, none⟩)) := (blk_cell HH.out.hbc 0).trans rfl
   have hcP : W.cell? ⟨gC, 1, none⟩ = some (.slice AP P.length cP) := (blk_cell HH.out.hgC 1).trans rfl
   have lcc := World.block_lt_of_cell? W _ hcc
   have lcP := World.block_lt_of_cell? W _ hcP
   have HCL : Aside0 (slices_Clone_int64_int64.f xs = some xs) := ⟨by unfold slices_Clone_int64_int64.f; rw [if_pos (by omega)]⟩
   have HLC := Aside0.mk (Kd.R_reads' (show Kd.R (Kd.int .i64) 2 W 0 (fun k => k = L) (.slice (some ⟨L, 0, none⟩) xs.length 3) xs from HL.out)).2.2
   have HI3 : Aside0 (xs.length ≤ 3) := ⟨by omega⟩
   go_wp2
   refine start_ (n := 12) (S := fun w' => w'.cell? ⟨bc, 0, none⟩ = some (.pointer (some ⟨gC, 0, none⟩)) ∧ w'.cell? ⟨gC, 1, none⟩ = some (.slice AP P.length cP)) (ds := [11]) #[false, false, false, false, false, false, false, false, false, false, false, false] (by kernel_rfl) rfl rfl ⟨hcc, hcP⟩ (fun hHeld => ?_)
   refine pure_ (i := 5) (N := some 35) (v := ?_) (a' := ?_) #[false, false, false, false, false, true, false, false, false, false, false, false] rfl rfl (by kernel_rfl) (fun _ _ _ h => h) (Or.inl ⟨by rfl, ?_⟩) ?_ ?_
   rotate_left
   ·intro w'
    go_simp
    with_reducible rfl
   rotate_left
   ·simp only [Act.put, List.setIfInBounds_toArray, List.set_cons_zero, List.set_cons_succ, i64_w, i32_w]
    rfl
   refine take_ (i := 0) (N := some 30) (v := ?_) (a' := ?_) #[true, false, false, false, false, true, false, false, false, false, false, false] rfl rfl (by kernel_rfl) (fun _ _ _ h => h) (Or.inl ⟨by rfl, ?_⟩) hHeld ?_ ?_
   rotate_left
   ·rintro w' ⟨s0, s1⟩
    go_simp
    with_reducible rfl
   rotate_left
   ·simp only [Act.put, List.setIfInBounds_toArray, List.set_cons_zero, List.set_cons_succ, i64_w, i32_w]
    rfl
   refine take_ (i := 1) (N := some 31) (v := ?_) (a' := ?_) #[true, true, false, false, false, true, false, false, false, false, false, false] rfl rfl (by kernel_rfl) (fun _ _ _ h => h) (Or.inl ⟨by rfl, ?_⟩) hHeld ?_ ?_
   rotate_left
   ·rintro w' ⟨s0, s1⟩
    go_simp
    with_reducible rfl
   rotate_left
   ·simp only [Act.put, List.setIfInBounds_toArray, List.set_cons_zero, List.set_cons_succ, i64_w, i32_w]
    rfl
   refine pure_ (i := 2) (N := some 32) (v := ?_) (a' := ?_) #[true, true, true, false, false, true, false, false, false, false, false, false] rfl rfl (by kernel_rfl) (fun _ _ _ h => h) (Or.inl ⟨by rfl, ?_⟩) ?_ ?_
   rotate_left
   ·intro w'
    go_simp
    with_reducible rfl
   rotate_left
   ·simp only [Act.put, List.setIfInBounds_toArray, List.set_cons_zero, List.set_cons_succ, i64_w, i32_w]
    rfl
   refine pure_ (i := 3) (N := some 33) (v := ?_) (a' := ?_) #[true, true, true, true, false, true, false, false, false, false, false, false] rfl rfl (by kernel_rfl) (fun _ _ _ h => h) (Or.inl ⟨by rfl, ?_⟩) ?_ ?_
   rotate_left
   ·intro w'
    go_simp
    with_reducible rfl
   rotate_left
   ·simp only [Act.put, List.setIfInBounds_toArray, List.set_cons_zero, List.set_cons_succ, i64_w, i32_w]
    rfl
   refine take_ (i := 4) (N := some 34) (v := ?_) (a' := ?_) #[true, true, true, true, true, true, false, false, false, false, false, false] rfl rfl (by kernel_rfl) (fun _ _ _ h => h) (Or.inl ⟨by rfl, ?_⟩) hHeld ?_ ?_
   rotate_left
   ·rintro w' ⟨s0, s1⟩
    go_simp
    with_reducible rfl
   rotate_left
   ·simp only [Act.put, List.setIfInBounds_toArray, List.set_cons_zero, List.set_cons_succ, i64_w, i32_w]
    rfl
   refine one_ (i := 6) (N := some 36) #[true, true, true, true, true, true, true, false, false, false, false, false] rfl rfl (by kernel_rfl) (by decide) (fun K hK => ?_)
   refine goes_ Try.func109 (by kernel_rfl) rfl #[.slice (some ⟨L, 0, none⟩) xs.length 3] (by rfl) rfl rfl (by simp only [List.map_toArray, List.map_cons, List.map_nil]; rfl) ?_
   with_reducible refine (slices_Clone_int64_int64.calls (some ⟨L, 0, none⟩) 3 xs xs _ (Kd.C_drew HLC.out) HI3.out HCL.out).mono ?_
   rintro e w2 ⟨vc, rfl, hoc, hbc⟩
   refine ⟨_, rfl, ?_⟩
   obtain ⟨Ac, cc, rfl⟩ := Kd.R_slice hoc
   have HOC := Aside0.mk hoc
   have HBC := Aside0.mk hbc
   have hk1 : w2.cell? ⟨bc, 0, none⟩ = some (.pointer (some ⟨gC, 0, none⟩)) := (hbc.cell lcc).trans hcc
   have hk2 : w2.cell? ⟨gC, 1, none⟩ = some (.slice AP P.length cP) := (hbc.cell lcP).trans hcP
   clear hoc hbc
   refine hK.out _ _ ⟨hk1, hk2⟩ (fun hHeld => ?_)
   clear hK K
   refine norm_ (a' := ?_) ?_ ?_
   rotate_left
   ·show Act.put _ (some 36) _ = _
    simp only [Act.put, List.setIfInBounds_toArray, List.set_cons_zero, List.set_cons_succ, i64_w, i32_w]
    rfl
   refine one_ (i := 7) (N := some 37) #[true, true, true, true, true, true, true, true, false, false, false, false] rfl rfl (by kernel_rfl) (by decide) (fun K hK => ?_)
   refine value_ (w1 := ?_) (v := ?_) (by rfl) rfl ?_ ?_
   rotate_left 2
   ·go_simp
    constructor
    ·rfl
    ·rfl
   refine hK.out _ _ ⟨(World.cell?_alloc_lt _ _ _ (World.block_lt_of_cell? _ _ hk1)).trans hk1, (World.cell?_alloc_lt _ _ _ (World.block_lt_of_cell? _ _ hk2)).trans hk2⟩ (fun hHeld => ?_)
   clear hK K
   refine norm_ (a' := ?_) ?_ ?_
   rotate_left
   ·show Act.put _ (some 37) _ = _
    simp only [Act.put, List.setIfInBounds_toArray, List.set_cons_zero, List.set_cons_succ, i64_w, i32_w]
    rfl
   refine one_ (i := 8) (N := some 38) #[true, true, true, true, true, true, true, true, true, false, false, false] rfl rfl (by kernel_rfl) (by decide) (fun K hK => ?_)
   have HH2 := Aside0.mk (HH.out.below (below_drew (Below.refl _ _)) |>.below HBC.out)
   refine Kd.R_append_step (Kd.slice 2 (Kd.int .i64)) (w0 := w0) w0.heap.size (by rfl) (.tmp 34) (.tmp 37) 42 22 (.slice none 0 0) 24 rfl Try.underlying42 info22 rfl (by decide) (by omega) (.slice AP P.length cP) P xs [.slice Ac xs.length cc] (fun k => H0 ≤ k ∧ some k ≠ (.slice AF F.length cF : Value).ownBlock) (fun k => H0 ≤ k ∧ some k ≠ (.slice AF F.length cF : Value).ownBlock ∧ some k ≠ (.slice AP P.length cP : Value).ownBlock) (by rfl) (by rfl) ?aP (fun k hk => ⟨⟨hk.1, hk.2.1⟩, hk.2.2⟩) ?aF HH2.out.rP HH2.out.hB HH2.out.hB.size (by omega) ?_
   case aP => exact Kd.M_row (Kd.R_mono (Kd.R_lower (Kd.R_bound HOC.out) HH.out.hB.size) (fun k hk => ⟨Nat.le_trans HH.out.hs hk.2.1, fun e => Nat.lt_irrefl _ (Nat.lt_of_lt_of_le (Kd.R_lt HH.out.rF k e.symm) hk.2.1), fun e => Nat.lt_irrefl _ (Nat.lt_of_lt_of_le (Kd.R_lt HH.out.rP k e.symm) hk.2.1)⟩))
   case aF => exact fun k hk => ⟨Nat.le_trans HH2.out.hs hk, fun e => Nat.lt_irrefl _ (Nat.lt_of_lt_of_le (Kd.R_lt HH2.out.rF k e.symm) hk)⟩
   intro v1 w3 ho_ hb_ hg_ hat_
   obtain ⟨A1, c1, rfl⟩ := Kd.R_slice ho_
   have HO1 := Aside0.mk ho_
   have HB1 := Aside0.mk hb_
   have HG1 := Aside0.mk hg_
   have HAT1 := Aside0.mk hat_
   clear ho_ hb_ hg_ hat_
   have hk3 : w3.cell? ⟨bc, 0, none⟩ = some (.pointer (some ⟨gC, 0, none⟩)) := (blk_cell (blk_grown HH2.out.hbc HG1.out (Kd.R_ne HH2.out.rP HH2.out.hbc (by decide))) 0).trans rfl
   have hgC3 := blk_grown HH2.out.hgC HG1.out (Kd.R_ne HH2.out.rP HH2.out.hgC (by decide))
   have hk4 : w3.cell? ⟨gC, 1, none⟩ = some (.slice AP P.length cP) := (blk_cell hgC3 1).trans rfl
   have hfz : w3.frozen? ⟨gC, 1, none⟩ = false := blk_frozen hgC3 1
   refine hK.out _ _ ⟨hk3, hk4⟩ (fun hHeld => ?_)
   clear hK K
   refine norm_ (a' := ?_) ?_ ?_
   rotate_left
   ·show Act.put _ (some 38) _ = _
    simp only [Act.put, List.setIfInBounds_toArray, List.set_cons_zero, List.set_cons_succ, i64_w, i32_w]
    rfl
   refine pure_ (i := 9) (N := some 39) (v := ?_) (a' := ?_) #[true, true, true, true, true, true, true, true, true, true, false, false] rfl rfl (by kernel_rfl) (fun _ _ _ h => h) (Or.inl ⟨by rfl, ?_⟩) ?_ ?_
   rotate_left
   ·intro w'
    go_simp
    with_reducible rfl
   rotate_left
   ·simp only [Act.put, List.setIfInBounds_toArray, List.set_cons_zero, List.set_cons_succ, i64_w, i32_w]
    rfl
   refine pure_ (i := 10) (N := some 40) (v := ?_) (a' := ?_) #[true, true, true, true, true, true, true, true, true, true, true, false] rfl rfl (by kernel_rfl) (fun _ _ _ h => h) (Or.inl ⟨by rfl, ?_⟩) ?_ ?_
   rotate_left
   ·intro w'
    go_simp
    with_reducible rfl
   rotate_left
   ·simp only [Act.put, List.setIfInBounds_toArray, List.set_cons_zero, List.set_cons_succ, i64_w, i32_w]
    rfl
   refine last_ (i := 11) (N := none) #[true, true, true, true, true, true, true, true, true, true, true, true] rfl rfl (by kernel_rfl) (by decide) (fun K hK => ?_)
   refine skip_ (w1 := ?_) (by rfl) rfl ?_ ?_
   rotate_left
   ·go_simp
    rfl
   refine hK.out _ _ ?_
   clear hK K
   refine done_ (by kernel_rfl) ?_
   have HH4 := Aside0.mk (HH2.out.setP HS.out HG1.out HO1.out)
   have HL4 := Aside0.mk (((HL.out.below (below_drew (Below.refl _ _))).below HBC.out).grown HG1.out (HH2.out.neP HS.out.lt.2.2.2.2.2) |>.far HS.out.lne.2.2.2.2 (i := 1) (.slice A1 (P ++ [xs]).length c1))
   have hw4' : (w3.setCell ⟨gC, 1, none⟩ (.slice A1 (P.length + 1) c1)) = (w3.setCell ⟨gC, 1, none⟩ (.slice A1 (P ++ [xs]).length c1)) := by simp
   obtain ⟨w4, hw4⟩ : ∃ w4, w4 = w3.setCell ⟨gC, 1, none⟩ (.slice A1 (P ++ [xs]).length c1) := ⟨_, rfl⟩
   rw [hw4', ← hw4]
   rw [← hw4] at HH4 HL4
   clear hw4 hw4' hk1 hk2 hk3 hk4 hfz hgC3 HO1 HB1 HG1 HAT1 HH2 HOC HBC hcc hcP lcc lcP HH HL HLC HCL
   have hcc : w4.cell? ⟨bc, 0, none⟩ = some (.pointer (some ⟨gC, 0, none⟩)) := (blk_cell HH4.out.hbc 0).trans rfl
   have hcF : w4.cell? ⟨gC, 2, none⟩ = some (.slice AF F.length cF) := (blk_cell HH4.out.hgC 2).trans rfl
   have hcm : w4.cell? ⟨gC, 3, none⟩ = some (.int .i64 m) := (blk_cell HH4.out.hgC 3).trans rfl
   go_wp2
   refine start_ (n := 14) (S := fun w' => w'.cell? ⟨bc, 0, none⟩ = some (.pointer (some ⟨gC, 0, none⟩)) ∧ w'.cell? ⟨gC, 2, none⟩ = some (.slice AF F.length cF) ∧ w'.cell? ⟨gC, 3, none⟩ = some (.int .i64 m)) (ds := [13]) #[false, false, false, false, false, false, false, false, false, false, false, false, false, false] (by kernel_rfl) rfl rfl ⟨hcc, hcF, hcm⟩ (fun hHeld => ?_)
   refine take_ (i := 0) (N := some 41) (v := ?_) (a' := ?_) #[true, false, false, false, false, false, false, false, false, false, false, false, false, false] rfl rfl (by kernel_rfl) (fun _ _ _ h => h) (Or.inl ⟨by rfl, ?_⟩) hHeld ?_ ?_
   rotate_left
   ·rintro w' ⟨s0, s1, s2⟩
    go_simp
    with_reducible rfl
   rotate_left
   ·simp only [Act.put, List.setIfInBounds_toArray, List.set_cons_zero, List.set_cons_succ, i64_w, i32_w]
    rfl
   refine take_ (i := 1) (N := some 42) (v := ?_) (a' := ?_) #[true, true, false, false, false, false, false, false, false, false, false, false, false, false] rfl rfl (by kernel_rfl) (fun _ _ _ h => h) (Or.inl ⟨by rfl, ?_⟩) hHeld ?_ ?_
   rotate_left
   ·rintro w' ⟨s0, s1, s2⟩
    go_simp
    with_reducible rfl
   rotate_left
   ·simp only [Act.put, List.setIfInBounds_toArray, List.set_cons_zero, List.set_cons_succ, i64_w, i32_w]
    rfl
   refine pure_ (i := 2) (N := some 43) (v := ?_) (a' := ?_) #[true, true, true, false, false, false, false, false, false, false, false, false, false, false] rfl rfl (by kernel_rfl) (fun _ _ _ h => h) (Or.inl ⟨by rfl, ?_⟩) ?_ ?_
   rotate_left
   ·intro w'
    go_simp
    with_reducible rfl
   rotate_left
   ·simp only [Act.put, List.setIfInBounds_toArray, List.set_cons_zero, List.set_cons_succ, i64_w, i32_w]
    rfl
   refine pure_ (i := 3) (N := some 44) (v := ?_) (a' := ?_) #[true, true, true, true, false, false, false, false, false, false, false, false, false, false] rfl rfl (by kernel_rfl) (fun _ _ _ h => h) (Or.inl ⟨by rfl, ?_⟩) ?_ ?_
   rotate_left
   ·intro w'
    go_simp
    with_reducible rfl
   rotate_left
   ·simp only [Act.put, List.setIfInBounds_toArray, List.set_cons_zero, List.set_cons_succ, i64_w, i32_w]
    rfl
   refine take_ (i := 4) (N := some 45) (v := ?_) (a' := ?_) #[true, true, true, true, true, false, false, false, false, false, false, false, false, false] rfl rfl (by kernel_rfl) (fun _ _ _ h => h) (Or.inl ⟨by rfl, ?_⟩) hHeld ?_ ?_
   rotate_left
   ·rintro w' ⟨s0, s1, s2⟩
    go_simp
    with_reducible rfl
   rotate_left
   ·simp only [Act.put, List.setIfInBounds_toArray, List.set_cons_zero, List.set_cons_succ, i64_w, i32_w]
    rfl
   refine take_ (i := 5) (N := some 46) (v := ?_) (a' := ?_) #[true, true, true, true, true, true, false, false, false, false, false, false, false, false] rfl rfl (by kernel_rfl) (fun _ _ _ h => h) (Or.inl ⟨by rfl, ?_⟩) hHeld ?_ ?_
   rotate_left
   ·rintro w' ⟨s0, s1, s2⟩
    go_simp
    with_reducible rfl
   rotate_left
   ·simp only [Act.put, List.setIfInBounds_toArray, List.set_cons_zero, List.set_cons_succ, i64_w, i32_w]
    rfl
   refine pure_ (i := 6) (N := some 47) (v := ?_) (a' := ?_) #[true, true, true, true, true, true, true, false, false, false, false, false, false, false] rfl rfl (by kernel_rfl) (fun _ _ _ h => h) (Or.inl ⟨by rfl, ?_⟩) ?_ ?_
   rotate_left
   ·intro w'
    go_simp
    with_reducible rfl
   rotate_left
   ·simp only [Act.put, List.setIfInBounds_toArray, List.set_cons_zero, List.set_cons_succ, i64_w, i32_w]
    rfl
   refine pure_ (i := 7) (N := some 48) (v := ?_) (a' := ?_) #[true, true, true, true, true, true, true, true, false, false, false, false, false, false] rfl rfl (by kernel_rfl) (fun _ _ _ h => h) (Or.inl ⟨by rfl, ?_⟩) ?_ ?_
   rotate_left
   ·intro w'
    go_simp
    with_reducible rfl
   rotate_left
   ·simp only [Act.put, List.setIfInBounds_toArray, List.set_cons_zero, List.set_cons_succ, i64_w, i32_w]
    rfl
   refine take_ (i := 8) (N := some 49) (v := ?_) (a' := ?_) #[true, true, true, true, true, true, true, true, true, false, false, false, false, false] rfl rfl (by kernel_rfl) (fun _ _ _ h => h) (Or.inl ⟨by rfl, ?_⟩) hHeld ?_ ?_
   rotate_left
   ·rintro w' ⟨s0, s1, s2⟩
    go_simp
    with_reducible rfl
   rotate_left
   ·simp only [Act.put, List.setIfInBounds_toArray, List.set_cons_zero, List.set_cons_succ, i64_w, i32_w]
    rfl
   refine one_ (i := 9) (N := some 50) #[true, true, true, true, true, true, true, true, true, true, false, false, false, false] rfl rfl (by kernel_rfl) (by decide) (fun K hK => ?_)
   refine value_ (w1 := ?_) (v := ?_) (by rfl) rfl ?_ ?_
   rotate_left 2
   ·go_simp
    constructor
    ·rfl
    ·rfl
   refine hK.out _ _ ⟨(World.cell?_alloc_lt _ _ _ (World.block_lt_of_cell? _ _ (hcc))).trans (hcc), (World.cell?_alloc_lt _ _ _ (World.block_lt_of_cell? _ _ (hcF))).trans (hcF), (World.cell?_alloc_lt _ _ _ (World.block_lt_of_cell? _ _ (hcm))).trans (hcm)⟩ (fun hHeld => ?_)
   clear hK K
   refine norm_ (a' := ?_) ?_ ?_
   rotate_left
   ·show Act.put _ (some 50) _ = _
    simp only [Act.put, List.setIfInBounds_toArray, List.set_cons_zero, List.set_cons_succ, i64_w, i32_w]
    rfl
   refine one_ (i := 10) (N := some 51) #[true, true, true, true, true, true, true, true, true, true, true, false, false, false] rfl rfl (by kernel_rfl) (by decide) (fun K hK => ?_)
   have HH5 := Aside0.mk (HH4.out.below (below_drew (Below.refl _ _)))
   refine Kd.R_append_step (Kd.int .i64) (w0 := w0) w0.heap.size (by rfl) (.tmp 45) (.tmp 50) 22 2 (.int .i64 0) 8 rfl Try.underlying22 info2 rfl (by decide) (by omega) (.slice AF F.length cF) F m [.int .i64 m] (fun k => H0 ≤ k) (fun _ => False) (by rfl) (by rfl) ?aP (fun k hk => hk.elim) ?aF HH5.out.rF HH5.out.hB HH5.out.hB.size (by have := HFP.out; omega) ?_
   case aP => exact rfl
   case aF => exact fun k hk => Nat.le_trans HH5.out.hs hk
   intro v6 w6 ho_ hb_ hg_ hat_
   obtain ⟨A6, c6, rfl⟩ := Kd.R_slice ho_
   have HO6 := Aside0.mk ho_
   have HB6 := Aside0.mk hb_
   have HG6 := Aside0.mk hg_
   have HAT6 := Aside0.mk hat_
   clear ho_ hb_ hg_ hat_
   have hk1 : w6.cell? ⟨bc, 0, none⟩ = some (.pointer (some ⟨gC, 0, none⟩)) := (blk_cell (blk_grown HH5.out.hbc HG6.out (HH5.out.neF HS.out.lt.2.2.1)) 0).trans rfl
   have hgC6 := blk_grown HH5.out.hgC HG6.out (HH5.out.neF HS.out.lt.2.2.2.2.1)
   have hk2 : w6.cell? ⟨gC, 2, none⟩ = some (.slice AF F.length cF) := (blk_cell hgC6 2).trans rfl
   have hk3 : w6.cell? ⟨gC, 3, none⟩ = some (.int .i64 m) := (blk_cell hgC6 3).trans rfl
   have hfz : w6.frozen? ⟨gC, 2, none⟩ = false := blk_frozen hgC6 2
   refine hK.out _ _ ⟨hk1, hk2, hk3⟩ (fun hHeld => ?_)
   clear hK K
   refine norm_ (a' := ?_) ?_ ?_
   rotate_left
   ·show Act.put _ (some 51) _ = _
    simp only [Act.put, List.setIfInBounds_toArray, List.set_cons_zero, List.set_cons_succ, i64_w, i32_w]
    rfl
   refine pure_ (i := 11) (N := some 52) (v := ?_) (a' := ?_) #[true, true, true, true, true, true, true, true, true, true, true, true, false, false] rfl rfl (by kernel_rfl) (fun _ _ _ h => h) (Or.inl ⟨by rfl, ?_⟩) ?_ ?_
   rotate_left
   ·intro w'
    go_simp
    with_reducible rfl
   rotate_left
   ·simp only [Act.put, List.setIfInBounds_toArray, List.set_cons_zero, List.set_cons_succ, i64_w, i32_w]
    rfl
   refine pure_ (i := 12) (N := some 53) (v := ?_) (a' := ?_) #[true, true, true, true, true, true, true, true, true, true, true, true, true, false] rfl rfl (by kernel_rfl) (fun _ _ _ h => h) (Or.inl ⟨by rfl, ?_⟩) ?_ ?_
   rotate_left
   ·intro w'
    go_simp
    with_reducible rfl
   rotate_left
   ·simp only [Act.put, List.setIfInBounds_toArray, List.set_cons_zero, List.set_cons_succ, i64_w, i32_w]
    rfl
   refine last_ (i := 13) (N := none) #[true, true, true, true, true, true, true, true, true, true, true, true, true, true] rfl rfl (by kernel_rfl) (by decide) (fun K hK => ?_)
   refine skip_ (w1 := ?_) (by rfl) rfl ?_ ?_
   rotate_left
   ·go_simp
    rfl
   refine hK.out _ _ ?_
   clear hK K
   refine done_ (by kernel_rfl) ?_
   have HH7 := Aside0.mk (HH5.out.setF HS.out HG6.out HAT6.out HO6.out)
   have HL7 := Aside0.mk (((HL4.out.below (below_drew (Below.refl _ _)))).grown HG6.out (HH5.out.neF HS.out.lt.2.2.2.2.2) |>.far HS.out.lne.2.2.2.2 (i := 2) (.slice A6 (F ++ [m]).length c6))
   have hw7' : (w6.setCell ⟨gC, 2, none⟩ (.slice A6 (F.length + 1) c6)) = (w6.setCell ⟨gC, 2, none⟩ (.slice A6 (F ++ [m]).length c6)) := by simp
   obtain ⟨w7, hw7⟩ : ∃ w7, w7 = w6.setCell ⟨gC, 2, none⟩ (.slice A6 (F ++ [m]).length c6) := ⟨_, rfl⟩
   rw [hw7', ← hw7]
   rw [← hw7] at HH7 HL7
   clear hw7 hw7' hk1 hk2 hk3 hfz hgC6 HO6 HB6 HG6 HAT6 HH5 hcc hcF hcm HH4 HL4
   have hcc : w7.cell? ⟨bc, 0, none⟩ = some (.pointer (some ⟨gC, 0, none⟩)) := (blk_cell HH7.out.hbc 0).trans rfl
   have hcm : w7.cell? ⟨gC, 3, none⟩ = some (.int .i64 m) := (blk_cell HH7.out.hgC 3).trans rfl
   have hfz : w7.frozen? ⟨gC, 3, none⟩ = false := blk_frozen HH7.out.hgC 3
   go_wp2
   first | go_end0 | refine bodyPost_ret (results_none rfl _ _ _) rfl ?_
   exact ⟨rfl, .slice A1 (P ++ [xs]).length c1, .slice A6 (F ++ [m]).length c6, by rw [← HVV.out]; exact HH7.out.setM HS.out _, HL7.out.far HS.out.lne.2.2.2.2 _⟩
theorem LL.pop {W : World} {L : Nat} {xs : List Int} {i : Int} (h : LL W L (xs ++ [i])) : LL W L xs := by
 have := Kd.R_take (m := xs.length) h (by simp)
 rwa [List.take_left'] at this
 rfl
theorem LL.own {W : World} {L : Nat} {xs : List Int} (h : LL W L xs) : ∃ cur : Array Value, W.heap[L]? = some (.cells cur 2 (0, 0)) ∧ cur.size = 3 ∧ cur.toList.take xs.length = xs.map (Value.int .i64) := by
 have ho := Kd.own_of_R h
 obtain ⟨h1, h2⟩ := ho
 rcases h2 with ⟨h2, _⟩ | ⟨g, cap, cur, he, _, hh, _, _, hs, ht⟩
 ·cases h2
 ·injection he with e1 e2 e3
  injection e1 with e1
  injection e1 with e1
  subst e1
  subst e3
  exact ⟨cur, hh, by simpa using hs, by simpa [encs] using ht⟩
theorem LL.of {W : World} {L : Nat} {xs : List Int} (cur : Array Value) (hh : W.heap[L]? = some (.cells cur 2 (0, 0))) (hs : cur.size = 3) (hl : xs.length ≤ 3) (ht : cur.toList.take xs.length = xs.map (Value.int .i64)) : LL W L xs := by
 refine Kd.R_of_own ⟨by simp [encs], .inr ⟨L, 3, cur, rfl, Nat.zero_le _, hh, hl, by unfold maxLen; omega, by simpa using hs, by simpa [encs] using ht⟩⟩ (fun k hk => ?_)
 have : L = k := by simpa [Value.ownBlock] using hk
 exact this.symm
theorem LL.push {W : World} {L : Nat} {xs : List Int} (h : LL W L xs) (hx : xs.length < 3) (i : Int) : LL (W.setCell ⟨L, xs.length, none⟩ (.int .i64 i)) L (xs ++ [i]) ∧ W.grownBy (W.setCell ⟨L, xs.length, none⟩ (.int .i64 i)) (some L) ∧ (W.cell? ⟨L, xs.length, none⟩).isSome = true ∧ W.frozen? ⟨L, xs.length, none⟩ = false := by
 obtain ⟨cur, hh, hs, ht⟩ := h.own
 refine ⟨LL.of (cur.setIfInBounds xs.length (.int .i64 i)) (blk_set hh _ _) (by simpa using hs) (by simp; omega) ?_, ⟨rfl, rfl, rfl, by simp, fun k hk hne => Below.heap_setCell W _ _ k (fun e => hne (by rw [e]))⟩, ?_, blk_frozen hh _⟩
 ·rw [Array.toList_setIfInBounds, List.length_append, List.map_append, ← ht]
  have hcl : cur.toList.length = 3 := by simpa using hs
  apply List.ext_getElem?
  intro k
  simp only [List.length_cons, List.length_nil, List.getElem?_take, List.getElem?_set, List.getElem?_append, List.length_take, List.map_cons, List.map_nil, Nat.zero_add]
  rw [Nat.min_eq_left (by omega : xs.length ≤ cur.toList.length)]
  by_cases h1 : k < xs.length
  ·rw [if_pos (by omega), if_neg (by omega), if_pos h1, if_pos h1]
  ·by_cases h2 : k = xs.length
   ·subst h2
    rw [if_pos (by omega), if_pos rfl, if_pos (by omega), if_neg (by omega), Nat.sub_self]; rfl
   ·rw [if_neg (by omega), if_neg h1]
    have : k - xs.length ≠ 0 := by omega
    cases hk : k - xs.length with
    | zero => omega
    | succ n => rfl
 ·rw [blk_cell hh]
  have : xs.length < cur.size := by omega
  simp [this]
/-- What the search leaves behind. -/
def Found (w0 W' : World) (H0 bt bs bc bf gC L : Nat) (A0 : Option Addr) (c0 : Nat) (l : List Int) (t : Nat) (P : List (List Int)) (F : List Int) (m : Int) (new : List (List Int)) (xs : List Int) : Prop :=
 ∃ vP' vF', SS w0 W' H0 bt bs bc bf gC A0 c0 l t vP' (P ++ new) vF' (F ++ offs l m new) (tot l m new) ∧ LL W' L xs ∧ 0 ≤ tot l m new ∧ tot l m new ≤ 64 * (P ++ new).length
def Start (w0 W : World) (H0 bt bs bc bf gC L : Nat) (A0 : Option Addr) (c0 : Nat) (l : List Int) (t : Nat) (P : List (List Int)) (F : List Int) (m : Int) (xs : List Int) : Prop :=
 ∃ vP vF, SS w0 W H0 bt bs bc bf gC A0 c0 l t vP P vF F m ∧ LL W L xs

set_option maxHeartbeats 8000000 in
set_option maxRecDepth 100000 in
theorem search_calls (w0 : World) (H0 bt bs bc bf gC L : Nat) (A0 : Option Addr) (c0 : Nat) (l : List Int) (t : Nat) (s : SSt w0 H0 bt bs bc bf gC L) (hC : Kd.C (Kd.int .i64) w0 A0 l.length l) (hc0 : l.length ≤ c0) (hl : Sz l) (hn8 : l.length ≤ 8) (ht : t ≤ 3) (d : Nat) :
  ∀ (n' : Nat) (xs : List Int) (W : World) (P : List (List Int)) (F : List Int) (m : Int), n' = xs.length → xs.length + d = t → Start w0 W H0 bt bs bc bf gC L A0 c0 l t P F m xs → (∀ i ∈ xs, 0 ≤ i ∧ i < l.length) → P.length + (ext l.length d xs).length ≤ 1000 → F.length = P.length → 0 ≤ m ∧ m ≤ 64 * P.length →
  Calls Try.prog 169 #[.slice (some ⟨L, 0, none⟩) n' 3, .pointer (some ⟨bt, 0, none⟩), .pointer (some ⟨bs, 0, none⟩), .pointer (some ⟨bc, 0, none⟩), .pointer (some ⟨bf, 0, none⟩)] W fun e W' => e = .returned (.tuple #[]) ∧ Found w0 W' H0 bt bs bc bf gC L A0 c0 l t P F m (ext l.length d xs) xs := by
 induction d with
 | zero =>
  intro n' xs W P F m hn' hd hst hp hP hF hm
  subst hn'
  obtain ⟨vP, vF, hss, hll⟩ := hst
  obtain rfl : t = xs.length := by omega
  have hP1 : P.length + 1 ≤ 1000 := hP
  refine (search_end w0 W H0 bt bs bc bf gC L A0 c0 l vP P vF F m xs s hss hC hll hl ⟨by omega, hp⟩ (by omega) hF ⟨hm.1, by omega⟩).mono ?_
  rintro e W' ⟨rfl, vP', vF', h1, h2⟩
  have h3 := szp_range hl (p := xs) ⟨by omega, hp⟩ xs.length
  rw [List.take_length] at h3
  refine ⟨rfl, vP', vF', h1, h2, ?_, ?_⟩
  ·show 0 ≤ m + szp l xs; omega
  ·show m + szp l xs ≤ 64 * ((P ++ [xs]).length : Int); rw [List.length_append, List.length_singleton]; omega
 | succ d ih =>
  intro n' xs W P F m hn' hd hst hp hP hF hm
  subst hn'
  obtain ⟨vP, vF, hss, hll⟩ := hst
  have hzt : W.cell? ⟨bt, 0, none⟩ = some (.int .i64 t) := (blk_cell hss.hbt 0).trans rfl
  have hne : ((xs.length : Int) == (t : Int)) = false := by simp; omega
  have hl3 : xs.length < 3 := by omega
  have HS := Aside0.mk s
  have HC := Aside0.mk hC
  have HC0 := Aside0.mk hc0
  have HSZ := Aside0.mk hl
  have HPL := Aside0.mk hp
  have HP := Aside0.mk hP
  have HF := Aside0.mk hF
  have HM := Aside0.mk hm
  have HIH := Aside0.mk ih
  have HD := Aside0.mk hd
  have HSS := Aside0.mk hss
  have HLL := Aside0.mk hll
  have hst1 : Found w0 W H0 bt bs bc bf gC L A0 c0 l t P F m [] xs := ⟨vP, vF, by rw [List.append_nil]; show SS w0 W H0 bt bs bc bf gC A0 c0 l t vP P vF (F ++ []) m; rw [List.append_nil]; exact hss, hll, hm.1, by rw [List.append_nil]; exact hm.2⟩
  have HSS0 := hst1
  obtain ⟨i0, hi0, hz0, hz1, hz2⟩ := info_parts info2
  have hnx : next xs ≤ l.length ∧ 0 ≤ next xs := by
   unfold next
   split
   ·omega
   ·have := hp _ (at_mem xs (xs.length - 1) (by omega) (by omega)); omega
  have HNX := Aside0.mk hnx
  have hlast : Aside0 (¬ xs.length = 0 → next xs = rd xs ((xs.length : Int) - 1) + 1) := ⟨fun h => by unfold next; rw [if_neg h]; rfl⟩
  have hfirst : Aside0 (xs.length = 0 → next xs = 0) := ⟨fun h => by unfold next; rw [if_pos h]⟩
  clear hC hc0 hl hp hP hF hm ih hd hss hll s hnx
  have hu28 := Try.underlying28
  have hcellL : Aside0 (∀ j : Int, 0 ≤ j → j < xs.length → W.cell? ⟨L, j.toNat, none⟩ = some (.int .i64 (rd xs j))) := ⟨fun j h0 h1 => by
   obtain ⟨ad3, hade, hx3⟩ := Kd.at_int (Kd.R_reads' (show Kd.R (Kd.int .i64) 2 W 0 (fun k => k = L) (.slice (some ⟨L, 0, none⟩) xs.length 3) xs from HLL.out)).2.2 j h0 h1
   cases hade
   rw [← add_plain]; exact hx3⟩
  go_enter Try.func169, Try.ntmps169
  rcases Nat.eq_zero_or_pos xs.length with hx0 | hx0
  ·have hge : decide ((0:Int) < (xs.length : Int)) = false := decide_eq_false (by omega)
   have hge2 : decide (0 < xs.length) = false := decide_eq_false (by omega)
   have hst0 := hfirst.out hx0
   have HS0 := Aside0.mk hst0
   have HX0 := Aside0.mk hx0
   clear hx0 hst0
   go_wp2
   go_loopw [11] (fun v11 W' => ∃ c : Nat, v11 = .int .i64 (next xs + c) ∧ next xs + c ≤ l.length ∧ Aside0 (Found w0 W' H0 bt bs bc bf gC L A0 c0 l t P F m (run (fun i => ext l.length d (xs ++ [i])) (next xs) c) xs)) (fun v _ => (l.length - intOf v).toNat)
   case atStart => exact ⟨0, by first | (rw [HS0.out]; rfl) | (rw [HS0.out]; simp), by have := HNX.out; omega, ⟨HSS0⟩⟩
   case round =>
    obtain ⟨c, rfl, hc1, HFO⟩ := hrel
    obtain ⟨vP', vF', hss, hll, hm0, hm1⟩ := HFO.out
    have hzs : wr.cell? ⟨bs, 0, none⟩ = some (.slice A0 l.length c0) := (blk_cell hss.hbs 0).trans rfl
    have hzf := (blk_cell hss.hbf 0).trans rfl
    have HS1 := Aside0.mk hss
    have HL1 := Aside0.mk hll
    clear HFO hss hll
    have HNXo := HNX.out
    by_cases hlt : next xs + (c : Int) < (l.length : Int)
    ·go_wp2_with (go_at_call 168; (with_reducible refine (impl_places.calls A0 c0 l _ _ (Kd.C_below HC.out HS1.out.hB) HC0.out rfl).mono ?_); rintro e w1 ⟨rfl, hb1⟩; have HB1 := Aside0.mk hb1; clear hb1)
     have HS2 := Aside0.mk (HS1.out.below HB1.out)
     have HL2 := Aside0.mk (HL1.out.below HB1.out)
     have HE1 : Aside0 (xs.length + 1 = (xs ++ [next xs + (c : Int)]).length) := ⟨by simp⟩
     have HE2 : Aside0 ((xs ++ [next xs + (c : Int)]).length + d = t) := ⟨by have := HD.out; simp; omega⟩
     have HE4 : Aside0 (∀ i ∈ xs ++ [next xs + (c : Int)], 0 ≤ i ∧ i < (l.length : Int)) := ⟨fun i hi => by
      rcases List.mem_append.1 hi with h | h
      ·exact HPL.out i h
      ·rw [List.mem_singleton.1 h]; omega⟩
     have hrl := run_length_le (fun i => ext l.length d (xs ++ [i])) (c + 1) ((l.length : Int) - next xs).toNat (next xs) (by omega)
     have hre : (run (fun i => ext l.length d (xs ++ [i])) (next xs) (c + 1)).length = (run (fun i => ext l.length d (xs ++ [i])) (next xs) c).length + (ext l.length d (xs ++ [next xs + (c : Int)])).length := by rw [run_snoc, List.length_append]
     have HE5 : Aside0 ((P ++ run (fun i => ext l.length d (xs ++ [i])) (next xs) c).length + (ext l.length d (xs ++ [next xs + (c : Int)])).length ≤ 1000) := ⟨by
      have h1 := HP.out
      have h2 : (ext l.length (d + 1) xs).length = (run (fun i => ext l.length d (xs ++ [i])) (next xs) ((l.length : Int) - next xs).toNat).length := rfl
      rw [List.length_append]; omega⟩
     have HE6 : Aside0 ((F ++ offs l m (run (fun i => ext l.length d (xs ++ [i])) (next xs) c)).length = (P ++ run (fun i => ext l.length d (xs ++ [i])) (next xs) c).length) := ⟨by have := HF.out; rw [List.length_append, List.length_append, offs_length]; omega⟩
     clear hrl hre
     have hcf : w1.cell? ⟨bf, 0, none⟩ = some (.func (.func 169) #[] #[.pointer (some ⟨bt, 0, none⟩), .pointer (some ⟨bs, 0, none⟩), .pointer (some ⟨bc, 0, none⟩), .pointer (some ⟨bf, 0, none⟩)]) := (blk_cell HS2.out.hbf 0).trans rfl
     refine start_ (n := 6) (S := fun w' => w'.cell? ⟨bf, 0, none⟩ = some (.func (.func 169) #[] #[.pointer (some ⟨bt, 0, none⟩), .pointer (some ⟨bs, 0, none⟩), .pointer (some ⟨bc, 0, none⟩), .pointer (some ⟨bf, 0, none⟩)])) (ds := []) #[false, false, false, false, false, false] (by kernel_rfl) rfl rfl (hcf) (fun hHeld => ?_)
     refine pure_ (i := 1) (N := some 80) (v := ?_) (a' := ?_) #[false, true, false, false, false, false] rfl rfl (by kernel_rfl) (fun _ _ _ h => h) (Or.inl ⟨by rfl, ?_⟩) ?_ ?_
     rotate_left
     ·intro w'
      go_simp
      with_reducible rfl
     rotate_left
     ·simp only [Act.put, List.setIfInBounds_toArray, List.set_cons_zero, List.set_cons_succ, i64_w, i32_w]
      rfl
     refine pure_ (i := 2) (N := some 81) (v := ?_) (a' := ?_) #[false, true, true, false, false, false] rfl rfl (by kernel_rfl) (fun _ _ _ h => h) (Or.inl ⟨by rfl, ?_⟩) ?_ ?_
     rotate_left
     ·intro w'
      go_simp
      with_reducible rfl
     rotate_left
     ·simp only [Act.put, List.setIfInBounds_toArray, List.set_cons_zero, List.set_cons_succ, i64_w, i32_w]
      rfl
     refine take_ (i := 0) (N := some 79) (v := ?_) (a' := ?_) #[true, true, true, false, false, false] rfl rfl (by kernel_rfl) (fun _ _ _ h => h) (Or.inl ⟨by rfl, ?_⟩) hHeld ?_ ?_
     rotate_left
     ·intro w' s0
      go_simp
      with_reducible rfl
     rotate_left
     ·simp only [Act.put, List.setIfInBounds_toArray, List.set_cons_zero, List.set_cons_succ, i64_w, i32_w]
      rfl
     refine one_ (i := 3) (N := some 82) #[true, true, true, true, false, false] rfl rfl (by kernel_rfl) (by decide) (fun K hK => ?_)
     refine value_ (w1 := ?_) (v := ?_) (by rfl) rfl ?_ ?_
     rotate_left 2
     ·go_simp
      constructor
      ·rfl
      ·rfl
     refine hK.out _ _ ((World.cell?_alloc_lt _ _ _ (World.block_lt_of_cell? _ _ (hcf))).trans (hcf)) (fun hHeld => ?_)
     clear hK K
     refine norm_ (a' := ?_) ?_ ?_
     rotate_left
     ·show Act.put _ (some 82) _ = _
      simp only [Act.put, List.setIfInBounds_toArray, List.set_cons_zero, List.set_cons_succ, i64_w, i32_w]
      rfl
     refine one_ (i := 4) (N := some 83) #[true, true, true, true, true, false] rfl rfl (by kernel_rfl) (by decide) (fun K hK => ?_)
     have HS3 := Aside0.mk (HS2.out.below (below_drew (below_alloc (Below.refl _ _) (.cells #[.int .i64 (next xs + (c : Int))] 2))))
     have HL3 := Aside0.mk (HL2.out.below (below_drew (below_alloc (Below.refl _ _) (.cells #[.int .i64 (next xs + (c : Int))] 2))))
     have HPU := Aside0.mk (HL3.out.push hl3 (next xs + (c : Int)))
     refine step_append_room (by rfl) (.tmp 80) (.tmp 82) 22 (by rfl) 2 i0 1 Try.underlying22 hi0 hz1 L 0 xs.length 3 (by rfl) ⟨w1.heap.size, 0, none⟩ 1 1 [.int .i64 (next xs + (c : Int))] (by rfl) rfl (World.news_of_block (cs := #[.int .i64 (next xs + (c : Int))]) (t := 2) (fr := (0, 0)) (heap_alloc_new w1 _)) (by simp [Value.oneCell']) (by omega) (fun j hj => by have h0 : j = 0 := Nat.lt_one_iff.1 hj; subst h0; rw [show 0 + xs.length * 1 + 0 = xs.length by omega]; exact ⟨HPU.out.2.2.1, HPU.out.2.2.2⟩) ?_
     rw [show ∀ W : World, W.setCells L (0 + xs.length * 1) [.int .i64 (next xs + (c : Int))] = W.setCell ⟨L, xs.length, none⟩ (.int .i64 (next xs + (c : Int))) from fun W => by rw [show 0 + xs.length * 1 = xs.length by omega]; rfl]
     have HS5 := Aside0.mk (HS3.out.grownL HS.out HPU.out.2.1)
     have HL5 := Aside0.mk HPU.out.1
     obtain ⟨w5, hw5⟩ : ∃ w5, w5 = ((w1.alloc (.cells #[.int .i64 (next xs + (c : Int))] 2)).drew.setCell ⟨L, xs.length, none⟩ (.int .i64 (next xs + (c : Int)))) := ⟨_, rfl⟩
     rw [← hw5] at HS5 HL5 ⊢
     clear hw5 HPU HL3 HS3
     have hcf5 : w5.cell? ⟨bf, 0, none⟩ = some (.func (.func 169) #[] #[.pointer (some ⟨bt, 0, none⟩), .pointer (some ⟨bs, 0, none⟩), .pointer (some ⟨bc, 0, none⟩), .pointer (some ⟨bf, 0, none⟩)]) := (blk_cell HS5.out.hbf 0).trans rfl
     refine hK.out _ _ (hcf5) (fun hHeld => ?_)
     clear hK K
     refine norm_ (a' := ?_) ?_ ?_
     rotate_left
     ·show Act.put _ (some 83) _ = _
      simp only [Act.put, List.setIfInBounds_toArray, List.set_cons_zero, List.set_cons_succ, i64_w, i32_w]
      rfl
     refine one_ (i := 5) (N := some 84) #[true, true, true, true, true, true] rfl rfl (by kernel_rfl) (by decide) (fun K hK => ?_)
     go_simp
     go_at_call 169
     refine (HIH.out (xs.length + 1) (xs ++ [next xs + (c : Int)]) _ (P ++ run (fun i => ext l.length d (xs ++ [i])) (next xs) c) (F ++ offs l m (run (fun i => ext l.length d (xs ++ [i])) (next xs) c)) (tot l m (run (fun i => ext l.length d (xs ++ [i])) (next xs) c)) HE1.out HE2.out ⟨_, _, HS5.out, HL5.out⟩ HE4.out HE5.out HE6.out ⟨hm0, hm1⟩).mono ?_
     rintro e w6 ⟨rfl, hfo⟩
     have HFO := Aside0.mk hfo
     clear hfo
     have hcf6 : w6.cell? ⟨bf, 0, none⟩ = some (.func (.func 169) #[] #[.pointer (some ⟨bt, 0, none⟩), .pointer (some ⟨bs, 0, none⟩), .pointer (some ⟨bc, 0, none⟩), .pointer (some ⟨bf, 0, none⟩)]) := by obtain ⟨_, _, h, _⟩ := HFO.out; exact (blk_cell h.hbf 0).trans rfl
     refine hK.out _ _ (hcf6) (fun hHeld => ?_)
     clear hK K
     refine done_ (by kernel_rfl) ?_
     go_wp2
     go_roundw
     case measure => simp [intOf]; omega
     case rel =>
      obtain ⟨vP2, vF2, k1, k2, k3, k4⟩ := HFO.out
      refine ⟨c + 1, by first | rfl | (simp; omega), by omega, ⟨vP2, vF2, ?_, k2.pop, ?_, ?_⟩⟩
      ·rw [run_snoc, offs_append, tot_append, ← List.append_assoc, ← List.append_assoc]; exact k1
      ·rw [run_snoc, tot_append]; exact k3
      ·rw [run_snoc, tot_append, ← List.append_assoc]; exact k4
    ·go_wp2_with (go_at_call 168; (with_reducible refine (impl_places.calls A0 c0 l _ _ (Kd.C_below HC.out HS1.out.hB) HC0.out rfl).mono ?_); rintro e w1 ⟨rfl, hb1⟩; have HB1 := Aside0.mk hb1; clear hb1)
     first | go_end0 | refine bodyPost_ret (results_none rfl _ _ _) rfl ?_
     refine ⟨rfl, vP', vF', ?_, HL1.out.below HB1.out, ?_, ?_⟩
     all_goals
      rw [show ext l.length (d + 1) xs = run (fun i => ext l.length d (xs ++ [i])) (next xs) c from (show run _ _ _ = _ from (by rw [show ((l.length : Int) - next xs).toNat = c by omega]))]
     ·exact HS1.out.below HB1.out
     ·exact hm0
     ·exact hm1
  ·have hge : decide ((0:Int) < (xs.length : Int)) = true := decide_eq_true (by omega)
   have hge2 : decide (0 < xs.length) = true := decide_eq_true hx0
   have hx1 : (0:Int) ≤ (xs.length : Int) - 1 := by omega
   have hcl := hcellL.out ((xs.length : Int) - 1) (by omega) (by omega)
   have hcl' : W.cell? ⟨L, xs.length - 1, none⟩ = some (.int .i64 (rd xs ((xs.length : Int) - 1))) := by rw [← hcl]; congr 2; omega
   obtain ⟨y, hy⟩ : ∃ y, y = rd xs ((xs.length : Int) - 1) := ⟨_, rfl⟩
   have hyb := HPL.out _ (at_mem xs ((xs.length : Int) - 1) (by omega) (by omega))
   have hyb0 : 0 ≤ y := by rw [hy]; exact hyb.1
   have hyb1 : y < 8 := by have h1 : y < (l.length : Int) := (by rw [hy]; exact hyb.2); omega
   have hl2 := hlast.out (by omega)
   rw [← hy] at hcl hcl' hl2
   have HS0 := Aside0.mk hl2
   clear hy hyb hl2
   go_wp2
   go_loopw [11] (fun v11 W' => ∃ c : Nat, v11 = .int .i64 (next xs + c) ∧ next xs + c ≤ l.length ∧ Aside0 (Found w0 W' H0 bt bs bc bf gC L A0 c0 l t P F m (run (fun i => ext l.length d (xs ++ [i])) (next xs) c) xs)) (fun v _ => (l.length - intOf v).toNat)
   case atStart => exact ⟨0, by first | (rw [HS0.out]; rfl) | (rw [HS0.out]; simp), by have := HNX.out; omega, ⟨HSS0⟩⟩
   case round =>
    obtain ⟨c, rfl, hc1, HFO⟩ := hrel
    obtain ⟨vP', vF', hss, hll, hm0, hm1⟩ := HFO.out
    have hzs : wr.cell? ⟨bs, 0, none⟩ = some (.slice A0 l.length c0) := (blk_cell hss.hbs 0).trans rfl
    have hzf := (blk_cell hss.hbf 0).trans rfl
    have HS1 := Aside0.mk hss
    have HL1 := Aside0.mk hll
    clear HFO hss hll
    have HNXo := HNX.out
    by_cases hlt : next xs + (c : Int) < (l.length : Int)
    ·go_wp2_with (go_at_call 168; (with_reducible refine (impl_places.calls A0 c0 l _ _ (Kd.C_below HC.out HS1.out.hB) HC0.out rfl).mono ?_); rintro e w1 ⟨rfl, hb1⟩; have HB1 := Aside0.mk hb1; clear hb1)
     have HS2 := Aside0.mk (HS1.out.below HB1.out)
     have HL2 := Aside0.mk (HL1.out.below HB1.out)
     have HE1 : Aside0 (xs.length + 1 = (xs ++ [next xs + (c : Int)]).length) := ⟨by simp⟩
     have HE2 : Aside0 ((xs ++ [next xs + (c : Int)]).length + d = t) := ⟨by have := HD.out; simp; omega⟩
     have HE4 : Aside0 (∀ i ∈ xs ++ [next xs + (c : Int)], 0 ≤ i ∧ i < (l.length : Int)) := ⟨fun i hi => by
      rcases List.mem_append.1 hi with h | h
      ·exact HPL.out i h
      ·rw [List.mem_singleton.1 h]; omega⟩
     have hrl := run_length_le (fun i => ext l.length d (xs ++ [i])) (c + 1) ((l.length : Int) - next xs).toNat (next xs) (by omega)
     have hre : (run (fun i => ext l.length d (xs ++ [i])) (next xs) (c + 1)).length = (run (fun i => ext l.length d (xs ++ [i])) (next xs) c).length + (ext l.length d (xs ++ [next xs + (c : Int)])).length := by rw [run_snoc, List.length_append]
     have HE5 : Aside0 ((P ++ run (fun i => ext l.length d (xs ++ [i])) (next xs) c).length + (ext l.length d (xs ++ [next xs + (c : Int)])).length ≤ 1000) := ⟨by
      have h1 := HP.out
      have h2 : (ext l.length (d + 1) xs).length = (run (fun i => ext l.length d (xs ++ [i])) (next xs) ((l.length : Int) - next xs).toNat).length := rfl
      rw [List.length_append]; omega⟩
     have HE6 : Aside0 ((F ++ offs l m (run (fun i => ext l.length d (xs ++ [i])) (next xs) c)).length = (P ++ run (fun i => ext l.length d (xs ++ [i])) (next xs) c).length) := ⟨by have := HF.out; rw [List.length_append, List.length_append, offs_length]; omega⟩
     clear hrl hre
     have hcf : w1.cell? ⟨bf, 0, none⟩ = some (.func (.func 169) #[] #[.pointer (some ⟨bt, 0, none⟩), .pointer (some ⟨bs, 0, none⟩), .pointer (some ⟨bc, 0, none⟩), .pointer (some ⟨bf, 0, none⟩)]) := (blk_cell HS2.out.hbf 0).trans rfl
     refine start_ (n := 6) (S := fun w' => w'.cell? ⟨bf, 0, none⟩ = some (.func (.func 169) #[] #[.pointer (some ⟨bt, 0, none⟩), .pointer (some ⟨bs, 0, none⟩), .pointer (some ⟨bc, 0, none⟩), .pointer (some ⟨bf, 0, none⟩)])) (ds := []) #[false, false, false, false, false, false] (by kernel_rfl) rfl rfl (hcf) (fun hHeld => ?_)
     refine pure_ (i := 1) (N := some 80) (v := ?_) (a' := ?_) #[false, true, false, false, false, false] rfl rfl (by kernel_rfl) (fun _ _ _ h => h) (Or.inl ⟨by rfl, ?_⟩) ?_ ?_
     rotate_left
     ·intro w'
      go_simp
      with_reducible rfl
     rotate_left
     ·simp only [Act.put, List.setIfInBounds_toArray, List.set_cons_zero, List.set_cons_succ, i64_w, i32_w]
      rfl
     refine pure_ (i := 2) (N := some 81) (v := ?_) (a' := ?_) #[false, true, true, false, false, false] rfl rfl (by kernel_rfl) (fun _ _ _ h => h) (Or.inl ⟨by rfl, ?_⟩) ?_ ?_
     rotate_left
     ·intro w'
      go_simp
      with_reducible rfl
     rotate_left
     ·simp only [Act.put, List.setIfInBounds_toArray, List.set_cons_zero, List.set_cons_succ, i64_w, i32_w]
      rfl
     refine take_ (i := 0) (N := some 79) (v := ?_) (a' := ?_) #[true, true, true, false, false, false] rfl rfl (by kernel_rfl) (fun _ _ _ h => h) (Or.inl ⟨by rfl, ?_⟩) hHeld ?_ ?_
     rotate_left
     ·intro w' s0
      go_simp
      with_reducible rfl
     rotate_left
     ·simp only [Act.put, List.setIfInBounds_toArray, List.set_cons_zero, List.set_cons_succ, i64_w, i32_w]
      rfl
     refine one_ (i := 3) (N := some 82) #[true, true, true, true, false, false] rfl rfl (by kernel_rfl) (by decide) (fun K hK => ?_)
     refine value_ (w1 := ?_) (v := ?_) (by rfl) rfl ?_ ?_
     rotate_left 2
     ·go_simp
      constructor
      ·rfl
      ·rfl
     refine hK.out _ _ ((World.cell?_alloc_lt _ _ _ (World.block_lt_of_cell? _ _ (hcf))).trans (hcf)) (fun hHeld => ?_)
     clear hK K
     refine norm_ (a' := ?_) ?_ ?_
     rotate_left
     ·show Act.put _ (some 82) _ = _
      simp only [Act.put, List.setIfInBounds_toArray, List.set_cons_zero, List.set_cons_succ, i64_w, i32_w]
      rfl
     refine one_ (i := 4) (N := some 83) #[true, true, true, true, true, false] rfl rfl (by kernel_rfl) (by decide) (fun K hK => ?_)
     have HS3 := Aside0.mk (HS2.out.below (below_drew (below_alloc (Below.refl _ _) (.cells #[.int .i64 (next xs + (c : Int))] 2))))
     have HL3 := Aside0.mk (HL2.out.below (below_drew (below_alloc (Below.refl _ _) (.cells #[.int .i64 (next xs + (c : Int))] 2))))
     have HPU := Aside0.mk (HL3.out.push hl3 (next xs + (c : Int)))
     refine step_append_room (by rfl) (.tmp 80) (.tmp 82) 22 (by rfl) 2 i0 1 Try.underlying22 hi0 hz1 L 0 xs.length 3 (by rfl) ⟨w1.heap.size, 0, none⟩ 1 1 [.int .i64 (next xs + (c : Int))] (by rfl) rfl (World.news_of_block (cs := #[.int .i64 (next xs + (c : Int))]) (t := 2) (fr := (0, 0)) (heap_alloc_new w1 _)) (by simp [Value.oneCell']) (by omega) (fun j hj => by have h0 : j = 0 := Nat.lt_one_iff.1 hj; subst h0; rw [show 0 + xs.length * 1 + 0 = xs.length by omega]; exact ⟨HPU.out.2.2.1, HPU.out.2.2.2⟩) ?_
     rw [show ∀ W : World, W.setCells L (0 + xs.length * 1) [.int .i64 (next xs + (c : Int))] = W.setCell ⟨L, xs.length, none⟩ (.int .i64 (next xs + (c : Int))) from fun W => by rw [show 0 + xs.length * 1 = xs.length by omega]; rfl]
     have HS5 := Aside0.mk (HS3.out.grownL HS.out HPU.out.2.1)
     have HL5 := Aside0.mk HPU.out.1
     obtain ⟨w5, hw5⟩ : ∃ w5, w5 = ((w1.alloc (.cells #[.int .i64 (next xs + (c : Int))] 2)).drew.setCell ⟨L, xs.length, none⟩ (.int .i64 (next xs + (c : Int)))) := ⟨_, rfl⟩
     rw [← hw5] at HS5 HL5 ⊢
     clear hw5 HPU HL3 HS3
     have hcf5 : w5.cell? ⟨bf, 0, none⟩ = some (.func (.func 169) #[] #[.pointer (some ⟨bt, 0, none⟩), .pointer (some ⟨bs, 0, none⟩), .pointer (some ⟨bc, 0, none⟩), .pointer (some ⟨bf, 0, none⟩)]) := (blk_cell HS5.out.hbf 0).trans rfl
     refine hK.out _ _ (hcf5) (fun hHeld => ?_)
     clear hK K
     refine norm_ (a' := ?_) ?_ ?_
     rotate_left
     ·show Act.put _ (some 83) _ = _
      simp only [Act.put, List.setIfInBounds_toArray, List.set_cons_zero, List.set_cons_succ, i64_w, i32_w]
      rfl
     refine one_ (i := 5) (N := some 84) #[true, true, true, true, true, true] rfl rfl (by kernel_rfl) (by decide) (fun K hK => ?_)
     go_simp
     go_at_call 169
     refine (HIH.out (xs.length + 1) (xs ++ [next xs + (c : Int)]) _ (P ++ run (fun i => ext l.length d (xs ++ [i])) (next xs) c) (F ++ offs l m (run (fun i => ext l.length d (xs ++ [i])) (next xs) c)) (tot l m (run (fun i => ext l.length d (xs ++ [i])) (next xs) c)) HE1.out HE2.out ⟨_, _, HS5.out, HL5.out⟩ HE4.out HE5.out HE6.out ⟨hm0, hm1⟩).mono ?_
     rintro e w6 ⟨rfl, hfo⟩
     have HFO := Aside0.mk hfo
     clear hfo
     have hcf6 : w6.cell? ⟨bf, 0, none⟩ = some (.func (.func 169) #[] #[.pointer (some ⟨bt, 0, none⟩), .pointer (some ⟨bs, 0, none⟩), .pointer (some ⟨bc, 0, none⟩), .pointer (some ⟨bf, 0, none⟩)]) := by obtain ⟨_, _, h, _⟩ := HFO.out; exact (blk_cell h.hbf 0).trans rfl
     refine hK.out _ _ (hcf6) (fun hHeld => ?_)
     clear hK K
     refine done_ (by kernel_rfl) ?_
     go_wp2
     go_roundw
     case measure => simp [intOf]; omega
     case rel =>
      obtain ⟨vP2, vF2, k1, k2, k3, k4⟩ := HFO.out
      refine ⟨c + 1, by first | rfl | (simp; omega), by omega, ⟨vP2, vF2, ?_, k2.pop, ?_, ?_⟩⟩
      ·rw [run_snoc, offs_append, tot_append, ← List.append_assoc, ← List.append_assoc]; exact k1
      ·rw [run_snoc, tot_append]; exact k3
      ·rw [run_snoc, tot_append, ← List.append_assoc]; exact k4
    ·go_wp2_with (go_at_call 168; (with_reducible refine (impl_places.calls A0 c0 l _ _ (Kd.C_below HC.out HS1.out.hB) HC0.out rfl).mono ?_); rintro e w1 ⟨rfl, hb1⟩; have HB1 := Aside0.mk hb1; clear hb1)
     first | go_end0 | refine bodyPost_ret (results_none rfl _ _ _) rfl ?_
     refine ⟨rfl, vP', vF', ?_, HL1.out.below HB1.out, ?_, ?_⟩
     all_goals
      rw [show ext l.length (d + 1) xs = run (fun i => ext l.length d (xs ++ [i])) (next xs) c from (show run _ _ _ = _ from (by rw [show ((l.length : Int) - next xs).toNat = c by omega]))]
     ·exact HS1.out.below HB1.out
     ·exact hm0
     ·exact hm1
set_option maxHeartbeats 8000000 in
set_option maxRecDepth 100000 in
theorem newChoices_calls (A0 : Option Addr) (c0 : Nat) (l : List Int) (t : Nat) (w : World) (hC : Kd.C (Kd.int .i64) w A0 l.length l) (hc0 : l.length ≤ c0) (hl : Sz l) (hn8 : l.length ≤ 8) (ht : t ≤ 3) :
  Calls Try.prog 92 #[.agg #[.slice A0 l.length c0], .int .i64 t] w fun e w' => ∃ g, e = .returned (.pointer (some ⟨g, 0, none⟩)) ∧ ChAt w' g l (ext l.length t []) (offs l 0 (ext l.length t [])) (tot l 0 (ext l.length t [])) ∧ 0 ≤ tot l 0 (ext l.length t []) ∧ tot l 0 (ext l.length t []) ≤ 64 * (ext l.length t []).length ∧ Below w.heap.size w w' := by
 have HC := Aside0.mk hC
 have HC0 := Aside0.mk hc0
 have HSZ := Aside0.mk hl
 have HEX := Aside0.mk (ext_len512 l.length t hn8 ht)
 clear hC hc0 hl
 have hu28 := Try.underlying28
 have hu92 := Try.underlying92
 have hmk : ∀ w, (Instr.makeSlice 22 (.int .i64 0) (.int .i64 3)).run Try.prog w = .ok (.slice (some ⟨w.heap.size, 0, none⟩) 0 3) (w.alloc (.cells #[.int .i64 0, .int .i64 0, .int .i64 0] 2)) := fun _ => by kernel_rfl
 have hmf : ∀ (fn : Fn) (first cap : Array Value) (w : World), (Instr.makeFunc fn first cap).run Try.prog w = .ok (.func fn first cap) w := fun _ _ _ _ => rfl
 go_enter Try.func92, Try.ntmps92
 go_wp2_with (first | ((with_reducible refine gate_dst (N := 2) rfl ?_); refine box_event ?hg (N := 2) ?hd (cs := #[.slice A0 l.length c0]) (t := 28) ?hr ?_; (case hd => rfl); (case hg => rfl); (case hr => first | (go_simp; done) | (go_simp; rfl)); intro bs hg_ w1 hbox_ hb_; have K1 := Aside0.mk hbox_; have B1 := Aside0.mk hb_; have G1 := Aside0.mk hg_; clear hbox_ hb_ hg_; skip) | ((with_reducible refine gate_dst (N := 3) rfl ?_); refine box_event ?hg (N := 3) ?hd (cs := #[.int .i64 t]) (t := 2) ?hr ?_; (case hd => rfl); (case hg => rfl); (case hr => first | (go_simp; done) | (go_simp; rfl)); intro bt hg_ w2 hbox_ hb_; have K2 := Aside0.mk hbox_; have B2 := Aside0.mk hb_; have G2 := Aside0.mk hg_; clear hbox_ hb_ hg_; have hk1 : w2.cell? ⟨bs, 0, none⟩ = some (.slice A0 l.length c0) := (blk_cell (blk_below K1.out B2.out) 0).trans rfl) | ((with_reducible refine gate_dst (N := 9) rfl ?_); refine box_event ?hg (N := 9) ?hd (cs := #[.slice A0 l.length c0, .slice none 0 0, .slice none 0 0, .int .i64 0]) (t := 92) ?hr ?_; (case hd => rfl); (case hg => rfl); (case hr => first | (go_simp; done) | (go_simp; rfl)); intro gC hg_ w3 hbox_ hb_; have K3 := Aside0.mk hbox_; have B3 := Aside0.mk hb_; have G3 := Aside0.mk hg_; clear hbox_ hb_ hg_; skip) | ((with_reducible refine gate_dst (N := 5) rfl ?_); refine box_event ?hg (N := 5) ?hd (cs := #[.pointer none]) (t := 88) ?hr ?_; (case hd => rfl); (case hg => rfl); (case hr => first | (go_simp; done) | (go_simp; rfl)); intro bc hg_ w4 hbox_ hb_; have K4 := Aside0.mk hbox_; have B4 := Aside0.mk hb_; have G4 := Aside0.mk hg_; clear hbox_ hb_ hg_; have hk4 : w4.cell? ⟨bc, 0, none⟩ = some (.pointer none) := (blk_cell K4.out 0).trans rfl; have hf4 := blk_frozen K4.out 0) | ((with_reducible refine gate_dst (N := 6) rfl ?_); refine box_event ?hg (N := 6) ?hd (cs := #[.nilFunc]) (t := 144) ?hr ?_; (case hd => rfl); (case hg => rfl); (case hr => first | (go_simp; done) | (go_simp; rfl)); intro bf hg_ w5 hbox_ hb_; have K5 := Aside0.mk hbox_; have B5 := Aside0.mk hb_; have G5 := Aside0.mk hg_; clear hbox_ hb_ hg_; refine Here.out ?_))
 refine ⟨?_⟩
 have hk5 : w5.cell? ⟨bf, 0, none⟩ = some .nilFunc := (blk_cell K5.out 0).trans rfl
 have hf5 := blk_frozen K5.out 0
 go_wp2
 have e2 : bs < bt := by rw [G2.out]; exact blk_lt K1.out
 have e3 : bt < gC := by rw [G3.out]; exact blk_lt K2.out
 have e4 : gC < bc := by rw [G4.out]; exact blk_lt K3.out
 have e5 : bc < bf := by rw [G5.out]; have := blk_lt K4.out; simpa using this
 have e6 : bf < w5.heap.size := blk_lt K5.out
 have e1 : w.heap.size ≤ bs := by rw [G1.out]; exact Nat.le_refl _
 obtain ⟨w6, hw6⟩ : ∃ w6, w6 = w5.setCell ⟨bf, 0, none⟩ (.func (.func 169) #[] #[.pointer (some ⟨bt, 0, none⟩), .pointer (some ⟨bs, 0, none⟩), .pointer (some ⟨bc, 0, none⟩), .pointer (some ⟨bf, 0, none⟩)]) := ⟨_, rfl⟩
 rw [← hw6]
 have e7 : w6.heap.size = w5.heap.size := by rw [hw6]; simp
 have X1 : w6.heap[bs]? = some (.cells #[.slice A0 l.length c0] 28 (0, 0)) := by
  rw [hw6]; exact blk_far (blk_below (blk_far (blk_below (blk_below (blk_below K1.out B2.out) B3.out) B4.out) (by show bs ≠ bc; omega) _) B5.out) (by show bs ≠ bf; omega) _
 have X2 : w6.heap[bt]? = some (.cells #[.int .i64 t] 2 (0, 0)) := by
  rw [hw6]; exact blk_far (blk_below (blk_far (blk_below (blk_below K2.out B3.out) B4.out) (by show bt ≠ bc; omega) _) B5.out) (by show bt ≠ bf; omega) _
 have X3 : w6.heap[gC]? = some (.cells #[.slice A0 l.length c0, .slice none 0 0, .slice none 0 0, .int .i64 0] 92 (0, 0)) := by
  rw [hw6]; exact blk_far (blk_below (blk_far (blk_below K3.out B4.out) (by show gC ≠ bc; omega) _) B5.out) (by show gC ≠ bf; omega) _
 have X4 : w6.heap[bc]? = some (.cells #[.pointer (some ⟨gC, 0, none⟩)] 88 (0, 0)) := by
  rw [hw6]; exact blk_far (blk_below (blk_put K4.out 0 _ rfl) B5.out) (by show bc ≠ bf; omega) _
 have X5 : w6.heap[bf]? = some (.cells #[(.func (.func 169) #[] #[.pointer (some ⟨bt, 0, none⟩), .pointer (some ⟨bs, 0, none⟩), .pointer (some ⟨bc, 0, none⟩), .pointer (some ⟨bf, 0, none⟩)])] 144 (0, 0)) := by
  rw [hw6]; exact blk_put K5.out 0 _ rfl
 have X6 : Below w.heap.size w w6 := by
  rw [hw6]; exact below_set (below_step (below_set (below_step (below_step (below_step B1.out B2.out) B3.out) B4.out) (by omega)) B5.out) (by omega)
 have SST : Aside0 (SSt w (w6.heap.size + 1) bt bs bc bf gC w6.heap.size) := ⟨⟨⟨by omega, by omega, by omega, by omega, by omega, by omega⟩, ⟨by omega, by omega⟩, ⟨by omega, by omega, by omega, by omega⟩, ⟨by omega, by omega, by omega, by omega, by omega⟩⟩⟩
 have hlen : Aside0 ((([] : List (List Int)).length + (ext l.length t []).length) ≤ 1000) := ⟨by have := HEX.out; simp; omega⟩
 have hcf : w6.cell? ⟨bf, 0, none⟩ = some (.func (.func 169) #[] #[.pointer (some ⟨bt, 0, none⟩), .pointer (some ⟨bs, 0, none⟩), .pointer (some ⟨bc, 0, none⟩), .pointer (some ⟨bf, 0, none⟩)]) := (blk_cell X5 0).trans rfl
 have hcb : w6.cell? ⟨bc, 0, none⟩ = some (.pointer (some ⟨gC, 0, none⟩)) := (blk_cell X4 0).trans rfl
 have STA : Aside0 (Start w ((w6.alloc (.cells #[.int .i64 0, .int .i64 0, .int .i64 0] 2)).drew) (w6.heap.size + 1) bt bs bc bf gC w6.heap.size A0 c0 l t [] [] 0 []) := ⟨.slice none 0 0, .slice none 0 0,
  ⟨blk_alloc X2 _, blk_alloc X1 _, blk_alloc X4 _, blk_alloc X5 _, blk_alloc X3 _, Kd.R_nil _ _ _ _ _, Kd.R_nil _ _ _ _ _, below_drew (below_alloc X6 _), by show _ ≤ (w6.alloc _).heap.size; rw [World.size_alloc]; exact Nat.le_refl _⟩,
  LL.of (W := (w6.alloc (.cells #[.int .i64 0, .int .i64 0, .int .i64 0] 2)).drew) #[.int .i64 0, .int .i64 0, .int .i64 0] (blk_new w6 _) rfl (by decide) rfl⟩
 clear hw6 hk4 hf4 hk5 hf5 hk1 K1 K2 K3 K4 K5 B1 B2 B3 B4 B5 G1 G2 G3 G4 G5 e1 e2 e3 e4 e5 e6 e7 hmf
 have Y1 := Aside0.mk X1
 have Y2 := Aside0.mk X2
 have Y3 := Aside0.mk X3
 have Y4 := Aside0.mk X4
 have Y5 := Aside0.mk X5
 have Y6 := Aside0.mk X6
 clear X1 X2 X3 X4 X5 X6
 refine start_ (n := 3) (S := fun w' => w'.cell? ⟨bf, 0, none⟩ = some (.func (.func 169) #[] #[.pointer (some ⟨bt, 0, none⟩), .pointer (some ⟨bs, 0, none⟩), .pointer (some ⟨bc, 0, none⟩), .pointer (some ⟨bf, 0, none⟩)])) (ds := []) #[false, false, false] (by kernel_rfl) rfl rfl (hcf) (fun hHeld => ?_)
 refine take_ (i := 0) (N := some 11) (v := ?_) (a' := ?_) #[true, false, false] rfl rfl (by kernel_rfl) (fun _ _ _ h => h) (Or.inl ⟨by rfl, ?_⟩) hHeld ?_ ?_
 rotate_left
 ·intro w' s0
  go_simp
  with_reducible rfl
 rotate_left
 ·simp only [Act.put, List.setIfInBounds_toArray, List.set_cons_zero, List.set_cons_succ, i64_w, i32_w]
  rfl
 refine one_ (i := 1) (N := some 12) #[true, true, false] rfl rfl (by kernel_rfl) (by decide) (fun K hK => ?_)
 refine value_ (w1 := ?_) (v := ?_) (by rfl) rfl ?_ ?_
 rotate_left 2
 ·go_simp
  constructor
  ·rfl
  ·rfl
 refine hK.out _ _ ((World.cell?_alloc_lt _ _ _ (World.block_lt_of_cell? _ _ (hcf))).trans (hcf)) (fun hHeld => ?_)
 clear hK K
 refine norm_ (a' := ?_) ?_ ?_
 rotate_left
 ·show Act.put _ (some 12) _ = _
  simp only [Act.put, List.setIfInBounds_toArray, List.set_cons_zero, List.set_cons_succ, i64_w, i32_w]
  rfl
 refine one_ (i := 2) (N := some 13) #[true, true, true] rfl rfl (by kernel_rfl) (by decide) (fun K hK => ?_)
 go_simp
 go_at_call 169
 refine (search_calls w (w6.heap.size + 1) bt bs bc bf gC w6.heap.size A0 c0 l t SST.out HC.out HC0.out HSZ.out hn8 ht t 0 [] _ [] [] 0 rfl (by simp) STA.out (by simp) hlen.out rfl ⟨by omega, by simp⟩).mono ?_
 rintro e w7 ⟨rfl, hfo⟩
 have HFO := Aside0.mk hfo
 clear hfo
 have hcf7 : w7.cell? ⟨bf, 0, none⟩ = some (.func (.func 169) #[] #[.pointer (some ⟨bt, 0, none⟩), .pointer (some ⟨bs, 0, none⟩), .pointer (some ⟨bc, 0, none⟩), .pointer (some ⟨bf, 0, none⟩)]) := by obtain ⟨_, _, h, _⟩ := HFO.out; exact (blk_cell h.hbf 0).trans rfl
 have hcb7 : w7.cell? ⟨bc, 0, none⟩ = some (.pointer (some ⟨gC, 0, none⟩)) := by obtain ⟨_, _, h, _⟩ := HFO.out; exact (blk_cell h.hbc 0).trans rfl
 refine hK.out _ _ (hcf7) (fun hHeld => ?_)
 clear hK K
 refine done_ (by kernel_rfl) ?_
 go_wp2
 go_ret
 obtain ⟨vP, vF, h1, h2, h3, h4⟩ := HFO.out
 rw [List.nil_append] at h1 h4
 rw [List.nil_append] at h1
 obtain ⟨AP, cP, rfl⟩ := Kd.R_slice h1.rP
 obtain ⟨AF, cF, rfl⟩ := Kd.R_slice h1.rF
 exact ⟨gC, rfl, ⟨A0, c0, AP, cP, AF, cF, h1.hgC, HC0.out, Kd.C_below HC.out h1.hB, (Kd.R_reads' h1.rP).2.2, (Kd.R_reads' h1.rF).2.2⟩, h3, h4, h1.hB⟩
set_option maxHeartbeats 8000000 in
set_option maxRecDepth 100000 in
theorem often_calls (g : Nat) (l : List Int) (P : List (List Int)) (F : List Int) (m : Int) (A9 : Option Addr) (c9 : Nat) (rows : List Int) (w : World) (hch : ChAt w g l P F m) (hok : ChOk l P F) (hfit : Fits l P F m) (hm : 0 ≤ m ∧ m ≤ 1000000)
  (hR : Kd.C (Kd.int .i64) w A9 rows.length rows) (hr : ∀ r ∈ rows, 0 ≤ r ∧ r < 1073741824) (hrl : rows.length ≤ 1000) :
  Calls Try.prog 93 #[.pointer (some ⟨g, 0, none⟩), .slice A9 rows.length c9] w fun e w' => ∃ v0_ : Value, e = .returned v0_ ∧ Kd.R (Kd.int .i64) 2 w' w.heap.size (fun _ => True) v0_ (oftenTo l P F m rows) ∧ Below w.heap.size w w' := by
 have hz3 : w.cell? ⟨g, 3, none⟩ = some (.int .i64 m) := by obtain ⟨A0, c0, A1, c1, A2, c2, hg, _⟩ := hch; exact (blk_cell hg 3).trans rfl
 have HCH := Aside0.mk hch
 have HK := Aside0.mk hok
 have HF := Aside0.mk hfit
 have HR := Aside0.mk hR
 have HRW := Aside0.mk hr
 obtain ⟨hm0, hm1⟩ := hm
 have hm0' : decide (0 ≤ m) = true := by simp [hm0]
 clear hch hok hfit hR hr
 have hu92 := Try.underlying92
 go_enter Try.func93, Try.ntmps93
 go_wp2_with ((with_reducible refine gate_dst (N := 14) rfl ?_); refine Here.out ?_)
 refine ⟨?_⟩
 refine Kd.R_make (Kd.int .i64) _ 2 rfl (N := 14) rfl 22 _ _ rfl m rfl rfl Try.underlying22 (.int .i64 0) 8 info2 rfl (by decide) (by omega) 0 (ok := fun _ => True) (okp := fun _ => True) rfl (fun _ hk => hk) trivial hm0 (by omega) (Below.refl _ _) (Nat.le_refl _) ?_
 intro v1 w1 ho hb hg_ hnew_
 have HO1 := Aside0.mk ho
 have HB1 := Aside0.mk hb
 clear ho hb hg_ hnew_ hz3
 go_wp2
 go_loopw [17] (fun v17 W => ∃ x : Int, 0 ≤ x ∧ x ≤ rows.length ∧ v17 = .int .i64 x ∧ Aside0 (Kd.R (Kd.int .i64) 2 W w.heap.size (fun _ => True) v1 (oftenTo l P F m (rows.take x.toNat))) ∧ Aside0 (Below w.heap.size w W)) (fun v _ => (rows.length - intOf v).toNat)
 case atStart => exact ⟨0, by omega, by omega, rfl, HO1, HB1⟩
 case round =>
  obtain ⟨x, hx0, hx1, rfl, HOx, HBx⟩ := hrel
  clear HO1 HB1
  by_cases hlt : x < (rows.length : Int)
  ·obtain ⟨ad, rfl, hxc⟩ := Kd.at_int HR.out x hx0 hlt
   replace hxc := (HBx.out.cell (World.block_lt_of_cell? w _ hxc)).trans hxc
   obtain ⟨hr0, hr1⟩ := HRW.out _ (at_mem rows x hx0 hlt)
   have hr0' : 0 ≤ rd rows x := hr0
   have hr1' : rd rows x < 1073741824 := hr1
   go_wp2_with (go_at_call 94; (with_reducible refine (of_calls g l P F m (rd rows x) _ (HCH.out.below HBx.out) HK.out ⟨hr0', hr1'⟩).mono ?_); rintro e w2 ⟨v23, rfl, ho23, hb23⟩; obtain ⟨A23, c23, rfl⟩ := Kd.R_slice ho23; have HO23 := Aside0.mk ho23; have HB23 := Aside0.mk hb23; clear ho23 hb23)
   have hl23 : (ofTo l P F (rd rows x) P.length).length = P.length := ofTo_length _ _ _ _ _
   have hmost := HK.out.most
   obtain ⟨ns, hns⟩ : ∃ ns : List Int, ns = ofTo l P F (rd rows x) P.length := ⟨_, rfl⟩
   rw [← hns] at HO23 hl23 ⊢
   have HNS := Aside0.mk hns
   clear hns
   have HO5 := Aside0.mk (Kd.R_below HOx.out HB23.out)
   have HB5 := Aside0.mk (below_step HBx.out HB23.out)
   have HO24 := Aside0.mk (Kd.R_mono (ok' := fun k => wr.heap.size ≤ k) (Kd.R_bound HO23.out) (fun k hk => hk.2.1))
   obtain ⟨wo, hwo⟩ : ∃ wo : World, wo = wr := ⟨_, rfl⟩
   have HLT : Aside0 (∀ k, v1.ownBlock = some k → k < wr.heap.size) := ⟨Kd.R_lt HOx.out⟩
   subst hwo
   clear HOx HBx HB23 HO23
   obtain ⟨o, ho⟩ : ∃ o : List Int, o = oftenTo l P F m (rows.take x.toNat) := ⟨_, rfl⟩
   have hol : (o.length : Int) = m := by rw [ho, oftenTo_length]; omega
   have hup : Upto o (600000 : Int) := by
    rw [ho]
    refine (oftenTo_upto HF.out _ (fun r hr => (HRW.out r (List.mem_of_mem_take hr)).1)).mono ?_
    have h1 : ((rows.take x.toNat).length : Int) ≤ 1000 := by have := List.length_take_le' x.toNat rows; omega
    have h2 : (P.length : Int) ≤ 512 := by omega
    have := Int.mul_le_mul h1 h2 (by omega) (by omega)
    omega
   have hfit : ∀ n ∈ ns, 0 ≤ n ∧ n < m := by rw [HNS.out]; exact HF.out _ hr0
   rw [← ho] at HO5
   have HOE := Aside0.mk ho
   have HUP := Aside0.mk hup
   have HFI := Aside0.mk hfit
   have HOL := Aside0.mk hol
   clear ho hup hfit hol
   go_loopw [25] (fun v25 W => ∃ j : Int, 0 ≤ j ∧ j ≤ ns.length ∧ v25 = .int .i64 j ∧ Aside0 (Kd.R (Kd.int .i64) 2 W w.heap.size (fun _ => True) v1 (incs o (ns.take j.toNat))) ∧ Aside0 (Kd.R (Kd.int .i64) 2 W wo.heap.size (fun k => wo.heap.size ≤ k) (.slice A23 ns.length c23) ns) ∧ Aside0 (Below w.heap.size w W)) (fun v _ => (ns.length - intOf v).toNat)
   case atStart => exact ⟨0, by omega, by omega, rfl, HO5, HO24, HB5⟩
   case round =>
    obtain ⟨j, hj0, hj1, rfl, HOj, HNj, HBj⟩ := hrel
    by_cases hjl : j < (ns.length : Int)
    ·obtain ⟨ad3, rfl, hx3⟩ := Kd.at_int (Kd.R_reads' HNj.out).2.2 j hj0 hjl
     obtain ⟨hn0, hn1⟩ := HFI.out _ (at_mem ns j hj0 hjl)
     have hlen : ((incs o (ns.take j.toNat)).length : Int) = m := by rw [incs_length]; exact HOL.out
     have hupj : 0 ≤ at' (incs o (ns.take j.toNat)) (rd ns j) ∧ at' (incs o (ns.take j.toNat)) (rd ns j) ≤ 601000 := by
      have hu := HUP.out.incs (ns := ns.take j.toNat) (fun n hn => by have h1 := HFI.out n (List.mem_of_mem_take hn); have := HOL.out; omega)
      have h3 := hu.at (rd ns j) (by have h4 : 0 ≤ rd ns j := hn0; have h5 : rd ns j < m := hn1; omega)
      have h2 := List.length_take_le' j.toNat ns
      omega
     have hn0' : 0 ≤ rd ns j := hn0
     have hn1' : rd ns j < m := hn1
     obtain ⟨n, hn⟩ : ∃ n : Int, n = rd ns j := ⟨_, rfl⟩
     rw [← hn] at hx3 hn0' hn1' hupj
     have HN := Aside0.mk hn
     clear hn hn0 hn1
     obtain ⟨go, co, eo, gb, gl, cl, HG⟩ := Kd.R_form HOj.out (by omega)
     subst eo
     have hnl : n < ((incs o (ns.take j.toNat)).length : Int) := by omega
     obtain ⟨hx9, hf9⟩ := Kd.R_celln 0 HOj.out n hn0' hnl
     have hgo : go < wo.heap.size := HLT.out go rfl
     have HPUT := Aside0.mk (Kd.R_putg HOj.out n (at' (incs o (ns.take j.toNat)) n + 1))
     have HFAR := Aside0.mk (Kd.R_far (p := ⟨go, n.toNat, none⟩) HNj.out (fun k hk => by have : wo.heap.size ≤ k := hk; show k ≠ go; omega) (.int .i64 (at' (incs o (ns.take j.toNat)) n + 1)))
     obtain ⟨cc, hcc⟩ : ∃ cc : Int, cc = at' (incs o (ns.take j.toNat)) n := ⟨_, rfl⟩
     obtain ⟨hup0, hup1⟩ := hupj
     have hx10 : wr.cell? ⟨go, n.toNat, none⟩ = some (.int .i64 cc) := by rw [hcc]; exact hx9
     rw [← hcc] at hup0 hup1 HPUT HFAR
     have HCC := Aside0.mk hcc
     clear hcc hx9
     go_wp2
     go_roundw
     case measure => simp [intOf]; omega
     case rel =>
      refine ⟨j + 1, by omega, by omega, by first | rfl | (simp; done), ⟨?_⟩, ⟨HFAR.out⟩, ⟨below_set HBj.out gb⟩⟩
      rw [take_snoc ns j hj0 hjl, incs_snoc, show at' ns j = n from HN.out.symm]
      have h := HPUT.out.1
      rw [HCC.out] at h ⊢
      have e : (incs o (ns.take j.toNat)).length = (inc1 (incs o (ns.take j.toNat)) n).length := (inc1_length _ _).symm
      exact h
    ·have hje : j = ns.length := by omega
     rw [hje, take_all] at HOj
     go_wp2
     go_roundw
     case measure => simp [intOf]; omega
     case rel =>
      refine ⟨x + 1, by omega, by omega, by first | rfl | (simp; done), ⟨?_⟩, HBj⟩
      rw [take_snoc rows x hx0 hlt, oftenTo_snoc, ← HOE.out, show at' rows x = rd rows x from rfl, ← HNS.out]
      exact HOj.out
  ·go_wp2
   go_ret
   exact ⟨_, rfl, by rw [show x = (rows.length : Int) by omega, take_all] at HOx; exact HOx.out, HBx.out⟩
theorem rowsCode_zero {l rows : List Int} {t : Int} (h : rowsCode l rows t = 0) : Sz l ∧ l.length ≤ 8 ∧ 1 ≤ l.length ∧ pr l ≤ 1024 ∧ rows.length ≤ 200 ∧ (∀ r ∈ rows, 0 ≤ r ∧ r < pr l) ∧ 1 ≤ t ∧ t ≤ 3 ∧ t ≤ l.length := by
 unfold rowsCode at h
 by_cases c : isSp l = true
 ·rw [if_pos c] at h
  obtain ⟨h1, h2, h3, h4⟩ := isSp_sz c
  by_cases c1 : rows.length > 200 ∨ ¬ (∀ r ∈ rows, 0 ≤ r ∧ r < pr l) ∨ ¬ (1 ≤ t ∧ t ≤ 3 ∧ t ≤ l.length)
  ·rw [if_pos c1] at h; exact absurd h (by decide)
  ·rw [not_or, not_or] at c1
   obtain ⟨c2, c3, c4⟩ := c1
   refine ⟨h3, h2, h1, h4, by omega, Classical.not_not.1 c3, ?_⟩
   exact Classical.not_not.1 c4
 ·rw [if_neg c] at h; exact absurd h (by decide)
theorem l10Digits_l2 (l p : List Int) (j : Nat) (hj : j < p.length) (hp : 0 ≤ at' p j ∧ at' p j < l.length) (q : Nat) (hq : at' l (at' p j) = q) (hq4 : q ≤ 4) (cur : List (List Int)) (m : Nat) (hm : m < cur.length) (hml : cur.length ≤ 100000) (hc : (cur.getD m []).length ≤ 1000) (r : List (List Int)) :
  ∀ (e v : Nat) (new : List (List Int)), v + e = q → new.length + e ≤ 1000000 →
  Ev (fun k => spec_l10Digits.l1 k p cur (j : Int) (new ++ (List.range' v e).map (fun (v : Nat) => cur.getD m [] ++ [(v : Int)])) ((m + 1 : Nat) : Int) l) r →
  Ev (fun k => spec_l10Digits.l2 k p cur (j : Int) new (m : Int) (v : Int) l) r := by
 have hp' : 0 ≤ rd p (j : Int) ∧ rd p (j : Int) < l.length := hp
 have hq' : rd l (rd p (j : Int)) = q := hq
 intro e
 induction e with
 | zero =>
  intro v new hv hn h
  refine Ev.step (fun k => by simp only [spec_l10Digits.l2]; rw [if_pos (by omega), if_pos (by omega), if_pos (by omega), if_pos (by omega), if_neg (by omega), wrap_id (by omega) (by omega), show (m : Int) + 1 = ((m + 1 : Nat) : Int) by omega]) ?_
  rw [List.range'_zero, List.map_nil, List.append_nil] at h
  exact h
 | succ e ih =>
  intro v new hv hn h
  rw [List.range'_succ, List.map_cons] at h
  refine Ev.step (fun k => by simp only [spec_l10Digits.l2]; rw [if_pos (by omega), if_pos (by omega), if_pos (by omega), if_pos (by omega), if_pos (by omega), if_pos (by omega), if_pos (by omega), rd_L1_nat, l01Own_val _ (by omega), Option.bind_some, if_pos (by omega), if_pos (by omega), wrap_id (by omega) (by omega), show (v : Int) + 1 = ((v + 1 : Nat) : Int) by omega]) ?_
  refine ih (v + 1) _ (by omega) (by rw [List.length_append, List.length_singleton]; omega) ?_
  rw [List.append_assoc]
  exact h
/-- One place more. -/
def digStep (l : List Int) (cur : List (List Int)) (i : Int) : List (List Int) := cur.flatMap (fun c => (List.range (at' l i).toNat).map (fun (v : Nat) => c ++ [(v : Int)]))
theorem digStep_cons (l : List Int) (c : List Int) (cur : List (List Int)) (i : Int) : digStep l (c :: cur) i = (List.range (at' l i).toNat).map (fun (v : Nat) => c ++ [(v : Int)]) ++ digStep l cur i := by unfold digStep; rw [List.flatMap_cons]
theorem digStep_len (l : List Int) (i : Int) (h : at' l i ≤ 4) : ∀ cur : List (List Int), (digStep l cur i).length ≤ 4 * cur.length
 | [] => Nat.le_refl 0
 | c :: cur => by
  have := digStep_len l i h cur
  rw [digStep_cons, List.length_append, List.length_map, List.length_range, List.length_cons]
  omega
theorem digStep_each (l : List Int) (i : Int) (n : Nat) (cur : List (List Int)) (h : ∀ c ∈ cur, c.length ≤ n) : ∀ c ∈ digStep l cur i, c.length ≤ n + 1 := by
 intro c hc
 obtain ⟨d, hd, hc⟩ := List.mem_flatMap.1 hc
 obtain ⟨v, _, rfl⟩ := List.mem_map.1 hc
 have := h d hd
 rw [List.length_append, List.length_singleton]
 omega
theorem l10Digits_l1 (l p : List Int) (hz : Sz l) (j : Nat) (hj : j < p.length) (hjl : j ≤ 100) (hp : 0 ≤ at' p j ∧ at' p j < l.length) (cur : List (List Int)) (hml : cur.length ≤ 100000) (hc : ∀ c ∈ cur, c.length ≤ 1000) (r : List (List Int)) :
  ∀ (e m : Nat) (new : List (List Int)), m + e = cur.length → new.length + 4 * e ≤ 1000000 →
  Ev (fun k => spec_l10Digits.l0 k p (new ++ digStep l (cur.drop m) (at' p j)) ((j + 1 : Nat) : Int) l) r →
  Ev (fun k => spec_l10Digits.l1 k p cur (j : Int) new (m : Int) l) r := by
 have hq := at_range hz hp.1 hp.2
 intro e
 induction e with
 | zero =>
  intro m new hm hn h
  refine Ev.step (fun k => by simp only [spec_l10Digits.l1]; rw [if_neg (by omega), wrap_id (by omega) (by omega), show (j : Int) + 1 = ((j + 1 : Nat) : Int) by omega]) ?_
  rw [List.drop_of_length_le (by omega), show digStep l [] (at' p j) = [] from rfl, List.append_nil] at h
  exact h
 | succ e ih =>
  intro m new hm hn h
  rw [dropL cur m (by omega), digStep_cons] at h
  refine Ev.step (fun k => by simp only [spec_l10Digits.l1]; rw [if_pos (by omega)]) ?_
  refine l10Digits_l2 l p j hj hp (at' l (at' p j)).toNat (by omega) (by omega) cur m (by omega) hml (hc _ (memL cur m (by omega))) r (at' l (at' p j)).toNat 0 new (by omega) (by omega) ?_
  refine ih (m + 1) _ (by omega) (by rw [List.length_append, List.length_map, List.length_range']; omega) ?_
  rw [List.append_assoc, ← List.range_eq_range']
  exact h
theorem l10Digits_l0 (l p : List Int) (hz : Sz l) (hpl : Pl l p) : ∀ (e j : Nat) (cur : List (List Int)), j + e = p.length → cur.length * 4 ^ e ≤ 64 → (∀ c ∈ cur, c.length ≤ j) →
  Ev (fun k => spec_l10Digits.l0 k p cur (j : Int) l) ((p.drop j).foldl (digStep l) cur) := by
 obtain ⟨hp3, hpi⟩ := hpl
 intro e
 induction e with
 | zero =>
  intro j cur hj h4 hc
  refine Ev.step (fun k => by simp only [spec_l10Digits.l0]; rw [if_neg (by omega)]) ?_
  rw [List.drop_of_length_le (by omega)]
  exact Ev.now _
 | succ e ih =>
  intro j cur hj h4 hc
  have hp : 0 ≤ at' p j ∧ at' p j < l.length := hpi _ (by show p.getD j 0 ∈ p; rw [List.getD_eq_getElem?_getD, List.getElem?_eq_getElem (show j < p.length by omega)]; exact List.getElem_mem _)
  have hq := at_range hz hp.1 hp.2
  have h5 : 1 ≤ 4 ^ e := Nat.pow_pos (by decide)
  rw [Nat.pow_succ, Nat.mul_comm (4 ^ e) 4, ← Nat.mul_assoc] at h4
  have h6 : cur.length * 4 * 1 ≤ cur.length * 4 * 4 ^ e := Nat.mul_le_mul_left _ h5
  refine Ev.step (fun k => by simp only [spec_l10Digits.l0]; rw [if_pos (by omega)]) ?_
  refine l10Digits_l1 l p hz j (by omega) (by omega) hp cur (by omega) (fun c h => by have := hc c h; omega) _ cur.length 0 [] (by omega) (by simp; omega) ?_
  rw [List.drop_zero, List.nil_append, drop_get p j (by omega), List.foldl_cons]
  have h7 := digStep_len l (at' p j) (by omega) cur
  have h8 : (digStep l cur (at' p j)).length * 4 ^ e ≤ 4 * cur.length * 4 ^ e := Nat.mul_le_mul_right _ h7
  rw [Nat.mul_comm 4 cur.length] at h8
  exact ih (j + 1) _ (by omega) (by omega) (digStep_each l (at' p j) j cur hc)
theorem l10Digits_ev (l p : List Int) (hz : Sz l) (hpl : Pl l p) : Ev (fun k => spec_l10Digits.f k l p) (digs l p) := by
 have h4 : 1 * 4 ^ p.length ≤ 64 := by
  have h3 := hpl.1
  generalize p.length = n at h3
  rcases n with _|_|_|_|n <;> first | decide | omega
 exact l10Digits_l0 l p hz hpl p.length 0 [[]] (by omega) h4 (fun c hc => by rw [List.mem_singleton.1 hc]; exact Nat.le_refl 0)
theorem digs_each {l : List Int} (hl : Sz l) {p : List Int} (hp : Pl l p) : ∀ d ∈ digs l p, d.length = p.length := by
 intro d hd
 rw [digs_eq hl p hp.2] at hd
 obtain ⟨v, _, rfl⟩ := List.mem_map.1 hd
 exact dec_length _ _ _
theorem l10All_l1 (l : List Int) (P : List (List Int)) (i : Nat) (hi : i < P.length) (hil : P.length ≤ 100000) (hpi : (P.getD i []).length ≤ 1000) (D : List (List Int)) (hD : ∀ d ∈ D, d.length ≤ 1000) (hDl : D.length ≤ 1000) (r : List (List Int)) :
  ∀ (e m : Nat) (acc : List (List Int)), m + e = D.length → acc.length + e ≤ 1000000 →
  Ev (fun k => spec_l10All.l0 k P (acc ++ (D.drop m).map (fun d => P.getD i [] ++ d)) ((i + 1 : Nat) : Int) l) r →
  Ev (fun k => spec_l10All.l1 k P acc (i : Int) D (m : Int) l) r := by
 intro e
 induction e with
 | zero =>
  intro m acc hm ha h
  refine Ev.step (fun k => by simp only [spec_l10All.l1]; rw [if_neg (by omega), wrap_id (by omega) (by omega), show (i : Int) + 1 = ((i + 1 : Nat) : Int) by omega]) ?_
  rw [List.drop_of_length_le (by omega), List.map_nil, List.append_nil] at h
  exact h
 | succ e ih =>
  intro m acc hm ha h
  rw [dropL D m (by omega), List.map_cons] at h
  have h1 := hD _ (memL D m (by omega))
  refine Ev.step (fun k => by simp only [spec_l10All.l1]; rw [if_pos (by omega), if_pos (by omega), if_pos (by omega), rd_L1_nat, rd_L1_nat, l01Own_val _ (by omega), Option.bind_some, if_pos (by omega), if_pos (by omega), if_pos (by omega), wrap_id (by omega) (by omega), show (m : Int) + 1 = ((m + 1 : Nat) : Int) by omega]) ?_
  refine ih (m + 1) _ (by omega) (by rw [List.length_append, List.length_singleton]; omega) ?_
  rw [List.append_assoc]
  exact h
theorem l10All_l0 (l : List Int) (hz : Sz l) (P : List (List Int)) (hP : ∀ p ∈ P, Pl l p) (hPl : P.length ≤ 512) : ∀ (e i : Nat) (acc : List (List Int)), i + e = P.length → acc.length + 64 * e ≤ 100000 →
  Ev (fun k => spec_l10All.l0 k P acc (i : Int) l) (acc ++ allC l (P.drop i)) := by
 intro e
 induction e with
 | zero =>
  intro i acc hi ha
  refine Ev.step (fun k => by simp only [spec_l10All.l0]; rw [if_neg (by omega)]) ?_
  rw [List.drop_of_length_le (by omega), show allC l [] = [] from rfl, List.append_nil]
  exact Ev.now _
 | succ e ih =>
  intro i acc hi ha
  have hp := hP _ (memL P i (by omega))
  have h1 := digs_len hz hp
  have h2 := szp_range hz hp (P.getD i []).length
  rw [List.take_length] at h2
  have h3 := hp.1
  refine Ev.step (fun k => by simp only [spec_l10All.l0]; rw [if_pos (by omega), if_pos (by omega), rd_L1_nat]) ?_
  refine Ev.bind (l10Digits_ev l _ hz hp) ?_
  refine l10All_l1 l P i (by omega) (by omega) (by omega) _ (fun d hd => by have := digs_each hz hp d hd; omega) (by omega) _ _ 0 acc (Nat.zero_add _) (by omega) ?_
  have h := ih (i + 1) (acc ++ (digs l (P.getD i [])).map (fun d => P.getD i [] ++ d)) (by omega) (by rw [List.length_append, List.length_map]; omega)
  rw [List.drop_zero, dropL P i (by omega), allC_cons, ← List.append_assoc]
  exact h
theorem places_pl (l : List Int) (t : Nat) (ht : t ≤ 3) : ∀ p ∈ places l.length t 0, Pl l p := by rw [← ext_nil]; exact ext_pl l.length t l rfl ht
theorem places_512 (l : List Int) (hl : l.length ≤ 8) (t : Nat) (ht : t ≤ 3) : (places l.length t 0).length ≤ 512 := by rw [← ext_nil]; exact ext_len512 l.length t hl ht
theorem l10All_ev (l : List Int) (hl : l.length ≤ 8) (hz : Sz l) (t : Nat) (ht : t ≤ 3) : Ev (fun k => spec_l10All.f k l (t : Int)) (allC l (places l.length t 0)) := by
 have h := l10All_l0 l hz (places l.length t 0) (places_pl l t ht) (places_512 l hl t ht) (places l.length t 0).length 0 [] (Nat.zero_add _) (by have := places_512 l hl t ht; simp; omega)
 rw [List.drop_zero, List.nil_append] at h
 exact Ev.bind (l10Places_ev l hl t 0 ht (Nat.zero_le _)) h
theorem allC_ch (l : List Int) (hz : Sz l) (P : List (List Int)) (hP : ∀ p ∈ P, Pl l p) : ∀ c ∈ allC l P, Ch l.length c := by
 intro c hc
 obtain ⟨p, hp, hc⟩ := List.mem_flatMap.1 hc
 obtain ⟨d, hd, rfl⟩ := List.mem_map.1 hc
 have h1 := digs_each hz (hP p hp) d hd
 have h2 := (hP p hp).1
 refine ⟨by rw [List.length_append]; omega, fun i hi => ?_⟩
 have h3 : i < p.length := by rw [List.length_append] at hi; omega
 rw [at_left p d i h3]
 exact (hP p hp).2 _ (List.getElem_mem h3)
theorem allC_le (l : List Int) (hl : l.length ≤ 8) (hz : Sz l) (t : Nat) (ht : t ≤ 3) : (allC l (places l.length t 0)).length ≤ 100000 := by
 have h1 := allC_len hz (places l.length t 0) 0 (places_pl l t ht)
 have h2 := tot_le_max hz (places_pl l t ht) (places_512 l hl t ht)
 omega
def laws_szInt64S.f (l0 : List Int) (a1 : Int) : Option (Int) := if (wrap64 (a1 - (l0.length : Int))) < 0 then (some (-1)) else (some (wrap64 (a1 - (l0.length : Int))))
set_option maxHeartbeats 8000000 in
set_option maxRecDepth 100000 in
theorem laws_szInt64S.calls (A0 : Option Addr) (c0 : Nat) (l0 : List Int) (a1 : Int) (r : Int) (w : World) (hr0 : Kd.C (Kd.int .i64) w A0 l0.length l0) (hc0 : l0.length ≤ c0) (h : laws_szInt64S.f l0 a1 = some r) :
  Calls Try.prog 85 #[.slice A0 l0.length c0, .int .i64 a1] w fun e w' => e = .returned (.int .i64 r) ∧ Drawn0 w w' := by
 have HR0 := Aside0.mk hr0
 have HC0 := Aside0.mk hc0
 clear hr0 hc0
 have H : (if (wrap64 (a1 - (l0.length : Int))) < 0 then (some (-1)) else (some (wrap64 (a1 - (l0.length : Int))))) = some r := h
 clear h
 by_cases c3 : (wrap64 (a1 - (l0.length : Int))) < 0
 ·rw [if_pos c3] at H
  have c3b0 : decide ((wrap64 (a1 - (l0.length : Int))) < 0) = true := decide_eq_true c3
  clear c3
  obtain rfl := Option.some.inj H
  go_enter Try.func85, Try.ntmps85
  go_wp2
  go_ret
  exact ⟨by first | rfl | (simp; done) | (simp [*]; done), by repeat (first | exact Drawn0.refl _ | apply Drawn0.step)⟩
 ·rw [if_neg c3] at H
  have c3b0 : decide ((wrap64 (a1 - (l0.length : Int))) < 0) = false := decide_eq_false c3
  clear c3
  obtain rfl := Option.some.inj H
  go_enter Try.func85, Try.ntmps85
  go_wp2
  go_ret
  exact ⟨by first | rfl | (simp; done) | (simp [*]; done), by repeat (first | exact Drawn0.refl _ | apply Drawn0.step)⟩
def laws_szSpace.f (l0_0 : List Int) (a1 : Int) : Option (Int) := (laws_szInt64S.f l0_0 a1).bind fun t102 => (if t102 < 0 then (some (-1)) else (some t102))
set_option maxHeartbeats 8000000 in
set_option maxRecDepth 100000 in
theorem laws_szSpace.calls (A0_0 : Option Addr) (c0_0 : Nat) (l0_0 : List Int) (a1 : Int) (r : Int) (w : World) (hr0_0 : Kd.C (Kd.int .i64) w A0_0 l0_0.length l0_0) (hc0_0 : l0_0.length ≤ c0_0) (h : laws_szSpace.f l0_0 a1 = some r) :
  Calls Try.prog 15 #[.agg #[.slice A0_0 l0_0.length c0_0], .int .i64 a1] w fun e w' => e = .returned (.int .i64 r) ∧ Below w.heap.size w w' := by
 have hu24 := Try.underlying24
 have HR0_0 := Aside0.mk hr0_0
 have HC0_0 := Aside0.mk hc0_0
 clear hr0_0 hc0_0
 have HB := Aside0.mk (Below.refl w.heap.size w)
 have H : ((laws_szInt64S.f l0_0 a1).bind fun t102 => (if t102 < 0 then (some (-1)) else (some t102))) = some r := h
 clear h
 replace H := Option.bind_eq_some_iff.mp H
 obtain ⟨t102, A30, H⟩ := H
 replace H : (if t102 < 0 then (some (-1)) else (some t102)) = some r := H
 have A3 := Aside0.mk A30
 clear A30
 by_cases c4 : t102 < 0
 ·rw [if_pos c4] at H
  have c4b0 : decide (t102 < 0) = true := decide_eq_true c4
  clear c4
  obtain rfl := Option.some.inj H
  go_enter Try.func15, Try.ntmps15
  go_wp2_with (first | ((with_reducible refine gate_dst (N := 2) rfl ?_); refine box_event ?hg (N := 2) ?hd (cs := #[.slice A0_0 l0_0.length c0_0]) (t := 24) ?hr ?_; (case hd => rfl); (case hg => rfl); (case hr => first | (go_simp; done) | (go_simp; rfl)); intro gb101 hg w5 hbox hb; have n0_ := Aside0.mk (below_step (by repeat (first | (with_reducible first | exact HB.out | apply below_alloc | apply pw_below_drewN | apply below_drew1) | exact HB.out)) hb); have n1_ := Aside0.mk (hbox); have n2_ := Aside0.mk ((by rw [hg]; exact (below_size (by repeat (first | (with_reducible first | exact HB.out | apply below_alloc | apply pw_below_drewN | apply below_drew1) | exact HB.out))) : w.heap.size ≤ gb101)); have n3_ := Aside0.mk ((by rw [hg]; exact (below_size (by repeat (first | (with_reducible first | exact HB.out | apply below_alloc | apply pw_below_drewN | apply below_drew1) | exact HB.out))) : w.heap.size ≤ gb101)); clear HB; have HB := n0_; have BK101 := n1_; have GW101 := n2_; have GE101 := n3_; clear n0_ n1_ n2_ n3_; clear hb hbox hg; have hcz6_0 : w5.cell? ⟨gb101, 0, none⟩ = some (.slice A0_0 l0_0.length c0_0) := (blk_cell BK101.out 0).trans rfl; have hfz6_0 := blk_frozen BK101.out 0) | ((with_reducible refine gate_callee (f := 85) rfl ?_); refine goesL_ (some 8) rfl rfl Try.func85 (by kernel_rfl) rfl #[.slice A0_0 l0_0.length c0_0, .int .i64 a1] rfl (by (try simp only [List.map_toArray, List.map_cons, List.map_nil]); first | done | rfl | (simp only [List.length_drop, List.length_take]; rfl)) ?_; (with_reducible refine (laws_szInt64S.calls _ _ l0_0 a1 t102 _ ?side1 ?side2 A3.out).mono ?_); (case side1 => repeat (first | exact (Kd.C_below HR0_0.out HB.out) | (with_reducible refine Kd.C_alloc ?_ _) | (with_reducible refine Kd.C_drewN ?_ _) | (with_reducible refine Kd.C_drew ?_))); (case side2 => exact HC0_0.out); rintro e w' ⟨rfl, ⟨nd, rfl⟩⟩; refine ⟨_, rfl, ?_⟩))
  go_ret
  exact ⟨by first | rfl | (simp [errW_none, errW_some] <;> rfl) | (simp [*, errW_none, errW_some] <;> rfl), by repeat (first | (with_reducible first | exact HB.out | apply below_alloc | apply pw_below_drewN | apply below_drew1 | refine below_set ?_ GE101.out) | exact HB.out)⟩
 ·rw [if_neg c4] at H
  have c4b0 : decide (t102 < 0) = false := decide_eq_false c4
  clear c4
  obtain rfl := Option.some.inj H
  go_enter Try.func15, Try.ntmps15
  go_wp2_with (first | ((with_reducible refine gate_dst (N := 2) rfl ?_); refine box_event ?hg (N := 2) ?hd (cs := #[.slice A0_0 l0_0.length c0_0]) (t := 24) ?hr ?_; (case hd => rfl); (case hg => rfl); (case hr => first | (go_simp; done) | (go_simp; rfl)); intro gb101 hg w7 hbox hb; have n0_ := Aside0.mk (below_step (by repeat (first | (with_reducible first | exact HB.out | apply below_alloc | apply pw_below_drewN | apply below_drew1) | exact HB.out)) hb); have n1_ := Aside0.mk (hbox); have n2_ := Aside0.mk ((by rw [hg]; exact (below_size (by repeat (first | (with_reducible first | exact HB.out | apply below_alloc | apply pw_below_drewN | apply below_drew1) | exact HB.out))) : w.heap.size ≤ gb101)); have n3_ := Aside0.mk ((by rw [hg]; exact (below_size (by repeat (first | (with_reducible first | exact HB.out | apply below_alloc | apply pw_below_drewN | apply below_drew1) | exact HB.out))) : w.heap.size ≤ gb101)); clear HB; have HB := n0_; have BK101 := n1_; have GW101 := n2_; have GE101 := n3_; clear n0_ n1_ n2_ n3_; clear hb hbox hg; have hcz8_0 : w7.cell? ⟨gb101, 0, none⟩ = some (.slice A0_0 l0_0.length c0_0) := (blk_cell BK101.out 0).trans rfl; have hfz8_0 := blk_frozen BK101.out 0) | ((with_reducible refine gate_callee (f := 85) rfl ?_); refine goesL_ (some 8) rfl rfl Try.func85 (by kernel_rfl) rfl #[.slice A0_0 l0_0.length c0_0, .int .i64 a1] rfl (by (try simp only [List.map_toArray, List.map_cons, List.map_nil]); first | done | rfl | (simp only [List.length_drop, List.length_take]; rfl)) ?_; (with_reducible refine (laws_szInt64S.calls _ _ l0_0 a1 t102 _ ?side1 ?side2 A3.out).mono ?_); (case side1 => repeat (first | exact (Kd.C_below HR0_0.out HB.out) | (with_reducible refine Kd.C_alloc ?_ _) | (with_reducible refine Kd.C_drewN ?_ _) | (with_reducible refine Kd.C_drew ?_))); (case side2 => exact HC0_0.out); rintro e w' ⟨rfl, ⟨nd, rfl⟩⟩; refine ⟨_, rfl, ?_⟩))
  go_ret
  exact ⟨by first | rfl | (simp [errW_none, errW_some] <;> rfl) | (simp [*, errW_none, errW_some] <;> rfl), by repeat (first | (with_reducible first | exact HB.out | apply below_alloc | apply pw_below_drewN | apply below_drew1 | refine below_set ?_ GE101.out) | exact HB.out)⟩
def laws_toInt64S.l0 : Nat → List Int → List Int → Int → Option (List Int)
 | 0, _, _, _ => none
 | k + 1, x0, x3, x4 => if x4 < (x0.length : Int) then (if 0 ≤ x4 then (if x4 < (x3.length : Int) then (laws_toInt64S.l0 k x0 (x3.set (x4 : Int).toNat (rd x0 x4)) (wrap64 (x4 + 1))) else (none)) else (none)) else (some x3)
def laws_toInt64S.f (k : Nat) (l0 : List Int) : Option (List Int) := if 0 ≤ (l0.length : Int) then (if ((l0.length : Int) : Int).toNat ≤ 35184372088832 then (laws_toInt64S.l0 k l0 (List.replicate ((l0.length : Int) : Int).toNat 0) 0) else (none)) else (none)
set_option maxHeartbeats 8000000 in
set_option maxRecDepth 100000 in
theorem laws_toInt64S.calls (k : Nat) (A0 : Option Addr) (c0 : Nat) (l0 : List Int) (r : List Int) (w : World) (hr0 : Kd.C (Kd.int .i64) w A0 l0.length l0) (hc0 : l0.length ≤ c0) (h : laws_toInt64S.f k l0 = some r) :
  Calls Try.prog 18 #[.slice A0 l0.length c0] w fun e w' => ∃ v0_ : Value, e = .returned (v0_) ∧ Kd.R (Kd.int .i64) 2 w' w.heap.size (fun _ => True) v0_ r ∧ Below w.heap.size w w' := by
 have HR0 := Aside0.mk hr0
 have HC0 := Aside0.mk hc0
 clear hr0 hc0
 have HB := Aside0.mk (Below.refl w.heap.size w)
 have H : (if 0 ≤ (l0.length : Int) then (if ((l0.length : Int) : Int).toNat ≤ 35184372088832 then (laws_toInt64S.l0 k l0 (List.replicate ((l0.length : Int) : Int).toNat 0) 0) else (none)) else (none)) = some r := h
 clear h
 by_cases c2 : 0 ≤ (l0.length : Int)
 ·rw [if_pos c2] at H
  have c2b0 := eq_true c2
  have c2b1 : decide (0 ≤ (l0.length : Int)) = true := decide_eq_true c2
  clear c2
  by_cases c3 : ((l0.length : Int) : Int).toNat ≤ 35184372088832
  ·rw [if_pos c3] at H
   have c3b0 := eq_true c3
   have c3b1 : decide (((l0.length : Int) : Int).toNat ≤ 35184372088832) = true := decide_eq_true c3
   clear c3
   obtain ⟨y101, hy101⟩ : ∃ y_ : List Int, y_ = (List.replicate ((l0.length : Int) : Int).toNat 0) := ⟨_, rfl⟩
   replace H : (laws_toInt64S.l0 k l0 y101 0) = some r := by first | (rw [hy101]; with_reducible exact H) | (have H2_ := (Option.bind_some _ _).symm.trans H; rw [hy101]; with_reducible exact H2_) | (have H2_ := (Option.bind_some _ _).symm.trans H; with_reducible exact H2_) | with_reducible exact H | (rw [hy101]; exact H) | exact H
   have Ny101 := Aside0.mk hy101
   clear hy101
   have H' := Aside0.mk H
   clear H
   go_enter Try.func18, Try.ntmps18
   go_wp2_with (first | ((with_reducible refine gate_dst (N := 7) rfl ?_); refine Kd.R_make (Kd.int .i64) _ 2 rfl (N := 7) rfl 22 _ _ rfl (l0.length : Int) rfl rfl Try.underlying22 (.int .i64 0) 8 info2 rfl (by decide) (by omega) 0 (ok := fun _ => True) (okp := fun _ => True) rfl (fun _ hk => hk) trivial (of_decide_eq_true (by first | (with_reducible assumption) | assumption)) (Nat.le_trans (Nat.mul_le_mul_right _ (of_decide_eq_true (by first | (with_reducible assumption) | assumption) : (l0.length : Int).toNat ≤ 35184372088832)) (by omega)) (Below.refl _ _) (Nat.le_refl _) ?_; intro v102 w4 ho5 hb hg_ hnew_; clear hg_ hnew_; (first | rw [← Ny101.out] at ho5 | (simp only [Int.reduceToNat] at ho5; rw [← Ny101.out] at ho5)); have n0_ := Aside0.mk (Kd.R_lower ho5 (below_size (by repeat (first | (with_reducible first | exact HB.out | apply below_alloc | apply pw_below_drewN | apply below_drew1) | exact HB.out)))); have n1_ := Aside0.mk (below_step (by repeat (first | (with_reducible first | exact HB.out | apply below_alloc | apply pw_below_drewN | apply below_drew1) | exact HB.out)) hb); clear HB; have HO103 := n0_; have HB := n1_; clear n0_ n1_; clear hb ho5))
   go_loopg [4] k (fun kq v4 w' => ∃ (x3_1 : List Int) (x4_1 : Int), v4 = .int .i64 x4_1 ∧ Aside0 (laws_toInt64S.l0 kq l0 x3_1 x4_1 = some r) ∧ Aside0 (kq ≤ k) ∧ Aside0 (Kd.R (Kd.int .i64) 2 w' w.heap.size (fun _ => True) v102 x3_1) ∧ Aside0 (Below w.heap.size w w'))
   case atStart => exact ⟨(y101), (0), (by first | rfl | (simp; done) | (simp [*]; done)), H', ⟨Nat.le_refl _⟩, ⟨by (with_reducible repeat (first | apply Kd.R_alloc | apply Kd.R_drewN | apply Kd.R_drew)); exact HO103.out⟩, ⟨by repeat (first | (with_reducible first | exact HB.out | apply below_alloc | apply pw_below_drewN | apply below_drew1) | exact HB.out)⟩⟩
   case round =>
    clear H'
    try clear c1
    try clear c2
    try clear c2b0
    try clear c2b1
    try clear p2
    try clear c3
    try clear c3b0
    try clear c3b1
    obtain ⟨x3_1, x4_1, rfl, HA, HK1, HO_3, HB⟩ := hrel
    cases gk with
    | zero => exact absurd HA.out (by simp [laws_toInt64S.l0])
    | succ k1 =>
     have H := HA.out
     clear HA
     simp only [laws_toInt64S.l0] at H
     by_cases c6 : x4_1 < (l0.length : Int)
     ·rw [if_pos c6] at H
      have c6b0 : decide (x4_1 < (l0.length : Int)) = true := decide_eq_true c6
      clear c6
      by_cases c7 : 0 ≤ x4_1
      ·rw [if_pos c7] at H
       have c7b0 : decide (0 ≤ x4_1) = true := decide_eq_true c7
       clear c7
       by_cases c8 : x4_1 < (x3_1.length : Int)
       ·rw [if_pos c8] at H
        have c8b0 : decide (x4_1 < (x3_1.length : Int)) = true := decide_eq_true c8
        clear c8
        obtain ⟨y105, hy105⟩ : ∃ y_ : List Int, y_ = (x3_1.set (x4_1 : Int).toNat (rd l0 x4_1)) := ⟨_, rfl⟩
        replace H : (laws_toInt64S.l0 k1 l0 y105 (wrap64 (x4_1 + 1))) = some r := by first | (rw [hy105]; with_reducible exact H) | (have H2_ := (Option.bind_some _ _).symm.trans H; rw [hy105]; with_reducible exact H2_) | (have H2_ := (Option.bind_some _ _).symm.trans H; with_reducible exact H2_) | with_reducible exact H | (rw [hy105]; exact H) | exact H
        have Ny105 := Aside0.mk hy105
        clear hy105
        have H' := Aside0.mk H
        clear H
        have p104 : 0 ≤ (x4_1 : Int) := of_decide_eq_true (by first | (with_reducible assumption) | assumption)
        have q104 : x4_1 < (l0.length : Int) := of_decide_eq_true (by first | (with_reducible assumption) | assumption)
        obtain ⟨ad104, e104, hx104_0⟩ := Kd.at_int HR0.out x4_1 p104 q104
        cases e104
        replace hx104_0 := (HB.out.cell (World.block_lt_of_cell? w _ hx104_0)).trans hx104_0
        replace p104 := eq_true p104
        replace q104 := eq_true q104
        have p9 : 0 ≤ (x4_1 : Int) := of_decide_eq_true (by first | (with_reducible assumption) | assumption)
        have q9 : (x4_1 : Int) < ((x3_1.length : Int) : Int) := of_decide_eq_true (by first | (with_reducible assumption) | assumption)
        obtain ⟨go9, co9, eo9, gb9, gl9, cl9, HG9⟩ := Kd.R_form HO_3.out (by omega)
        (first | cases eo9 | (injection eo9 with ea_ en_ ec_; (first | subst ea_ | (injection ea_ with ea_; subst ea_)); subst ec_; clear en_))
        have GB9 := Aside0.mk gb9
        have GG9 := Aside0.mk HG9
        clear gb9 gl9 HG9
        obtain ⟨hx9_0, hf9_0⟩ := Kd.R_celln 0 HO_3.out (x4_1 : Int) p9 q9
        replace p9 := eq_true p9
        replace q9 := eq_true q9
        have HP10 := Kd.R_putg HO_3.out (x4_1 : Int) (rd l0 x4_1)
        go_wp2_with (first | ((with_reducible refine gate_store (t := 2) (p := 20) rfl ?_); refine store_event (t := 2) (p := 20) (v := ?vo_w11) (w1 := (wr.setCell ⟨go9, (x4_1 : Int).toNat, none⟩ (.int .i64 (rd l0 x4_1)))) ?hg ?ho ?hn ?hr ?_; (case ho => rfl); (case hg => rfl); (case hn => rfl); (case hr => first | (go_simp; done) | (go_simp; rfl)); intro w11 hw; have hg : wr.grownBy w11 (some go9) := (by rw [hw]; exact HP10.2); have hp_ : Kd.R (Kd.int .i64) 2 w11 w.heap.size (fun _ => True) (.slice (some ⟨go9, 0, none⟩) x3_1.length co9) y105 := (by rw [hw, Ny105.out]; exact HP10.1); clear HP10; have n0_ := Aside0.mk (hp_); have n1_ := Aside0.mk ((by rw [hw]; exact below_set (HB.out) GB9.out : Below w.heap.size w w11)); clear HO_3; clear HB; have HO_3 := n0_; have HB := n1_; clear n0_ n1_; clear hg hw hp_))
        go_roundg k1
        case measure => have := HK1.out; omega
        case rel => exact ⟨(y105), (wrap64 (x4_1 + 1)), (by first | rfl | (simp; done) | (simp [*]; done)), H', ⟨by have := HK1.out; omega⟩, ⟨by (with_reducible repeat (first | apply Kd.R_alloc | apply Kd.R_drewN | apply Kd.R_drew)); exact HO_3.out⟩, ⟨by repeat (first | (with_reducible first | exact HB.out | apply below_alloc | apply pw_below_drewN | apply below_drew1) | exact HB.out)⟩⟩
       ·rw [if_neg c8] at H
        exact absurd H (by simp)
      ·rw [if_neg c7] at H
       exact absurd H (by simp)
     ·rw [if_neg c6] at H
      have c6b0 : decide (x4_1 < (l0.length : Int)) = false := decide_eq_false c6
      clear c6
      obtain rfl := Option.some.inj H
      go_wp2
      go_ret
      exact ⟨_, by first | rfl | (simp [errW_none, errW_some] <;> rfl) | (simp [*, errW_none, errW_some] <;> rfl), by (with_reducible repeat (first | apply Kd.R_alloc | apply Kd.R_drewN | apply Kd.R_drew)); exact HO_3.out, by repeat (first | (with_reducible first | exact HB.out | apply below_alloc | apply pw_below_drewN | apply below_drew1) | exact HB.out)⟩
  ·rw [if_neg c3] at H
   exact absurd H (by simp)
 ·rw [if_neg c2] at H
  exact absurd H (by simp)
def laws_toSpace.f (k : Nat) (l0_0 : List Int) : Option (List Int) := (laws_toInt64S.f k l0_0).bind fun t104 => (some t104)
set_option maxHeartbeats 8000000 in
set_option maxRecDepth 100000 in
theorem laws_toSpace.calls (k : Nat) (A0_0 : Option Addr) (c0_0 : Nat) (l0_0 : List Int) (r : List Int) (w : World) (hr0_0 : Kd.C (Kd.int .i64) w A0_0 l0_0.length l0_0) (hc0_0 : l0_0.length ≤ c0_0) (h : laws_toSpace.f k l0_0 = some r) :
  Calls Try.prog 17 #[.agg #[.slice A0_0 l0_0.length c0_0]] w fun e w' => ∃ v0_ : Value, e = .returned (.agg #[v0_]) ∧ Kd.R (Kd.int .i64) 2 w' w.heap.size (fun _ => True) v0_ r ∧ Below w.heap.size w w' := by
 have hu24 := Try.underlying24
 have hu28 := Try.underlying28
 have HR0_0 := Aside0.mk hr0_0
 have HC0_0 := Aside0.mk hc0_0
 clear hr0_0 hc0_0
 have HB := Aside0.mk (Below.refl w.heap.size w)
 have H : ((laws_toInt64S.f k l0_0).bind fun t104 => (some t104)) = some r := h
 clear h
 replace H := Option.bind_eq_some_iff.mp H
 obtain ⟨t104, A20, H⟩ := H
 replace H : (some t104) = some r := H
 have A2 := Aside0.mk A20
 clear A20
 obtain rfl := Option.some.inj H
 go_enter Try.func17, Try.ntmps17
 go_wp2_with (first | ((with_reducible refine gate_dst (N := 1) rfl ?_); refine box_event ?hg (N := 1) ?hd (cs := #[.slice A0_0 l0_0.length c0_0]) (t := 24) ?hr ?_; (case hd => rfl); (case hg => rfl); (case hr => first | (go_simp; done) | (go_simp; rfl)); intro gb101 hg w3 hbox hb; have n0_ := Aside0.mk (below_step (by repeat (first | (with_reducible first | exact HB.out | apply below_alloc | apply pw_below_drewN | apply below_drew1) | exact HB.out)) hb); have n1_ := Aside0.mk (hbox); have n2_ := Aside0.mk ((by rw [hg]; exact (below_size (by repeat (first | (with_reducible first | exact HB.out | apply below_alloc | apply pw_below_drewN | apply below_drew1) | exact HB.out))) : w.heap.size ≤ gb101)); have n3_ := Aside0.mk ((by rw [hg]; exact (below_size (by repeat (first | (with_reducible first | exact HB.out | apply below_alloc | apply pw_below_drewN | apply below_drew1) | exact HB.out))) : w.heap.size ≤ gb101)); clear HB; have HB := n0_; have BK101 := n1_; have GW101 := n2_; have GE101 := n3_; clear n0_ n1_ n2_ n3_; clear hb hbox hg) | ((with_reducible refine gate_dst (N := 2) rfl ?_); refine box_event ?hg (N := 2) ?hd (cs := #[.slice none 0 0]) (t := 28) ?hr ?_; (case hd => rfl); (case hg => rfl); (case hr => first | (go_simp; done) | (go_simp; rfl)); intro gb102 hg w4 hbox hb; have n0_ := Aside0.mk (blk_below (g := gb101) (o := .cells #[.slice A0_0 l0_0.length c0_0] 24 (0, 0)) (by (with_reducible repeat (first | refine blk_drewN ?_ _ | refine blk_drew ?_ | refine blk_alloc ?_ _)); exact BK101.out) hb); have n1_ := Aside0.mk (below_step (by repeat (first | (with_reducible first | exact HB.out | apply below_alloc | apply pw_below_drewN | apply below_drew1 | refine below_set ?_ GE101.out) | exact HB.out)) hb); have n2_ := Aside0.mk (hbox); have n3_ := Aside0.mk ((by rw [hg]; exact (below_size (by repeat (first | (with_reducible first | exact HB.out | apply below_alloc | apply pw_below_drewN | apply below_drew1 | refine below_set ?_ GE101.out) | exact HB.out))) : w.heap.size ≤ gb102)); have n4_ := Aside0.mk ((by rw [hg]; exact (below_size (by repeat (first | (with_reducible first | exact HB.out | apply below_alloc | apply pw_below_drewN | apply below_drew1 | refine below_set ?_ GE101.out) | exact HB.out))) : w.heap.size ≤ gb102)); have n5_ := Aside0.mk ((by rw [hg]; exact Nat.ne_of_lt (blk_lt (g := gb101) (o := .cells #[.slice A0_0 l0_0.length c0_0] 24 (0, 0)) (by (with_reducible repeat (first | refine blk_drewN ?_ _ | refine blk_drew ?_ | refine blk_alloc ?_ _)); exact BK101.out)) : gb101 ≠ gb102)); have n6_ := Aside0.mk ((by rw [hg]; exact Nat.ne_of_gt (blk_lt (g := gb101) (o := .cells #[.slice A0_0 l0_0.length c0_0] 24 (0, 0)) (by (with_reducible repeat (first | refine blk_drewN ?_ _ | refine blk_drew ?_ | refine blk_alloc ?_ _)); exact BK101.out)) : gb102 ≠ gb101)); clear BK101; clear HB; have BK101 := n0_; have HB := n1_; have BK102 := n2_; have GW102 := n3_; have GE102 := n4_; have NB101_102 := n5_; have NB102_101 := n6_; clear n0_ n1_ n2_ n3_ n4_ n5_ n6_; clear hb hbox hg) | ((with_reducible refine gate_dst (N := 3) rfl ?_); refine box_event ?hg (N := 3) ?hd (cs := #[.slice none 0 0]) (t := 28) ?hr ?_; (case hd => rfl); (case hg => rfl); (case hr => first | (go_simp; done) | (go_simp; rfl)); intro gb103 hg w5 hbox hb; have n0_ := Aside0.mk (blk_below (g := gb101) (o := .cells #[.slice A0_0 l0_0.length c0_0] 24 (0, 0)) (by (with_reducible repeat (first | refine blk_drewN ?_ _ | refine blk_drew ?_ | refine blk_alloc ?_ _)); exact BK101.out) hb); have n1_ := Aside0.mk (blk_below (g := gb102) (o := .cells #[.slice none 0 0] 28 (0, 0)) (by (with_reducible repeat (first | refine blk_drewN ?_ _ | refine blk_drew ?_ | refine blk_alloc ?_ _)); exact BK102.out) hb); have n2_ := Aside0.mk (below_step (by repeat (first | (with_reducible first | exact HB.out | apply below_alloc | apply pw_below_drewN | apply below_drew1 | refine below_set ?_ GE101.out | refine below_set ?_ GE102.out) | exact HB.out)) hb); have n3_ := Aside0.mk (hbox); have n4_ := Aside0.mk ((by rw [hg]; exact (below_size (by repeat (first | (with_reducible first | exact HB.out | apply below_alloc | apply pw_below_drewN | apply below_drew1 | refine below_set ?_ GE101.out | refine below_set ?_ GE102.out) | exact HB.out))) : w.heap.size ≤ gb103)); have n5_ := Aside0.mk ((by rw [hg]; exact (below_size (by repeat (first | (with_reducible first | exact HB.out | apply below_alloc | apply pw_below_drewN | apply below_drew1 | refine below_set ?_ GE101.out | refine below_set ?_ GE102.out) | exact HB.out))) : w.heap.size ≤ gb103)); have n6_ := Aside0.mk ((by rw [hg]; exact Nat.ne_of_lt (blk_lt (g := gb101) (o := .cells #[.slice A0_0 l0_0.length c0_0] 24 (0, 0)) (by (with_reducible repeat (first | refine blk_drewN ?_ _ | refine blk_drew ?_ | refine blk_alloc ?_ _)); exact BK101.out)) : gb101 ≠ gb103)); have n7_ := Aside0.mk ((by rw [hg]; exact Nat.ne_of_gt (blk_lt (g := gb101) (o := .cells #[.slice A0_0 l0_0.length c0_0] 24 (0, 0)) (by (with_reducible repeat (first | refine blk_drewN ?_ _ | refine blk_drew ?_ | refine blk_alloc ?_ _)); exact BK101.out)) : gb103 ≠ gb101)); have n8_ := Aside0.mk ((by rw [hg]; exact Nat.ne_of_lt (blk_lt (g := gb102) (o := .cells #[.slice none 0 0] 28 (0, 0)) (by (with_reducible repeat (first | refine blk_drewN ?_ _ | refine blk_drew ?_ | refine blk_alloc ?_ _)); exact BK102.out)) : gb102 ≠ gb103)); have n9_ := Aside0.mk ((by rw [hg]; exact Nat.ne_of_gt (blk_lt (g := gb102) (o := .cells #[.slice none 0 0] 28 (0, 0)) (by (with_reducible repeat (first | refine blk_drewN ?_ _ | refine blk_drew ?_ | refine blk_alloc ?_ _)); exact BK102.out)) : gb103 ≠ gb102)); clear BK101; clear BK102; clear HB; have BK101 := n0_; have BK102 := n1_; have HB := n2_; have BK103 := n3_; have GW103 := n4_; have GE103 := n5_; have NB101_103 := n6_; have NB103_101 := n7_; have NB102_103 := n8_; have NB103_102 := n9_; clear n0_ n1_ n2_ n3_ n4_ n5_ n6_ n7_ n8_ n9_; clear hb hbox hg; have hnb6 := NB101_102.out; have hnc6 := NB102_101.out; have hnb7 := NB101_103.out; have hnc7 := NB103_101.out; have hcz8_0 : w5.cell? ⟨gb101, 0, none⟩ = some (.slice A0_0 l0_0.length c0_0) := (blk_cell BK101.out 0).trans rfl; have hfz8_0 := blk_frozen BK101.out 0) | ((with_reducible refine gate_callee (f := 18) rfl ?_); refine goesL_ (some 6) rfl rfl Try.func18 (by kernel_rfl) rfl #[.slice A0_0 l0_0.length c0_0] rfl (by (try simp only [List.map_toArray, List.map_cons, List.map_nil]); first | done | rfl | (simp only [List.length_drop, List.length_take]; rfl)) ?_; (with_reducible refine (laws_toInt64S.calls k _ _ l0_0 t104 _ ?side1 ?side2 A2.out).mono ?_); (case side1 => repeat (first | exact (Kd.C_below HR0_0.out HB.out) | (with_reducible refine Kd.C_alloc ?_ _) | (with_reducible refine Kd.C_drewN ?_ _) | (with_reducible refine Kd.C_drew ?_))); (case side2 => exact HC0_0.out); rintro e w9 ⟨v105, rfl, ho0, hb⟩; refine ⟨_, rfl, ?_⟩; have n0_ := Aside0.mk (Kd.R_lower ho0 (below_size (by repeat (first | (with_reducible first | exact HB.out | apply below_alloc | apply pw_below_drewN | apply below_drew1 | refine below_set ?_ GE101.out | refine below_set ?_ GE102.out | refine below_set ?_ GE103.out) | exact HB.out)))); have n1_ := Aside0.mk (blk_below (g := gb101) (o := .cells #[.slice A0_0 l0_0.length c0_0] 24 (0, 0)) (by (with_reducible repeat (first | refine blk_drewN ?_ _ | refine blk_drew ?_ | refine blk_alloc ?_ _)); exact BK101.out) hb); have n2_ := Aside0.mk (blk_below (g := gb102) (o := .cells #[.slice none 0 0] 28 (0, 0)) (by (with_reducible repeat (first | refine blk_drewN ?_ _ | refine blk_drew ?_ | refine blk_alloc ?_ _)); exact BK102.out) hb); have n3_ := Aside0.mk (blk_below (g := gb103) (o := .cells #[.slice none 0 0] 28 (0, 0)) (by (with_reducible repeat (first | refine blk_drewN ?_ _ | refine blk_drew ?_ | refine blk_alloc ?_ _)); exact BK103.out) hb); have n4_ := Aside0.mk (below_step (by repeat (first | (with_reducible first | exact HB.out | apply below_alloc | apply pw_below_drewN | apply below_drew1 | refine below_set ?_ GE101.out | refine below_set ?_ GE102.out | refine below_set ?_ GE103.out) | exact HB.out)) hb); clear BK101; clear BK102; clear BK103; clear HB; have HO106 := n0_; have BK101 := n1_; have BK102 := n2_; have BK103 := n3_; have HB := n4_; clear n0_ n1_ n2_ n3_ n4_; (try clear hb); (try clear hb2); (try clear hk); (try clear hi); (try clear ho0); obtain ⟨Ao10, co10, eo10⟩ := Kd.R_slice HO106.out; subst eo10; have hnb11 := NB103_102.out; have hnc11 := NB102_103.out; have hcz12_0 : w9.cell? ⟨gb103, 0, none⟩ = some (.slice none 0 0) := (blk_cell BK103.out 0).trans rfl; have hfz12_0 := blk_frozen BK103.out 0; have hcz13_0 : w9.cell? ⟨gb102, 0, none⟩ = some (.slice none 0 0) := (blk_cell BK102.out 0).trans rfl; have hfz13_0 := blk_frozen BK102.out 0))
 refine bodyPost_ret (results_cell_row rfl _ _ gb102 28 #[.slice Ao10 t104.length co10] (0, 0) _ rfl (by (with_reducible repeat (first | refine blk_drewN ?_ _ | refine blk_drew ?_ | refine blk_alloc ?_ _)); refine blk_put (cs := #[.slice none 0 0]) ?_ 0 _ rfl; (with_reducible repeat (first | refine blk_drewN ?_ _ | refine blk_drew ?_ | refine blk_alloc ?_ _)); refine blk_far ?_ NB102_103.out _; (with_reducible repeat (first | refine blk_drewN ?_ _ | refine blk_drew ?_ | refine blk_alloc ?_ _)); exact BK102.out) Try.underlying28 rfl (by kernel_rfl)) rfl ?_
 exact ⟨_, by first | rfl | (simp [errW_none, errW_some] <;> rfl) | (simp [*, errW_none, errW_some] <;> rfl), by (with_reducible repeat (first | apply Kd.R_alloc | apply Kd.R_drewN | apply Kd.R_drew)); exact Kd.R_mono (Kd.R_far (p := ⟨gb102, 0, none⟩) (Kd.R_far (p := ⟨gb103, 0, none⟩) (Kd.R_types (Kd.R_types HO106.out BK103.out (by decide)) BK102.out (by decide)) (fun _ hk => hk.1.2) (.slice Ao10 t104.length co10)) (fun _ hk => hk.2) (.slice Ao10 t104.length co10)) (fun _ hk => trivial), by repeat (first | (with_reducible first | exact HB.out | apply below_alloc | apply pw_below_drewN | apply below_drew1 | refine below_set ?_ GE101.out | refine below_set ?_ GE102.out | refine below_set ?_ GE103.out) | exact HB.out)⟩
def laws_eqInt64S.l0 : Nat → List Int → List Int → Int → Option (Bool)
 | 0, _, _, _ => none
 | k + 1, x0, x1, x5 => if x5 < (x0.length : Int) then (if 0 ≤ x5 then (if x5 < (x1.length : Int) then (if (rd x0 x5) = (rd x1 x5) then (laws_eqInt64S.l0 k x0 x1 (wrap64 (x5 + 1))) else (some false)) else (none)) else (none)) else (some true)
def laws_eqInt64S.f (k : Nat) (l0 : List Int) (l1 : List Int) : Option (Bool) := if (l0.length : Int) = (l1.length : Int) then (laws_eqInt64S.l0 k l0 l1 0) else (some false)
set_option maxHeartbeats 8000000 in
set_option maxRecDepth 100000 in
theorem laws_eqInt64S.calls (k : Nat) (A0 : Option Addr) (c0 : Nat) (l0 : List Int) (A1 : Option Addr) (c1 : Nat) (l1 : List Int) (r : Bool) (w : World) (hr0 : Kd.C (Kd.int .i64) w A0 l0.length l0) (hc0 : l0.length ≤ c0) (hr1 : Kd.C (Kd.int .i64) w A1 l1.length l1) (hc1 : l1.length ≤ c1) (h : laws_eqInt64S.f k l0 l1 = some r) :
  Calls Try.prog 21 #[.slice A0 l0.length c0, .slice A1 l1.length c1] w fun e w' => e = .returned (.bool r) ∧ Drawn0 w w' := by
 have HR0 := Aside0.mk hr0
 have HC0 := Aside0.mk hc0
 clear hr0 hc0
 have HR1 := Aside0.mk hr1
 have HC1 := Aside0.mk hc1
 clear hr1 hc1
 have H : (if (l0.length : Int) = (l1.length : Int) then (laws_eqInt64S.l0 k l0 l1 0) else (some false)) = some r := h
 clear h
 by_cases c3 : (l0.length : Int) = (l1.length : Int)
 ·rw [if_pos c3] at H
  have c3b0 : ((l0.length : Int) == (l1.length : Int)) = true := beq_iff_eq.mpr c3
  have c3b1 : ((l0.length : Int) != (l1.length : Int)) = false := bne_eq_false_iff_eq.mpr c3
  have c3b2 : (l0.length == l1.length) = true := by first | simpa using c3 | (simp at c3 ⊢; omega)
  clear c3
  have H' := Aside0.mk H
  clear H
  go_enter Try.func21, Try.ntmps21
  go_wp2
  repeat (go_quiet (fail); try go_wp2)
  go_loopg [5] k (fun kq v5 w' => ∃ (x5_1 : Int), v5 = .int .i64 x5_1 ∧ Aside0 (laws_eqInt64S.l0 kq l0 l1 x5_1 = some r) ∧ Aside0 (kq ≤ k) ∧ Drawn0 w w')
  case atStart => exact ⟨(0), (by first | rfl | (simp; done) | (simp [*]; done)), H', ⟨Nat.le_refl _⟩, by repeat (first | exact Drawn0.refl _ | apply Drawn0.step)⟩
  case round =>
   clear H'
   try clear c1
   try clear c2
   try clear p2
   try clear c3
   try clear c3b0
   try clear c3b1
   try clear c3b2
   obtain ⟨x5_1, rfl, HA, HK1, ⟨m1, rfl⟩⟩ := hrel
   cases gk with
   | zero => exact absurd HA.out (by simp [laws_eqInt64S.l0])
   | succ k1 =>
    have H := HA.out
    clear HA
    simp only [laws_eqInt64S.l0] at H
    by_cases c4 : x5_1 < (l0.length : Int)
    ·rw [if_pos c4] at H
     have c4b0 : decide (x5_1 < (l0.length : Int)) = true := decide_eq_true c4
     clear c4
     by_cases c5 : 0 ≤ x5_1
     ·rw [if_pos c5] at H
      have c5b0 : decide (0 ≤ x5_1) = true := decide_eq_true c5
      clear c5
      by_cases c6 : x5_1 < (l1.length : Int)
      ·rw [if_pos c6] at H
       have c6b0 : decide (x5_1 < (l1.length : Int)) = true := decide_eq_true c6
       clear c6
       by_cases c7 : (rd l0 x5_1) = (rd l1 x5_1)
       ·rw [if_pos c7] at H
        have c7b0 : ((rd l0 x5_1) == (rd l1 x5_1)) = true := beq_iff_eq.mpr c7
        have c7b1 : ((rd l0 x5_1) != (rd l1 x5_1)) = false := bne_eq_false_iff_eq.mpr c7
        clear c7
        have H' := Aside0.mk H
        clear H
        have p101 : 0 ≤ (x5_1 : Int) := of_decide_eq_true (by first | (with_reducible assumption) | assumption)
        have q101 : x5_1 < (l0.length : Int) := of_decide_eq_true (by first | (with_reducible assumption) | assumption)
        obtain ⟨ad101, e101, hx101_0⟩ := Kd.at_int HR0.out x5_1 p101 q101
        cases e101
        replace p101 := eq_true p101
        replace q101 := eq_true q101
        have p102 : 0 ≤ (x5_1 : Int) := of_decide_eq_true (by first | (with_reducible assumption) | assumption)
        have q102 : x5_1 < (l1.length : Int) := of_decide_eq_true (by first | (with_reducible assumption) | assumption)
        obtain ⟨ad102, e102, hx102_0⟩ := Kd.at_int HR1.out x5_1 p102 q102
        cases e102
        replace p102 := eq_true p102
        replace q102 := eq_true q102
        go_wp2
        repeat (go_quiet (fail); try go_wp2)
        go_roundg k1
        case measure => have := HK1.out; omega
        case rel => exact ⟨(wrap64 (x5_1 + 1)), (by first | rfl | (simp; done) | (simp [*]; done)), H', ⟨by have := HK1.out; omega⟩, by repeat (first | exact Drawn0.refl _ | apply Drawn0.step)⟩
       ·rw [if_neg c7] at H
        have c7b0 : ((rd l0 x5_1) == (rd l1 x5_1)) = false := beq_eq_false_iff_ne.mpr c7
        have c7b1 : ((rd l0 x5_1) != (rd l1 x5_1)) = true := bne_iff_ne.mpr c7
        obtain rfl := Option.some.inj H
        have p101 : 0 ≤ (x5_1 : Int) := of_decide_eq_true (by first | (with_reducible assumption) | assumption)
        have q101 : x5_1 < (l0.length : Int) := of_decide_eq_true (by first | (with_reducible assumption) | assumption)
        obtain ⟨ad101, e101, hx101_0⟩ := Kd.at_int HR0.out x5_1 p101 q101
        cases e101
        replace p101 := eq_true p101
        replace q101 := eq_true q101
        have p102 : 0 ≤ (x5_1 : Int) := of_decide_eq_true (by first | (with_reducible assumption) | assumption)
        have q102 : x5_1 < (l1.length : Int) := of_decide_eq_true (by first | (with_reducible assumption) | assumption)
        obtain ⟨ad102, e102, hx102_0⟩ := Kd.at_int HR1.out x5_1 p102 q102
        cases e102
        replace p102 := eq_true p102
        replace q102 := eq_true q102
        go_wp2
        repeat (go_quiet (fail); try go_wp2)
        go_ret
        exact ⟨by first | rfl | (simp; done) | (simp [*]; done), by repeat (first | exact Drawn0.refl _ | apply Drawn0.step)⟩
      ·rw [if_neg c6] at H
       exact absurd H (by simp)
     ·rw [if_neg c5] at H
      exact absurd H (by simp)
    ·rw [if_neg c4] at H
     have c4b0 : decide (x5_1 < (l0.length : Int)) = false := decide_eq_false c4
     clear c4
     obtain rfl := Option.some.inj H
     go_wp2
     repeat (go_quiet (fail); try go_wp2)
     go_ret
     exact ⟨by first | rfl | (simp; done) | (simp [*]; done), by repeat (first | exact Drawn0.refl _ | apply Drawn0.step)⟩
 ·rw [if_neg c3] at H
  have c3b0 : ((l0.length : Int) == (l1.length : Int)) = false := beq_eq_false_iff_ne.mpr c3
  have c3b1 : ((l0.length : Int) != (l1.length : Int)) = true := bne_iff_ne.mpr c3
  have c3b2 : (l0.length == l1.length) = false := by first | simpa using c3 | (simp at c3 ⊢; omega)
  obtain rfl := Option.some.inj H
  go_enter Try.func21, Try.ntmps21
  go_wp2
  repeat (go_quiet (fail); try go_wp2)
  go_ret
  exact ⟨by first | rfl | (simp; done) | (simp [*]; done), by repeat (first | exact Drawn0.refl _ | apply Drawn0.step)⟩
def laws_eqSpace.f (k : Nat) (l0_0 : List Int) (l1_0 : List Int) : Option (Bool) := (laws_eqInt64S.f k l0_0 l1_0).bind fun t103 => (if t103 = true then (some true) else (some false))
set_option maxHeartbeats 8000000 in
set_option maxRecDepth 100000 in
theorem laws_eqSpace.calls (k : Nat) (A0_0 : Option Addr) (c0_0 : Nat) (l0_0 : List Int) (A1_0 : Option Addr) (c1_0 : Nat) (l1_0 : List Int) (r : Bool) (w : World) (hr0_0 : Kd.C (Kd.int .i64) w A0_0 l0_0.length l0_0) (hc0_0 : l0_0.length ≤ c0_0) (hr1_0 : Kd.C (Kd.int .i64) w A1_0 l1_0.length l1_0) (hc1_0 : l1_0.length ≤ c1_0) (h : laws_eqSpace.f k l0_0 l1_0 = some r) :
  Calls Try.prog 20 #[.agg #[.slice A0_0 l0_0.length c0_0], .agg #[.slice A1_0 l1_0.length c1_0]] w fun e w' => e = .returned (.bool r) ∧ Below w.heap.size w w' := by
 have hu28 := Try.underlying28
 have HR0_0 := Aside0.mk hr0_0
 have HC0_0 := Aside0.mk hc0_0
 clear hr0_0 hc0_0
 have HR1_0 := Aside0.mk hr1_0
 have HC1_0 := Aside0.mk hc1_0
 clear hr1_0 hc1_0
 have HB := Aside0.mk (Below.refl w.heap.size w)
 have H : ((laws_eqInt64S.f k l0_0 l1_0).bind fun t103 => (if t103 = true then (some true) else (some false))) = some r := h
 clear h
 replace H := Option.bind_eq_some_iff.mp H
 obtain ⟨t103, A30, H⟩ := H
 replace H : (if t103 = true then (some true) else (some false)) = some r := H
 have A3 := Aside0.mk A30
 clear A30
 by_cases c4 : t103 = true
 ·subst c4
  have H1 : (some true) = some r := by rw [if_pos rfl] at H; exact H
  clear H
  have H := H1
  clear H1
  obtain rfl := Option.some.inj H
  go_enter Try.func20, Try.ntmps20
  go_wp2_with (first | ((with_reducible refine gate_dst (N := 2) rfl ?_); refine box_event ?hg (N := 2) ?hd (cs := #[.slice A0_0 l0_0.length c0_0]) (t := 28) ?hr ?_; (case hd => rfl); (case hg => rfl); (case hr => first | (go_simp; done) | (go_simp; rfl)); intro gb101 hg w5 hbox hb; have n0_ := Aside0.mk (below_step (by repeat (first | (with_reducible first | exact HB.out | apply below_alloc | apply pw_below_drewN | apply below_drew1) | exact HB.out)) hb); have n1_ := Aside0.mk (hbox); have n2_ := Aside0.mk ((by rw [hg]; exact (below_size (by repeat (first | (with_reducible first | exact HB.out | apply below_alloc | apply pw_below_drewN | apply below_drew1) | exact HB.out))) : w.heap.size ≤ gb101)); have n3_ := Aside0.mk ((by rw [hg]; exact (below_size (by repeat (first | (with_reducible first | exact HB.out | apply below_alloc | apply pw_below_drewN | apply below_drew1) | exact HB.out))) : w.heap.size ≤ gb101)); clear HB; have HB := n0_; have BK101 := n1_; have GW101 := n2_; have GE101 := n3_; clear n0_ n1_ n2_ n3_; clear hb hbox hg) | ((with_reducible refine gate_dst (N := 3) rfl ?_); refine box_event ?hg (N := 3) ?hd (cs := #[.slice A1_0 l1_0.length c1_0]) (t := 28) ?hr ?_; (case hd => rfl); (case hg => rfl); (case hr => first | (go_simp; done) | (go_simp; rfl)); intro gb102 hg w6 hbox hb; have n0_ := Aside0.mk (blk_below (g := gb101) (o := .cells #[.slice A0_0 l0_0.length c0_0] 28 (0, 0)) (by (with_reducible repeat (first | refine blk_drewN ?_ _ | refine blk_drew ?_ | refine blk_alloc ?_ _)); exact BK101.out) hb); have n1_ := Aside0.mk (below_step (by repeat (first | (with_reducible first | exact HB.out | apply below_alloc | apply pw_below_drewN | apply below_drew1 | refine below_set ?_ GE101.out) | exact HB.out)) hb); have n2_ := Aside0.mk (hbox); have n3_ := Aside0.mk ((by rw [hg]; exact (below_size (by repeat (first | (with_reducible first | exact HB.out | apply below_alloc | apply pw_below_drewN | apply below_drew1 | refine below_set ?_ GE101.out) | exact HB.out))) : w.heap.size ≤ gb102)); have n4_ := Aside0.mk ((by rw [hg]; exact (below_size (by repeat (first | (with_reducible first | exact HB.out | apply below_alloc | apply pw_below_drewN | apply below_drew1 | refine below_set ?_ GE101.out) | exact HB.out))) : w.heap.size ≤ gb102)); have n5_ := Aside0.mk ((by rw [hg]; exact Nat.ne_of_lt (blk_lt (g := gb101) (o := .cells #[.slice A0_0 l0_0.length c0_0] 28 (0, 0)) (by (with_reducible repeat (first | refine blk_drewN ?_ _ | refine blk_drew ?_ | refine blk_alloc ?_ _)); exact BK101.out)) : gb101 ≠ gb102)); have n6_ := Aside0.mk ((by rw [hg]; exact Nat.ne_of_gt (blk_lt (g := gb101) (o := .cells #[.slice A0_0 l0_0.length c0_0] 28 (0, 0)) (by (with_reducible repeat (first | refine blk_drewN ?_ _ | refine blk_drew ?_ | refine blk_alloc ?_ _)); exact BK101.out)) : gb102 ≠ gb101)); clear BK101; clear HB; have BK101 := n0_; have HB := n1_; have BK102 := n2_; have GW102 := n3_; have GE102 := n4_; have NB101_102 := n5_; have NB102_101 := n6_; clear n0_ n1_ n2_ n3_ n4_ n5_ n6_; clear hb hbox hg; have hnb7 := NB101_102.out; have hnc7 := NB102_101.out; have hcz8_0 : w6.cell? ⟨gb101, 0, none⟩ = some (.slice A0_0 l0_0.length c0_0) := (blk_cell BK101.out 0).trans rfl; have hfz8_0 := blk_frozen BK101.out 0; have hcz9_0 : w6.cell? ⟨gb102, 0, none⟩ = some (.slice A1_0 l1_0.length c1_0) := (blk_cell BK102.out 0).trans rfl; have hfz9_0 := blk_frozen BK102.out 0) | ((with_reducible refine gate_callee (f := 21) rfl ?_); refine goesL_ (some 9) rfl rfl Try.func21 (by kernel_rfl) rfl #[.slice A0_0 l0_0.length c0_0, .slice A1_0 l1_0.length c1_0] rfl (by (try simp only [List.map_toArray, List.map_cons, List.map_nil]); first | done | rfl | (simp only [List.length_drop, List.length_take]; rfl)) ?_; (with_reducible refine (laws_eqInt64S.calls k _ _ l0_0 _ _ l1_0 true _ ?side1 ?side2 ?side3 ?side4 A3.out).mono ?_); (case side1 => repeat (first | exact (Kd.C_below HR0_0.out HB.out) | (with_reducible refine Kd.C_alloc ?_ _) | (with_reducible refine Kd.C_drewN ?_ _) | (with_reducible refine Kd.C_drew ?_))); (case side2 => exact HC0_0.out); (case side3 => repeat (first | exact (Kd.C_below HR1_0.out HB.out) | (with_reducible refine Kd.C_alloc ?_ _) | (with_reducible refine Kd.C_drewN ?_ _) | (with_reducible refine Kd.C_drew ?_))); (case side4 => exact HC1_0.out); rintro e w' ⟨rfl, ⟨nd, rfl⟩⟩; refine ⟨_, rfl, ?_⟩))
  go_ret
  exact ⟨by first | rfl | (simp [errW_none, errW_some] <;> rfl) | (simp [*, errW_none, errW_some] <;> rfl), by repeat (first | (with_reducible first | exact HB.out | apply below_alloc | apply pw_below_drewN | apply below_drew1 | refine below_set ?_ GE101.out | refine below_set ?_ GE102.out) | exact HB.out)⟩
 ·replace c4 := Bool.eq_false_iff.mpr c4
  subst c4
  have H1 : (some false) = some r := by rw [if_neg (show ¬ (false = true) by decide)] at H; exact H
  clear H
  have H := H1
  clear H1
  obtain rfl := Option.some.inj H
  go_enter Try.func20, Try.ntmps20
  go_wp2_with (first | ((with_reducible refine gate_dst (N := 2) rfl ?_); refine box_event ?hg (N := 2) ?hd (cs := #[.slice A0_0 l0_0.length c0_0]) (t := 28) ?hr ?_; (case hd => rfl); (case hg => rfl); (case hr => first | (go_simp; done) | (go_simp; rfl)); intro gb101 hg w10 hbox hb; have n0_ := Aside0.mk (below_step (by repeat (first | (with_reducible first | exact HB.out | apply below_alloc | apply pw_below_drewN | apply below_drew1) | exact HB.out)) hb); have n1_ := Aside0.mk (hbox); have n2_ := Aside0.mk ((by rw [hg]; exact (below_size (by repeat (first | (with_reducible first | exact HB.out | apply below_alloc | apply pw_below_drewN | apply below_drew1) | exact HB.out))) : w.heap.size ≤ gb101)); have n3_ := Aside0.mk ((by rw [hg]; exact (below_size (by repeat (first | (with_reducible first | exact HB.out | apply below_alloc | apply pw_below_drewN | apply below_drew1) | exact HB.out))) : w.heap.size ≤ gb101)); clear HB; have HB := n0_; have BK101 := n1_; have GW101 := n2_; have GE101 := n3_; clear n0_ n1_ n2_ n3_; clear hb hbox hg) | ((with_reducible refine gate_dst (N := 3) rfl ?_); refine box_event ?hg (N := 3) ?hd (cs := #[.slice A1_0 l1_0.length c1_0]) (t := 28) ?hr ?_; (case hd => rfl); (case hg => rfl); (case hr => first | (go_simp; done) | (go_simp; rfl)); intro gb102 hg w11 hbox hb; have n0_ := Aside0.mk (blk_below (g := gb101) (o := .cells #[.slice A0_0 l0_0.length c0_0] 28 (0, 0)) (by (with_reducible repeat (first | refine blk_drewN ?_ _ | refine blk_drew ?_ | refine blk_alloc ?_ _)); exact BK101.out) hb); have n1_ := Aside0.mk (below_step (by repeat (first | (with_reducible first | exact HB.out | apply below_alloc | apply pw_below_drewN | apply below_drew1 | refine below_set ?_ GE101.out) | exact HB.out)) hb); have n2_ := Aside0.mk (hbox); have n3_ := Aside0.mk ((by rw [hg]; exact (below_size (by repeat (first | (with_reducible first | exact HB.out | apply below_alloc | apply pw_below_drewN | apply below_drew1 | refine below_set ?_ GE101.out) | exact HB.out))) : w.heap.size ≤ gb102)); have n4_ := Aside0.mk ((by rw [hg]; exact (below_size (by repeat (first | (with_reducible first | exact HB.out | apply below_alloc | apply pw_below_drewN | apply below_drew1 | refine below_set ?_ GE101.out) | exact HB.out))) : w.heap.size ≤ gb102)); have n5_ := Aside0.mk ((by rw [hg]; exact Nat.ne_of_lt (blk_lt (g := gb101) (o := .cells #[.slice A0_0 l0_0.length c0_0] 28 (0, 0)) (by (with_reducible repeat (first | refine blk_drewN ?_ _ | refine blk_drew ?_ | refine blk_alloc ?_ _)); exact BK101.out)) : gb101 ≠ gb102)); have n6_ := Aside0.mk ((by rw [hg]; exact Nat.ne_of_gt (blk_lt (g := gb101) (o := .cells #[.slice A0_0 l0_0.length c0_0] 28 (0, 0)) (by (with_reducible repeat (first | refine blk_drewN ?_ _ | refine blk_drew ?_ | refine blk_alloc ?_ _)); exact BK101.out)) : gb102 ≠ gb101)); clear BK101; clear HB; have BK101 := n0_; have HB := n1_; have BK102 := n2_; have GW102 := n3_; have GE102 := n4_; have NB101_102 := n5_; have NB102_101 := n6_; clear n0_ n1_ n2_ n3_ n4_ n5_ n6_; clear hb hbox hg; have hnb12 := NB101_102.out; have hnc12 := NB102_101.out; have hcz13_0 : w11.cell? ⟨gb101, 0, none⟩ = some (.slice A0_0 l0_0.length c0_0) := (blk_cell BK101.out 0).trans rfl; have hfz13_0 := blk_frozen BK101.out 0; have hcz14_0 : w11.cell? ⟨gb102, 0, none⟩ = some (.slice A1_0 l1_0.length c1_0) := (blk_cell BK102.out 0).trans rfl; have hfz14_0 := blk_frozen BK102.out 0) | ((with_reducible refine gate_callee (f := 21) rfl ?_); refine goesL_ (some 9) rfl rfl Try.func21 (by kernel_rfl) rfl #[.slice A0_0 l0_0.length c0_0, .slice A1_0 l1_0.length c1_0] rfl (by (try simp only [List.map_toArray, List.map_cons, List.map_nil]); first | done | rfl | (simp only [List.length_drop, List.length_take]; rfl)) ?_; (with_reducible refine (laws_eqInt64S.calls k _ _ l0_0 _ _ l1_0 false _ ?side1 ?side2 ?side3 ?side4 A3.out).mono ?_); (case side1 => repeat (first | exact (Kd.C_below HR0_0.out HB.out) | (with_reducible refine Kd.C_alloc ?_ _) | (with_reducible refine Kd.C_drewN ?_ _) | (with_reducible refine Kd.C_drew ?_))); (case side2 => exact HC0_0.out); (case side3 => repeat (first | exact (Kd.C_below HR1_0.out HB.out) | (with_reducible refine Kd.C_alloc ?_ _) | (with_reducible refine Kd.C_drewN ?_ _) | (with_reducible refine Kd.C_drew ?_))); (case side4 => exact HC1_0.out); rintro e w' ⟨rfl, ⟨nd, rfl⟩⟩; refine ⟨_, rfl, ?_⟩))
  go_ret
  exact ⟨by first | rfl | (simp [errW_none, errW_some] <;> rfl) | (simp [*, errW_none, errW_some] <;> rfl), by repeat (first | (with_reducible first | exact HB.out | apply below_alloc | apply pw_below_drewN | apply below_drew1 | refine below_set ?_ GE101.out | refine below_set ?_ GE102.out) | exact HB.out)⟩
def laws_markInt64S.l0 : Nat → List Int → Int → Int → Option (Int × List Int)
 | 0, _, _, _ => none
 | k + 1, x0, x1, x5 => if x5 < (x0.length : Int) then (if 0 ≤ x5 then (laws_markInt64S.l0 k (x0.set (x5 : Int).toNat x1) (wrap64 (x1 + 1)) (wrap64 (x5 + 1))) else (none)) else (some (x1, x0))
def laws_markInt64S.f (k : Nat) (l0 : List Int) (a1 : Int) : Option (Int × List Int) := laws_markInt64S.l0 k l0 a1 0
set_option maxHeartbeats 8000000 in
set_option maxRecDepth 100000 in
theorem laws_markInt64S.calls (k : Nat) (P0_ : Nat → Prop) (u9000_ : Value) (l0 : List Int) (a1 : Int) (r1 : Int) (r2 : List Int) (w0 w : World) (hB : Below w0.heap.size w0 w) (ho0 : Kd.R (Kd.int .i64) 2 w w0.heap.size P0_ u9000_ l0) (h : laws_markInt64S.f k l0 a1 = some (r1, r2)) :
  Calls Try.prog 25 #[u9000_, .int .i64 a1] w fun e w' => e = .returned (.int .i64 r1) ∧ Kd.R (Kd.int .i64) 2 w' w0.heap.size (fun k_ => (P0_ k_ ∨ w.heap.size ≤ k_)) u9000_ r2 ∧ Below w0.heap.size w0 w' ∧ Kept w w' (fun k_ => P0_ k_) := by
 have HO0 := Aside0.mk (show Kd.R (Kd.int .i64) 2 w w0.heap.size (fun k_ => (P0_ k_ ∨ w.heap.size ≤ k_)) u9000_ l0 from Kd.R_mono ho0 (fun k_ hk => (.inl hk)))
 have HK := Aside0.mk (Kept.refl w (fun k_ => P0_ k_))
 have HW0 := Aside0.mk hB.size
 have HB := Aside0.mk hB
 clear hB
 have H : (laws_markInt64S.l0 k l0 a1 0) = some (r1, r2) := h
 clear h
 have H' := Aside0.mk H
 clear H
 go_enter Try.func25, Try.ntmps25
 go_wp2
 go_loopg [1, 5] k (fun kq v1 v5 w' => ∃ (x0_1 : List Int) (x1_1 : Int) (x5_1 : Int), v1 = .int .i64 x1_1 ∧ v5 = .int .i64 x5_1 ∧ Aside0 (laws_markInt64S.l0 kq x0_1 x1_1 x5_1 = some (r1, r2)) ∧ Aside0 (kq ≤ k) ∧ Aside0 (Kd.R (Kd.int .i64) 2 w' w0.heap.size (fun k_ => (P0_ k_ ∨ w.heap.size ≤ k_)) u9000_ x0_1) ∧ Aside0 (Kept w w' (fun k_ => P0_ k_)) ∧ Aside0 (Below w0.heap.size w0 w'))
 case atStart => exact ⟨(l0), (a1), (0), (by first | rfl | (simp; done) | (simp [*]; done)), (by first | rfl | (simp; done) | (simp [*]; done)), H', ⟨Nat.le_refl _⟩, ⟨by (with_reducible repeat (first | apply Kd.R_alloc | apply Kd.R_drewN | apply Kd.R_drew)); exact HO0.out⟩, ⟨by repeat (first | (with_reducible first | exact HK.out | apply Kept.alloc | apply Kept.drewN | apply Kept.drew) | exact HK.out)⟩, ⟨by repeat (first | (with_reducible first | exact HB.out | apply below_alloc | apply pw_below_drewN | apply below_drew1) | exact HB.out)⟩⟩
 case round =>
  clear H'
  try clear c2
  try clear p2
  obtain ⟨x0_1, x1_1, x5_1, rfl, rfl, HA, HK1, HO_0, HK, HB⟩ := hrel
  cases gk with
  | zero => exact absurd HA.out (by simp [laws_markInt64S.l0])
  | succ k1 =>
   have H := HA.out
   clear HA
   simp only [laws_markInt64S.l0] at H
   by_cases c3 : x5_1 < (x0_1.length : Int)
   ·rw [if_pos c3] at H
    have c3b0 : decide (x5_1 < (x0_1.length : Int)) = true := decide_eq_true c3
    clear c3
    by_cases c4 : 0 ≤ x5_1
    ·rw [if_pos c4] at H
     have c4b0 : decide (0 ≤ x5_1) = true := decide_eq_true c4
     clear c4
     obtain ⟨y101, hy101⟩ : ∃ y_ : List Int, y_ = (x0_1.set (x5_1 : Int).toNat x1_1) := ⟨_, rfl⟩
     replace H : (laws_markInt64S.l0 k1 y101 (wrap64 (x1_1 + 1)) (wrap64 (x5_1 + 1))) = some (r1, r2) := by first | (rw [hy101]; with_reducible exact H) | (have H2_ := (Option.bind_some _ _).symm.trans H; rw [hy101]; with_reducible exact H2_) | (have H2_ := (Option.bind_some _ _).symm.trans H; with_reducible exact H2_) | with_reducible exact H | (rw [hy101]; exact H) | exact H
     have Ny101 := Aside0.mk hy101
     clear hy101
     have H' := Aside0.mk H
     clear H
     obtain ⟨Ao6, co6, eo6⟩ := Kd.R_slice HO_0.out
     subst eo6
     have p5 : 0 ≤ (x5_1 : Int) := of_decide_eq_true (by first | (with_reducible assumption) | assumption)
     have q5 : (x5_1 : Int) < ((x0_1.length : Int) : Int) := of_decide_eq_true (by first | (with_reducible assumption) | assumption)
     obtain ⟨go5, co5, eo5, gb5, gl5, cl5, HG5⟩ := Kd.R_form HO_0.out (by omega)
     (first | cases eo5 | (injection eo5 with ea_ en_ ec_; (first | subst ea_ | (injection ea_ with ea_; subst ea_)); subst ec_; clear en_))
     have GB5 := Aside0.mk gb5
     have GG5 := Aside0.mk HG5
     clear gb5 gl5 HG5
     have HMgo5 := Aside0.mk (show (P0_ go5 ∨ w.heap.size ≤ go5) from (HO_0.out.1 _ rfl))
     obtain ⟨hx5_0, hf5_0⟩ := Kd.R_celln 0 HO_0.out (x5_1 : Int) p5 q5
     replace p5 := eq_true p5
     replace q5 := eq_true q5
     have HP7 := Kd.R_putg HO_0.out (x5_1 : Int) x1_1
     go_wp2_with (first | ((with_reducible refine gate_store (t := 2) (p := 15) rfl ?_); refine store_event (t := 2) (p := 15) (v := ?vo_w8) (w1 := (wr.setCell ⟨go5, (x5_1 : Int).toNat, none⟩ (.int .i64 x1_1))) ?hg ?ho ?hn ?hr ?_; (case ho => rfl); (case hg => rfl); (case hn => rfl); (case hr => first | (go_simp; done) | (go_simp; rfl)); intro w8 hw; have hg : wr.grownBy w8 (some go5) := (by rw [hw]; exact HP7.2); have hp_ : Kd.R (Kd.int .i64) 2 w8 w0.heap.size (fun k_ => (P0_ k_ ∨ w.heap.size ≤ k_)) (.slice (some ⟨go5, 0, none⟩) x0_1.length co6) y101 := (by rw [hw, Ny101.out]; exact HP7.1); clear HP7; have n0_ := Aside0.mk (hp_); have n1_ := Aside0.mk ((by rw [hw]; exact below_set (HB.out) GB5.out : Below w0.heap.size w0 w8)); have n2_ := Aside0.mk (Kept.of_grown (S := (fun k_ => P0_ k_)) hg (by repeat (first | (with_reducible first | exact HK.out | apply Kept.alloc | apply Kept.drewN | apply Kept.drew) | exact HK.out)) (fun k_ e_ => (HO_0.out.1 k_ e_))); clear HO_0; clear HB; clear HK; have HO_0 := n0_; have HB := n1_; have HK := n2_; clear n0_ n1_ n2_; clear hg hw hp_))
     go_roundg k1
     case measure => have := HK1.out; omega
     case rel => exact ⟨(y101), (wrap64 (x1_1 + 1)), (wrap64 (x5_1 + 1)), (by first | rfl | (simp; done) | (simp [*]; done)), (by first | rfl | (simp; done) | (simp [*]; done)), H', ⟨by have := HK1.out; omega⟩, ⟨by (with_reducible repeat (first | apply Kd.R_alloc | apply Kd.R_drewN | apply Kd.R_drew)); exact HO_0.out⟩, ⟨by repeat (first | (with_reducible first | exact HK.out | apply Kept.alloc | apply Kept.drewN | apply Kept.drew) | exact HK.out)⟩, ⟨by repeat (first | (with_reducible first | exact HB.out | apply below_alloc | apply pw_below_drewN | apply below_drew1) | exact HB.out)⟩⟩
    ·rw [if_neg c4] at H
     exact absurd H (by simp)
   ·rw [if_neg c3] at H
    have c3b0 : decide (x5_1 < (x0_1.length : Int)) = false := decide_eq_false c3
    clear c3
    simp only [Option.some.injEq, Prod.mk.injEq] at H
    obtain ⟨rfl, rfl⟩ := H
    obtain ⟨Ao9, co9, eo9⟩ := Kd.R_slice HO_0.out
    subst eo9
    go_wp2
    go_ret
    exact ⟨by first | rfl | (simp [errW_none, errW_some] <;> rfl) | (simp [*, errW_none, errW_some] <;> rfl), by (with_reducible repeat (first | apply Kd.R_alloc | apply Kd.R_drewN | apply Kd.R_drew)); exact HO_0.out, by repeat (first | (with_reducible first | exact HB.out | apply below_alloc | apply pw_below_drewN | apply below_drew1) | exact HB.out), by repeat (first | (with_reducible first | exact HK.out | apply Kept.alloc | apply Kept.drewN | apply Kept.drew) | exact HK.out)⟩
def laws_markSpace.f (k : Nat) (l0_0 : List Int) (a1 : Int) : Option (Int × List Int) := (laws_markInt64S.f k l0_0 a1).bind fun bt102 => (some (bt102.1, bt102.2))
set_option maxHeartbeats 8000000 in
set_option maxRecDepth 100000 in
theorem laws_markSpace.calls (k : Nat) (P0_0_ : Nat → Prop) (u9000_ : Value) (l0_0 : List Int) (a1 : Int) (r1 : Int) (r2 : List Int) (w0 w : World) (hB : Below w0.heap.size w0 w) (ho0_0 : Kd.R (Kd.int .i64) 2 w w0.heap.size P0_0_ u9000_ l0_0) (h : laws_markSpace.f k l0_0 a1 = some (r1, r2)) :
  Calls Try.prog 24 #[.agg #[u9000_], .int .i64 a1] w fun e w' => e = .returned (.int .i64 r1) ∧ Kd.R (Kd.int .i64) 2 w' w0.heap.size (fun k_ => (P0_0_ k_ ∨ w.heap.size ≤ k_)) u9000_ r2 ∧ Below w0.heap.size w0 w' ∧ Kept w w' (fun k_ => P0_0_ k_) := by
 have hu28 := Try.underlying28
 have HO0_0 := Aside0.mk (show Kd.R (Kd.int .i64) 2 w w0.heap.size (fun k_ => (P0_0_ k_ ∨ w.heap.size ≤ k_)) u9000_ l0_0 from Kd.R_mono ho0_0 (fun k_ hk => (.inl hk)))
 have HK := Aside0.mk (Kept.refl w (fun k_ => P0_0_ k_))
 have HW0 := Aside0.mk hB.size
 have HB := Aside0.mk hB
 clear hB
 have H : ((laws_markInt64S.f k l0_0 a1).bind fun bt102 => (some (bt102.1, bt102.2))) = some (r1, r2) := h
 clear h
 replace H := Option.bind_eq_some_iff.mp H
 obtain ⟨⟨t102, t103⟩, A30, H⟩ := H
 replace H : (some (t102, t103)) = some (r1, r2) := H
 have A3 := Aside0.mk A30
 clear A30
 simp only [Option.some.injEq, Prod.mk.injEq] at H
 obtain ⟨rfl, rfl⟩ := H
 obtain ⟨Ao4, co4, eo4⟩ := Kd.R_slice HO0_0.out
 subst eo4
 go_enter Try.func24, Try.ntmps24
 go_wp2_with (first | ((with_reducible refine gate_dst (N := 2) rfl ?_); refine box_event ?hg (N := 2) ?hd (cs := #[.slice Ao4 l0_0.length co4]) (t := 28) ?hr ?_; (case hd => rfl); (case hg => rfl); (case hr => first | (go_simp; done) | (go_simp; rfl)); intro gb101 hg w5 hbox hb; have n0_ := Aside0.mk (Kd.R_below (by (with_reducible repeat (first | apply Kd.R_alloc | apply Kd.R_drewN | apply Kd.R_drew)); exact HO0_0.out) hb); have n1_ := Aside0.mk (Kept.below (S := (fun k_ => P0_0_ k_)) (by repeat (first | (with_reducible first | exact HK.out | apply Kept.alloc | apply Kept.drewN | apply Kept.drew) | exact HK.out)) hb); have n2_ := Aside0.mk (below_step (by repeat (first | (with_reducible first | exact HB.out | apply below_alloc | apply pw_below_drewN | apply below_drew1) | exact HB.out)) hb); have n3_ := Aside0.mk (hbox); have n4_ := Aside0.mk ((by rw [hg]; exact (by first | exact HK.out.1 | exact (show Kept w _ (fun k_ => P0_0_ k_) from by repeat (first | (with_reducible first | exact HK.out | apply Kept.alloc | apply Kept.drewN | apply Kept.drew) | exact HK.out)).1) : w.heap.size ≤ gb101)); have n5_ := Aside0.mk ((by rw [hg]; exact (below_size (by repeat (first | (with_reducible first | exact HB.out | apply below_alloc | apply pw_below_drewN | apply below_drew1) | exact HB.out))) : w0.heap.size ≤ gb101)); clear HO0_0; clear HK; clear HB; have HO0_0 := n0_; have HK := n1_; have HB := n2_; have BK101 := n3_; have GW101 := n4_; have GE101 := n5_; clear n0_ n1_ n2_ n3_ n4_ n5_; clear hb hbox hg; have hcz6_0 : w5.cell? ⟨gb101, 0, none⟩ = some (.slice Ao4 l0_0.length co4) := (blk_cell BK101.out 0).trans rfl; have hfz6_0 := blk_frozen BK101.out 0) | ((with_reducible refine gate_callee (f := 25) rfl ?_); refine goesL_ (some 8) rfl rfl Try.func25 (by kernel_rfl) rfl #[.slice Ao4 l0_0.length co4, .int .i64 a1] rfl (by (try simp only [List.map_toArray, List.map_cons, List.map_nil]); first | done | rfl | (simp only [List.length_drop, List.length_take]; rfl)) ?_; (with_reducible refine (laws_markInt64S.calls k (fun k_ => some k_ = (.slice Ao4 l0_0.length co4 : Value).ownBlock) (.slice Ao4 l0_0.length co4) l0_0 a1 t102 t103 w0 _ ?side1 ?side2 A3.out).mono ?_); (case side1 => repeat (first | (with_reducible first | exact HB.out | apply below_alloc | apply pw_below_drewN | apply below_drew1 | refine below_set ?_ GE101.out) | exact HB.out)); (case side2 => exact Kd.R_tight rfl HO0_0.out); rintro e w7 ⟨rfl, hy0, hb, hkp⟩; refine ⟨_, rfl, ?_⟩; have n0_ := Aside0.mk (Kd.R_reok rfl hy0 (fun k_ e_ => HO0_0.out.1 k_ e_)); have n1_ := Aside0.mk (blk_kept (by (with_reducible repeat (first | refine blk_drewN ?_ _ | refine blk_drew ?_ | refine blk_alloc ?_ _)); exact BK101.out) hkp (fun hs_ => (fun e_ => (Kd.R_ne HO0_0.out BK101.out (by decide)) e_) hs_)); have n2_ := Aside0.mk (Kept.then_ (S := (fun k_ => P0_0_ k_)) (by repeat (first | (with_reducible first | exact HK.out | apply Kept.alloc | apply Kept.drewN | apply Kept.drew | refine Kept.setCell ?_ (.inr GW101.out) _) | exact HK.out)) hkp (fun k_ hs_ => (fun e_ => (HO0_0.out.1 k_ e_.symm)) hs_)); have n3_ := Aside0.mk (hb); clear HO0_0; clear BK101; clear HK; clear HB; have HO0_0 := n0_; have BK101 := n1_; have HK := n2_; have HB := n3_; clear n0_ n1_ n2_ n3_; (try clear hb); (try clear hkp); (try clear hy0)))
 go_ret
 exact ⟨by first | rfl | (simp [errW_none, errW_some] <;> rfl) | (simp [*, errW_none, errW_some] <;> rfl), by (with_reducible repeat (first | apply Kd.R_alloc | apply Kd.R_drewN | apply Kd.R_drew)); exact HO0_0.out, by repeat (first | (with_reducible first | exact HB.out | apply below_alloc | apply pw_below_drewN | apply below_drew1 | refine below_set ?_ GE101.out) | exact HB.out), by repeat (first | (with_reducible first | exact HK.out | apply Kept.alloc | apply Kept.drewN | apply Kept.drew | refine Kept.setCell ?_ (.inr GW101.out) _) | exact HK.out)⟩
def laws_heldInt64S.l0 : Nat → List Int → Int → Int → Option (Int)
 | 0, _, _, _ => none
 | k + 1, x0, x1, x5 => if x5 < (x0.length : Int) then (if 0 ≤ x5 then (if (rd x0 x5) = x1 then (laws_heldInt64S.l0 k x0 (wrap64 (x1 + 1)) (wrap64 (x5 + 1))) else (some (-1))) else (none)) else (some x1)
def laws_heldInt64S.f (k : Nat) (l0 : List Int) (a1 : Int) : Option (Int) := laws_heldInt64S.l0 k l0 a1 0
set_option maxHeartbeats 8000000 in
set_option maxRecDepth 100000 in
theorem laws_heldInt64S.calls (k : Nat) (A0 : Option Addr) (c0 : Nat) (l0 : List Int) (a1 : Int) (r : Int) (w : World) (hr0 : Kd.C (Kd.int .i64) w A0 l0.length l0) (hc0 : l0.length ≤ c0) (h : laws_heldInt64S.f k l0 a1 = some r) :
  Calls Try.prog 26 #[.slice A0 l0.length c0, .int .i64 a1] w fun e w' => e = .returned (.int .i64 r) ∧ Drawn0 w w' := by
 have HR0 := Aside0.mk hr0
 have HC0 := Aside0.mk hc0
 clear hr0 hc0
 have H : (laws_heldInt64S.l0 k l0 a1 0) = some r := h
 clear h
 have H' := Aside0.mk H
 clear H
 go_enter Try.func26, Try.ntmps26
 go_wp2
 go_loopg [1, 5] k (fun kq v1 v5 w' => ∃ (x1_1 : Int) (x5_1 : Int), v1 = .int .i64 x1_1 ∧ v5 = .int .i64 x5_1 ∧ Aside0 (laws_heldInt64S.l0 kq l0 x1_1 x5_1 = some r) ∧ Aside0 (kq ≤ k) ∧ Drawn0 w w')
 case atStart => exact ⟨(a1), (0), (by first | rfl | (simp; done) | (simp [*]; done)), (by first | rfl | (simp; done) | (simp [*]; done)), H', ⟨Nat.le_refl _⟩, by repeat (first | exact Drawn0.refl _ | apply Drawn0.step)⟩
 case round =>
  clear H'
  try clear c2
  try clear p2
  obtain ⟨x1_1, x5_1, rfl, rfl, HA, HK1, ⟨m1, rfl⟩⟩ := hrel
  cases gk with
  | zero => exact absurd HA.out (by simp [laws_heldInt64S.l0])
  | succ k1 =>
   have H := HA.out
   clear HA
   simp only [laws_heldInt64S.l0] at H
   by_cases c3 : x5_1 < (l0.length : Int)
   ·rw [if_pos c3] at H
    have c3b0 : decide (x5_1 < (l0.length : Int)) = true := decide_eq_true c3
    clear c3
    by_cases c4 : 0 ≤ x5_1
    ·rw [if_pos c4] at H
     have c4b0 : decide (0 ≤ x5_1) = true := decide_eq_true c4
     clear c4
     by_cases c5 : (rd l0 x5_1) = x1_1
     ·rw [if_pos c5] at H
      have c5b0 : ((rd l0 x5_1) == x1_1) = true := beq_iff_eq.mpr c5
      have c5b1 : ((rd l0 x5_1) != x1_1) = false := bne_eq_false_iff_eq.mpr c5
      clear c5
      have H' := Aside0.mk H
      clear H
      have p101 : 0 ≤ (x5_1 : Int) := of_decide_eq_true (by first | (with_reducible assumption) | assumption)
      have q101 : x5_1 < (l0.length : Int) := of_decide_eq_true (by first | (with_reducible assumption) | assumption)
      obtain ⟨ad101, e101, hx101_0⟩ := Kd.at_int HR0.out x5_1 p101 q101
      cases e101
      replace p101 := eq_true p101
      replace q101 := eq_true q101
      go_wp2
      go_roundg k1
      case measure => have := HK1.out; omega
      case rel => exact ⟨(wrap64 (x1_1 + 1)), (wrap64 (x5_1 + 1)), (by first | rfl | (simp; done) | (simp [*]; done)), (by first | rfl | (simp; done) | (simp [*]; done)), H', ⟨by have := HK1.out; omega⟩, by repeat (first | exact Drawn0.refl _ | apply Drawn0.step)⟩
     ·rw [if_neg c5] at H
      have c5b0 : ((rd l0 x5_1) == x1_1) = false := beq_eq_false_iff_ne.mpr c5
      have c5b1 : ((rd l0 x5_1) != x1_1) = true := bne_iff_ne.mpr c5
      obtain rfl := Option.some.inj H
      have p101 : 0 ≤ (x5_1 : Int) := of_decide_eq_true (by first | (with_reducible assumption) | assumption)
      have q101 : x5_1 < (l0.length : Int) := of_decide_eq_true (by first | (with_reducible assumption) | assumption)
      obtain ⟨ad101, e101, hx101_0⟩ := Kd.at_int HR0.out x5_1 p101 q101
      cases e101
      replace p101 := eq_true p101
      replace q101 := eq_true q101
      go_wp2
      go_ret
      exact ⟨by first | rfl | (simp; done) | (simp [*]; done), by repeat (first | exact Drawn0.refl _ | apply Drawn0.step)⟩
    ·rw [if_neg c4] at H
     exact absurd H (by simp)
   ·rw [if_neg c3] at H
    have c3b0 : decide (x5_1 < (l0.length : Int)) = false := decide_eq_false c3
    clear c3
    obtain rfl := Option.some.inj H
    go_wp2
    go_ret
    exact ⟨by first | rfl | (simp; done) | (simp [*]; done), by repeat (first | exact Drawn0.refl _ | apply Drawn0.step)⟩
theorem toInt64S_l0 (l : List Int) (hl : l.length ≤ 35184372088832) : ∀ (d i : Nat) (x : List Int), i + d = l.length → x.length = l.length → (∀ j, j < i → x.getD j 0 = l.getD j 0) → Ev (fun k => laws_toInt64S.l0 k l x (i : Int)) l := by
 intro d
 induction d with
 | zero =>
  intro i x hi hx h
  refine Ev.step (fun k => by simp only [laws_toInt64S.l0]; rw [if_neg (by omega)]) ?_
  have e : x = l := by
   refine List.ext_getElem hx (fun j h1 h2 => ?_)
   have h3 := h j (by omega)
   rw [List.getD_eq_getElem?_getD, List.getD_eq_getElem?_getD, List.getElem?_eq_getElem h1, List.getElem?_eq_getElem h2] at h3
   exact h3
  rw [e]
  exact Ev.now _
 | succ d ih =>
  intro i x hi hx h
  refine Ev.step (fun k => by simp only [laws_toInt64S.l0]; rw [if_pos (by omega), if_pos (by omega), if_pos (by omega), rd_nat, show ((i : Int)).toNat = i by omega, wrap_id (by omega) (by omega), show (i : Int) + 1 = ((i + 1 : Nat) : Int) by omega]) ?_
  refine ih (i + 1) _ (by omega) (by rw [List.length_set]; exact hx) (fun j hj => ?_)
  rw [List.getD_eq_getElem?_getD, List.getElem?_set]
  by_cases c : i = j
  ·rw [if_pos c, if_pos (by omega), ← c]; rfl
  ·rw [if_neg c, ← List.getD_eq_getElem?_getD]
   exact h j (by omega)
theorem toInt64S_ev (l : List Int) (hl : l.length ≤ 35184372088832) : Ev (fun k => laws_toInt64S.f k l) l := by
 unfold laws_toInt64S.f
 refine Ev.congr (fun k => by rw [if_pos (by omega), if_pos (by omega)]) ?_
 exact toInt64S_l0 l hl l.length 0 _ (by omega) (by rw [List.length_replicate]; omega) (fun j hj => by omega)
theorem toSpace_ev (l : List Int) (hl : l.length ≤ 35184372088832) : Ev (fun k => laws_toSpace.f k l) l := Ev.bind (toInt64S_ev l hl) (Ev.now l)
theorem eqInt64S_l0 (l : List Int) (hl : l.length ≤ 35184372088832) : ∀ (d i : Nat), i + d = l.length → Ev (fun k => laws_eqInt64S.l0 k l l (i : Int)) true := by
 intro d
 induction d with
 | zero =>
  intro i hi
  refine Ev.step (fun k => by simp only [laws_eqInt64S.l0]; rw [if_neg (by omega)]) ?_
  exact Ev.now _
 | succ d ih =>
  intro i hi
  refine Ev.step (fun k => by simp only [laws_eqInt64S.l0]; rw [if_pos (by omega), if_pos (by omega), if_pos (by omega), if_true, wrap_id (by omega) (by omega), show (i : Int) + 1 = ((i + 1 : Nat) : Int) by omega]) ?_
  exact ih (i + 1) (by omega)
theorem eqInt64S_ev (l : List Int) (hl : l.length ≤ 35184372088832) : Ev (fun k => laws_eqInt64S.f k l l) true := by
 unfold laws_eqInt64S.f
 refine Ev.congr (fun k => by rw [if_pos rfl]) ?_
 exact eqInt64S_l0 l hl l.length 0 (by omega)
theorem eqSpace_ev (l : List Int) (hl : l.length ≤ 35184372088832) : Ev (fun k => laws_eqSpace.f k l l) true := by
 unfold laws_eqSpace.f
 refine Ev.bind (eqInt64S_ev l hl) ?_
 simp only [if_true]
 exact Ev.now _
theorem szSpace_val (l : List Int) (x : Int) (hx : 0 ≤ x ∧ x ≤ 1048576) (hl : l.length ≤ 9223372036854775807) : laws_szSpace.f l x = some (if l.length ≤ x then x - l.length else -1) := by
 unfold laws_szSpace.f laws_szInt64S.f
 rw [wrap_id (by omega) (by omega)]
 by_cases c : (l.length : Int) ≤ x
 ·rw [if_pos c, if_neg (by omega), Option.bind_some, if_neg (by omega)]
 ·rw [if_neg c, if_pos (by omega), Option.bind_some, if_pos (by omega)]
/-- a, a + 1, .. -/
def ups (a : Int) : Nat → List Int
 | 0 => []
 | n + 1 => a :: ups (a + 1) n
theorem ups_length : ∀ (n : Nat) (a : Int), (ups a n).length = n
 | 0, _ => rfl
 | n + 1, a => by show (ups (a + 1) n).length + 1 = n + 1; rw [ups_length n]
theorem ups_at : ∀ (n : Nat) (a : Int) (i : Nat), i < n → (ups a n).getD i 0 = a + i
 | n + 1, a, 0, _ => by show a = a + ((0 : Nat) : Int); omega
 | n + 1, a, i + 1, h => by
  have := ups_at n (a + 1) i (by omega)
  show (ups (a + 1) n).getD i 0 = _
  rw [this]
  omega
theorem markInt64S_l0 (n : Nat) (hn : n ≤ 35184372088832) (a : Int) (ha : 0 ≤ a ∧ a ≤ 35184372088832) : ∀ (d i : Nat) (x : List Int), i + d = n → x.length = n → (∀ j, j < i → x.getD j 0 = a + j) → Ev (fun k => laws_markInt64S.l0 k x (a + i) (i : Int)) (a + n, ups a n) := by
 intro d
 induction d with
 | zero =>
  intro i x hi hx h
  refine Ev.step (fun k => by simp only [laws_markInt64S.l0]; rw [if_neg (by omega)]) ?_
  have e : x = ups a n := by
   refine List.ext_getElem (by rw [hx, ups_length]) (fun j h1 h2 => ?_)
   have h3 := h j (by omega)
   have h4 := ups_at n a j (by omega)
   rw [List.getD_eq_getElem?_getD, List.getElem?_eq_getElem h1] at h3
   rw [List.getD_eq_getElem?_getD, List.getElem?_eq_getElem h2] at h4
   exact h3.trans h4.symm
  rw [e, show i = n by omega]
  exact Ev.now _
 | succ d ih =>
  intro i x hi hx h
  refine Ev.step (fun k => by simp only [laws_markInt64S.l0]; rw [if_pos (by omega), if_pos (by omega), show ((i : Int)).toNat = i by omega, wrap_id (by omega) (by omega), wrap_id (by omega) (by omega), show a + (i : Int) + 1 = a + ((i + 1 : Nat) : Int) by omega, show (i : Int) + 1 = ((i + 1 : Nat) : Int) by omega]) ?_
  refine ih (i + 1) _ (by omega) (by rw [List.length_set]; exact hx) (fun j hj => ?_)
  rw [List.getD_eq_getElem?_getD, List.getElem?_set]
  by_cases c : i = j
  ·rw [if_pos c, if_pos (by omega), ← c]; rfl
  ·rw [if_neg c, ← List.getD_eq_getElem?_getD]
   exact h j (by omega)
theorem markInt64S_ev (l : List Int) (a : Int) (hl : l.length ≤ 35184372088832) (ha : 0 ≤ a ∧ a ≤ 35184372088832) : Ev (fun k => laws_markInt64S.f k l a) (a + l.length, ups a l.length) := by
 have h := markInt64S_l0 l.length hl a ha l.length 0 l (by omega) rfl (fun j hj => by omega)
 rw [show a + ((0 : Nat) : Int) = a by omega] at h
 exact h
theorem markSpace_ev (l : List Int) (a : Int) (hl : l.length ≤ 35184372088832) (ha : 0 ≤ a ∧ a ≤ 35184372088832) : Ev (fun k => laws_markSpace.f k l a) (a + l.length, ups a l.length) := Ev.bind (markInt64S_ev l a hl ha) (Ev.now _)
theorem heldInt64S_l0 (n : Nat) (hn : n ≤ 35184372088832) (a : Int) (ha : 0 ≤ a ∧ a ≤ 35184372088832) : ∀ (d i : Nat), i + d = n → Ev (fun k => laws_heldInt64S.l0 k (ups a n) (a + i) (i : Int)) (a + n) := by
 have hl := ups_length n a
 intro d
 induction d with
 | zero =>
  intro i hi
  refine Ev.step (fun k => by simp only [laws_heldInt64S.l0]; rw [if_neg (by omega)]) ?_
  rw [show i = n by omega]
  exact Ev.now _
 | succ d ih =>
  intro i hi
  have h4 := ups_at n a i (by omega)
  refine Ev.step (fun k => by simp only [laws_heldInt64S.l0]; rw [if_pos (by omega), if_pos (by omega), rd_nat, if_pos h4, wrap_id (by omega) (by omega), wrap_id (by omega) (by omega), show a + (i : Int) + 1 = a + ((i + 1 : Nat) : Int) by omega, show (i : Int) + 1 = ((i + 1 : Nat) : Int) by omega]) ?_
  exact ih (i + 1) (by omega)
theorem heldInt64S_ev (n : Nat) (a : Int) (hl : n ≤ 35184372088832) (ha : 0 ≤ a ∧ a ≤ 35184372088832) : Ev (fun k => laws_heldInt64S.f k (ups a n) a) (a + n) := by
 have h := heldInt64S_l0 n hl a ha n 0 (by omega)
 rw [show a + ((0 : Nat) : Int) = a by omega] at h
 exact h
end Go.Proofs.Ytionaakahhgdjaa.P
