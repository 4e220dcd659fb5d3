/- What some functions of the program return, and plain facts on it; conditions: those that each theorem names. Part 2 of the proof. -/
import Derived.Test.YtionaakahhgdjaaJ6x1
import Derived.WalkSpells
namespace Go.Proofs.Ytionaakahhgdjaa.P
open Go.RowKit Go.Proofs.YtionaakahhgdjaaW.PrintWords Go.Proofs.YtionaakahhgdjaaW.PrintLast Go.Proofs.YtionaakahhgdjaaW.PrintMore
attribute [local go_sem] max2_int min2_int max_two min_two max_three min_three max_four min_four
set_option linter.unusedVariables false
set_option linter.unusedSimpArgs false
mutual
def spec_l10Digits.l0 : Nat → List Int → List (List Int) → Int → List Int → Option ((List (List Int)))
 | 0, _, _, _, _ => none
 | k + 1, x1, x5, x6, x102000 => if x6 < (x1.length : Int) then (spec_l10Digits.l1 k x1 x5 x6 (([] : List (List Int))) 0 x102000) else (some x5)
def spec_l10Digits.l1 : Nat → List Int → List (List Int) → Int → List (List Int) → Int → List Int → Option ((List (List Int)))
 | 0, _, _, _, _, _, _ => none
 | k + 1, x1, x5, x6, x7, x8, x102000 => if x8 < (x5.length : Int) then (spec_l10Digits.l2 k x1 x5 x6 x7 x8 0 x102000) else (spec_l10Digits.l0 k x1 x7 (wrap64 (x6 + 1)) x102000)
def spec_l10Digits.l2 : Nat → List Int → List (List Int) → Int → List (List Int) → Int → Int → List Int → Option ((List (List Int)))
 | 0, _, _, _, _, _, _, _ => none
 | k + 1, x1, x5, x6, x7, x8, x9, x102000 => if 0 ≤ x6 then (if x6 < (x1.length : Int) then (if 0 ≤ (rd x1 x6) then (if (rd x1 x6) < (x102000.length : Int) then (if x9 < (rd x102000 (rd x1 x6)) then (if 0 ≤ x8 then (if x8 < (x5.length : Int) then ((spec_l01Own.f (rd_L1 x5 x8)).bind fun t114 => (if t114.length < 17592186044416 then (if x7.length < 5864062014805 then (spec_l10Digits.l2 k x1 x5 x6 (x7 ++ [(t114 ++ [x9])]) x8 (wrap64 (x9 + 1)) x102000) else (none)) else (none))) else (none)) else (none)) else (spec_l10Digits.l1 k x1 x5 x6 x7 (wrap64 (x8 + 1)) x102000)) else (none)) else (none)) else (none)) else (none)
end
def spec_l10Digits.f (k : Nat) (l0_0 : List Int) (l1 : List Int) : Option ((List (List Int))) := spec_l10Digits.l0 k l1 (([(([] : List Int))] : List (List Int))) 0 l0_0
set_option maxHeartbeats 8000000 in
set_option maxRecDepth 100000 in
theorem spec_l10Digits.calls (k : Nat) (A0_0 : Option Addr) (c0_0 : Nat) (l0_0 : List Int) (A1 : Option Addr) (c1 : Nat) (l1 : List Int) (r : List (List Int)) (w : World) (hr0_0 : Kd.C (Kd.int .i64) w A0_0 l0_0.length l0_0) (hc0_0 : l0_0.length ≤ c0_0) (hr1 : Kd.C (Kd.int .i64) w A1 l1.length l1) (hc1 : l1.length ≤ c1) (h : spec_l10Digits.f k l0_0 l1 = some r) :
  Calls Try.prog 166 #[.agg #[.slice A0_0 l0_0.length c0_0], .slice A1 l1.length c1] w fun e w' => ∃ v0_ : Value, e = .returned (v0_) ∧ Kd.N (Kd.slice 2 (Kd.int .i64)) 22 w' w.heap.size (fun k_ => (w.heap.size ≤ k_)) v0_ r ∧ Below w.heap.size w w' := by
 have hu28 := Try.underlying28
 have HR0_0 := Aside0.mk hr0_0
 have HC0_0 := Aside0.mk hc0_0
 clear hr0_0 hc0_0
 have HR1 := Aside0.mk hr1
 have HC1 := Aside0.mk hc1
 clear hr1 hc1
 have HB := Aside0.mk (Below.refl w.heap.size w)
 have H : (spec_l10Digits.l0 k l1 (([(([] : List Int))] : List (List Int))) 0 l0_0) = some r := h
 clear h
 obtain ⟨y102, hy102⟩ : ∃ y_ : List Int, y_ = (([] : List Int)) := ⟨_, rfl⟩
 replace H : (spec_l10Digits.l0 k l1 (([y102] : List (List Int))) 0 l0_0) = some r := by first | (rw [hy102]; with_reducible exact H) | (have H2_ := (Option.bind_some _ _).symm.trans H; rw [hy102]; with_reducible exact H2_) | (have H2_ := (Option.bind_some _ _).symm.trans H; with_reducible exact H2_) | with_reducible exact H | (rw [hy102]; exact H) | exact H
 have Ny102 := Aside0.mk hy102
 clear hy102
 obtain ⟨y105, hy105⟩ : ∃ y_ : List (List Int), y_ = (([y102] : List (List Int))) := ⟨_, rfl⟩
 replace H : (spec_l10Digits.l0 k l1 y105 0 l0_0) = some r := by first | (rw [hy105]; with_reducible exact H) | (have H2_ := (Option.bind_some _ _).symm.trans H; rw [hy105]; with_reducible exact H2_) | (have H2_ := (Option.bind_some _ _).symm.trans H; with_reducible exact H2_) | with_reducible exact H | (rw [hy105]; exact H) | exact H
 have Ny105 := Aside0.mk hy105
 clear hy105
 have H' := Aside0.mk H
 clear H
 go_enter Try.func166, Try.ntmps166
 go_wp2_with (first | ((with_reducible refine gate_dst (N := 2) rfl ?_); refine box_event ?hg (N := 2) ?hd (cs := #[.slice A0_0 l0_0.length c0_0]) (t := 28) ?hr ?_; (case hd => rfl); (case hg => rfl); (case hr => first | (go_simp; done) | (go_simp; rfl)); intro gb101 hg w3 hbox hb; have n0_ := Aside0.mk (below_step (by repeat (first | (with_reducible first | exact HB.out | apply below_alloc | apply pw_below_drewN | apply below_drew1) | exact HB.out)) hb); have n1_ := Aside0.mk (hbox); have n2_ := Aside0.mk ((by rw [hg]; exact (below_size (by repeat (first | (with_reducible first | exact HB.out | apply below_alloc | apply pw_below_drewN | apply below_drew1) | exact HB.out))) : w.heap.size ≤ gb101)); have n3_ := Aside0.mk ((by rw [hg]; exact (below_size (by repeat (first | (with_reducible first | exact HB.out | apply below_alloc | apply pw_below_drewN | apply below_drew1) | exact HB.out))) : w.heap.size ≤ gb101)); clear HB; have HB := n0_; have BK101 := n1_; have GW101 := n2_; have GE101 := n3_; clear n0_ n1_ n2_ n3_; clear hb hbox hg) | ((with_reducible refine gate_dst (N := 10) rfl ?_); refine Kd.R_lit (Kd.int .i64) _ 2 ?hg (N := 10) ?hd (xs := ([] : List Int)) (inner := []) (ok := fun _ => True) (okp := fun _ => True) ?hr ?hp (fun _ hk => hk) trivial (Below.refl _ _) (Nat.le_refl _) (by simp) ?_; (case hd => rfl); (case hg => rfl); (case hr => first | (go_simp; done) | (go_simp; rfl)); (case hp => exact (Reps.none _ _)); intro v103 w4 ho5 hb hg_ hnew_; clear hg_ hnew_; (first | rw [← Ny102.out] at ho5 | (simp only [Int.reduceToNat] at ho5; rw [← Ny102.out] at ho5)); have n0_ := Aside0.mk (Kd.R_lower (Kd.R_newM (M := fun k_ => (w.heap.size ≤ k_)) ho5 (below_size (by repeat (first | (with_reducible first | exact HB.out | apply below_alloc | apply pw_below_drewN | apply below_drew1 | refine below_set ?_ GE101.out) | exact HB.out))) (fun k_ h_ => h_)) (below_size (by repeat (first | (with_reducible first | exact HB.out | apply below_alloc | apply pw_below_drewN | apply below_drew1 | refine below_set ?_ GE101.out) | exact HB.out)))); have n1_ := Aside0.mk (blk_below (g := gb101) (o := .cells #[.slice A0_0 l0_0.length c0_0] 28 (0, 0)) (by (with_reducible repeat (first | refine blk_drewN ?_ _ | refine blk_drew ?_ | refine blk_alloc ?_ _)); exact BK101.out) hb); have n2_ := Aside0.mk (below_step (by repeat (first | (with_reducible first | exact HB.out | apply below_alloc | apply pw_below_drewN | apply below_drew1 | refine below_set ?_ GE101.out) | exact HB.out)) hb); clear BK101; clear HB; have HO104 := n0_; have BK101 := n1_; have HB := n2_; clear n0_ n1_ n2_; clear hb ho5; obtain ⟨Ao6, co6, eo6⟩ := Kd.R_slice HO104.out; subst eo6) | ((with_reducible refine gate_dst (N := 11) rfl ?_); refine Kd.N_lit (Kd.slice 2 (Kd.int .i64)) _ 22 ?hg (N' := 11) ?hd (xs := ([y102] : List (List Int))) (inner := [.slice Ao6 y102.length co6]) (ok := (fun k_ => (w.heap.size ≤ k_) ∧ k_ ≠ gb101)) (okp := (fun k_ => (w.heap.size ≤ k_) ∧ k_ ≠ gb101)) ?hr ?hp (fun _ hk => hk) ((show ∀ k_, w4.heap.size ≤ k_ → (fun k_ => (w.heap.size ≤ k_) ∧ k_ ≠ gb101) k_ from fun k_ hk => ⟨(Nat.le_trans (below_size (by repeat (first | (with_reducible first | exact HB.out | apply below_alloc | apply pw_below_drewN | apply below_drew1 | refine below_set ?_ GE101.out) | exact HB.out))) hk), Kd.freshB (g := gb101) (o := .cells #[.slice A0_0 l0_0.length c0_0] 28 (0, 0)) (by (with_reducible repeat (first | refine blk_drewN ?_ _ | refine blk_drew ?_ | refine blk_alloc ?_ _)); exact BK101.out) k_ hk⟩) _ (Nat.le_refl _)) (Below.refl _ _) (Nat.le_refl _) (by simp) ?_; (case hd => rfl); (case hg => rfl); (case hr => first | (go_simp; done) | (go_simp; rfl)); (case hp => exact (Reps.one (show Kd.FK (Kd.slice 2 (Kd.int .i64)) _ _ y102 [.slice Ao6 y102.length co6] from (Kd.FK_slice_mk (Kd.R_reads' (Kd.R_mono (ok' := (fun k_ => (w.heap.size ≤ k_) ∧ k_ ≠ gb101)) (Kd.R_types (HO104.out) BK101.out (by decide)) (fun k_ hk => ⟨hk.1.1, hk.2⟩))).2.1 (Kd.R_F (Kd.R_mono (ok' := (fun k_ => (w.heap.size ≤ k_) ∧ k_ ≠ gb101)) (Kd.R_types (HO104.out) BK101.out (by decide)) (fun k_ hk => ⟨hk.1.1, hk.2⟩))))) (Reps.none _ _))); intro v106 w7 ho8 hb hg_ hnew_; clear hg_ hnew_; (first | rw [← Ny105.out] at ho8 | (simp only [Int.reduceToNat] at ho8; rw [← Ny105.out] at ho8)); have n0_ := Aside0.mk (Kd.N_lower ho8 (below_size (by repeat (first | (with_reducible first | exact HB.out | apply below_alloc | apply pw_below_drewN | apply below_drew1 | refine below_set ?_ GE101.out) | exact HB.out)))); have n1_ := Aside0.mk (blk_below (g := gb101) (o := .cells #[.slice A0_0 l0_0.length c0_0] 28 (0, 0)) (by (with_reducible repeat (first | refine blk_drewN ?_ _ | refine blk_drew ?_ | refine blk_alloc ?_ _)); exact BK101.out) hb); have n2_ := Aside0.mk (below_step (by repeat (first | (with_reducible first | exact HB.out | apply below_alloc | apply pw_below_drewN | apply below_drew1 | refine below_set ?_ GE101.out) | exact HB.out)) hb); clear BK101; clear HB; clear HO104; have HO107 := n0_; have BK101 := n1_; have HB := n2_; clear n0_ n1_ n2_; clear hb ho8))
 repeat (go_quiet (first | ((with_reducible refine gate_dst (N := 2) rfl ?_); refine box_event ?hg (N := 2) ?hd (cs := #[.slice A0_0 l0_0.length c0_0]) (t := 28) ?hr ?_; (case hd => rfl); (case hg => rfl); (case hr => first | (go_simp; done) | (go_simp; rfl)); intro gb101 hg w3 hbox hb; have n0_ := Aside0.mk (below_step (by repeat (first | (with_reducible first | exact HB.out | apply below_alloc | apply pw_below_drewN | apply below_drew1) | exact HB.out)) hb); have n1_ := Aside0.mk (hbox); have n2_ := Aside0.mk ((by rw [hg]; exact (below_size (by repeat (first | (with_reducible first | exact HB.out | apply below_alloc | apply pw_below_drewN | apply below_drew1) | exact HB.out))) : w.heap.size ≤ gb101)); have n3_ := Aside0.mk ((by rw [hg]; exact (below_size (by repeat (first | (with_reducible first | exact HB.out | apply below_alloc | apply pw_below_drewN | apply below_drew1) | exact HB.out))) : w.heap.size ≤ gb101)); clear HB; have HB := n0_; have BK101 := n1_; have GW101 := n2_; have GE101 := n3_; clear n0_ n1_ n2_ n3_; clear hb hbox hg) | ((with_reducible refine gate_dst (N := 10) rfl ?_); refine Kd.R_lit (Kd.int .i64) _ 2 ?hg (N := 10) ?hd (xs := ([] : List Int)) (inner := []) (ok := fun _ => True) (okp := fun _ => True) ?hr ?hp (fun _ hk => hk) trivial (Below.refl _ _) (Nat.le_refl _) (by simp) ?_; (case hd => rfl); (case hg => rfl); (case hr => first | (go_simp; done) | (go_simp; rfl)); (case hp => exact (Reps.none _ _)); intro v103 w4 ho5 hb hg_ hnew_; clear hg_ hnew_; (first | rw [← Ny102.out] at ho5 | (simp only [Int.reduceToNat] at ho5; rw [← Ny102.out] at ho5)); have n0_ := Aside0.mk (Kd.R_lower (Kd.R_newM (M := fun k_ => (w.heap.size ≤ k_)) ho5 (below_size (by repeat (first | (with_reducible first | exact HB.out | apply below_alloc | apply pw_below_drewN | apply below_drew1 | refine below_set ?_ GE101.out) | exact HB.out))) (fun k_ h_ => h_)) (below_size (by repeat (first | (with_reducible first | exact HB.out | apply below_alloc | apply pw_below_drewN | apply below_drew1 | refine below_set ?_ GE101.out) | exact HB.out)))); have n1_ := Aside0.mk (blk_below (g := gb101) (o := .cells #[.slice A0_0 l0_0.length c0_0] 28 (0, 0)) (by (with_reducible repeat (first | refine blk_drewN ?_ _ | refine blk_drew ?_ | refine blk_alloc ?_ _)); exact BK101.out) hb); have n2_ := Aside0.mk (below_step (by repeat (first | (with_reducible first | exact HB.out | apply below_alloc | apply pw_below_drewN | apply below_drew1 | refine below_set ?_ GE101.out) | exact HB.out)) hb); clear BK101; clear HB; have HO104 := n0_; have BK101 := n1_; have HB := n2_; clear n0_ n1_ n2_; clear hb ho5; obtain ⟨Ao6, co6, eo6⟩ := Kd.R_slice HO104.out; subst eo6) | ((with_reducible refine gate_dst (N := 11) rfl ?_); refine Kd.N_lit (Kd.slice 2 (Kd.int .i64)) _ 22 ?hg (N' := 11) ?hd (xs := ([y102] : List (List Int))) (inner := [.slice Ao6 y102.length co6]) (ok := (fun k_ => (w.heap.size ≤ k_) ∧ k_ ≠ gb101)) (okp := (fun k_ => (w.heap.size ≤ k_) ∧ k_ ≠ gb101)) ?hr ?hp (fun _ hk => hk) ((show ∀ k_, w4.heap.size ≤ k_ → (fun k_ => (w.heap.size ≤ k_) ∧ k_ ≠ gb101) k_ from fun k_ hk => ⟨(Nat.le_trans (below_size (by repeat (first | (with_reducible first | exact HB.out | apply below_alloc | apply pw_below_drewN | apply below_drew1 | refine below_set ?_ GE101.out) | exact HB.out))) hk), Kd.freshB (g := gb101) (o := .cells #[.slice A0_0 l0_0.length c0_0] 28 (0, 0)) (by (with_reducible repeat (first | refine blk_drewN ?_ _ | refine blk_drew ?_ | refine blk_alloc ?_ _)); exact BK101.out) k_ hk⟩) _ (Nat.le_refl _)) (Below.refl _ _) (Nat.le_refl _) (by simp) ?_; (case hd => rfl); (case hg => rfl); (case hr => first | (go_simp; done) | (go_simp; rfl)); (case hp => exact (Reps.one (show Kd.FK (Kd.slice 2 (Kd.int .i64)) _ _ y102 [.slice Ao6 y102.length co6] from (Kd.FK_slice_mk (Kd.R_reads' (Kd.R_mono (ok' := (fun k_ => (w.heap.size ≤ k_) ∧ k_ ≠ gb101)) (Kd.R_types (HO104.out) BK101.out (by decide)) (fun k_ hk => ⟨hk.1.1, hk.2⟩))).2.1 (Kd.R_F (Kd.R_mono (ok' := (fun k_ => (w.heap.size ≤ k_) ∧ k_ ≠ gb101)) (Kd.R_types (HO104.out) BK101.out (by decide)) (fun k_ hk => ⟨hk.1.1, hk.2⟩))))) (Reps.none _ _))); intro v106 w7 ho8 hb hg_ hnew_; clear hg_ hnew_; (first | rw [← Ny105.out] at ho8 | (simp only [Int.reduceToNat] at ho8; rw [← Ny105.out] at ho8)); have n0_ := Aside0.mk (Kd.N_lower ho8 (below_size (by repeat (first | (with_reducible first | exact HB.out | apply below_alloc | apply pw_below_drewN | apply below_drew1 | refine below_set ?_ GE101.out) | exact HB.out)))); have n1_ := Aside0.mk (blk_below (g := gb101) (o := .cells #[.slice A0_0 l0_0.length c0_0] 28 (0, 0)) (by (with_reducible repeat (first | refine blk_drewN ?_ _ | refine blk_drew ?_ | refine blk_alloc ?_ _)); exact BK101.out) hb); have n2_ := Aside0.mk (below_step (by repeat (first | (with_reducible first | exact HB.out | apply below_alloc | apply pw_below_drewN | apply below_drew1 | refine below_set ?_ GE101.out) | exact HB.out)) hb); clear BK101; clear HB; clear HO104; have HO107 := n0_; have BK101 := n1_; have HB := n2_; clear n0_ n1_ n2_; clear hb ho8)); try go_wp2_with (first | ((with_reducible refine gate_dst (N := 2) rfl ?_); refine box_event ?hg (N := 2) ?hd (cs := #[.slice A0_0 l0_0.length c0_0]) (t := 28) ?hr ?_; (case hd => rfl); (case hg => rfl); (case hr => first | (go_simp; done) | (go_simp; rfl)); intro gb101 hg w3 hbox hb; have n0_ := Aside0.mk (below_step (by repeat (first | (with_reducible first | exact HB.out | apply below_alloc | apply pw_below_drewN | apply below_drew1) | exact HB.out)) hb); have n1_ := Aside0.mk (hbox); have n2_ := Aside0.mk ((by rw [hg]; exact (below_size (by repeat (first | (with_reducible first | exact HB.out | apply below_alloc | apply pw_below_drewN | apply below_drew1) | exact HB.out))) : w.heap.size ≤ gb101)); have n3_ := Aside0.mk ((by rw [hg]; exact (below_size (by repeat (first | (with_reducible first | exact HB.out | apply below_alloc | apply pw_below_drewN | apply below_drew1) | exact HB.out))) : w.heap.size ≤ gb101)); clear HB; have HB := n0_; have BK101 := n1_; have GW101 := n2_; have GE101 := n3_; clear n0_ n1_ n2_ n3_; clear hb hbox hg) | ((with_reducible refine gate_dst (N := 10) rfl ?_); refine Kd.R_lit (Kd.int .i64) _ 2 ?hg (N := 10) ?hd (xs := ([] : List Int)) (inner := []) (ok := fun _ => True) (okp := fun _ => True) ?hr ?hp (fun _ hk => hk) trivial (Below.refl _ _) (Nat.le_refl _) (by simp) ?_; (case hd => rfl); (case hg => rfl); (case hr => first | (go_simp; done) | (go_simp; rfl)); (case hp => exact (Reps.none _ _)); intro v103 w4 ho5 hb hg_ hnew_; clear hg_ hnew_; (first | rw [← Ny102.out] at ho5 | (simp only [Int.reduceToNat] at ho5; rw [← Ny102.out] at ho5)); have n0_ := Aside0.mk (Kd.R_lower (Kd.R_newM (M := fun k_ => (w.heap.size ≤ k_)) ho5 (below_size (by repeat (first | (with_reducible first | exact HB.out | apply below_alloc | apply pw_below_drewN | apply below_drew1 | refine below_set ?_ GE101.out) | exact HB.out))) (fun k_ h_ => h_)) (below_size (by repeat (first | (with_reducible first | exact HB.out | apply below_alloc | apply pw_below_drewN | apply below_drew1 | refine below_set ?_ GE101.out) | exact HB.out)))); have n1_ := Aside0.mk (blk_below (g := gb101) (o := .cells #[.slice A0_0 l0_0.length c0_0] 28 (0, 0)) (by (with_reducible repeat (first | refine blk_drewN ?_ _ | refine blk_drew ?_ | refine blk_alloc ?_ _)); exact BK101.out) hb); have n2_ := Aside0.mk (below_step (by repeat (first | (with_reducible first | exact HB.out | apply below_alloc | apply pw_below_drewN | apply below_drew1 | refine below_set ?_ GE101.out) | exact HB.out)) hb); clear BK101; clear HB; have HO104 := n0_; have BK101 := n1_; have HB := n2_; clear n0_ n1_ n2_; clear hb ho5; obtain ⟨Ao6, co6, eo6⟩ := Kd.R_slice HO104.out; subst eo6) | ((with_reducible refine gate_dst (N := 11) rfl ?_); refine Kd.N_lit (Kd.slice 2 (Kd.int .i64)) _ 22 ?hg (N' := 11) ?hd (xs := ([y102] : List (List Int))) (inner := [.slice Ao6 y102.length co6]) (ok := (fun k_ => (w.heap.size ≤ k_) ∧ k_ ≠ gb101)) (okp := (fun k_ => (w.heap.size ≤ k_) ∧ k_ ≠ gb101)) ?hr ?hp (fun _ hk => hk) ((show ∀ k_, w4.heap.size ≤ k_ → (fun k_ => (w.heap.size ≤ k_) ∧ k_ ≠ gb101) k_ from fun k_ hk => ⟨(Nat.le_trans (below_size (by repeat (first | (with_reducible first | exact HB.out | apply below_alloc | apply pw_below_drewN | apply below_drew1 | refine below_set ?_ GE101.out) | exact HB.out))) hk), Kd.freshB (g := gb101) (o := .cells #[.slice A0_0 l0_0.length c0_0] 28 (0, 0)) (by (with_reducible repeat (first | refine blk_drewN ?_ _ | refine blk_drew ?_ | refine blk_alloc ?_ _)); exact BK101.out) k_ hk⟩) _ (Nat.le_refl _)) (Below.refl _ _) (Nat.le_refl _) (by simp) ?_; (case hd => rfl); (case hg => rfl); (case hr => first | (go_simp; done) | (go_simp; rfl)); (case hp => exact (Reps.one (show Kd.FK (Kd.slice 2 (Kd.int .i64)) _ _ y102 [.slice Ao6 y102.length co6] from (Kd.FK_slice_mk (Kd.R_reads' (Kd.R_mono (ok' := (fun k_ => (w.heap.size ≤ k_) ∧ k_ ≠ gb101)) (Kd.R_types (HO104.out) BK101.out (by decide)) (fun k_ hk => ⟨hk.1.1, hk.2⟩))).2.1 (Kd.R_F (Kd.R_mono (ok' := (fun k_ => (w.heap.size ≤ k_) ∧ k_ ≠ gb101)) (Kd.R_types (HO104.out) BK101.out (by decide)) (fun k_ hk => ⟨hk.1.1, hk.2⟩))))) (Reps.none _ _))); intro v106 w7 ho8 hb hg_ hnew_; clear hg_ hnew_; (first | rw [← Ny105.out] at ho8 | (simp only [Int.reduceToNat] at ho8; rw [← Ny105.out] at ho8)); have n0_ := Aside0.mk (Kd.N_lower ho8 (below_size (by repeat (first | (with_reducible first | exact HB.out | apply below_alloc | apply pw_below_drewN | apply below_drew1 | refine below_set ?_ GE101.out) | exact HB.out)))); have n1_ := Aside0.mk (blk_below (g := gb101) (o := .cells #[.slice A0_0 l0_0.length c0_0] 28 (0, 0)) (by (with_reducible repeat (first | refine blk_drewN ?_ _ | refine blk_drew ?_ | refine blk_alloc ?_ _)); exact BK101.out) hb); have n2_ := Aside0.mk (below_step (by repeat (first | (with_reducible first | exact HB.out | apply below_alloc | apply pw_below_drewN | apply below_drew1 | refine below_set ?_ GE101.out) | exact HB.out)) hb); clear BK101; clear HB; clear HO104; have HO107 := n0_; have BK101 := n1_; have HB := n2_; clear n0_ n1_ n2_; clear hb ho8)))
 go_loopg [5, 6] k (fun kq v5 v6 w' => ∃ (x5_1 : List (List Int)) (x6_1 : Int), v6 = .int .i64 x6_1 ∧ Aside0 (spec_l10Digits.l0 kq l1 x5_1 x6_1 l0_0 = some r) ∧ Aside0 (kq ≤ k) ∧ Aside0 (Kd.N (Kd.slice 2 (Kd.int .i64)) 22 w' w.heap.size (fun k_ => (w.heap.size ≤ k_) ∧ k_ ≠ gb101) v5 x5_1) ∧ Aside0 (w'.heap[gb101]? = some (.cells #[(.slice A0_0 l0_0.length c0_0)] 28 (0, 0))) ∧ Aside0 (Below w.heap.size w w'))
 case atStart => exact ⟨(y105), (0), (by first | rfl | (simp; done) | (simp [*]; done)), H', ⟨Nat.le_refl _⟩, ⟨by (with_reducible repeat (first | apply Kd.N_alloc | apply Kd.N_drewN | apply Kd.N_drew)); exact HO107.out⟩, ⟨by (with_reducible repeat (first | refine blk_drewN ?_ _ | refine blk_drew ?_ | refine blk_alloc ?_ _)); exact BK101.out⟩, ⟨by repeat (first | (with_reducible first | exact HB.out | apply below_alloc | apply pw_below_drewN | apply below_drew1 | refine below_set ?_ GE101.out) | exact HB.out)⟩⟩
 case round =>
  clear H'
  try clear c1
  try clear p2
  obtain ⟨x5_1, x6_1, rfl, HA, HK1, HO_5, BK101, HB⟩ := hrel
  cases gk with
  | zero => exact absurd HA.out (by simp [spec_l10Digits.l0])
  | succ k1 =>
   have H := HA.out
   clear HA
   simp only [spec_l10Digits.l0] at H
   by_cases c9 : x6_1 < (l1.length : Int)
   ·rw [if_pos c9] at H
    have c9b0 : decide (x6_1 < (l1.length : Int)) = true := decide_eq_true c9
    clear c9
    obtain ⟨y108, hy108⟩ : ∃ y_ : List (List Int), y_ = (([] : List (List Int))) := ⟨_, rfl⟩
    replace H : (spec_l10Digits.l1 k1 l1 x5_1 x6_1 y108 0 l0_0) = some r := by first | (rw [hy108]; with_reducible exact H) | (have H2_ := (Option.bind_some _ _).symm.trans H; rw [hy108]; with_reducible exact H2_) | (have H2_ := (Option.bind_some _ _).symm.trans H; with_reducible exact H2_) | with_reducible exact H | (rw [hy108]; exact H) | exact H
    have Ny108 := Aside0.mk hy108
    clear hy108
    have H' := Aside0.mk H
    clear H
    go_wp2_with (first | ((with_reducible refine gate_dst (N := 18) rfl ?_); refine Kd.N_lit (Kd.slice 2 (Kd.int .i64)) _ 22 ?hg (N' := 18) ?hd (xs := ([] : List (List Int))) (inner := []) (ok := (fun k_ => (w.heap.size ≤ k_) ∧ some k_ ≠ (u5 : Value).ownBlock ∧ k_ ≠ gb101)) (okp := (fun k_ => (w.heap.size ≤ k_) ∧ some k_ ≠ (u5 : Value).ownBlock ∧ k_ ≠ gb101)) ?hr ?hp (fun _ hk => hk) ((show ∀ k_, wr.heap.size ≤ k_ → (fun k_ => (w.heap.size ≤ k_) ∧ some k_ ≠ (u5 : Value).ownBlock ∧ k_ ≠ gb101) k_ from fun k_ hk => ⟨(Nat.le_trans (below_size (by repeat (first | (with_reducible first | exact HB.out | apply below_alloc | apply pw_below_drewN | apply below_drew1 | refine below_set ?_ GE101.out) | exact HB.out))) hk), Kd.fresh' (Kd.N_lt (by (with_reducible repeat (first | apply Kd.N_alloc | apply Kd.N_drewN | apply Kd.N_drew)); exact HO_5.out)) k_ hk, Kd.freshB (g := gb101) (o := .cells #[.slice A0_0 l0_0.length c0_0] 28 (0, 0)) (by (with_reducible repeat (first | refine blk_drewN ?_ _ | refine blk_drew ?_ | refine blk_alloc ?_ _)); exact BK101.out) k_ hk⟩) _ (Nat.le_refl _)) (Below.refl _ _) (Nat.le_refl _) (by simp) ?_; (case hd => rfl); (case hg => rfl); (case hr => first | (go_simp; done) | (go_simp; rfl)); (case hp => exact (Reps.none _ _)); intro v109 w10 ho11 hb hg_ hnew_; clear hg_ hnew_; (first | rw [← Ny108.out] at ho11 | (simp only [Int.reduceToNat] at ho11; rw [← Ny108.out] at ho11)); have n0_ := Aside0.mk (Kd.N_elder' (by (with_reducible repeat (first | apply Kd.N_alloc | apply Kd.N_drewN | apply Kd.N_drew)); exact HO_5.out) (Kd.N_base ho11) hb); have n1_ := Aside0.mk (Kd.N_lower ho11 (below_size (by repeat (first | (with_reducible first | exact HB.out | apply below_alloc | apply pw_below_drewN | apply below_drew1 | refine below_set ?_ GE101.out) | exact HB.out)))); have n2_ := Aside0.mk (blk_below (g := gb101) (o := .cells #[.slice A0_0 l0_0.length c0_0] 28 (0, 0)) (by (with_reducible repeat (first | refine blk_drewN ?_ _ | refine blk_drew ?_ | refine blk_alloc ?_ _)); exact BK101.out) hb); have n3_ := Aside0.mk (below_step (by repeat (first | (with_reducible first | exact HB.out | apply below_alloc | apply pw_below_drewN | apply below_drew1 | refine below_set ?_ GE101.out) | exact HB.out)) hb); clear HO_5; clear BK101; clear HB; have HO_5 := n0_; have HO110 := n1_; have BK101 := n2_; have HB := n3_; clear n0_ n1_ n2_ n3_; clear hb ho11))
    repeat (go_quiet (first | ((with_reducible refine gate_dst (N := 18) rfl ?_); refine Kd.N_lit (Kd.slice 2 (Kd.int .i64)) _ 22 ?hg (N' := 18) ?hd (xs := ([] : List (List Int))) (inner := []) (ok := (fun k_ => (w.heap.size ≤ k_) ∧ some k_ ≠ (u5 : Value).ownBlock ∧ k_ ≠ gb101)) (okp := (fun k_ => (w.heap.size ≤ k_) ∧ some k_ ≠ (u5 : Value).ownBlock ∧ k_ ≠ gb101)) ?hr ?hp (fun _ hk => hk) ((show ∀ k_, wr.heap.size ≤ k_ → (fun k_ => (w.heap.size ≤ k_) ∧ some k_ ≠ (u5 : Value).ownBlock ∧ k_ ≠ gb101) k_ from fun k_ hk => ⟨(Nat.le_trans (below_size (by repeat (first | (with_reducible first | exact HB.out | apply below_alloc | apply pw_below_drewN | apply below_drew1 | refine below_set ?_ GE101.out) | exact HB.out))) hk), Kd.fresh' (Kd.N_lt (by (with_reducible repeat (first | apply Kd.N_alloc | apply Kd.N_drewN | apply Kd.N_drew)); exact HO_5.out)) k_ hk, Kd.freshB (g := gb101) (o := .cells #[.slice A0_0 l0_0.length c0_0] 28 (0, 0)) (by (with_reducible repeat (first | refine blk_drewN ?_ _ | refine blk_drew ?_ | refine blk_alloc ?_ _)); exact BK101.out) k_ hk⟩) _ (Nat.le_refl _)) (Below.refl _ _) (Nat.le_refl _) (by simp) ?_; (case hd => rfl); (case hg => rfl); (case hr => first | (go_simp; done) | (go_simp; rfl)); (case hp => exact (Reps.none _ _)); intro v109 w10 ho11 hb hg_ hnew_; clear hg_ hnew_; (first | rw [← Ny108.out] at ho11 | (simp only [Int.reduceToNat] at ho11; rw [← Ny108.out] at ho11)); have n0_ := Aside0.mk (Kd.N_elder' (by (with_reducible repeat (first | apply Kd.N_alloc | apply Kd.N_drewN | apply Kd.N_drew)); exact HO_5.out) (Kd.N_base ho11) hb); have n1_ := Aside0.mk (Kd.N_lower ho11 (below_size (by repeat (first | (with_reducible first | exact HB.out | apply below_alloc | apply pw_below_drewN | apply below_drew1 | refine below_set ?_ GE101.out) | exact HB.out)))); have n2_ := Aside0.mk (blk_below (g := gb101) (o := .cells #[.slice A0_0 l0_0.length c0_0] 28 (0, 0)) (by (with_reducible repeat (first | refine blk_drewN ?_ _ | refine blk_drew ?_ | refine blk_alloc ?_ _)); exact BK101.out) hb); have n3_ := Aside0.mk (below_step (by repeat (first | (with_reducible first | exact HB.out | apply below_alloc | apply pw_below_drewN | apply below_drew1 | refine below_set ?_ GE101.out) | exact HB.out)) hb); clear HO_5; clear BK101; clear HB; have HO_5 := n0_; have HO110 := n1_; have BK101 := n2_; have HB := n3_; clear n0_ n1_ n2_ n3_; clear hb ho11)); try go_wp2_with (first | ((with_reducible refine gate_dst (N := 18) rfl ?_); refine Kd.N_lit (Kd.slice 2 (Kd.int .i64)) _ 22 ?hg (N' := 18) ?hd (xs := ([] : List (List Int))) (inner := []) (ok := (fun k_ => (w.heap.size ≤ k_) ∧ some k_ ≠ (u5 : Value).ownBlock ∧ k_ ≠ gb101)) (okp := (fun k_ => (w.heap.size ≤ k_) ∧ some k_ ≠ (u5 : Value).ownBlock ∧ k_ ≠ gb101)) ?hr ?hp (fun _ hk => hk) ((show ∀ k_, wr.heap.size ≤ k_ → (fun k_ => (w.heap.size ≤ k_) ∧ some k_ ≠ (u5 : Value).ownBlock ∧ k_ ≠ gb101) k_ from fun k_ hk => ⟨(Nat.le_trans (below_size (by repeat (first | (with_reducible first | exact HB.out | apply below_alloc | apply pw_below_drewN | apply below_drew1 | refine below_set ?_ GE101.out) | exact HB.out))) hk), Kd.fresh' (Kd.N_lt (by (with_reducible repeat (first | apply Kd.N_alloc | apply Kd.N_drewN | apply Kd.N_drew)); exact HO_5.out)) k_ hk, Kd.freshB (g := gb101) (o := .cells #[.slice A0_0 l0_0.length c0_0] 28 (0, 0)) (by (with_reducible repeat (first | refine blk_drewN ?_ _ | refine blk_drew ?_ | refine blk_alloc ?_ _)); exact BK101.out) k_ hk⟩) _ (Nat.le_refl _)) (Below.refl _ _) (Nat.le_refl _) (by simp) ?_; (case hd => rfl); (case hg => rfl); (case hr => first | (go_simp; done) | (go_simp; rfl)); (case hp => exact (Reps.none _ _)); intro v109 w10 ho11 hb hg_ hnew_; clear hg_ hnew_; (first | rw [← Ny108.out] at ho11 | (simp only [Int.reduceToNat] at ho11; rw [← Ny108.out] at ho11)); have n0_ := Aside0.mk (Kd.N_elder' (by (with_reducible repeat (first | apply Kd.N_alloc | apply Kd.N_drewN | apply Kd.N_drew)); exact HO_5.out) (Kd.N_base ho11) hb); have n1_ := Aside0.mk (Kd.N_lower ho11 (below_size (by repeat (first | (with_reducible first | exact HB.out | apply below_alloc | apply pw_below_drewN | apply below_drew1 | refine below_set ?_ GE101.out) | exact HB.out)))); have n2_ := Aside0.mk (blk_below (g := gb101) (o := .cells #[.slice A0_0 l0_0.length c0_0] 28 (0, 0)) (by (with_reducible repeat (first | refine blk_drewN ?_ _ | refine blk_drew ?_ | refine blk_alloc ?_ _)); exact BK101.out) hb); have n3_ := Aside0.mk (below_step (by repeat (first | (with_reducible first | exact HB.out | apply below_alloc | apply pw_below_drewN | apply below_drew1 | refine below_set ?_ GE101.out) | exact HB.out)) hb); clear HO_5; clear BK101; clear HB; have HO_5 := n0_; have HO110 := n1_; have BK101 := n2_; have HB := n3_; clear n0_ n1_ n2_ n3_; clear hb ho11)))
    go_loopg [7, 8] k1 (fun kq v7 v8 w' => ∃ (x7_2 : List (List Int)) (x8_2 : Int), v8 = .int .i64 x8_2 ∧ Aside0 (spec_l10Digits.l1 kq l1 x5_1 x6_1 x7_2 x8_2 l0_0 = some r) ∧ Aside0 (kq ≤ k1) ∧ Aside0 (Kd.N (Kd.slice 2 (Kd.int .i64)) 22 w' w.heap.size (fun k_ => (w.heap.size ≤ k_) ∧ some k_ ≠ (v7 : Value).ownBlock ∧ k_ ≠ gb101) u5 x5_1) ∧ Aside0 (Kd.N (Kd.slice 2 (Kd.int .i64)) 22 w' w.heap.size (fun k_ => (w.heap.size ≤ k_) ∧ some k_ ≠ (u5 : Value).ownBlock ∧ k_ ≠ gb101) v7 x7_2) ∧ Aside0 (w'.heap[gb101]? = some (.cells #[(.slice A0_0 l0_0.length c0_0)] 28 (0, 0))) ∧ Aside0 (Below w.heap.size w w'))
    case atStart => exact ⟨(y108), (0), (by first | rfl | (simp; done) | (simp [*]; done)), H', ⟨Nat.le_refl _⟩, ⟨by (with_reducible repeat (first | apply Kd.N_alloc | apply Kd.N_drewN | apply Kd.N_drew)); exact Kd.N_mono HO_5.out (fun _ hk => ⟨hk.1.1, ⟨hk.2, hk.1.2⟩⟩)⟩, ⟨by (with_reducible repeat (first | apply Kd.N_alloc | apply Kd.N_drewN | apply Kd.N_drew)); exact HO110.out⟩, ⟨by (with_reducible repeat (first | refine blk_drewN ?_ _ | refine blk_drew ?_ | refine blk_alloc ?_ _)); exact BK101.out⟩, ⟨by repeat (first | (with_reducible first | exact HB.out | apply below_alloc | apply pw_below_drewN | apply below_drew1 | refine below_set ?_ GE101.out) | exact HB.out)⟩⟩
    case round =>
     clear H'
     try clear c1
     try clear p2
     try clear c9
     try clear c9b0
     try clear p2
     obtain ⟨x7_2, x8_2, rfl, HA, HK2, HO_5, HO_7, BK101, HB⟩ := hrel
     cases gk with
     | zero => exact absurd HA.out (by simp [spec_l10Digits.l1])
     | succ k2 =>
      have H := HA.out
      clear HA
      simp only [spec_l10Digits.l1] at H
      by_cases c12 : x8_2 < (x5_1.length : Int)
      ·rw [if_pos c12] at H
       have c12b0 : decide (x8_2 < (x5_1.length : Int)) = true := decide_eq_true c12
       clear c12
       have H' := Aside0.mk H
       clear H
       obtain ⟨Ao13, co13, eo13⟩ := Kd.N_slice HO_5.out
       subst eo13
       go_wp2
       repeat (go_quiet (fail); try go_wp2)
       go_loopg [7, 9] k2 (fun kq v7 v9 w' => ∃ (x7_3 : List (List Int)) (x9_3 : Int), v9 = .int .i64 x9_3 ∧ Aside0 (spec_l10Digits.l2 kq l1 x5_1 x6_1 x7_3 x8_2 x9_3 l0_0 = some r) ∧ Aside0 (kq ≤ k2) ∧ Aside0 (Kd.N (Kd.slice 2 (Kd.int .i64)) 22 w' w.heap.size (fun k_ => (w.heap.size ≤ k_) ∧ some k_ ≠ (v7 : Value).ownBlock ∧ k_ ≠ gb101) (.slice Ao13 x5_1.length co13) x5_1) ∧ Aside0 (Kd.N (Kd.slice 2 (Kd.int .i64)) 22 w' w.heap.size (fun k_ => (w.heap.size ≤ k_) ∧ some k_ ≠ ((.slice Ao13 x5_1.length co13) : Value).ownBlock ∧ k_ ≠ gb101) v7 x7_3) ∧ Aside0 (w'.heap[gb101]? = some (.cells #[(.slice A0_0 l0_0.length c0_0)] 28 (0, 0))) ∧ Aside0 (Below w.heap.size w w'))
       case atStart => exact ⟨(x7_2), (0), (by first | rfl | (simp; done) | (simp [*]; done)), H', ⟨Nat.le_refl _⟩, ⟨by (with_reducible repeat (first | apply Kd.N_alloc | apply Kd.N_drewN | apply Kd.N_drew)); exact HO_5.out⟩, ⟨by (with_reducible repeat (first | apply Kd.N_alloc | apply Kd.N_drewN | apply Kd.N_drew)); exact HO_7.out⟩, ⟨by (with_reducible repeat (first | refine blk_drewN ?_ _ | refine blk_drew ?_ | refine blk_alloc ?_ _)); exact BK101.out⟩, ⟨by repeat (first | (with_reducible first | exact HB.out | apply below_alloc | apply pw_below_drewN | apply below_drew1 | refine below_set ?_ GE101.out) | exact HB.out)⟩⟩
       case round =>
        clear H'
        try clear c1
        try clear p2
        try clear c9
        try clear c9b0
        try clear c12
        try clear c12b0
        try clear p2
        obtain ⟨x7_3, x9_3, rfl, HA, HK3, HO_5, HO_7, BK101, HB⟩ := hrel
        cases gk with
        | zero => exact absurd HA.out (by simp [spec_l10Digits.l2])
        | succ k3 =>
         have H := HA.out
         clear HA
         simp only [spec_l10Digits.l2] at H
         by_cases c14 : 0 ≤ x6_1
         ·rw [if_pos c14] at H
          have c14b0 : decide (0 ≤ x6_1) = true := decide_eq_true c14
          clear c14
          by_cases c15 : x6_1 < (l1.length : Int)
          ·rw [if_pos c15] at H
           have c15b0 : decide (x6_1 < (l1.length : Int)) = true := decide_eq_true c15
           clear c15
           by_cases c16 : 0 ≤ (rd l1 x6_1)
           ·rw [if_pos c16] at H
            have c16b0 : decide (0 ≤ (rd l1 x6_1)) = true := decide_eq_true c16
            clear c16
            by_cases c17 : (rd l1 x6_1) < (l0_0.length : Int)
            ·rw [if_pos c17] at H
             have c17b0 : decide ((rd l1 x6_1) < (l0_0.length : Int)) = true := decide_eq_true c17
             clear c17
             by_cases c18 : x9_3 < (rd l0_0 (rd l1 x6_1))
             ·rw [if_pos c18] at H
              have c18b0 : decide (x9_3 < (rd l0_0 (rd l1 x6_1))) = true := decide_eq_true c18
              clear c18
              by_cases c19 : 0 ≤ x8_2
              ·rw [if_pos c19] at H
               have c19b0 : decide (0 ≤ x8_2) = true := decide_eq_true c19
               clear c19
               by_cases c20 : x8_2 < (x5_1.length : Int)
               ·rw [if_pos c20] at H
                have c20b0 : decide (x8_2 < (x5_1.length : Int)) = true := decide_eq_true c20
                clear c20
                replace H := Option.bind_eq_some_iff.mp H
                obtain ⟨t114, A210, H⟩ := H
                replace H : (if t114.length < 17592186044416 then (if x7_3.length < 5864062014805 then (spec_l10Digits.l2 k3 l1 x5_1 x6_1 (x7_3 ++ [(t114 ++ [x9_3])]) x8_2 (wrap64 (x9_3 + 1)) l0_0) else (none)) else (none)) = some r := H
                have A21 := Aside0.mk A210
                clear A210
                by_cases c22 : t114.length < 17592186044416
                ·rw [if_pos c22] at H
                 have LMc22 := Aside0.mk c22
                 clear c22
                 obtain ⟨y117, hy117⟩ : ∃ y_ : List Int, y_ = (t114 ++ [x9_3]) := ⟨_, rfl⟩
                 replace H : (if x7_3.length < 5864062014805 then (spec_l10Digits.l2 k3 l1 x5_1 x6_1 (x7_3 ++ [y117]) x8_2 (wrap64 (x9_3 + 1)) l0_0) else (none)) = some r := by first | (rw [hy117]; with_reducible exact H) | (have H2_ := (Option.bind_some _ _).symm.trans H; rw [hy117]; with_reducible exact H2_) | (have H2_ := (Option.bind_some _ _).symm.trans H; with_reducible exact H2_) | with_reducible exact H | (rw [hy117]; exact H) | exact H
                 have Ny117 := Aside0.mk hy117
                 clear hy117
                 by_cases c23 : x7_3.length < 5864062014805
                 ·rw [if_pos c23] at H
                  have LMc23 := Aside0.mk c23
                  clear c23
                  obtain ⟨y120, hy120⟩ : ∃ y_ : List (List Int), y_ = (x7_3 ++ [y117]) := ⟨_, rfl⟩
                  replace H : (spec_l10Digits.l2 k3 l1 x5_1 x6_1 y120 x8_2 (wrap64 (x9_3 + 1)) l0_0) = some r := by first | (rw [hy120]; with_reducible exact H) | (have H2_ := (Option.bind_some _ _).symm.trans H; rw [hy120]; with_reducible exact H2_) | (have H2_ := (Option.bind_some _ _).symm.trans H; with_reducible exact H2_) | with_reducible exact H | (rw [hy120]; exact H) | exact H
                  have Ny120 := Aside0.mk hy120
                  clear hy120
                  have H' := Aside0.mk H
                  clear H
                  have hcz24_0 : wr.cell? ⟨gb101, 0, none⟩ = some (.slice A0_0 l0_0.length c0_0) := (blk_cell BK101.out 0).trans rfl
                  have hfz24_0 := blk_frozen BK101.out 0
                  have p111 : 0 ≤ (x6_1 : Int) := of_decide_eq_true (by first | (with_reducible assumption) | assumption)
                  have q111 : x6_1 < (l1.length : Int) := of_decide_eq_true (by first | (with_reducible assumption) | assumption)
                  obtain ⟨ad111, e111, hx111_0⟩ := Kd.at_int HR1.out x6_1 p111 q111
                  cases e111
                  replace hx111_0 := (HB.out.cell (World.block_lt_of_cell? w _ hx111_0)).trans hx111_0
                  replace p111 := eq_true p111
                  replace q111 := eq_true q111
                  have p112 : 0 ≤ ((rd l1 x6_1) : Int) := of_decide_eq_true (by first | (with_reducible assumption) | assumption)
                  have q112 : (rd l1 x6_1) < (l0_0.length : Int) := of_decide_eq_true (by first | (with_reducible assumption) | assumption)
                  obtain ⟨ad112, e112, hx112_0⟩ := Kd.at_int HR0_0.out (rd l1 x6_1) p112 q112
                  cases e112
                  replace hx112_0 := (HB.out.cell (World.block_lt_of_cell? w _ hx112_0)).trans hx112_0
                  replace p112 := eq_true p112
                  replace q112 := eq_true q112
                  have p113 : 0 ≤ (x8_2 : Int) := of_decide_eq_true (by first | (with_reducible assumption) | assumption)
                  have q113 : x8_2 < (x5_1.length : Int) := of_decide_eq_true (by first | (with_reducible assumption) | assumption)
                  obtain ⟨ad113, A113_0, c113_0, e113, hx113_0, hl113_0, hi113_0⟩ := at_L1 (Kd.N_reads' HO_5.out).2.2 x8_2 p113 q113
                  cases e113
                  obtain ⟨ce113, hce113, hMe113, hcc113⟩ := Kd.N_get HO_5.out [] x8_2 p113 (by first | exact q113 | exact of_decide_eq_true (by first | (with_reducible assumption) | assumption) | (have e_ := (Kd.N_reads' HO_5.out).1; omega))
                  obtain ⟨ua113_0, uc113_0, rfl, ul113_0, ge113_0⟩ := Kd.FK_slice_open hMe113
                  have hv113_0 := hcc113 0 _ rfl
                  rw [Nat.add_zero, show ((Kd.slice 2 (Kd.int .i64))).sz = 1 from rfl, Nat.mul_one] at hv113_0
                  replace hv113_0 := Option.some.inj (hv113_0.symm.trans hx113_0)
                  injection hv113_0 with hva_ hvn_ hvc_
                  rw [hva_] at ge113_0
                  rw [hvc_] at ul113_0
                  have HL113_0 := Aside0.mk (show Kd.V (Kd.int .i64) 2 _ w.heap.size _ _ (rd_L1 x5_1 x8_2) from Kd.V_mk ul113_0 ge113_0)
                  clear hva_ hvn_ hvc_ ge113_0 ul113_0
                  clear hcc113 hce113
                  have HR113_0 := Aside0.mk hi113_0
                  have HC113_0 := Aside0.mk hl113_0
                  clear hi113_0 hl113_0
                  replace p113 := eq_true p113
                  replace q113 := eq_true q113
                  go_wp2_with (first | (go_at_call 100; (with_reducible refine (spec_l01Own.calls _ _ (rd_L1 x5_1 x8_2) t114 _ ?side1 ?side2 A21.out).mono ?_); (case side1 => repeat (first | exact (by repeat (first | (with_reducible exact HR113_0.out) | (with_reducible refine Kd.C_alloc ?_ _) | (with_reducible refine Kd.C_drewN ?_ _) | (with_reducible refine Kd.C_drew ?_) | exact HR113_0.out)) | (with_reducible refine Kd.C_alloc ?_ _) | (with_reducible refine Kd.C_drewN ?_ _) | (with_reducible refine Kd.C_drew ?_))); (case side2 => exact HC113_0.out); rintro e w25 ⟨v115, rfl, ho0, hb⟩; have n0_ := Aside0.mk (Kd.N_elder' (by (with_reducible repeat (first | apply Kd.N_alloc | apply Kd.N_drewN | apply Kd.N_drew)); exact HO_5.out) (Kd.R_base ho0) hb); have n1_ := Aside0.mk (Kd.N_elder' (by (with_reducible repeat (first | apply Kd.N_alloc | apply Kd.N_drewN | apply Kd.N_drew)); exact HO_7.out) (Kd.R_base ho0) hb); have n2_ := Aside0.mk (Kd.V_elder' (by (with_reducible repeat (first | apply Kd.V_alloc | apply Kd.V_drewN | apply Kd.V_drew)); exact HL113_0.out) (Kd.R_base ho0) hb); have n3_ := Aside0.mk (Kd.R_lower (Kd.R_newM (M := fun k_ => (w.heap.size ≤ k_)) ho0 (below_size (by repeat (first | (with_reducible first | exact HB.out | apply below_alloc | apply pw_below_drewN | apply below_drew1 | refine below_set ?_ GE101.out) | exact HB.out))) (fun k_ h_ => h_)) (below_size (by repeat (first | (with_reducible first | exact HB.out | apply below_alloc | apply pw_below_drewN | apply below_drew1 | refine below_set ?_ GE101.out) | exact HB.out)))); have n4_ := Aside0.mk (blk_below (g := gb101) (o := .cells #[.slice (some ad112) l0_0.length c0_0] 28 (0, 0)) (by (with_reducible repeat (first | refine blk_drewN ?_ _ | refine blk_drew ?_ | refine blk_alloc ?_ _)); exact BK101.out) hb); have n5_ := Aside0.mk (Kd.C_below (by repeat (first | (with_reducible exact HR113_0.out) | (with_reducible refine Kd.C_alloc ?_ _) | (with_reducible refine Kd.C_drewN ?_ _) | (with_reducible refine Kd.C_drew ?_) | exact HR113_0.out)) hb); have n6_ := Aside0.mk (below_step (by repeat (first | (with_reducible first | exact HB.out | apply below_alloc | apply pw_below_drewN | apply below_drew1 | refine below_set ?_ GE101.out) | exact HB.out)) hb); clear HO_5; clear HO_7; clear HL113_0; clear BK101; clear HR113_0; clear HB; have HO_5 := n0_; have HO_7 := n1_; have HL113_0 := n2_; have HO116 := n3_; have BK101 := n4_; have HR113_0 := n5_; have HB := n6_; clear n0_ n1_ n2_ n3_ n4_ n5_ n6_; (try clear hb); (try clear hb2); (try clear hk); (try clear hi); (try clear ho0)) | ((with_reducible refine gate_builtin (b := .append) (xs := #[.tmp 42, .tmp 44]) rfl ?_); at_builtin; refine Kd.R_append (Kd.int .i64) (w0 := w) w.heap.size rfl (.tmp 42) (.tmp 44) 22 2 (.int .i64 0) 8 rfl Try.underlying22 info2 rfl (by decide) (by omega) v115 t114 x9_3 [.int .i64 x9_3] (fun k_ => (w.heap.size ≤ k_)) (fun _ => False) rfl rfl ?aP (fun _ hk => hk.elim) ?aF ?aO ?aB ?aS ?aL ?_; (case aP => exact rfl); (case aB => exact (by repeat (first | (with_reducible first | exact HB.out | apply below_alloc | apply pw_below_drewN | apply below_drew1 | refine below_set ?_ GE101.out) | exact HB.out))); (case aF => exact (fun k_ hk => (Nat.le_trans (below_size (by repeat (first | (with_reducible first | exact HB.out | apply below_alloc | apply pw_below_drewN | apply below_drew1 | refine below_set ?_ GE101.out) | exact HB.out))) hk))); (case aO => exact (by (with_reducible repeat (first | apply Kd.R_alloc | apply Kd.R_drewN | apply Kd.R_drew)); exact Kd.R_mono HO116.out (fun _ hk => hk.1))); (case aS => exact (below_size (by repeat (first | (with_reducible first | exact HB.out | apply below_alloc | apply pw_below_drewN | apply below_drew1 | refine below_set ?_ GE101.out) | exact HB.out)))); (case aL => have := LMc22.out; omega); intro v118 w26 ho hb hg hat; rw [← Ny117.out] at ho; have n0_ := Aside0.mk (Kd.N_afterv (ok := (fun k_ => (w.heap.size ≤ k_) ∧ some k_ ≠ (u7 : Value).ownBlock ∧ k_ ≠ gb101)) (by (with_reducible repeat (first | apply Kd.N_alloc | apply Kd.N_drewN | apply Kd.N_drew)); exact HO_5.out) hg hat); have n1_ := Aside0.mk (Kd.N_afterv (ok := (fun k_ => (w.heap.size ≤ k_) ∧ some k_ ≠ (.slice (some ad113) x5_1.length co13 : Value).ownBlock ∧ k_ ≠ gb101)) (by (with_reducible repeat (first | apply Kd.N_alloc | apply Kd.N_drewN | apply Kd.N_drew)); exact HO_7.out) hg hat); have n2_ := Aside0.mk (blk_grown (g := gb101) (o := .cells #[.slice (some ad112) l0_0.length c0_0] 28 (0, 0)) (by (with_reducible repeat (first | refine blk_drewN ?_ _ | refine blk_drew ?_ | refine blk_alloc ?_ _)); exact BK101.out) hg (Kd.R_ne HO116.out BK101.out (by decide))); have n3_ := Aside0.mk (Kd.V_afterv (ok := (fun k_ => (w.heap.size ≤ k_) ∧ some k_ ≠ (.slice (some ad113) x5_1.length co13 : Value).ownBlock ∧ some k_ ≠ (u7 : Value).ownBlock ∧ k_ ≠ gb101)) (by (with_reducible repeat (first | apply Kd.V_alloc | apply Kd.V_drewN | apply Kd.V_drew)); exact Kd.V_mono HL113_0.out (fun _ hk => ⟨⟨hk.1.1.1, ⟨hk.1.2, ⟨hk.1.1.2.1, hk.1.1.2.2⟩⟩⟩, hk.2⟩)) hg hat); have n4_ := Aside0.mk (hb); have n5_ := Aside0.mk (ho); clear HO_5; clear HO_7; clear BK101; clear HL113_0; clear HB; clear HO116; have HO_5 := n0_; have HO_7 := n1_; have BK101 := n2_; have HL113_0 := n3_; have HB := n4_; have HO119 := n5_; clear n0_ n1_ n2_ n3_ n4_ n5_; clear ho hb hg hat; obtain ⟨Ao28, co28, eo28⟩ := Kd.R_slice HO119.out; subst eo28) | ((with_reducible refine gate_builtin (b := .append) (xs := #[.tmp 37, .tmp 46]) rfl ?_); at_builtin; refine Kd.N_append (Kd.slice 2 (Kd.int .i64)) (w0 := w) w.heap.size rfl (.tmp 37) (.tmp 46) 42 22 (.slice none 0 0) 24 rfl Try.underlying42 info22 rfl (by decide) (by omega) u7 x7_3 y117 [.slice Ao28 y117.length co28] (fun k_ => (w.heap.size ≤ k_) ∧ some k_ ≠ (.slice (some ad113) x5_1.length co13 : Value).ownBlock ∧ k_ ≠ gb101) (fun k_ => ((fun k_ => (w.heap.size ≤ k_) ∧ some k_ ≠ (.slice (some ad113) x5_1.length co13 : Value).ownBlock ∧ k_ ≠ gb101)) k_ ∧ some k_ ≠ (u7 : Value).ownBlock) rfl rfl ?aP (fun _ hk => hk) ?aF ?aO ?aB ?aS ?aL ?_; (case aP => exact (Kd.FK_slice_mk (Kd.R_reads' (Kd.R_mono (ok' := (fun k_ => ((fun k_ => (w.heap.size ≤ k_) ∧ some k_ ≠ (.slice (some ad113) x5_1.length co13 : Value).ownBlock ∧ k_ ≠ gb101)) k_ ∧ some k_ ≠ (u7 : Value).ownBlock)) (Kd.R_types (Kd.R_apart' (Kd.R_apart' (HO119.out) (Kd.N_typed HO_5.out) (by decide)) (Kd.N_typed HO_7.out) (by decide)) BK101.out (by decide)) (fun k_ hk => ⟨⟨hk.1.1.1, ⟨hk.1.1.2, hk.2⟩⟩, hk.1.2⟩))).2.1 (Kd.R_F (Kd.R_mono (ok' := (fun k_ => ((fun k_ => (w.heap.size ≤ k_) ∧ some k_ ≠ (.slice (some ad113) x5_1.length co13 : Value).ownBlock ∧ k_ ≠ gb101)) k_ ∧ some k_ ≠ (u7 : Value).ownBlock)) (Kd.R_types (Kd.R_apart' (Kd.R_apart' (HO119.out) (Kd.N_typed HO_5.out) (by decide)) (Kd.N_typed HO_7.out) (by decide)) BK101.out (by decide)) (fun k_ hk => ⟨⟨hk.1.1.1, ⟨hk.1.1.2, hk.2⟩⟩, hk.1.2⟩))))); (case aB => exact (by repeat (first | (with_reducible first | exact HB.out | apply below_alloc | apply pw_below_drewN | apply below_drew1 | refine below_set ?_ GE101.out) | exact HB.out))); (case aF => exact (fun k_ hk => ⟨(Nat.le_trans (below_size (by repeat (first | (with_reducible first | exact HB.out | apply below_alloc | apply pw_below_drewN | apply below_drew1 | refine below_set ?_ GE101.out) | exact HB.out))) hk), Kd.fresh' (Kd.N_lt (by (with_reducible repeat (first | apply Kd.N_alloc | apply Kd.N_drewN | apply Kd.N_drew)); exact HO_5.out)) k_ hk, Kd.freshB (g := gb101) (o := .cells #[.slice (some ad112) l0_0.length c0_0] 28 (0, 0)) (by (with_reducible repeat (first | refine blk_drewN ?_ _ | refine blk_drew ?_ | refine blk_alloc ?_ _)); exact BK101.out) k_ hk⟩)); (case aO => exact (by (with_reducible repeat (first | apply Kd.N_alloc | apply Kd.N_drewN | apply Kd.N_drew)); exact Kd.N_mono HO_7.out (fun _ hk => ⟨hk.1.1, ⟨hk.1.2.1, hk.1.2.2⟩⟩))); (case aS => exact (below_size (by repeat (first | (with_reducible first | exact HB.out | apply below_alloc | apply pw_below_drewN | apply below_drew1 | refine below_set ?_ GE101.out) | exact HB.out)))); (case aL => have := LMc23.out; omega); intro v121 w27 ho hb hg hat; rw [← Ny120.out] at ho; have n0_ := Aside0.mk (Kd.N_afterv (ok := (fun k_ => (w.heap.size ≤ k_) ∧ some k_ ≠ (.slice Ao28 y117.length co28 : Value).ownBlock ∧ k_ ≠ gb101)) (by (with_reducible repeat (first | apply Kd.N_alloc | apply Kd.N_drewN | apply Kd.N_drew)); exact Kd.N_mono HO_5.out (fun _ hk => ⟨⟨hk.1.1, ⟨hk.2, hk.1.2.2⟩⟩, hk.1.2.1⟩)) hg hat); have n1_ := Aside0.mk (blk_grown (g := gb101) (o := .cells #[.slice (some ad112) l0_0.length c0_0] 28 (0, 0)) (by (with_reducible repeat (first | refine blk_drewN ?_ _ | refine blk_drew ?_ | refine blk_alloc ?_ _)); exact BK101.out) hg (Kd.N_ne HO_7.out BK101.out (by decide))); have n2_ := Aside0.mk (Kd.V_afterv (ok := (fun k_ => (w.heap.size ≤ k_) ∧ some k_ ≠ (.slice (some ad113) x5_1.length co13 : Value).ownBlock ∧ some k_ ≠ (.slice Ao28 y117.length co28 : Value).ownBlock ∧ k_ ≠ gb101)) (by (with_reducible repeat (first | apply Kd.V_alloc | apply Kd.V_drewN | apply Kd.V_drew)); exact Kd.V_mono HL113_0.out (fun _ hk => ⟨⟨hk.1.1, ⟨hk.1.2.1, ⟨hk.2, hk.1.2.2.2⟩⟩⟩, hk.1.2.2.1⟩)) hg hat); have n3_ := Aside0.mk (hb); have n4_ := Aside0.mk (ho); clear HO_5; clear BK101; clear HL113_0; clear HB; clear HO_7; clear HO119; have HO_5 := n0_; have BK101 := n1_; have HL113_0 := n2_; have HB := n3_; have HO122 := n4_; clear n0_ n1_ n2_ n3_ n4_; clear ho hb hg hat))
                  repeat (go_quiet (first | (go_at_call 100; (with_reducible refine (spec_l01Own.calls _ _ (rd_L1 x5_1 x8_2) t114 _ ?side1 ?side2 A21.out).mono ?_); (case side1 => repeat (first | exact (by repeat (first | (with_reducible exact HR113_0.out) | (with_reducible refine Kd.C_alloc ?_ _) | (with_reducible refine Kd.C_drewN ?_ _) | (with_reducible refine Kd.C_drew ?_) | exact HR113_0.out)) | (with_reducible refine Kd.C_alloc ?_ _) | (with_reducible refine Kd.C_drewN ?_ _) | (with_reducible refine Kd.C_drew ?_))); (case side2 => exact HC113_0.out); rintro e w25 ⟨v115, rfl, ho0, hb⟩; have n0_ := Aside0.mk (Kd.N_elder' (by (with_reducible repeat (first | apply Kd.N_alloc | apply Kd.N_drewN | apply Kd.N_drew)); exact HO_5.out) (Kd.R_base ho0) hb); have n1_ := Aside0.mk (Kd.N_elder' (by (with_reducible repeat (first | apply Kd.N_alloc | apply Kd.N_drewN | apply Kd.N_drew)); exact HO_7.out) (Kd.R_base ho0) hb); have n2_ := Aside0.mk (Kd.V_elder' (by (with_reducible repeat (first | apply Kd.V_alloc | apply Kd.V_drewN | apply Kd.V_drew)); exact HL113_0.out) (Kd.R_base ho0) hb); have n3_ := Aside0.mk (Kd.R_lower (Kd.R_newM (M := fun k_ => (w.heap.size ≤ k_)) ho0 (below_size (by repeat (first | (with_reducible first | exact HB.out | apply below_alloc | apply pw_below_drewN | apply below_drew1 | refine below_set ?_ GE101.out) | exact HB.out))) (fun k_ h_ => h_)) (below_size (by repeat (first | (with_reducible first | exact HB.out | apply below_alloc | apply pw_below_drewN | apply below_drew1 | refine below_set ?_ GE101.out) | exact HB.out)))); have n4_ := Aside0.mk (blk_below (g := gb101) (o := .cells #[.slice (some ad112) l0_0.length c0_0] 28 (0, 0)) (by (with_reducible repeat (first | refine blk_drewN ?_ _ | refine blk_drew ?_ | refine blk_alloc ?_ _)); exact BK101.out) hb); have n5_ := Aside0.mk (Kd.C_below (by repeat (first | (with_reducible exact HR113_0.out) | (with_reducible refine Kd.C_alloc ?_ _) | (with_reducible refine Kd.C_drewN ?_ _) | (with_reducible refine Kd.C_drew ?_) | exact HR113_0.out)) hb); have n6_ := Aside0.mk (below_step (by repeat (first | (with_reducible first | exact HB.out | apply below_alloc | apply pw_below_drewN | apply below_drew1 | refine below_set ?_ GE101.out) | exact HB.out)) hb); clear HO_5; clear HO_7; clear HL113_0; clear BK101; clear HR113_0; clear HB; have HO_5 := n0_; have HO_7 := n1_; have HL113_0 := n2_; have HO116 := n3_; have BK101 := n4_; have HR113_0 := n5_; have HB := n6_; clear n0_ n1_ n2_ n3_ n4_ n5_ n6_; (try clear hb); (try clear hb2); (try clear hk); (try clear hi); (try clear ho0)) | ((with_reducible refine gate_builtin (b := .append) (xs := #[.tmp 42, .tmp 44]) rfl ?_); at_builtin; refine Kd.R_append (Kd.int .i64) (w0 := w) w.heap.size rfl (.tmp 42) (.tmp 44) 22 2 (.int .i64 0) 8 rfl Try.underlying22 info2 rfl (by decide) (by omega) v115 t114 x9_3 [.int .i64 x9_3] (fun k_ => (w.heap.size ≤ k_)) (fun _ => False) rfl rfl ?aP (fun _ hk => hk.elim) ?aF ?aO ?aB ?aS ?aL ?_; (case aP => exact rfl); (case aB => exact (by repeat (first | (with_reducible first | exact HB.out | apply below_alloc | apply pw_below_drewN | apply below_drew1 | refine below_set ?_ GE101.out) | exact HB.out))); (case aF => exact (fun k_ hk => (Nat.le_trans (below_size (by repeat (first | (with_reducible first | exact HB.out | apply below_alloc | apply pw_below_drewN | apply below_drew1 | refine below_set ?_ GE101.out) | exact HB.out))) hk))); (case aO => exact (by (with_reducible repeat (first | apply Kd.R_alloc | apply Kd.R_drewN | apply Kd.R_drew)); exact Kd.R_mono HO116.out (fun _ hk => hk.1))); (case aS => exact (below_size (by repeat (first | (with_reducible first | exact HB.out | apply below_alloc | apply pw_below_drewN | apply below_drew1 | refine below_set ?_ GE101.out) | exact HB.out)))); (case aL => have := LMc22.out; omega); intro v118 w26 ho hb hg hat; rw [← Ny117.out] at ho; have n0_ := Aside0.mk (Kd.N_afterv (ok := (fun k_ => (w.heap.size ≤ k_) ∧ some k_ ≠ (u7 : Value).ownBlock ∧ k_ ≠ gb101)) (by (with_reducible repeat (first | apply Kd.N_alloc | apply Kd.N_drewN | apply Kd.N_drew)); exact HO_5.out) hg hat); have n1_ := Aside0.mk (Kd.N_afterv (ok := (fun k_ => (w.heap.size ≤ k_) ∧ some k_ ≠ (.slice (some ad113) x5_1.length co13 : Value).ownBlock ∧ k_ ≠ gb101)) (by (with_reducible repeat (first | apply Kd.N_alloc | apply Kd.N_drewN | apply Kd.N_drew)); exact HO_7.out) hg hat); have n2_ := Aside0.mk (blk_grown (g := gb101) (o := .cells #[.slice (some ad112) l0_0.length c0_0] 28 (0, 0)) (by (with_reducible repeat (first | refine blk_drewN ?_ _ | refine blk_drew ?_ | refine blk_alloc ?_ _)); exact BK101.out) hg (Kd.R_ne HO116.out BK101.out (by decide))); have n3_ := Aside0.mk (Kd.V_afterv (ok := (fun k_ => (w.heap.size ≤ k_) ∧ some k_ ≠ (.slice (some ad113) x5_1.length co13 : Value).ownBlock ∧ some k_ ≠ (u7 : Value).ownBlock ∧ k_ ≠ gb101)) (by (with_reducible repeat (first | apply Kd.V_alloc | apply Kd.V_drewN | apply Kd.V_drew)); exact Kd.V_mono HL113_0.out (fun _ hk => ⟨⟨hk.1.1.1, ⟨hk.1.2, ⟨hk.1.1.2.1, hk.1.1.2.2⟩⟩⟩, hk.2⟩)) hg hat); have n4_ := Aside0.mk (hb); have n5_ := Aside0.mk (ho); clear HO_5; clear HO_7; clear BK101; clear HL113_0; clear HB; clear HO116; have HO_5 := n0_; have HO_7 := n1_; have BK101 := n2_; have HL113_0 := n3_; have HB := n4_; have HO119 := n5_; clear n0_ n1_ n2_ n3_ n4_ n5_; clear ho hb hg hat; obtain ⟨Ao28, co28, eo28⟩ := Kd.R_slice HO119.out; subst eo28) | ((with_reducible refine gate_builtin (b := .append) (xs := #[.tmp 37, .tmp 46]) rfl ?_); at_builtin; refine Kd.N_append (Kd.slice 2 (Kd.int .i64)) (w0 := w) w.heap.size rfl (.tmp 37) (.tmp 46) 42 22 (.slice none 0 0) 24 rfl Try.underlying42 info22 rfl (by decide) (by omega) u7 x7_3 y117 [.slice Ao28 y117.length co28] (fun k_ => (w.heap.size ≤ k_) ∧ some k_ ≠ (.slice (some ad113) x5_1.length co13 : Value).ownBlock ∧ k_ ≠ gb101) (fun k_ => ((fun k_ => (w.heap.size ≤ k_) ∧ some k_ ≠ (.slice (some ad113) x5_1.length co13 : Value).ownBlock ∧ k_ ≠ gb101)) k_ ∧ some k_ ≠ (u7 : Value).ownBlock) rfl rfl ?aP (fun _ hk => hk) ?aF ?aO ?aB ?aS ?aL ?_; (case aP => exact (Kd.FK_slice_mk (Kd.R_reads' (Kd.R_mono (ok' := (fun k_ => ((fun k_ => (w.heap.size ≤ k_) ∧ some k_ ≠ (.slice (some ad113) x5_1.length co13 : Value).ownBlock ∧ k_ ≠ gb101)) k_ ∧ some k_ ≠ (u7 : Value).ownBlock)) (Kd.R_types (Kd.R_apart' (Kd.R_apart' (HO119.out) (Kd.N_typed HO_5.out) (by decide)) (Kd.N_typed HO_7.out) (by decide)) BK101.out (by decide)) (fun k_ hk => ⟨⟨hk.1.1.1, ⟨hk.1.1.2, hk.2⟩⟩, hk.1.2⟩))).2.1 (Kd.R_F (Kd.R_mono (ok' := (fun k_ => ((fun k_ => (w.heap.size ≤ k_) ∧ some k_ ≠ (.slice (some ad113) x5_1.length co13 : Value).ownBlock ∧ k_ ≠ gb101)) k_ ∧ some k_ ≠ (u7 : Value).ownBlock)) (Kd.R_types (Kd.R_apart' (Kd.R_apart' (HO119.out) (Kd.N_typed HO_5.out) (by decide)) (Kd.N_typed HO_7.out) (by decide)) BK101.out (by decide)) (fun k_ hk => ⟨⟨hk.1.1.1, ⟨hk.1.1.2, hk.2⟩⟩, hk.1.2⟩))))); (case aB => exact (by repeat (first | (with_reducible first | exact HB.out | apply below_alloc | apply pw_below_drewN | apply below_drew1 | refine below_set ?_ GE101.out) | exact HB.out))); (case aF => exact (fun k_ hk => ⟨(Nat.le_trans (below_size (by repeat (first | (with_reducible first | exact HB.out | apply below_alloc | apply pw_below_drewN | apply below_drew1 | refine below_set ?_ GE101.out) | exact HB.out))) hk), Kd.fresh' (Kd.N_lt (by (with_reducible repeat (first | apply Kd.N_alloc | apply Kd.N_drewN | apply Kd.N_drew)); exact HO_5.out)) k_ hk, Kd.freshB (g := gb101) (o := .cells #[.slice (some ad112) l0_0.length c0_0] 28 (0, 0)) (by (with_reducible repeat (first | refine blk_drewN ?_ _ | refine blk_drew ?_ | refine blk_alloc ?_ _)); exact BK101.out) k_ hk⟩)); (case aO => exact (by (with_reducible repeat (first | apply Kd.N_alloc | apply Kd.N_drewN | apply Kd.N_drew)); exact Kd.N_mono HO_7.out (fun _ hk => ⟨hk.1.1, ⟨hk.1.2.1, hk.1.2.2⟩⟩))); (case aS => exact (below_size (by repeat (first | (with_reducible first | exact HB.out | apply below_alloc | apply pw_below_drewN | apply below_drew1 | refine below_set ?_ GE101.out) | exact HB.out)))); (case aL => have := LMc23.out; omega); intro v121 w27 ho hb hg hat; rw [← Ny120.out] at ho; have n0_ := Aside0.mk (Kd.N_afterv (ok := (fun k_ => (w.heap.size ≤ k_) ∧ some k_ ≠ (.slice Ao28 y117.length co28 : Value).ownBlock ∧ k_ ≠ gb101)) (by (with_reducible repeat (first | apply Kd.N_alloc | apply Kd.N_drewN | apply Kd.N_drew)); exact Kd.N_mono HO_5.out (fun _ hk => ⟨⟨hk.1.1, ⟨hk.2, hk.1.2.2⟩⟩, hk.1.2.1⟩)) hg hat); have n1_ := Aside0.mk (blk_grown (g := gb101) (o := .cells #[.slice (some ad112) l0_0.length c0_0] 28 (0, 0)) (by (with_reducible repeat (first | refine blk_drewN ?_ _ | refine blk_drew ?_ | refine blk_alloc ?_ _)); exact BK101.out) hg (Kd.N_ne HO_7.out BK101.out (by decide))); have n2_ := Aside0.mk (Kd.V_afterv (ok := (fun k_ => (w.heap.size ≤ k_) ∧ some k_ ≠ (.slice (some ad113) x5_1.length co13 : Value).ownBlock ∧ some k_ ≠ (.slice Ao28 y117.length co28 : Value).ownBlock ∧ k_ ≠ gb101)) (by (with_reducible repeat (first | apply Kd.V_alloc | apply Kd.V_drewN | apply Kd.V_drew)); exact Kd.V_mono HL113_0.out (fun _ hk => ⟨⟨hk.1.1, ⟨hk.1.2.1, ⟨hk.2, hk.1.2.2.2⟩⟩⟩, hk.1.2.2.1⟩)) hg hat); have n3_ := Aside0.mk (hb); have n4_ := Aside0.mk (ho); clear HO_5; clear BK101; clear HL113_0; clear HB; clear HO_7; clear HO119; have HO_5 := n0_; have BK101 := n1_; have HL113_0 := n2_; have HB := n3_; have HO122 := n4_; clear n0_ n1_ n2_ n3_ n4_; clear ho hb hg hat)); try go_wp2_with (first | (go_at_call 100; (with_reducible refine (spec_l01Own.calls _ _ (rd_L1 x5_1 x8_2) t114 _ ?side1 ?side2 A21.out).mono ?_); (case side1 => repeat (first | exact (by repeat (first | (with_reducible exact HR113_0.out) | (with_reducible refine Kd.C_alloc ?_ _) | (with_reducible refine Kd.C_drewN ?_ _) | (with_reducible refine Kd.C_drew ?_) | exact HR113_0.out)) | (with_reducible refine Kd.C_alloc ?_ _) | (with_reducible refine Kd.C_drewN ?_ _) | (with_reducible refine Kd.C_drew ?_))); (case side2 => exact HC113_0.out); rintro e w25 ⟨v115, rfl, ho0, hb⟩; have n0_ := Aside0.mk (Kd.N_elder' (by (with_reducible repeat (first | apply Kd.N_alloc | apply Kd.N_drewN | apply Kd.N_drew)); exact HO_5.out) (Kd.R_base ho0) hb); have n1_ := Aside0.mk (Kd.N_elder' (by (with_reducible repeat (first | apply Kd.N_alloc | apply Kd.N_drewN | apply Kd.N_drew)); exact HO_7.out) (Kd.R_base ho0) hb); have n2_ := Aside0.mk (Kd.V_elder' (by (with_reducible repeat (first | apply Kd.V_alloc | apply Kd.V_drewN | apply Kd.V_drew)); exact HL113_0.out) (Kd.R_base ho0) hb); have n3_ := Aside0.mk (Kd.R_lower (Kd.R_newM (M := fun k_ => (w.heap.size ≤ k_)) ho0 (below_size (by repeat (first | (with_reducible first | exact HB.out | apply below_alloc | apply pw_below_drewN | apply below_drew1 | refine below_set ?_ GE101.out) | exact HB.out))) (fun k_ h_ => h_)) (below_size (by repeat (first | (with_reducible first | exact HB.out | apply below_alloc | apply pw_below_drewN | apply below_drew1 | refine below_set ?_ GE101.out) | exact HB.out)))); have n4_ := Aside0.mk (blk_below (g := gb101) (o := .cells #[.slice (some ad112) l0_0.length c0_0] 28 (0, 0)) (by (with_reducible repeat (first | refine blk_drewN ?_ _ | refine blk_drew ?_ | refine blk_alloc ?_ _)); exact BK101.out) hb); have n5_ := Aside0.mk (Kd.C_below (by repeat (first | (with_reducible exact HR113_0.out) | (with_reducible refine Kd.C_alloc ?_ _) | (with_reducible refine Kd.C_drewN ?_ _) | (with_reducible refine Kd.C_drew ?_) | exact HR113_0.out)) hb); have n6_ := Aside0.mk (below_step (by repeat (first | (with_reducible first | exact HB.out | apply below_alloc | apply pw_below_drewN | apply below_drew1 | refine below_set ?_ GE101.out) | exact HB.out)) hb); clear HO_5; clear HO_7; clear HL113_0; clear BK101; clear HR113_0; clear HB; have HO_5 := n0_; have HO_7 := n1_; have HL113_0 := n2_; have HO116 := n3_; have BK101 := n4_; have HR113_0 := n5_; have HB := n6_; clear n0_ n1_ n2_ n3_ n4_ n5_ n6_; (try clear hb); (try clear hb2); (try clear hk); (try clear hi); (try clear ho0)) | ((with_reducible refine gate_builtin (b := .append) (xs := #[.tmp 42, .tmp 44]) rfl ?_); at_builtin; refine Kd.R_append (Kd.int .i64) (w0 := w) w.heap.size rfl (.tmp 42) (.tmp 44) 22 2 (.int .i64 0) 8 rfl Try.underlying22 info2 rfl (by decide) (by omega) v115 t114 x9_3 [.int .i64 x9_3] (fun k_ => (w.heap.size ≤ k_)) (fun _ => False) rfl rfl ?aP (fun _ hk => hk.elim) ?aF ?aO ?aB ?aS ?aL ?_; (case aP => exact rfl); (case aB => exact (by repeat (first | (with_reducible first | exact HB.out | apply below_alloc | apply pw_below_drewN | apply below_drew1 | refine below_set ?_ GE101.out) | exact HB.out))); (case aF => exact (fun k_ hk => (Nat.le_trans (below_size (by repeat (first | (with_reducible first | exact HB.out | apply below_alloc | apply pw_below_drewN | apply below_drew1 | refine below_set ?_ GE101.out) | exact HB.out))) hk))); (case aO => exact (by (with_reducible repeat (first | apply Kd.R_alloc | apply Kd.R_drewN | apply Kd.R_drew)); exact Kd.R_mono HO116.out (fun _ hk => hk.1))); (case aS => exact (below_size (by repeat (first | (with_reducible first | exact HB.out | apply below_alloc | apply pw_below_drewN | apply below_drew1 | refine below_set ?_ GE101.out) | exact HB.out)))); (case aL => have := LMc22.out; omega); intro v118 w26 ho hb hg hat; rw [← Ny117.out] at ho; have n0_ := Aside0.mk (Kd.N_afterv (ok := (fun k_ => (w.heap.size ≤ k_) ∧ some k_ ≠ (u7 : Value).ownBlock ∧ k_ ≠ gb101)) (by (with_reducible repeat (first | apply Kd.N_alloc | apply Kd.N_drewN | apply Kd.N_drew)); exact HO_5.out) hg hat); have n1_ := Aside0.mk (Kd.N_afterv (ok := (fun k_ => (w.heap.size ≤ k_) ∧ some k_ ≠ (.slice (some ad113) x5_1.length co13 : Value).ownBlock ∧ k_ ≠ gb101)) (by (with_reducible repeat (first | apply Kd.N_alloc | apply Kd.N_drewN | apply Kd.N_drew)); exact HO_7.out) hg hat); have n2_ := Aside0.mk (blk_grown (g := gb101) (o := .cells #[.slice (some ad112) l0_0.length c0_0] 28 (0, 0)) (by (with_reducible repeat (first | refine blk_drewN ?_ _ | refine blk_drew ?_ | refine blk_alloc ?_ _)); exact BK101.out) hg (Kd.R_ne HO116.out BK101.out (by decide))); have n3_ := Aside0.mk (Kd.V_afterv (ok := (fun k_ => (w.heap.size ≤ k_) ∧ some k_ ≠ (.slice (some ad113) x5_1.length co13 : Value).ownBlock ∧ some k_ ≠ (u7 : Value).ownBlock ∧ k_ ≠ gb101)) (by (with_reducible repeat (first | apply Kd.V_alloc | apply Kd.V_drewN | apply Kd.V_drew)); exact Kd.V_mono HL113_0.out (fun _ hk => ⟨⟨hk.1.1.1, ⟨hk.1.2, ⟨hk.1.1.2.1, hk.1.1.2.2⟩⟩⟩, hk.2⟩)) hg hat); have n4_ := Aside0.mk (hb); have n5_ := Aside0.mk (ho); clear HO_5; clear HO_7; clear BK101; clear HL113_0; clear HB; clear HO116; have HO_5 := n0_; have HO_7 := n1_; have BK101 := n2_; have HL113_0 := n3_; have HB := n4_; have HO119 := n5_; clear n0_ n1_ n2_ n3_ n4_ n5_; clear ho hb hg hat; obtain ⟨Ao28, co28, eo28⟩ := Kd.R_slice HO119.out; subst eo28) | ((with_reducible refine gate_builtin (b := .append) (xs := #[.tmp 37, .tmp 46]) rfl ?_); at_builtin; refine Kd.N_append (Kd.slice 2 (Kd.int .i64)) (w0 := w) w.heap.size rfl (.tmp 37) (.tmp 46) 42 22 (.slice none 0 0) 24 rfl Try.underlying42 info22 rfl (by decide) (by omega) u7 x7_3 y117 [.slice Ao28 y117.length co28] (fun k_ => (w.heap.size ≤ k_) ∧ some k_ ≠ (.slice (some ad113) x5_1.length co13 : Value).ownBlock ∧ k_ ≠ gb101) (fun k_ => ((fun k_ => (w.heap.size ≤ k_) ∧ some k_ ≠ (.slice (some ad113) x5_1.length co13 : Value).ownBlock ∧ k_ ≠ gb101)) k_ ∧ some k_ ≠ (u7 : Value).ownBlock) rfl rfl ?aP (fun _ hk => hk) ?aF ?aO ?aB ?aS ?aL ?_; (case aP => exact (Kd.FK_slice_mk (Kd.R_reads' (Kd.R_mono (ok' := (fun k_ => ((fun k_ => (w.heap.size ≤ k_) ∧ some k_ ≠ (.slice (some ad113) x5_1.length co13 : Value).ownBlock ∧ k_ ≠ gb101)) k_ ∧ some k_ ≠ (u7 : Value).ownBlock)) (Kd.R_types (Kd.R_apart' (Kd.R_apart' (HO119.out) (Kd.N_typed HO_5.out) (by decide)) (Kd.N_typed HO_7.out) (by decide)) BK101.out (by decide)) (fun k_ hk => ⟨⟨hk.1.1.1, ⟨hk.1.1.2, hk.2⟩⟩, hk.1.2⟩))).2.1 (Kd.R_F (Kd.R_mono (ok' := (fun k_ => ((fun k_ => (w.heap.size ≤ k_) ∧ some k_ ≠ (.slice (some ad113) x5_1.length co13 : Value).ownBlock ∧ k_ ≠ gb101)) k_ ∧ some k_ ≠ (u7 : Value).ownBlock)) (Kd.R_types (Kd.R_apart' (Kd.R_apart' (HO119.out) (Kd.N_typed HO_5.out) (by decide)) (Kd.N_typed HO_7.out) (by decide)) BK101.out (by decide)) (fun k_ hk => ⟨⟨hk.1.1.1, ⟨hk.1.1.2, hk.2⟩⟩, hk.1.2⟩))))); (case aB => exact (by repeat (first | (with_reducible first | exact HB.out | apply below_alloc | apply pw_below_drewN | apply below_drew1 | refine below_set ?_ GE101.out) | exact HB.out))); (case aF => exact (fun k_ hk => ⟨(Nat.le_trans (below_size (by repeat (first | (with_reducible first | exact HB.out | apply below_alloc | apply pw_below_drewN | apply below_drew1 | refine below_set ?_ GE101.out) | exact HB.out))) hk), Kd.fresh' (Kd.N_lt (by (with_reducible repeat (first | apply Kd.N_alloc | apply Kd.N_drewN | apply Kd.N_drew)); exact HO_5.out)) k_ hk, Kd.freshB (g := gb101) (o := .cells #[.slice (some ad112) l0_0.length c0_0] 28 (0, 0)) (by (with_reducible repeat (first | refine blk_drewN ?_ _ | refine blk_drew ?_ | refine blk_alloc ?_ _)); exact BK101.out) k_ hk⟩)); (case aO => exact (by (with_reducible repeat (first | apply Kd.N_alloc | apply Kd.N_drewN | apply Kd.N_drew)); exact Kd.N_mono HO_7.out (fun _ hk => ⟨hk.1.1, ⟨hk.1.2.1, hk.1.2.2⟩⟩))); (case aS => exact (below_size (by repeat (first | (with_reducible first | exact HB.out | apply below_alloc | apply pw_below_drewN | apply below_drew1 | refine below_set ?_ GE101.out) | exact HB.out)))); (case aL => have := LMc23.out; omega); intro v121 w27 ho hb hg hat; rw [← Ny120.out] at ho; have n0_ := Aside0.mk (Kd.N_afterv (ok := (fun k_ => (w.heap.size ≤ k_) ∧ some k_ ≠ (.slice Ao28 y117.length co28 : Value).ownBlock ∧ k_ ≠ gb101)) (by (with_reducible repeat (first | apply Kd.N_alloc | apply Kd.N_drewN | apply Kd.N_drew)); exact Kd.N_mono HO_5.out (fun _ hk => ⟨⟨hk.1.1, ⟨hk.2, hk.1.2.2⟩⟩, hk.1.2.1⟩)) hg hat); have n1_ := Aside0.mk (blk_grown (g := gb101) (o := .cells #[.slice (some ad112) l0_0.length c0_0] 28 (0, 0)) (by (with_reducible repeat (first | refine blk_drewN ?_ _ | refine blk_drew ?_ | refine blk_alloc ?_ _)); exact BK101.out) hg (Kd.N_ne HO_7.out BK101.out (by decide))); have n2_ := Aside0.mk (Kd.V_afterv (ok := (fun k_ => (w.heap.size ≤ k_) ∧ some k_ ≠ (.slice (some ad113) x5_1.length co13 : Value).ownBlock ∧ some k_ ≠ (.slice Ao28 y117.length co28 : Value).ownBlock ∧ k_ ≠ gb101)) (by (with_reducible repeat (first | apply Kd.V_alloc | apply Kd.V_drewN | apply Kd.V_drew)); exact Kd.V_mono HL113_0.out (fun _ hk => ⟨⟨hk.1.1, ⟨hk.1.2.1, ⟨hk.2, hk.1.2.2.2⟩⟩⟩, hk.1.2.2.1⟩)) hg hat); have n3_ := Aside0.mk (hb); have n4_ := Aside0.mk (ho); clear HO_5; clear BK101; clear HL113_0; clear HB; clear HO_7; clear HO119; have HO_5 := n0_; have BK101 := n1_; have HL113_0 := n2_; have HB := n3_; have HO122 := n4_; clear n0_ n1_ n2_ n3_ n4_; clear ho hb hg hat)))
                  go_roundg k3
                  case measure => have := HK1.out; have := HK2.out; have := HK3.out; omega
                  case rel => exact ⟨(y120), (wrap64 (x9_3 + 1)), (by first | rfl | (simp; done) | (simp [*]; done)), H', ⟨by have := HK1.out; have := HK2.out; have := HK3.out; omega⟩, ⟨by (with_reducible repeat (first | apply Kd.N_alloc | apply Kd.N_drewN | apply Kd.N_drew)); exact Kd.N_mono HO_5.out (fun _ hk => ⟨hk.1.1, ⟨hk.2, hk.1.2.2⟩⟩)⟩, ⟨by (with_reducible repeat (first | apply Kd.N_alloc | apply Kd.N_drewN | apply Kd.N_drew)); exact HO122.out⟩, ⟨by (with_reducible repeat (first | refine blk_drewN ?_ _ | refine blk_drew ?_ | refine blk_alloc ?_ _)); exact BK101.out⟩, ⟨by repeat (first | (with_reducible first | exact HB.out | apply below_alloc | apply pw_below_drewN | apply below_drew1 | refine below_set ?_ GE101.out) | exact HB.out)⟩⟩
                 ·rw [if_neg c23] at H
                  exact absurd H (by simp)
                ·rw [if_neg c22] at H
                 exact absurd H (by simp)
               ·rw [if_neg c20] at H
                exact absurd H (by simp)
              ·rw [if_neg c19] at H
               exact absurd H (by simp)
             ·rw [if_neg c18] at H
              have c18b0 : decide (x9_3 < (rd l0_0 (rd l1 x6_1))) = false := decide_eq_false c18
              clear c18
              have H' := Aside0.mk H
              clear H
              have hcz29_0 : wr.cell? ⟨gb101, 0, none⟩ = some (.slice A0_0 l0_0.length c0_0) := (blk_cell BK101.out 0).trans rfl
              have hfz29_0 := blk_frozen BK101.out 0
              have p111 : 0 ≤ (x6_1 : Int) := of_decide_eq_true (by first | (with_reducible assumption) | assumption)
              have q111 : x6_1 < (l1.length : Int) := of_decide_eq_true (by first | (with_reducible assumption) | assumption)
              obtain ⟨ad111, e111, hx111_0⟩ := Kd.at_int HR1.out x6_1 p111 q111
              cases e111
              replace hx111_0 := (HB.out.cell (World.block_lt_of_cell? w _ hx111_0)).trans hx111_0
              replace p111 := eq_true p111
              replace q111 := eq_true q111
              have p112 : 0 ≤ ((rd l1 x6_1) : Int) := of_decide_eq_true (by first | (with_reducible assumption) | assumption)
              have q112 : (rd l1 x6_1) < (l0_0.length : Int) := of_decide_eq_true (by first | (with_reducible assumption) | assumption)
              obtain ⟨ad112, e112, hx112_0⟩ := Kd.at_int HR0_0.out (rd l1 x6_1) p112 q112
              cases e112
              replace hx112_0 := (HB.out.cell (World.block_lt_of_cell? w _ hx112_0)).trans hx112_0
              replace p112 := eq_true p112
              replace q112 := eq_true q112
              go_wp2
              repeat (go_quiet (fail); try go_wp2)
              go_roundg k3
              case measure => have := HK1.out; have := HK2.out; have := HK3.out; omega
              case rel => exact ⟨(x7_3), (wrap64 (x8_2 + 1)), (by first | rfl | (simp; done) | (simp [*]; done)), H', ⟨by have := HK1.out; have := HK2.out; have := HK3.out; omega⟩, ⟨by (with_reducible repeat (first | apply Kd.N_alloc | apply Kd.N_drewN | apply Kd.N_drew)); exact HO_5.out⟩, ⟨by (with_reducible repeat (first | apply Kd.N_alloc | apply Kd.N_drewN | apply Kd.N_drew)); exact HO_7.out⟩, ⟨by (with_reducible repeat (first | refine blk_drewN ?_ _ | refine blk_drew ?_ | refine blk_alloc ?_ _)); exact BK101.out⟩, ⟨by repeat (first | (with_reducible first | exact HB.out | apply below_alloc | apply pw_below_drewN | apply below_drew1 | refine below_set ?_ GE101.out) | exact HB.out)⟩⟩
            ·rw [if_neg c17] at H
             exact absurd H (by simp)
           ·rw [if_neg c16] at H
            exact absurd H (by simp)
          ·rw [if_neg c15] at H
           exact absurd H (by simp)
         ·rw [if_neg c14] at H
          exact absurd H (by simp)
      ·rw [if_neg c12] at H
       have c12b0 : decide (x8_2 < (x5_1.length : Int)) = false := decide_eq_false c12
       clear c12
       have H' := Aside0.mk H
       clear H
       obtain ⟨Ao30, co30, eo30⟩ := Kd.N_slice HO_5.out
       subst eo30
       go_wp2
       repeat (go_quiet (fail); try go_wp2)
       go_roundg k2
       case measure => have := HK1.out; have := HK2.out; omega
       case rel => exact ⟨(x7_2), (wrap64 (x6_1 + 1)), (by first | rfl | (simp; done) | (simp [*]; done)), H', ⟨by have := HK1.out; have := HK2.out; omega⟩, ⟨by (with_reducible repeat (first | apply Kd.N_alloc | apply Kd.N_drewN | apply Kd.N_drew)); exact Kd.N_mono HO_7.out (fun _ hk => ⟨hk.1, hk.2.2⟩)⟩, ⟨by (with_reducible repeat (first | refine blk_drewN ?_ _ | refine blk_drew ?_ | refine blk_alloc ?_ _)); exact BK101.out⟩, ⟨by repeat (first | (with_reducible first | exact HB.out | apply below_alloc | apply pw_below_drewN | apply below_drew1 | refine below_set ?_ GE101.out) | exact HB.out)⟩⟩
   ·rw [if_neg c9] at H
    have c9b0 : decide (x6_1 < (l1.length : Int)) = false := decide_eq_false c9
    clear c9
    obtain rfl := Option.some.inj H
    go_wp2
    repeat (go_quiet (fail); try go_wp2)
    go_ret
    exact ⟨_, by first | rfl | (simp [errW_none, errW_some] <;> rfl) | (simp [*, errW_none, errW_some] <;> rfl), by (with_reducible repeat (first | apply Kd.N_alloc | apply Kd.N_drewN | apply Kd.N_drew)); exact Kd.N_mono HO_5.out (fun _ hk => hk.1), by repeat (first | (with_reducible first | exact HB.out | apply below_alloc | apply pw_below_drewN | apply below_drew1 | refine below_set ?_ GE101.out) | exact HB.out)⟩
mutual
def spec_l10All.l0 : Nat → List (List Int) → List (List Int) → Int → List Int → Option ((List (List Int)))
 | 0, _, _, _, _ => none
 | k + 1, x5, x6, x7, x102000 => if x7 < (x5.length : Int) then (if 0 ≤ x7 then ((spec_l10Digits.f k x102000 (rd_L1 x5 x7)).bind fun t109 => (spec_l10All.l1 k x5 x6 x7 t109 0 x102000)) else (none)) else (some x6)
def spec_l10All.l1 : Nat → List (List Int) → List (List Int) → Int → List (List Int) → Int → List Int → Option ((List (List Int)))
 | 0, _, _, _, _, _, _ => none
 | k + 1, x5, x6, x7, x8, x9, x102000 => if x9 < (x8.length : Int) then (if 0 ≤ x7 then (if x7 < (x5.length : Int) then ((spec_l01Own.f (rd_L1 x5 x7)).bind fun t113 => (if 0 ≤ x9 then (if t113.length + (rd_L1 x8 x9).length < 17592186044416 then (if x6.length < 5864062014805 then (spec_l10All.l1 k x5 (x6 ++ [(t113 ++ (rd_L1 x8 x9))]) x7 x8 (wrap64 (x9 + 1)) x102000) else (none)) else (none)) else (none))) else (none)) else (none)) else (spec_l10All.l0 k x5 x6 (wrap64 (x7 + 1)) x102000)
end
def spec_l10All.f (k : Nat) (l0_0 : List Int) (a1 : Int) : Option ((List (List Int))) := (spec_l10Places.f k l0_0 0 a1).bind fun t102 => (spec_l10All.l0 k t102 (([] : List (List Int))) 0 l0_0)
def spec_l10All.T9 : Bool × List (List Nat × List Nat) := (true, [([], []), ([], []), ([], []), ([1, 2], [1, 2]), ([3], [3]), ([4], [4]), ([], []), ([], []), ([6, 7], [6, 7]), ([8], [8]), ([5, 9, 5], [5, 9]), ([10], [10]), ([0, 11, 10], [0, 11]), ([12, 12, 0, 1, 2, 3, 4, 5, 6, 7, 8, 9, 10, 11, 12], [0, 12])])
def spec_l10All.B9 : List Nat := [0, 0, 0, 6, 14, 30, 0, 0, 192, 448, 1022, 2046, 4095, 8191]
theorem spec_l10All.tab9 : rtab .any (opsOf Try.f88 9) = spec_l10All.T9 := by kernel_rfl
theorem spec_l10All.bits9 : waitsOk spec_l10All.T9.2 spec_l10All.B9 = true := by kernel_rfl
set_option maxHeartbeats 8000000 in
set_option maxRecDepth 100000 in
theorem spec_l10All.calls (k : Nat) (A0_0 : Option Addr) (c0_0 : Nat) (l0_0 : List Int) (a1 : Int) (r : List (List Int)) (w : World) (hr0_0 : Kd.C (Kd.int .i64) w A0_0 l0_0.length l0_0) (hc0_0 : l0_0.length ≤ c0_0) (h : spec_l10All.f k l0_0 a1 = some r) :
  Calls Try.prog 88 #[.agg #[.slice A0_0 l0_0.length c0_0], .int .i64 a1] w fun e w' => ∃ v0_ : Value, e = .returned (v0_) ∧ Kd.N (Kd.slice 2 (Kd.int .i64)) 22 w' w.heap.size (fun k_ => (w.heap.size ≤ k_)) v0_ r ∧ Below w.heap.size w w' := by
 have hu28 := Try.underlying28
 have HR0_0 := Aside0.mk hr0_0
 have HC0_0 := Aside0.mk hc0_0
 clear hr0_0 hc0_0
 have HB := Aside0.mk (Below.refl w.heap.size w)
 have H : ((spec_l10Places.f k l0_0 0 a1).bind fun t102 => (spec_l10All.l0 k t102 (([] : List (List Int))) 0 l0_0)) = some r := h
 clear h
 replace H := Option.bind_eq_some_iff.mp H
 obtain ⟨t102, A30, H⟩ := H
 replace H : (spec_l10All.l0 k t102 (([] : List (List Int))) 0 l0_0) = some r := H
 have A3 := Aside0.mk A30
 clear A30
 obtain ⟨y105, hy105⟩ : ∃ y_ : List (List Int), y_ = (([] : List (List Int))) := ⟨_, rfl⟩
 replace H : (spec_l10All.l0 k t102 y105 0 l0_0) = some r := by first | (rw [hy105]; with_reducible exact H) | (have H2_ := (Option.bind_some _ _).symm.trans H; rw [hy105]; with_reducible exact H2_) | (have H2_ := (Option.bind_some _ _).symm.trans H; with_reducible exact H2_) | with_reducible exact H | (rw [hy105]; exact H) | exact H
 have Ny105 := Aside0.mk hy105
 clear hy105
 have H' := Aside0.mk H
 clear H
 go_enter Try.func88, Try.ntmps88
 go_wp2_with (first | ((with_reducible refine gate_dst (N := 2) rfl ?_); refine box_event ?hg (N := 2) ?hd (cs := #[.slice A0_0 l0_0.length c0_0]) (t := 28) ?hr ?_; (case hd => rfl); (case hg => rfl); (case hr => first | (go_simp; done) | (go_simp; rfl)); intro gb101 hg w4 hbox hb; have n0_ := Aside0.mk (below_step (by repeat (first | (with_reducible first | exact HB.out | apply below_alloc | apply pw_below_drewN | apply below_drew1) | exact HB.out)) hb); have n1_ := Aside0.mk (hbox); have n2_ := Aside0.mk ((by rw [hg]; exact (below_size (by repeat (first | (with_reducible first | exact HB.out | apply below_alloc | apply pw_below_drewN | apply below_drew1) | exact HB.out))) : w.heap.size ≤ gb101)); have n3_ := Aside0.mk ((by rw [hg]; exact (below_size (by repeat (first | (with_reducible first | exact HB.out | apply below_alloc | apply pw_below_drewN | apply below_drew1) | exact HB.out))) : w.heap.size ≤ gb101)); clear HB; have HB := n0_; have BK101 := n1_; have GW101 := n2_; have GE101 := n3_; clear n0_ n1_ n2_ n3_; clear hb hbox hg; have hcz5_0 : w4.cell? ⟨gb101, 0, none⟩ = some (.slice A0_0 l0_0.length c0_0) := (blk_cell BK101.out 0).trans rfl; have hfz5_0 := blk_frozen BK101.out 0) | ((with_reducible refine gate_callee (f := 165) rfl ?_); refine goesL_ (some 12) rfl rfl Try.func165 (by kernel_rfl) rfl #[.agg #[.slice A0_0 l0_0.length c0_0], .int .i64 0, .int .i64 a1] rfl (by (try simp only [List.map_toArray, List.map_cons, List.map_nil]); first | done | rfl | (simp only [List.length_drop, List.length_take]; rfl)) ?_; (with_reducible refine (spec_l10Places.calls k _ _ l0_0 0 a1 t102 _ ?side1 ?side2 A3.out).mono ?_); (case side1 => repeat (first | exact (Kd.C_below HR0_0.out HB.out) | (with_reducible refine Kd.C_alloc ?_ _) | (with_reducible refine Kd.C_drewN ?_ _) | (with_reducible refine Kd.C_drew ?_))); (case side2 => exact HC0_0.out); rintro e w6 ⟨v103, rfl, ho0, hb⟩; refine ⟨_, rfl, ?_⟩; have n0_ := Aside0.mk (Kd.N_lower (Kd.N_mono (ok' := fun k_ => (w.heap.size ≤ k_) ∧ k_ ≠ gb101) ho0 (fun k_ hk_ => ⟨(Nat.le_trans (below_size (by repeat (first | (with_reducible first | exact HB.out | apply below_alloc | apply pw_below_drewN | apply below_drew1 | refine below_set ?_ GE101.out) | exact HB.out))) hk_), (Kd.freshB (g := gb101) (o := .cells #[.slice A0_0 l0_0.length c0_0] 28 (0, 0)) (by (with_reducible repeat (first | refine blk_drewN ?_ _ | refine blk_drew ?_ | refine blk_alloc ?_ _)); exact BK101.out) k_ hk_)⟩)) (below_size (by repeat (first | (with_reducible first | exact HB.out | apply below_alloc | apply pw_below_drewN | apply below_drew1 | refine below_set ?_ GE101.out) | exact HB.out)))); have n1_ := Aside0.mk (blk_below (g := gb101) (o := .cells #[.slice A0_0 l0_0.length c0_0] 28 (0, 0)) (by (with_reducible repeat (first | refine blk_drewN ?_ _ | refine blk_drew ?_ | refine blk_alloc ?_ _)); exact BK101.out) hb); have n2_ := Aside0.mk (below_step (by repeat (first | (with_reducible first | exact HB.out | apply below_alloc | apply pw_below_drewN | apply below_drew1 | refine below_set ?_ GE101.out) | exact HB.out)) hb); clear BK101; clear HB; have HO104 := n0_; have BK101 := n1_; have HB := n2_; clear n0_ n1_ n2_; (try clear hb); (try clear hb2); (try clear hk); (try clear hi); (try clear ho0)) | ((with_reducible refine gate_dst (N := 13) rfl ?_); refine Kd.N_lit (Kd.slice 2 (Kd.int .i64)) _ 22 ?hg (N' := 13) ?hd (xs := ([] : List (List Int))) (inner := []) (ok := (fun k_ => (w.heap.size ≤ k_) ∧ some k_ ≠ (v103 : Value).ownBlock ∧ k_ ≠ gb101)) (okp := (fun k_ => (w.heap.size ≤ k_) ∧ some k_ ≠ (v103 : Value).ownBlock ∧ k_ ≠ gb101)) ?hr ?hp (fun _ hk => hk) ((show ∀ k_, w6.heap.size ≤ k_ → (fun k_ => (w.heap.size ≤ k_) ∧ some k_ ≠ (v103 : Value).ownBlock ∧ k_ ≠ gb101) k_ from fun k_ hk => ⟨(Nat.le_trans (below_size (by repeat (first | (with_reducible first | exact HB.out | apply below_alloc | apply pw_below_drewN | apply below_drew1 | refine below_set ?_ GE101.out) | exact HB.out))) hk), Kd.fresh' (Kd.N_lt (by (with_reducible repeat (first | apply Kd.N_alloc | apply Kd.N_drewN | apply Kd.N_drew)); exact HO104.out)) k_ hk, Kd.freshB (g := gb101) (o := .cells #[.slice A0_0 l0_0.length c0_0] 28 (0, 0)) (by (with_reducible repeat (first | refine blk_drewN ?_ _ | refine blk_drew ?_ | refine blk_alloc ?_ _)); exact BK101.out) k_ hk⟩) _ (Nat.le_refl _)) (Below.refl _ _) (Nat.le_refl _) (by simp) ?_; (case hd => rfl); (case hg => rfl); (case hr => first | (go_simp; done) | (go_simp; rfl)); (case hp => exact (Reps.none _ _)); intro v106 w7 ho8 hb hg_ hnew_; clear hg_ hnew_; (first | rw [← Ny105.out] at ho8 | (simp only [Int.reduceToNat] at ho8; rw [← Ny105.out] at ho8)); have n0_ := Aside0.mk (Kd.N_elder' (by (with_reducible repeat (first | apply Kd.N_alloc | apply Kd.N_drewN | apply Kd.N_drew)); exact HO104.out) (Kd.N_base ho8) hb); have n1_ := Aside0.mk (Kd.N_lower ho8 (below_size (by repeat (first | (with_reducible first | exact HB.out | apply below_alloc | apply pw_below_drewN | apply below_drew1 | refine below_set ?_ GE101.out) | exact HB.out)))); have n2_ := Aside0.mk (blk_below (g := gb101) (o := .cells #[.slice A0_0 l0_0.length c0_0] 28 (0, 0)) (by (with_reducible repeat (first | refine blk_drewN ?_ _ | refine blk_drew ?_ | refine blk_alloc ?_ _)); exact BK101.out) hb); have n3_ := Aside0.mk (below_step (by repeat (first | (with_reducible first | exact HB.out | apply below_alloc | apply pw_below_drewN | apply below_drew1 | refine below_set ?_ GE101.out) | exact HB.out)) hb); clear HO104; clear BK101; clear HB; have HO104 := n0_; have HO107 := n1_; have BK101 := n2_; have HB := n3_; clear n0_ n1_ n2_ n3_; clear hb ho8))
 go_loopg [6, 7] k (fun kq v6 v7 w' => ∃ (x6_1 : List (List Int)) (x7_1 : Int), v7 = .int .i64 x7_1 ∧ Aside0 (spec_l10All.l0 kq t102 x6_1 x7_1 l0_0 = some r) ∧ Aside0 (kq ≤ k) ∧ Aside0 (Kd.N (Kd.slice 2 (Kd.int .i64)) 22 w' w.heap.size (fun k_ => (w.heap.size ≤ k_) ∧ some k_ ≠ (v6 : Value).ownBlock ∧ k_ ≠ gb101) v103 t102) ∧ Aside0 (Kd.N (Kd.slice 2 (Kd.int .i64)) 22 w' w.heap.size (fun k_ => (w.heap.size ≤ k_) ∧ some k_ ≠ (v103 : Value).ownBlock ∧ k_ ≠ gb101) v6 x6_1) ∧ Aside0 (w'.heap[gb101]? = some (.cells #[(.slice A0_0 l0_0.length c0_0)] 28 (0, 0))) ∧ Aside0 (Below w.heap.size w w'))
 case atStart => exact ⟨(y105), (0), (by first | rfl | (simp; done) | (simp [*]; done)), H', ⟨Nat.le_refl _⟩, ⟨by (with_reducible repeat (first | apply Kd.N_alloc | apply Kd.N_drewN | apply Kd.N_drew)); exact Kd.N_mono HO104.out (fun _ hk => ⟨hk.1.1, ⟨hk.2, hk.1.2⟩⟩)⟩, ⟨by (with_reducible repeat (first | apply Kd.N_alloc | apply Kd.N_drewN | apply Kd.N_drew)); exact HO107.out⟩, ⟨by (with_reducible repeat (first | refine blk_drewN ?_ _ | refine blk_drew ?_ | refine blk_alloc ?_ _)); exact BK101.out⟩, ⟨by repeat (first | (with_reducible first | exact HB.out | apply below_alloc | apply pw_below_drewN | apply below_drew1 | refine below_set ?_ GE101.out) | exact HB.out)⟩⟩
 case round =>
  clear H'
  try clear c1
  try clear p2
  try clear c8
  try clear hcz5_0
  try clear hfz5_0
  obtain ⟨x6_1, x7_1, rfl, HA, HK1, HO_5, HO_6, BK101, HB⟩ := hrel
  cases gk with
  | zero => exact absurd HA.out (by simp [spec_l10All.l0])
  | succ k1 =>
   have H := HA.out
   clear HA
   simp only [spec_l10All.l0] at H
   by_cases c9 : x7_1 < (t102.length : Int)
   ·rw [if_pos c9] at H
    have c9b0 : decide (x7_1 < (t102.length : Int)) = true := decide_eq_true c9
    clear c9
    by_cases c10 : 0 ≤ x7_1
    ·rw [if_pos c10] at H
     have c10b0 : decide (0 ≤ x7_1) = true := decide_eq_true c10
     clear c10
     replace H := Option.bind_eq_some_iff.mp H
     obtain ⟨t109, A110, H⟩ := H
     replace H : (spec_l10All.l1 k1 t102 x6_1 x7_1 t109 0 l0_0) = some r := H
     have A11 := Aside0.mk A110
     clear A110
     have H' := Aside0.mk H
     clear H
     obtain ⟨Ao12, co12, eo12⟩ := Kd.N_slice HO_5.out
     subst eo12
     try go_wp2
     have n0_ := Aside0.mk (Kd.N_drew HO_5.out)
     have n1_ := Aside0.mk (Kd.N_drew HO_6.out)
     have n2_ := Aside0.mk (blk_drew BK101.out)
     have n3_ := Aside0.mk (below_drew1 HB.out)
     clear HO_5
     clear HO_6
     clear BK101
     clear HB
     have HO_5 := n0_
     have HO_6 := n1_
     have BK101 := n2_
     have HB := n3_
     clear n0_ n1_ n2_ n3_
     have p108 : 0 ≤ (x7_1 : Int) := of_decide_eq_true (by first | (with_reducible assumption) | assumption)
     have q108 : x7_1 < (t102.length : Int) := of_decide_eq_true (by first | (with_reducible assumption) | assumption)
     obtain ⟨ad108, A108_0, c108_0, e108, hx108_0, hl108_0, hi108_0⟩ := at_L1 (Kd.N_reads' HO_5.out).2.2 x7_1 p108 q108
     cases e108
     obtain ⟨ce108, hce108, hMe108, hcc108⟩ := Kd.N_get HO_5.out [] x7_1 p108 (by first | exact q108 | exact of_decide_eq_true (by first | (with_reducible assumption) | assumption) | (have e_ := (Kd.N_reads' HO_5.out).1; omega))
     obtain ⟨ua108_0, uc108_0, rfl, ul108_0, ge108_0⟩ := Kd.FK_slice_open hMe108
     have hv108_0 := hcc108 0 _ rfl
     rw [Nat.add_zero, show ((Kd.slice 2 (Kd.int .i64))).sz = 1 from rfl, Nat.mul_one] at hv108_0
     replace hv108_0 := Option.some.inj (hv108_0.symm.trans hx108_0)
     injection hv108_0 with hva_ hvn_ hvc_
     rw [hva_] at ge108_0
     rw [hvc_] at ul108_0
     have HL108_0 := Aside0.mk (show Kd.V (Kd.int .i64) 2 _ w.heap.size _ _ (rd_L1 t102 x7_1) from Kd.V_mk ul108_0 ge108_0)
     clear hva_ hvn_ hvc_ ge108_0 ul108_0
     clear hcc108 hce108
     have HR108_0 := Aside0.mk hi108_0
     have HC108_0 := Aside0.mk hl108_0
     clear hi108_0 hl108_0
     replace p108 := eq_true p108
     replace q108 := eq_true q108
     refine start_ (n := 7) (S := fun w' => w'.cell? ⟨gb101, 0, none⟩ = some (.slice A0_0 l0_0.length c0_0) ∧ w'.cell? (ad108.add (x7_1).toNat) = some (.slice A108_0 (rd_L1 t102 x7_1).length c108_0)) (ds := []) #[false, false, false, false, false, false, false] (by kernel_rfl) rfl rfl ⟨(blk_cell BK101.out 0).trans rfl, hx108_0⟩ (fun hHeld => ?_)
     generalize wr.drew = w13 at HO_5 HO_6 BK101 HB HL108_0 HR108_0 hx108_0 hHeld ⊢
     refine pure_ (i := 1) (N := some 21) (v := ?_) (a' := ?_) #[false, true, false, false, false, false, false] rfl rfl (by kernel_rfl) (fun _ _ _ h => h) (Or.inl ⟨by rfl, ?_⟩) ?_ ?_
     rotate_left
     ·intro w'
      go_simp
      with_reducible rfl
     rotate_left
     ·simp only [Act.put, List.setIfInBounds_toArray, List.set_cons_zero, List.set_cons_succ, i64_w, i32_w]
      rfl
     refine pure_ (i := 2) (N := some 22) (v := ?_) (a' := ?_) #[false, true, true, false, false, false, false] rfl rfl (by kernel_rfl) (fun _ _ _ h => h) (Or.inl ⟨by rfl, ?_⟩) ?_ ?_
     rotate_left
     ·intro w'
      go_simp
      with_reducible rfl
     rotate_left
     ·simp only [Act.put, List.setIfInBounds_toArray, List.set_cons_zero, List.set_cons_succ, i64_w, i32_w]
      rfl
     refine pure_ (i := 3) (N := some 23) (v := ?_) (a' := ?_) #[false, true, true, true, false, false, false] rfl rfl (by kernel_rfl) (fun _ _ _ h => h) (Or.inl ⟨by rfl, ?_⟩) ?_ ?_
     rotate_left
     ·intro w'
      go_simp
      with_reducible rfl
     rotate_left
     ·simp only [Act.put, List.setIfInBounds_toArray, List.set_cons_zero, List.set_cons_succ, i64_w, i32_w]
      rfl
     refine take_ (i := 0) (N := some 20) (v := ?_) (a' := ?_) #[true, true, true, true, false, false, false] rfl rfl (by kernel_rfl) (fun _ _ _ h => h) (Or.inl ⟨by rfl, ?_⟩) hHeld ?_ ?_
     rotate_left
     ·rintro w' ⟨s0, s1⟩
      go_simp
      with_reducible rfl
     rotate_left
     ·simp only [Act.put, List.setIfInBounds_toArray, List.set_cons_zero, List.set_cons_succ, i64_w, i32_w]
      rfl
     refine take_ (i := 4) (N := some 24) (v := ?_) (a' := ?_) #[true, true, true, true, true, false, false] rfl rfl (by kernel_rfl) (fun _ _ _ h => h) (Or.inl ⟨by rfl, ?_⟩) hHeld ?_ ?_
     rotate_left
     ·rintro w' ⟨s0, s1⟩
      go_simp
      with_reducible rfl
     rotate_left
     ·simp only [Act.put, List.setIfInBounds_toArray, List.set_cons_zero, List.set_cons_succ, i64_w, i32_w]
      rfl
     refine one_ (i := 5) (N := some 25) #[true, true, true, true, true, true, false] rfl rfl (by kernel_rfl) (by decide) (fun K hK => ?_)
     refine goes_ Try.func166 (by kernel_rfl) rfl #[.agg #[.slice A0_0 l0_0.length c0_0], .slice A108_0 (rd_L1 t102 x7_1).length c108_0] (by rfl) rfl rfl (by (try simp only [List.map_toArray, List.map_cons, List.map_nil]); first | done | rfl | (simp only [List.length_drop, List.length_take]; rfl)) ?_
     with_reducible refine (spec_l10Digits.calls k1 _ _ l0_0 _ _ (rd_L1 t102 x7_1) t109 _ ?side1 ?side2 ?side3 ?side4 A11.out).mono ?_
     (case side1 => repeat (first | exact (Kd.C_below HR0_0.out HB.out) | (with_reducible refine Kd.C_alloc ?_ _) | (with_reducible refine Kd.C_drewN ?_ _) | (with_reducible refine Kd.C_drew ?_)))
     (case side2 => exact HC0_0.out)
     (case side3 => repeat (first | exact (by repeat (first | (with_reducible exact HR108_0.out) | (with_reducible refine Kd.C_alloc ?_ _) | (with_reducible refine Kd.C_drewN ?_ _) | (with_reducible refine Kd.C_drew ?_) | exact HR108_0.out)) | (with_reducible refine Kd.C_alloc ?_ _) | (with_reducible refine Kd.C_drewN ?_ _) | (with_reducible refine Kd.C_drew ?_)))
     (case side4 => exact HC108_0.out)
     rintro e w14 ⟨v110, rfl, ho0, hb⟩
     have HS1_ := (hb.cell (World.block_lt_of_cell? _ _ (hHeld.2))).trans (hHeld.2)
     refine ⟨_, rfl, ?_⟩
     have n0_ := Aside0.mk (Kd.N_elder' (by (with_reducible repeat (first | apply Kd.N_alloc | apply Kd.N_drewN | apply Kd.N_drew)); exact HO_5.out) (Kd.N_base ho0) hb)
     have n1_ := Aside0.mk (Kd.N_elder' (by (with_reducible repeat (first | apply Kd.N_alloc | apply Kd.N_drewN | apply Kd.N_drew)); exact HO_6.out) (Kd.N_base ho0) hb)
     have n2_ := Aside0.mk (Kd.V_elder' (by (with_reducible repeat (first | apply Kd.V_alloc | apply Kd.V_drewN | apply Kd.V_drew)); exact HL108_0.out) (Kd.N_base ho0) hb)
     have n3_ := Aside0.mk (Kd.N_lower (Kd.N_mono (ok' := fun k_ => (w.heap.size ≤ k_) ∧ some k_ ≠ (.slice (some ad108) t102.length co12 : Value).ownBlock ∧ some k_ ≠ (u6 : Value).ownBlock ∧ k_ ≠ gb101) ho0 (fun k_ hk_ => ⟨(Nat.le_trans (below_size (by repeat (first | (with_reducible first | exact HB.out | apply below_alloc | apply pw_below_drewN | apply below_drew1 | refine below_set ?_ GE101.out) | exact HB.out))) hk_), (Kd.fresh' (Kd.N_lt (by (with_reducible repeat (first | apply Kd.N_alloc | apply Kd.N_drewN | apply Kd.N_drew)); exact HO_5.out)) k_ hk_), (Kd.fresh' (Kd.N_lt (by (with_reducible repeat (first | apply Kd.N_alloc | apply Kd.N_drewN | apply Kd.N_drew)); exact HO_6.out)) k_ hk_), (Kd.freshB (g := gb101) (o := .cells #[.slice A0_0 l0_0.length c0_0] 28 (0, 0)) (by (with_reducible repeat (first | refine blk_drewN ?_ _ | refine blk_drew ?_ | refine blk_alloc ?_ _)); exact BK101.out) k_ hk_)⟩)) (below_size (by repeat (first | (with_reducible first | exact HB.out | apply below_alloc | apply pw_below_drewN | apply below_drew1 | refine below_set ?_ GE101.out) | exact HB.out))))
     have n4_ := Aside0.mk (blk_below (g := gb101) (o := .cells #[.slice A0_0 l0_0.length c0_0] 28 (0, 0)) (by (with_reducible repeat (first | refine blk_drewN ?_ _ | refine blk_drew ?_ | refine blk_alloc ?_ _)); exact BK101.out) hb)
     have n5_ := Aside0.mk (Kd.C_below (by repeat (first | (with_reducible exact HR108_0.out) | (with_reducible refine Kd.C_alloc ?_ _) | (with_reducible refine Kd.C_drewN ?_ _) | (with_reducible refine Kd.C_drew ?_) | exact HR108_0.out)) hb)
     have n6_ := Aside0.mk (below_step (by repeat (first | (with_reducible first | exact HB.out | apply below_alloc | apply pw_below_drewN | apply below_drew1 | refine below_set ?_ GE101.out) | exact HB.out)) hb)
     clear HO_5
     clear HO_6
     clear HL108_0
     clear BK101
     clear HR108_0
     clear HB
     have HO_5 := n0_
     have HO_6 := n1_
     have HL108_0 := n2_
     have HO111 := n3_
     have BK101 := n4_
     have HR108_0 := n5_
     have HB := n6_
     clear n0_ n1_ n2_ n3_ n4_ n5_ n6_
     (try clear hb)
     (try clear hb2)
     (try clear hk)
     (try clear hi)
     (try clear ho0)
     refine hK.out _ _ ⟨(blk_cell BK101.out 0).trans rfl, HS1_⟩ (fun hHeld => ?_)
     clear hK K
     refine norm_ (a' := ?_) ?_ ?_
     rotate_left
     ·show Act.put _ (some 25) _ = _
      simp only [Act.put, List.setIfInBounds_toArray, List.set_cons_zero, List.set_cons_succ, i64_w, i32_w]
      rfl
     refine pure_ (i := 6) (N := some 8) (v := ?_) (a' := ?_) #[true, true, true, true, true, true, true] rfl rfl (by kernel_rfl) (fun _ _ _ h => h) (Or.inl ⟨by rfl, ?_⟩) ?_ ?_
     rotate_left
     ·intro w'
      go_simp
      with_reducible rfl
     rotate_left
     ·simp only [Act.put, List.setIfInBounds_toArray, List.set_cons_zero, List.set_cons_succ, i64_w, i32_w]
      rfl
     refine done_ (by kernel_rfl) ?_
     try go_wp2
     go_loopg [6, 9] k1 (fun kq v6 v9 w' => ∃ (x6_2 : List (List Int)) (x9_2 : Int), v9 = .int .i64 x9_2 ∧ Aside0 (spec_l10All.l1 kq t102 x6_2 x7_1 t109 x9_2 l0_0 = some r) ∧ Aside0 (kq ≤ k1) ∧ Aside0 (Kd.N (Kd.slice 2 (Kd.int .i64)) 22 w' w.heap.size (fun k_ => (w.heap.size ≤ k_) ∧ some k_ ≠ (v6 : Value).ownBlock ∧ some k_ ≠ (v110 : Value).ownBlock ∧ k_ ≠ gb101) (.slice (some ad108) t102.length co12) t102) ∧ Aside0 (Kd.N (Kd.slice 2 (Kd.int .i64)) 22 w' w.heap.size (fun k_ => (w.heap.size ≤ k_) ∧ some k_ ≠ ((.slice (some ad108) t102.length co12) : Value).ownBlock ∧ some k_ ≠ (v110 : Value).ownBlock ∧ k_ ≠ gb101) v6 x6_2) ∧ Aside0 (Kd.N (Kd.slice 2 (Kd.int .i64)) 22 w' w.heap.size (fun k_ => (w.heap.size ≤ k_) ∧ some k_ ≠ ((.slice (some ad108) t102.length co12) : Value).ownBlock ∧ some k_ ≠ (v6 : Value).ownBlock ∧ k_ ≠ gb101) v110 t109) ∧ Aside0 (w'.heap[gb101]? = some (.cells #[(.slice A0_0 l0_0.length c0_0)] 28 (0, 0))) ∧ Aside0 (Below w.heap.size w w'))
     case atStart => exact ⟨(x6_1), (0), (by first | rfl | (simp; done) | (simp [*]; done)), H', ⟨Nat.le_refl _⟩, ⟨by (with_reducible repeat (first | apply Kd.N_alloc | apply Kd.N_drewN | apply Kd.N_drew)); exact Kd.N_mono HO_5.out (fun _ hk => ⟨hk.1.1, ⟨hk.1.2.1, ⟨hk.2, hk.1.2.2⟩⟩⟩)⟩, ⟨by (with_reducible repeat (first | apply Kd.N_alloc | apply Kd.N_drewN | apply Kd.N_drew)); exact Kd.N_mono HO_6.out (fun _ hk => ⟨hk.1.1, ⟨hk.1.2.1, ⟨hk.2, hk.1.2.2⟩⟩⟩)⟩, ⟨by (with_reducible repeat (first | apply Kd.N_alloc | apply Kd.N_drewN | apply Kd.N_drew)); exact HO111.out⟩, ⟨by (with_reducible repeat (first | refine blk_drewN ?_ _ | refine blk_drew ?_ | refine blk_alloc ?_ _)); exact BK101.out⟩, ⟨by repeat (first | (with_reducible first | exact HB.out | apply below_alloc | apply pw_below_drewN | apply below_drew1 | refine below_set ?_ GE101.out) | exact HB.out)⟩⟩
     case round =>
      clear H'
      try clear c1
      try clear p1
      try clear q1
      try clear hx1
      try clear p2
      try clear c8
      try clear c9
      try clear c9b0
      try clear c10
      try clear c10b0
      try clear p10
      try clear q10
      try clear hx10
      try clear hcz5_0
      try clear hfz5_0
      try clear hx108_0
      try clear p108
      try clear p2
      try clear q108
      obtain ⟨x6_2, x9_2, rfl, HA, HK2, HO_5, HO_6, HO_8, BK101, HB⟩ := hrel
      cases gk with
      | zero => exact absurd HA.out (by simp [spec_l10All.l1])
      | succ k2 =>
       have H := HA.out
       clear HA
       simp only [spec_l10All.l1] at H
       by_cases c15 : x9_2 < (t109.length : Int)
       ·rw [if_pos c15] at H
        have c15b0 : decide (x9_2 < (t109.length : Int)) = true := decide_eq_true c15
        clear c15
        by_cases c16 : 0 ≤ x7_1
        ·rw [if_pos c16] at H
         have c16b0 : decide (0 ≤ x7_1) = true := decide_eq_true c16
         clear c16
         by_cases c17 : x7_1 < (t102.length : Int)
         ·rw [if_pos c17] at H
          have c17b0 : decide (x7_1 < (t102.length : Int)) = true := decide_eq_true c17
          clear c17
          replace H := Option.bind_eq_some_iff.mp H
          obtain ⟨t113, A180, H⟩ := H
          replace H : (if 0 ≤ x9_2 then (if t113.length + (rd_L1 t109 x9_2).length < 17592186044416 then (if x6_2.length < 5864062014805 then (spec_l10All.l1 k2 t102 (x6_2 ++ [(t113 ++ (rd_L1 t109 x9_2))]) x7_1 t109 (wrap64 (x9_2 + 1)) l0_0) else (none)) else (none)) else (none)) = some r := H
          have A18 := Aside0.mk A180
          clear A180
          by_cases c19 : 0 ≤ x9_2
          ·rw [if_pos c19] at H
           have c19b0 : decide (0 ≤ x9_2) = true := decide_eq_true c19
           clear c19
           by_cases c20 : t113.length + (rd_L1 t109 x9_2).length < 17592186044416
           ·rw [if_pos c20] at H
            have LMc20 := Aside0.mk c20
            clear c20
            obtain ⟨y117, hy117⟩ : ∃ y_ : List Int, y_ = (t113 ++ (rd_L1 t109 x9_2)) := ⟨_, rfl⟩
            replace H : (if x6_2.length < 5864062014805 then (spec_l10All.l1 k2 t102 (x6_2 ++ [y117]) x7_1 t109 (wrap64 (x9_2 + 1)) l0_0) else (none)) = some r := by first | (rw [hy117]; with_reducible exact H) | (have H2_ := (Option.bind_some _ _).symm.trans H; rw [hy117]; with_reducible exact H2_) | (have H2_ := (Option.bind_some _ _).symm.trans H; with_reducible exact H2_) | with_reducible exact H | (rw [hy117]; exact H) | exact H
            have Ny117 := Aside0.mk hy117
            clear hy117
            by_cases c21 : x6_2.length < 5864062014805
            ·rw [if_pos c21] at H
             have LMc21 := Aside0.mk c21
             clear c21
             obtain ⟨y120, hy120⟩ : ∃ y_ : List (List Int), y_ = (x6_2 ++ [y117]) := ⟨_, rfl⟩
             replace H : (spec_l10All.l1 k2 t102 y120 x7_1 t109 (wrap64 (x9_2 + 1)) l0_0) = some r := by first | (rw [hy120]; with_reducible exact H) | (have H2_ := (Option.bind_some _ _).symm.trans H; rw [hy120]; with_reducible exact H2_) | (have H2_ := (Option.bind_some _ _).symm.trans H; with_reducible exact H2_) | with_reducible exact H | (rw [hy120]; exact H) | exact H
             have Ny120 := Aside0.mk hy120
             clear hy120
             have H' := Aside0.mk H
             clear H
             obtain ⟨Ao22, co22, eo22⟩ := Kd.N_slice HO_8.out
             subst eo22
             try go_wp2
             have n0_ := Aside0.mk (Kd.N_drew HO_5.out)
             have n1_ := Aside0.mk (Kd.N_drew HO_6.out)
             have n2_ := Aside0.mk (Kd.N_drew HO_8.out)
             have n3_ := Aside0.mk (blk_drew BK101.out)
             have n4_ := Aside0.mk (below_drew1 HB.out)
             clear HO_5
             clear HO_6
             clear HO_8
             clear BK101
             clear HB
             have HO_5 := n0_
             have HO_6 := n1_
             have HO_8 := n2_
             have BK101 := n3_
             have HB := n4_
             clear n0_ n1_ n2_ n3_ n4_
             have p112 : 0 ≤ (x7_1 : Int) := of_decide_eq_true (by first | (with_reducible assumption) | assumption)
             have q112 : x7_1 < (t102.length : Int) := of_decide_eq_true (by first | (with_reducible assumption) | assumption)
             obtain ⟨ad112, A112_0, c112_0, e112, hx112_0, hl112_0, hi112_0⟩ := at_L1 (Kd.N_reads' HO_5.out).2.2 x7_1 p112 q112
             obtain rfl : ad108 = ad112 := (by injection e112)
             obtain ⟨ce112, hce112, hMe112, hcc112⟩ := Kd.N_get HO_5.out [] x7_1 p112 (by first | exact q112 | exact of_decide_eq_true (by first | (with_reducible assumption) | assumption) | (have e_ := (Kd.N_reads' HO_5.out).1; omega))
             obtain ⟨ua112_0, uc112_0, rfl, ul112_0, ge112_0⟩ := Kd.FK_slice_open hMe112
             have hv112_0 := hcc112 0 _ rfl
             rw [Nat.add_zero, show ((Kd.slice 2 (Kd.int .i64))).sz = 1 from rfl, Nat.mul_one] at hv112_0
             replace hv112_0 := Option.some.inj (hv112_0.symm.trans hx112_0)
             injection hv112_0 with hva_ hvn_ hvc_
             rw [hva_] at ge112_0
             rw [hvc_] at ul112_0
             have HL112_0 := Aside0.mk (show Kd.V (Kd.int .i64) 2 _ w.heap.size _ _ (rd_L1 t102 x7_1) from Kd.V_mk ul112_0 ge112_0)
             clear hva_ hvn_ hvc_ ge112_0 ul112_0
             clear hcc112 hce112
             have HR112_0 := Aside0.mk hi112_0
             have HC112_0 := Aside0.mk hl112_0
             clear hi112_0 hl112_0
             replace p112 := eq_true p112
             replace q112 := eq_true q112
             have p116 : 0 ≤ (x9_2 : Int) := of_decide_eq_true (by first | (with_reducible assumption) | assumption)
             have q116 : x9_2 < (t109.length : Int) := of_decide_eq_true (by first | (with_reducible assumption) | assumption)
             obtain ⟨ad116, A116_0, c116_0, e116, hx116_0, hl116_0, hi116_0⟩ := at_L1 (Kd.N_reads' HO_8.out).2.2 x9_2 p116 q116
             cases e116
             obtain ⟨ce116, hce116, hMe116, hcc116⟩ := Kd.N_get HO_8.out [] x9_2 p116 (by first | exact q116 | exact of_decide_eq_true (by first | (with_reducible assumption) | assumption) | (have e_ := (Kd.N_reads' HO_8.out).1; omega))
             obtain ⟨ua116_0, uc116_0, rfl, ul116_0, ge116_0⟩ := Kd.FK_slice_open hMe116
             have hv116_0 := hcc116 0 _ rfl
             rw [Nat.add_zero, show ((Kd.slice 2 (Kd.int .i64))).sz = 1 from rfl, Nat.mul_one] at hv116_0
             replace hv116_0 := Option.some.inj (hv116_0.symm.trans hx116_0)
             injection hv116_0 with hva_ hvn_ hvc_
             rw [hva_] at ge116_0
             rw [hvc_] at ul116_0
             have HL116_0 := Aside0.mk (show Kd.V (Kd.int .i64) 2 _ w.heap.size _ _ (rd_L1 t109 x9_2) from Kd.V_mk ul116_0 ge116_0)
             clear hva_ hvn_ hvc_ ge116_0 ul116_0
             clear hcc116 hce116
             have HR116_0 := Aside0.mk hi116_0
             have HC116_0 := Aside0.mk hl116_0
             clear hi116_0 hl116_0
             replace p116 := eq_true p116
             replace q116 := eq_true q116
             refine start_ (n := 14) (S := fun w' => w'.cell? (ad108.add (x7_1).toNat) = some (.slice A112_0 (rd_L1 t102 x7_1).length c112_0) ∧ w'.cell? (ad116.add (x9_2).toNat) = some (.slice A116_0 (rd_L1 t109 x9_2).length c116_0)) (ds := [10, 11, 12]) #[false, false, false, false, false, false, false, false, false, false, false, false, false, false] (by kernel_rfl) rfl rfl ⟨hx112_0, hx116_0⟩ (fun hHeld => ?_); refine with_tabW spec_l10All.tab9 spec_l10All.bits9 (fun HT_ HW_ => ?_)
             generalize wr.drew = w23 at HO_5 HO_6 HO_8 BK101 HB HL112_0 HL116_0 HR112_0 HR116_0 hx112_0 hx116_0 hHeld ⊢
             refine pure_ (i := 0) (N := some 32) (v := ?_) (a' := ?_) #[true, false, false, false, false, false, false, false, false, false, false, false, false, false] rfl rfl (any_of HT_.out (by kernel_rfl)) (fun _ _ _ h => h) (Or.inl ⟨by rfl, ?_⟩) ?_ ?_
             rotate_left
             ·intro w'
              go_simp
              with_reducible rfl
             rotate_left
             ·simp only [Act.put, List.setIfInBounds_toArray, List.set_cons_zero, List.set_cons_succ, i64_w, i32_w]
              rfl
             refine pure_ (i := 1) (N := some 33) (v := ?_) (a' := ?_) #[true, true, false, false, false, false, false, false, false, false, false, false, false, false] rfl rfl (any_of HT_.out (by kernel_rfl)) (fun _ _ _ h => h) (Or.inl ⟨by rfl, ?_⟩) ?_ ?_
             rotate_left
             ·intro w'
              go_simp
              with_reducible rfl
             rotate_left
             ·simp only [Act.put, List.setIfInBounds_toArray, List.set_cons_zero, List.set_cons_succ, i64_w, i32_w]
              rfl
             refine pure_ (i := 2) (N := some 34) (v := ?_) (a' := ?_) #[true, true, true, false, false, false, false, false, false, false, false, false, false, false] rfl rfl (any_of HT_.out (by kernel_rfl)) (fun _ _ _ h => h) (Or.inl ⟨by rfl, ?_⟩) ?_ ?_
             rotate_left
             ·intro w'
              go_simp
              with_reducible rfl
             rotate_left
             ·simp only [Act.put, List.setIfInBounds_toArray, List.set_cons_zero, List.set_cons_succ, i64_w, i32_w]
              rfl
             refine pure_ (i := 3) (N := some 35) (v := ?_) (a' := ?_) #[true, true, true, true, false, false, false, false, false, false, false, false, false, false] rfl rfl (any_of HT_.out (by kernel_rfl)) (fun _ _ _ h => h) (Or.inl ⟨by rfl, ?_⟩) ?_ ?_
             rotate_left
             ·intro w'
              go_simp
              with_reducible rfl
             rotate_left
             ·simp only [Act.put, List.setIfInBounds_toArray, List.set_cons_zero, List.set_cons_succ, i64_w, i32_w]
              rfl
             refine pure_ (i := 6) (N := some 38) (v := ?_) (a' := ?_) #[true, true, true, true, false, false, true, false, false, false, false, false, false, false] rfl rfl (any_of HT_.out (by kernel_rfl)) (fun _ _ _ h => h) (Or.inl ⟨by rfl, ?_⟩) ?_ ?_
             rotate_left
             ·intro w'
              go_simp
              with_reducible rfl
             rotate_left
             ·simp only [Act.put, List.setIfInBounds_toArray, List.set_cons_zero, List.set_cons_succ, i64_w, i32_w]
              rfl
             refine pure_ (i := 7) (N := some 39) (v := ?_) (a' := ?_) #[true, true, true, true, false, false, true, true, false, false, false, false, false, false] rfl rfl (any_of HT_.out (by kernel_rfl)) (fun _ _ _ h => h) (Or.inl ⟨by rfl, ?_⟩) ?_ ?_
             rotate_left
             ·intro w'
              go_simp
              with_reducible rfl
             rotate_left
             ·simp only [Act.put, List.setIfInBounds_toArray, List.set_cons_zero, List.set_cons_succ, i64_w, i32_w]
              rfl
             refine pure_ (i := 8) (N := some 40) (v := ?_) (a' := ?_) #[true, true, true, true, false, false, true, true, true, false, false, false, false, false] rfl rfl (any_of HT_.out (by kernel_rfl)) (fun _ _ _ h => h) (Or.inl ⟨by rfl, ?_⟩) ?_ ?_
             rotate_left
             ·intro w'
              go_simp
              with_reducible rfl
             rotate_left
             ·simp only [Act.put, List.setIfInBounds_toArray, List.set_cons_zero, List.set_cons_succ, i64_w, i32_w]
              rfl
             refine take_ (i := 4) (N := some 36) (v := ?_) (a' := ?_) #[true, true, true, true, true, false, true, true, true, false, false, false, false, false] rfl rfl (take_ofW HT_.out HW_.out (by kernel_rfl)) (fun _ _ _ h => h) (Or.inl ⟨by rfl, ?_⟩) hHeld ?_ ?_
             rotate_left
             ·rintro w' ⟨s0, s1⟩
              go_simp
              with_reducible rfl
             rotate_left
             ·simp only [Act.put, List.setIfInBounds_toArray, List.set_cons_zero, List.set_cons_succ, i64_w, i32_w]
              rfl
             refine take_ (i := 9) (N := some 41) (v := ?_) (a' := ?_) #[true, true, true, true, true, false, true, true, true, true, false, false, false, false] rfl rfl (take_ofW HT_.out HW_.out (by kernel_rfl)) (fun _ _ _ h => h) (Or.inl ⟨by rfl, ?_⟩) hHeld ?_ ?_
             rotate_left
             ·rintro w' ⟨s0, s1⟩
              go_simp
              with_reducible rfl
             rotate_left
             ·simp only [Act.put, List.setIfInBounds_toArray, List.set_cons_zero, List.set_cons_succ, i64_w, i32_w]
              rfl
             refine one_ (i := 5) (N := some 37) #[true, true, true, true, true, true, true, true, true, true, false, false, false, false] rfl rfl (one_of HT_.out (by kernel_rfl)) (by decide) (fun K hK => ?_)
             refine goes_ Try.func100 (by kernel_rfl) rfl #[.slice A112_0 (rd_L1 t102 x7_1).length c112_0] (by rfl) rfl rfl (by (try simp only [List.map_toArray, List.map_cons, List.map_nil]); first | done | rfl | (simp only [List.length_drop, List.length_take]; rfl)) ?_
             with_reducible refine (spec_l01Own.calls _ _ (rd_L1 t102 x7_1) t113 _ ?side1 ?side2 A18.out).mono ?_
             (case side1 => repeat (first | exact (by repeat (first | (with_reducible exact HR112_0.out) | (with_reducible refine Kd.C_alloc ?_ _) | (with_reducible refine Kd.C_drewN ?_ _) | (with_reducible refine Kd.C_drew ?_) | exact HR112_0.out)) | (with_reducible refine Kd.C_alloc ?_ _) | (with_reducible refine Kd.C_drewN ?_ _) | (with_reducible refine Kd.C_drew ?_)))
             (case side2 => exact HC112_0.out)
             rintro e w24 ⟨v114, rfl, ho0, hb⟩
             have HS0_ := (hb.cell (World.block_lt_of_cell? _ _ (hHeld.1))).trans (hHeld.1)
             have HS1_ := (hb.cell (World.block_lt_of_cell? _ _ (hHeld.2))).trans (hHeld.2)
             refine ⟨_, rfl, ?_⟩
             have n0_ := Aside0.mk (Kd.N_elder' (by (with_reducible repeat (first | apply Kd.N_alloc | apply Kd.N_drewN | apply Kd.N_drew)); exact HO_5.out) (Kd.R_base ho0) hb)
             have n1_ := Aside0.mk (Kd.N_elder' (by (with_reducible repeat (first | apply Kd.N_alloc | apply Kd.N_drewN | apply Kd.N_drew)); exact HO_6.out) (Kd.R_base ho0) hb)
             have n2_ := Aside0.mk (Kd.N_elder' (by (with_reducible repeat (first | apply Kd.N_alloc | apply Kd.N_drewN | apply Kd.N_drew)); exact HO_8.out) (Kd.R_base ho0) hb)
             have n3_ := Aside0.mk (Kd.V_elder' (by (with_reducible repeat (first | apply Kd.V_alloc | apply Kd.V_drewN | apply Kd.V_drew)); exact HL112_0.out) (Kd.R_base ho0) hb)
             have n4_ := Aside0.mk (Kd.V_elder' (by (with_reducible repeat (first | apply Kd.V_alloc | apply Kd.V_drewN | apply Kd.V_drew)); exact HL116_0.out) (Kd.R_base ho0) hb)
             have n5_ := Aside0.mk (Kd.R_lower (Kd.R_newM (M := fun k_ => (w.heap.size ≤ k_)) ho0 (below_size (by repeat (first | (with_reducible first | exact HB.out | apply below_alloc | apply pw_below_drewN | apply below_drew1 | refine below_set ?_ GE101.out) | exact HB.out))) (fun k_ h_ => h_)) (below_size (by repeat (first | (with_reducible first | exact HB.out | apply below_alloc | apply pw_below_drewN | apply below_drew1 | refine below_set ?_ GE101.out) | exact HB.out))))
             have n6_ := Aside0.mk (blk_below (g := gb101) (o := .cells #[.slice A0_0 l0_0.length c0_0] 28 (0, 0)) (by (with_reducible repeat (first | refine blk_drewN ?_ _ | refine blk_drew ?_ | refine blk_alloc ?_ _)); exact BK101.out) hb)
             have n7_ := Aside0.mk (Kd.C_below (by repeat (first | (with_reducible exact HR112_0.out) | (with_reducible refine Kd.C_alloc ?_ _) | (with_reducible refine Kd.C_drewN ?_ _) | (with_reducible refine Kd.C_drew ?_) | exact HR112_0.out)) hb)
             have n8_ := Aside0.mk (Kd.C_below (by repeat (first | (with_reducible exact HR116_0.out) | (with_reducible refine Kd.C_alloc ?_ _) | (with_reducible refine Kd.C_drewN ?_ _) | (with_reducible refine Kd.C_drew ?_) | exact HR116_0.out)) hb)
             have n9_ := Aside0.mk (below_step (by repeat (first | (with_reducible first | exact HB.out | apply below_alloc | apply pw_below_drewN | apply below_drew1 | refine below_set ?_ GE101.out) | exact HB.out)) hb)
             clear HO_5
             clear HO_6
             clear HO_8
             clear HL112_0
             clear HL116_0
             clear BK101
             clear HR112_0
             clear HR116_0
             clear HB
             have HO_5 := n0_
             have HO_6 := n1_
             have HO_8 := n2_
             have HL112_0 := n3_
             have HL116_0 := n4_
             have HO115 := n5_
             have BK101 := n6_
             have HR112_0 := n7_
             have HR116_0 := n8_
             have HB := n9_
             clear n0_ n1_ n2_ n3_ n4_ n5_ n6_ n7_ n8_ n9_
             (try clear hb)
             (try clear hb2)
             (try clear hk)
             (try clear hi)
             (try clear ho0)
             refine hK.out _ _ ⟨HS0_, HS1_⟩ (fun hHeld => ?_)
             clear hK K
             refine norm_ (a' := ?_) ?_ ?_
             rotate_left
             ·show Act.put _ (some 37) _ = _
              simp only [Act.put, List.setIfInBounds_toArray, List.set_cons_zero, List.set_cons_succ, i64_w, i32_w]
              rfl
             refine last_ (i := 10) (N := some 42) #[true, true, true, true, true, true, true, true, true, true, true, false, false, false] rfl rfl (one_of HT_.out (by kernel_rfl)) (by decide) (fun K hK => ?_)
             refine Kd.R_append_rows_step (Kd.int .i64) (w0 := w) w.heap.size (by rfl) (.tmp 37) (.tmp 41) 22 2 (.int .i64 0) 8 rfl Try.underlying22 info2 rfl (by decide) (by omega) v114 t113 (rd_L1 t109 x9_2) _ _ _ (fun k_ => (w.heap.size ≤ k_)) (fun _ => False) rfl rfl ?aO ?aR (fun _ _ h => h) (fun _ h => h.elim) ?aF ?aB ?aS ?aL ?_
             (case aR => repeat (first | exact (by repeat (first | (with_reducible exact HR116_0.out) | (with_reducible refine Kd.C_alloc ?_ _) | (with_reducible refine Kd.C_drewN ?_ _) | (with_reducible refine Kd.C_drew ?_) | exact HR116_0.out)) | (with_reducible refine Kd.C_alloc ?_ _) | (with_reducible refine Kd.C_drewN ?_ _) | (with_reducible refine Kd.C_drew ?_)))
             (case aB => exact (by repeat (first | (with_reducible first | exact HB.out | apply below_alloc | apply pw_below_drewN | apply below_drew1 | refine below_set ?_ GE101.out) | exact HB.out)))
             (case aF => exact (fun k_ hk => (Nat.le_trans (below_size (by repeat (first | (with_reducible first | exact HB.out | apply below_alloc | apply pw_below_drewN | apply below_drew1 | refine below_set ?_ GE101.out) | exact HB.out))) hk)))
             (case aO => exact (by (with_reducible repeat (first | apply Kd.R_alloc | apply Kd.R_drewN | apply Kd.R_drew)); exact Kd.R_mono HO115.out (fun _ hk => hk.1)))
             (case aS => exact (below_size (by repeat (first | (with_reducible first | exact HB.out | apply below_alloc | apply pw_below_drewN | apply below_drew1 | refine below_set ?_ GE101.out) | exact HB.out))))
             (case aL => have := LMc20.out; omega)
             intro v118 w25 ho hb hg hat
             rw [← Ny117.out] at ho
             have n0_ := Aside0.mk (Kd.N_afterv (ok := (fun k_ => (w.heap.size ≤ k_) ∧ some k_ ≠ (u6 : Value).ownBlock ∧ some k_ ≠ (.slice (some ad116) t109.length co22 : Value).ownBlock ∧ k_ ≠ gb101)) (by (with_reducible repeat (first | apply Kd.N_alloc | apply Kd.N_drewN | apply Kd.N_drew)); exact HO_5.out) hg hat)
             have n1_ := Aside0.mk (Kd.N_afterv (ok := (fun k_ => (w.heap.size ≤ k_) ∧ some k_ ≠ (.slice (some ad108) t102.length co12 : Value).ownBlock ∧ some k_ ≠ (.slice (some ad116) t109.length co22 : Value).ownBlock ∧ k_ ≠ gb101)) (by (with_reducible repeat (first | apply Kd.N_alloc | apply Kd.N_drewN | apply Kd.N_drew)); exact HO_6.out) hg hat)
             have n2_ := Aside0.mk (Kd.N_afterv (ok := (fun k_ => (w.heap.size ≤ k_) ∧ some k_ ≠ (.slice (some ad108) t102.length co12 : Value).ownBlock ∧ some k_ ≠ (u6 : Value).ownBlock ∧ k_ ≠ gb101)) (by (with_reducible repeat (first | apply Kd.N_alloc | apply Kd.N_drewN | apply Kd.N_drew)); exact HO_8.out) hg hat)
             have n3_ := Aside0.mk (blk_grown (g := gb101) (o := .cells #[.slice A0_0 l0_0.length c0_0] 28 (0, 0)) (by (with_reducible repeat (first | refine blk_drewN ?_ _ | refine blk_drew ?_ | refine blk_alloc ?_ _)); exact BK101.out) hg (Kd.R_ne HO115.out BK101.out (by decide)))
             have n4_ := Aside0.mk (Kd.V_afterv (ok := (fun k_ => (w.heap.size ≤ k_) ∧ some k_ ≠ (.slice (some ad108) t102.length co12 : Value).ownBlock ∧ some k_ ≠ (u6 : Value).ownBlock ∧ some k_ ≠ (.slice (some ad116) t109.length co22 : Value).ownBlock ∧ k_ ≠ gb101)) (by (with_reducible repeat (first | apply Kd.V_alloc | apply Kd.V_drewN | apply Kd.V_drew)); exact Kd.V_mono HL112_0.out (fun _ hk => ⟨⟨hk.1.1.1, ⟨hk.1.2, ⟨hk.1.1.2.1, ⟨hk.1.1.2.2.1, hk.1.1.2.2.2⟩⟩⟩⟩, hk.2⟩)) hg hat)
             have n5_ := Aside0.mk (Kd.V_afterv (ok := (fun k_ => (w.heap.size ≤ k_) ∧ some k_ ≠ (.slice (some ad108) t102.length co12 : Value).ownBlock ∧ some k_ ≠ (u6 : Value).ownBlock ∧ some k_ ≠ (.slice (some ad116) t109.length co22 : Value).ownBlock ∧ k_ ≠ gb101)) (by (with_reducible repeat (first | apply Kd.V_alloc | apply Kd.V_drewN | apply Kd.V_drew)); exact Kd.V_mono HL116_0.out (fun _ hk => ⟨⟨hk.1.1.1, ⟨hk.1.1.2.1, ⟨hk.1.1.2.2.1, ⟨hk.1.2, hk.1.1.2.2.2⟩⟩⟩⟩, hk.2⟩)) hg hat)
             have n6_ := Aside0.mk (hb)
             have n7_ := Aside0.mk (ho)
             clear HO_5
             clear HO_6
             clear HO_8
             clear BK101
             clear HL112_0
             clear HL116_0
             clear HB
             clear HO115
             have HO_5 := n0_
             have HO_6 := n1_
             have HO_8 := n2_
             have BK101 := n3_
             have HL112_0 := n4_
             have HL116_0 := n5_
             have HB := n6_
             have HO119 := n7_
             clear n0_ n1_ n2_ n3_ n4_ n5_ n6_ n7_
             clear ho hb hg hat
             obtain ⟨Ao27, co27, eo27⟩ := Kd.R_slice HO119.out
             (first | subst eo27 | (injection eo27 with f1_ f2_ f3_; have f4_ := f1_.symm; have f5_ := f3_.symm; clear f1_ f2_ f3_; subst f4_; subst f5_))
             refine hK.out _ _ ?_
             clear hK K
             refine norm_ (a' := ?_) ?_ ?_
             rotate_left
             ·show Act.put _ (some 42) _ = _
              simp only [Act.put, List.setIfInBounds_toArray, List.set_cons_zero, List.set_cons_succ, i64_w, i32_w]
              rfl
             refine last_ (i := 11) (N := some 43) #[true, true, true, true, true, true, true, true, true, true, true, true, false, false] rfl rfl (one_of HT_.out (by kernel_rfl)) (by decide) (fun K hK => ?_)
             refine value_ (w1 := ?_) (v := ?_) (by rfl) rfl ?_ ?_
             rotate_left 2
             ·go_simp
              constructor
              ·rfl
              ·rfl
             refine hK.out _ _ ?_
             clear hK K
             refine norm_ (a' := ?_) ?_ ?_
             rotate_left
             ·show Act.put _ (some 43) _ = _
              simp only [Act.put, List.setIfInBounds_toArray, List.set_cons_zero, List.set_cons_succ, i64_w, i32_w]
              rfl
             refine last_ (i := 12) (N := some 44) #[true, true, true, true, true, true, true, true, true, true, true, true, true, false] rfl rfl (one_of HT_.out (by kernel_rfl)) (by decide) (fun K hK => ?_)
             refine Kd.N_append_step (Kd.slice 2 (Kd.int .i64)) (w0 := w) w.heap.size (by rfl) (.tmp 32) (.tmp 43) 42 22 (.slice none 0 0) 24 rfl Try.underlying42 info22 rfl (by decide) (by omega) u6 x6_2 y117 [.slice Ao27 y117.length co27] (fun k_ => (w.heap.size ≤ k_) ∧ some k_ ≠ (.slice (some ad108) t102.length co12 : Value).ownBlock ∧ some k_ ≠ (.slice (some ad116) t109.length co22 : Value).ownBlock ∧ k_ ≠ gb101) (fun k_ => ((fun k_ => (w.heap.size ≤ k_) ∧ some k_ ≠ (.slice (some ad108) t102.length co12 : Value).ownBlock ∧ some k_ ≠ (.slice (some ad116) t109.length co22 : Value).ownBlock ∧ k_ ≠ gb101)) k_ ∧ some k_ ≠ (u6 : Value).ownBlock) rfl rfl ?aP (fun _ hk => hk) ?aF ?aO ?aB ?aS ?aL ?_
             (case aP => exact (Kd.FK_slice_mk (Kd.R_reads' (Kd.R_mono (ok' := (fun k_ => ((fun k_ => (w.heap.size ≤ k_) ∧ some k_ ≠ (.slice (some ad108) t102.length co12 : Value).ownBlock ∧ some k_ ≠ (.slice (some ad116) t109.length co22 : Value).ownBlock ∧ k_ ≠ gb101)) k_ ∧ some k_ ≠ (u6 : Value).ownBlock)) (Kd.R_types (Kd.R_apart' (Kd.R_apart' (Kd.R_apart' (HO119.out) (Kd.N_typed HO_5.out) (by decide)) (Kd.N_typed HO_8.out) (by decide)) (Kd.N_typed HO_6.out) (by decide)) BK101.out (by decide)) (fun k_ hk => ⟨⟨hk.1.1.1.1, ⟨hk.1.1.1.2, ⟨hk.1.1.2, hk.2⟩⟩⟩, hk.1.2⟩))).2.1 (Kd.R_F (Kd.R_mono (ok' := (fun k_ => ((fun k_ => (w.heap.size ≤ k_) ∧ some k_ ≠ (.slice (some ad108) t102.length co12 : Value).ownBlock ∧ some k_ ≠ (.slice (some ad116) t109.length co22 : Value).ownBlock ∧ k_ ≠ gb101)) k_ ∧ some k_ ≠ (u6 : Value).ownBlock)) (Kd.R_types (Kd.R_apart' (Kd.R_apart' (Kd.R_apart' (HO119.out) (Kd.N_typed HO_5.out) (by decide)) (Kd.N_typed HO_8.out) (by decide)) (Kd.N_typed HO_6.out) (by decide)) BK101.out (by decide)) (fun k_ hk => ⟨⟨hk.1.1.1.1, ⟨hk.1.1.1.2, ⟨hk.1.1.2, hk.2⟩⟩⟩, hk.1.2⟩)))))
             (case aB => exact (by repeat (first | (with_reducible first | exact HB.out | apply below_alloc | apply pw_below_drewN | apply below_drew1 | refine below_set ?_ GE101.out) | exact HB.out)))
             (case aF => exact (fun k_ hk => ⟨(Nat.le_trans (below_size (by repeat (first | (with_reducible first | exact HB.out | apply below_alloc | apply pw_below_drewN | apply below_drew1 | refine below_set ?_ GE101.out) | exact HB.out))) hk), Kd.fresh' (Kd.N_lt (by (with_reducible repeat (first | apply Kd.N_alloc | apply Kd.N_drewN | apply Kd.N_drew)); exact HO_5.out)) k_ hk, Kd.fresh' (Kd.N_lt (by (with_reducible repeat (first | apply Kd.N_alloc | apply Kd.N_drewN | apply Kd.N_drew)); exact HO_8.out)) k_ hk, Kd.freshB (g := gb101) (o := .cells #[.slice A0_0 l0_0.length c0_0] 28 (0, 0)) (by (with_reducible repeat (first | refine blk_drewN ?_ _ | refine blk_drew ?_ | refine blk_alloc ?_ _)); exact BK101.out) k_ hk⟩))
             (case aO => exact (by (with_reducible repeat (first | apply Kd.N_alloc | apply Kd.N_drewN | apply Kd.N_drew)); exact Kd.N_mono HO_6.out (fun _ hk => ⟨hk.1.1, ⟨hk.1.2.1, ⟨hk.1.2.2.1, hk.1.2.2.2⟩⟩⟩)))
             (case aS => exact (below_size (by repeat (first | (with_reducible first | exact HB.out | apply below_alloc | apply pw_below_drewN | apply below_drew1 | refine below_set ?_ GE101.out) | exact HB.out))))
             (case aL => have := LMc21.out; omega)
             intro v121 w26 ho hb hg hat
             rw [← Ny120.out] at ho
             have n0_ := Aside0.mk (Kd.N_afterv (ok := (fun k_ => (w.heap.size ≤ k_) ∧ some k_ ≠ (.slice (some ad116) t109.length co22 : Value).ownBlock ∧ some k_ ≠ (.slice Ao27 y117.length co27 : Value).ownBlock ∧ k_ ≠ gb101)) (by (with_reducible repeat (first | apply Kd.N_alloc | apply Kd.N_drewN | apply Kd.N_drew)); exact Kd.N_mono HO_5.out (fun _ hk => ⟨⟨hk.1.1, ⟨hk.1.2.2.1, ⟨hk.2, hk.1.2.2.2⟩⟩⟩, hk.1.2.1⟩)) hg hat)
             have n1_ := Aside0.mk (Kd.N_afterv (ok := (fun k_ => (w.heap.size ≤ k_) ∧ some k_ ≠ (.slice (some ad108) t102.length co12 : Value).ownBlock ∧ some k_ ≠ (.slice Ao27 y117.length co27 : Value).ownBlock ∧ k_ ≠ gb101)) (by (with_reducible repeat (first | apply Kd.N_alloc | apply Kd.N_drewN | apply Kd.N_drew)); exact Kd.N_mono HO_8.out (fun _ hk => ⟨⟨hk.1.1, ⟨hk.1.2.1, ⟨hk.2, hk.1.2.2.2⟩⟩⟩, hk.1.2.2.1⟩)) hg hat)
             have n2_ := Aside0.mk (blk_grown (g := gb101) (o := .cells #[.slice A0_0 l0_0.length c0_0] 28 (0, 0)) (by (with_reducible repeat (first | refine blk_drewN ?_ _ | refine blk_drew ?_ | refine blk_alloc ?_ _)); exact BK101.out) hg (Kd.N_ne HO_6.out BK101.out (by decide)))
             have n3_ := Aside0.mk (Kd.V_afterv (ok := (fun k_ => (w.heap.size ≤ k_) ∧ some k_ ≠ (.slice (some ad108) t102.length co12 : Value).ownBlock ∧ some k_ ≠ (.slice (some ad116) t109.length co22 : Value).ownBlock ∧ some k_ ≠ (.slice Ao27 y117.length co27 : Value).ownBlock ∧ k_ ≠ gb101)) (by (with_reducible repeat (first | apply Kd.V_alloc | apply Kd.V_drewN | apply Kd.V_drew)); exact Kd.V_mono HL112_0.out (fun _ hk => ⟨⟨hk.1.1, ⟨hk.1.2.1, ⟨hk.1.2.2.2.1, ⟨hk.2, hk.1.2.2.2.2⟩⟩⟩⟩, hk.1.2.2.1⟩)) hg hat)
             have n4_ := Aside0.mk (Kd.V_afterv (ok := (fun k_ => (w.heap.size ≤ k_) ∧ some k_ ≠ (.slice (some ad108) t102.length co12 : Value).ownBlock ∧ some k_ ≠ (.slice (some ad116) t109.length co22 : Value).ownBlock ∧ some k_ ≠ (.slice Ao27 y117.length co27 : Value).ownBlock ∧ k_ ≠ gb101)) (by (with_reducible repeat (first | apply Kd.V_alloc | apply Kd.V_drewN | apply Kd.V_drew)); exact Kd.V_mono HL116_0.out (fun _ hk => ⟨⟨hk.1.1, ⟨hk.1.2.1, ⟨hk.1.2.2.2.1, ⟨hk.2, hk.1.2.2.2.2⟩⟩⟩⟩, hk.1.2.2.1⟩)) hg hat)
             have n5_ := Aside0.mk (hb)
             have n6_ := Aside0.mk (ho)
             clear HO_5
             clear HO_8
             clear BK101
             clear HL112_0
             clear HL116_0
             clear HB
             clear HO_6
             clear HO119
             have HO_5 := n0_
             have HO_8 := n1_
             have BK101 := n2_
             have HL112_0 := n3_
             have HL116_0 := n4_
             have HB := n5_
             have HO122 := n6_
             clear n0_ n1_ n2_ n3_ n4_ n5_ n6_
             clear ho hb hg hat
             refine hK.out _ _ ?_
             clear hK K
             refine norm_ (a' := ?_) ?_ ?_
             rotate_left
             ·show Act.put _ (some 44) _ = _
              simp only [Act.put, List.setIfInBounds_toArray, List.set_cons_zero, List.set_cons_succ, i64_w, i32_w]
              rfl
             refine pure_ (i := 13) (N := some 6) (v := ?_) (a' := ?_) #[true, true, true, true, true, true, true, true, true, true, true, true, true, true] rfl rfl (any_of HT_.out (by kernel_rfl)) (fun _ _ _ h => h) (Or.inl ⟨by rfl, ?_⟩) ?_ ?_
             rotate_left
             ·intro w'
              go_simp
              with_reducible rfl
             rotate_left
             ·simp only [Act.put, List.setIfInBounds_toArray, List.set_cons_zero, List.set_cons_succ, i64_w, i32_w]
              rfl
             refine done_ (done_of HT_.out (by kernel_rfl)) ?_
             try go_wp2
             go_roundg k2
             case measure => have := HK1.out; have := HK2.out; omega
             case rel => exact ⟨(y120), (wrap64 (x9_2 + 1)), (by first | rfl | (simp; done) | (simp [*]; done)), H', ⟨by have := HK1.out; have := HK2.out; omega⟩, ⟨by (with_reducible repeat (first | apply Kd.N_alloc | apply Kd.N_drewN | apply Kd.N_drew)); exact Kd.N_mono HO_5.out (fun _ hk => ⟨hk.1.1, ⟨hk.2, ⟨hk.1.2.1, hk.1.2.2.2⟩⟩⟩)⟩, ⟨by (with_reducible repeat (first | apply Kd.N_alloc | apply Kd.N_drewN | apply Kd.N_drew)); exact HO122.out⟩, ⟨by (with_reducible repeat (first | apply Kd.N_alloc | apply Kd.N_drewN | apply Kd.N_drew)); exact Kd.N_mono HO_8.out (fun _ hk => ⟨hk.1.1, ⟨hk.1.2.1, ⟨hk.2, hk.1.2.2.2⟩⟩⟩)⟩, ⟨by (with_reducible repeat (first | refine blk_drewN ?_ _ | refine blk_drew ?_ | refine blk_alloc ?_ _)); exact BK101.out⟩, ⟨by repeat (first | (with_reducible first | exact HB.out | apply below_alloc | apply pw_below_drewN | apply below_drew1 | refine below_set ?_ GE101.out) | exact HB.out)⟩⟩
            ·rw [if_neg c21] at H
             exact absurd H (by simp)
           ·rw [if_neg c20] at H
            exact absurd H (by simp)
          ·rw [if_neg c19] at H
           exact absurd H (by simp)
         ·rw [if_neg c17] at H
          exact absurd H (by simp)
        ·rw [if_neg c16] at H
         exact absurd H (by simp)
       ·rw [if_neg c15] at H
        have c15b0 : decide (x9_2 < (t109.length : Int)) = false := decide_eq_false c15
        clear c15
        have H' := Aside0.mk H
        clear H
        obtain ⟨Ao28, co28, eo28⟩ := Kd.N_slice HO_8.out
        subst eo28
        go_wp2
        go_roundg k2
        case measure => have := HK1.out; have := HK2.out; omega
        case rel => exact ⟨(x6_2), (wrap64 (x7_1 + 1)), (by first | rfl | (simp; done) | (simp [*]; done)), H', ⟨by have := HK1.out; have := HK2.out; omega⟩, ⟨by (with_reducible repeat (first | apply Kd.N_alloc | apply Kd.N_drewN | apply Kd.N_drew)); exact Kd.N_mono HO_5.out (fun _ hk => ⟨hk.1, ⟨hk.2.1, hk.2.2.2⟩⟩)⟩, ⟨by (with_reducible repeat (first | apply Kd.N_alloc | apply Kd.N_drewN | apply Kd.N_drew)); exact Kd.N_mono HO_6.out (fun _ hk => ⟨hk.1, ⟨hk.2.1, hk.2.2.2⟩⟩)⟩, ⟨by (with_reducible repeat (first | refine blk_drewN ?_ _ | refine blk_drew ?_ | refine blk_alloc ?_ _)); exact BK101.out⟩, ⟨by repeat (first | (with_reducible first | exact HB.out | apply below_alloc | apply pw_below_drewN | apply below_drew1 | refine below_set ?_ GE101.out) | exact HB.out)⟩⟩
    ·rw [if_neg c10] at H
     exact absurd H (by simp)
   ·rw [if_neg c9] at H
    have c9b0 : decide (x7_1 < (t102.length : Int)) = false := decide_eq_false c9
    clear c9
    obtain rfl := Option.some.inj H
    obtain ⟨Ao29, co29, eo29⟩ := Kd.N_slice HO_5.out
    subst eo29
    go_wp2
    go_ret
    exact ⟨_, by first | rfl | (simp [errW_none, errW_some] <;> rfl) | (simp [*, errW_none, errW_some] <;> rfl), by (with_reducible repeat (first | apply Kd.N_alloc | apply Kd.N_drewN | apply Kd.N_drew)); exact Kd.N_mono HO_6.out (fun _ hk => hk.1), by repeat (first | (with_reducible first | exact HB.out | apply below_alloc | apply pw_below_drewN | apply below_drew1 | refine below_set ?_ GE101.out) | exact HB.out)⟩
def spec_l01Digits.l0 : Nat → Int → List Int → Int → List Int → Option (List Int)
 | 0, _, _, _, _ => none
 | k + 1, x1, x5, x6, x102000 => if x6 ≥ 0 then (if 0 ≤ x6 then (if x6 < (x102000.length : Int) then (if (rd x102000 x6) = 0 then (none) else (if x6 < (x5.length : Int) then (spec_l01Digits.l0 k (wrap64 (Int.tdiv x1 (rd x102000 x6))) (x5.set (x6 : Int).toNat (Int.tmod x1 (rd x102000 x6))) (wrap64 (x6 - 1)) x102000) else (none))) else (none)) else (none)) else (some x5)
def spec_l01Digits.f (k : Nat) (l0_0 : List Int) (a1 : Int) : Option (List Int) := if 0 ≤ (l0_0.length : Int) then (if ((l0_0.length : Int) : Int).toNat ≤ 35184372088832 then (spec_l01Digits.l0 k a1 (List.replicate ((l0_0.length : Int) : Int).toNat 0) (wrap64 ((l0_0.length : Int) - 1)) l0_0) else (none)) else (none)
set_option maxHeartbeats 8000000 in
set_option maxRecDepth 100000 in
theorem spec_l01Digits.calls (k : Nat) (A0_0 : Option Addr) (c0_0 : Nat) (l0_0 : List Int) (a1 : Int) (r : List Int) (w : World) (hr0_0 : Kd.C (Kd.int .i64) w A0_0 l0_0.length l0_0) (hc0_0 : l0_0.length ≤ c0_0) (h : spec_l01Digits.f k l0_0 a1 = some r) :
  Calls Try.prog 97 #[.agg #[.slice A0_0 l0_0.length c0_0], .int .i64 a1] w fun e w' => ∃ v0_ : Value, e = .returned (v0_) ∧ Kd.R (Kd.int .i64) 2 w' w.heap.size (fun _ => True) v0_ r ∧ Below w.heap.size w w' := by
 have hu28 := Try.underlying28
 have HR0_0 := Aside0.mk hr0_0
 have HC0_0 := Aside0.mk hc0_0
 clear hr0_0 hc0_0
 have HB := Aside0.mk (Below.refl w.heap.size w)
 have H : (if 0 ≤ (l0_0.length : Int) then (if ((l0_0.length : Int) : Int).toNat ≤ 35184372088832 then (spec_l01Digits.l0 k a1 (List.replicate ((l0_0.length : Int) : Int).toNat 0) (wrap64 ((l0_0.length : Int) - 1)) l0_0) else (none)) else (none)) = some r := h
 clear h
 by_cases c3 : 0 ≤ (l0_0.length : Int)
 ·rw [if_pos c3] at H
  have c3b0 := eq_true c3
  have c3b1 : decide (0 ≤ (l0_0.length : Int)) = true := decide_eq_true c3
  clear c3
  by_cases c4 : ((l0_0.length : Int) : Int).toNat ≤ 35184372088832
  ·rw [if_pos c4] at H
   have c4b0 := eq_true c4
   have c4b1 : decide (((l0_0.length : Int) : Int).toNat ≤ 35184372088832) = true := decide_eq_true c4
   clear c4
   obtain ⟨y102, hy102⟩ : ∃ y_ : List Int, y_ = (List.replicate ((l0_0.length : Int) : Int).toNat 0) := ⟨_, rfl⟩
   replace H : (spec_l01Digits.l0 k a1 y102 (wrap64 ((l0_0.length : Int) - 1)) l0_0) = some r := by first | (rw [hy102]; with_reducible exact H) | (have H2_ := (Option.bind_some _ _).symm.trans H; rw [hy102]; with_reducible exact H2_) | (have H2_ := (Option.bind_some _ _).symm.trans H; with_reducible exact H2_) | with_reducible exact H | (rw [hy102]; exact H) | exact H
   have Ny102 := Aside0.mk hy102
   clear hy102
   have H' := Aside0.mk H
   clear H
   go_enter Try.func97, Try.ntmps97
   go_wp2_with (first | ((with_reducible refine gate_dst (N := 2) rfl ?_); refine box_event ?hg (N := 2) ?hd (cs := #[.slice A0_0 l0_0.length c0_0]) (t := 28) ?hr ?_; (case hd => rfl); (case hg => rfl); (case hr => first | (go_simp; done) | (go_simp; rfl)); intro gb101 hg w5 hbox hb; have n0_ := Aside0.mk (below_step (by repeat (first | (with_reducible first | exact HB.out | apply below_alloc | apply pw_below_drewN | apply below_drew1) | exact HB.out)) hb); have n1_ := Aside0.mk (hbox); have n2_ := Aside0.mk ((by rw [hg]; exact (below_size (by repeat (first | (with_reducible first | exact HB.out | apply below_alloc | apply pw_below_drewN | apply below_drew1) | exact HB.out))) : w.heap.size ≤ gb101)); have n3_ := Aside0.mk ((by rw [hg]; exact (below_size (by repeat (first | (with_reducible first | exact HB.out | apply below_alloc | apply pw_below_drewN | apply below_drew1) | exact HB.out))) : w.heap.size ≤ gb101)); clear HB; have HB := n0_; have BK101 := n1_; have GW101 := n2_; have GE101 := n3_; clear n0_ n1_ n2_ n3_; clear hb hbox hg; have hcz6_0 : w5.cell? ⟨gb101, 0, none⟩ = some (.slice A0_0 l0_0.length c0_0) := (blk_cell BK101.out 0).trans rfl; have hfz6_0 := blk_frozen BK101.out 0) | ((with_reducible refine gate_dst (N := 10) rfl ?_); refine Kd.R_make (Kd.int .i64) _ 2 rfl (N := 10) rfl 22 _ _ rfl (l0_0.length : Int) rfl rfl Try.underlying22 (.int .i64 0) 8 info2 rfl (by decide) (by omega) 0 (ok := fun _ => True) (okp := fun _ => True) rfl (fun _ hk => hk) trivial (of_decide_eq_true (by first | (with_reducible assumption) | assumption)) (Nat.le_trans (Nat.mul_le_mul_right _ (of_decide_eq_true (by first | (with_reducible assumption) | assumption) : (l0_0.length : Int).toNat ≤ 35184372088832)) (by omega)) (Below.refl _ _) (Nat.le_refl _) ?_; intro v103 w7 ho8 hb hg_ hnew_; clear hg_ hnew_; (first | rw [← Ny102.out] at ho8 | (simp only [Int.reduceToNat] at ho8; rw [← Ny102.out] at ho8)); have n0_ := Aside0.mk (Kd.R_lower ho8 (below_size (by repeat (first | (with_reducible first | exact HB.out | apply below_alloc | apply pw_below_drewN | apply below_drew1 | refine below_set ?_ GE101.out) | exact HB.out)))); have n1_ := Aside0.mk (blk_below (g := gb101) (o := .cells #[.slice A0_0 l0_0.length c0_0] 28 (0, 0)) (by (with_reducible repeat (first | refine blk_drewN ?_ _ | refine blk_drew ?_ | refine blk_alloc ?_ _)); exact BK101.out) hb); have n2_ := Aside0.mk (below_step (by repeat (first | (with_reducible first | exact HB.out | apply below_alloc | apply pw_below_drewN | apply below_drew1 | refine below_set ?_ GE101.out) | exact HB.out)) hb); clear BK101; clear HB; have HO104 := n0_; have BK101 := n1_; have HB := n2_; clear n0_ n1_ n2_; clear hb ho8; have hcz9_0 : w7.cell? ⟨gb101, 0, none⟩ = some (.slice A0_0 l0_0.length c0_0) := (blk_cell BK101.out 0).trans rfl; have hfz9_0 := blk_frozen BK101.out 0))
   go_loopg [1, 6] k (fun kq v1 v6 w' => ∃ (x1_1 : Int) (x5_1 : List Int) (x6_1 : Int), v1 = .int .i64 x1_1 ∧ v6 = .int .i64 x6_1 ∧ Aside0 (spec_l01Digits.l0 kq x1_1 x5_1 x6_1 l0_0 = some r) ∧ Aside0 (kq ≤ k) ∧ Aside0 (Kd.R (Kd.int .i64) 2 w' w.heap.size (fun _ => True) v103 x5_1) ∧ Aside0 (w'.heap[gb101]? = some (.cells #[(.slice A0_0 l0_0.length c0_0)] 28 (0, 0))) ∧ Aside0 (Below w.heap.size w w'))
   case atStart => exact ⟨(a1), (y102), (wrap64 ((l0_0.length : Int) - 1)), (by first | rfl | (simp; done) | (simp [*]; done)), (by first | rfl | (simp; done) | (simp [*]; done)), H', ⟨Nat.le_refl _⟩, ⟨by (with_reducible repeat (first | apply Kd.R_alloc | apply Kd.R_drewN | apply Kd.R_drew)); exact HO104.out⟩, ⟨by (with_reducible repeat (first | refine blk_drewN ?_ _ | refine blk_drew ?_ | refine blk_alloc ?_ _)); exact BK101.out⟩, ⟨by repeat (first | (with_reducible first | exact HB.out | apply below_alloc | apply pw_below_drewN | apply below_drew1 | refine below_set ?_ GE101.out) | exact HB.out)⟩⟩
   case round =>
    clear H'
    try clear p2
    try clear c3
    try clear c3b0
    try clear c3b1
    try clear c4
    try clear c4b0
    try clear c4b1
    try clear p6
    try clear c9
    try clear hcz6_0
    try clear hcz9_0
    try clear hfz6_0
    try clear hfz9_0
    obtain ⟨x1_1, x5_1, x6_1, rfl, rfl, HA, HK1, HO_5, BK101, HB⟩ := hrel
    cases gk with
    | zero => exact absurd HA.out (by simp [spec_l01Digits.l0])
    | succ k1 =>
     have H := HA.out
     clear HA
     simp only [spec_l01Digits.l0] at H
     by_cases c10 : x6_1 ≥ 0
     ·rw [if_pos c10] at H
      have c10b0 : decide (0 ≤ x6_1) = true := decide_eq_true c10
      clear c10
      by_cases c11 : 0 ≤ x6_1
      ·rw [if_pos c11] at H
       have c11b0 : decide (0 ≤ x6_1) = true := decide_eq_true c11
       clear c11
       by_cases c12 : x6_1 < (l0_0.length : Int)
       ·rw [if_pos c12] at H
        have c12b0 : decide (x6_1 < (l0_0.length : Int)) = true := decide_eq_true c12
        clear c12
        by_cases c13 : (rd l0_0 x6_1) = 0
        ·rw [if_pos c13] at H
         exact absurd H (by simp)
        ·rw [if_neg c13] at H
         have c13b0 : ((rd l0_0 x6_1) == 0) = false := beq_eq_false_iff_ne.mpr c13
         have c13b1 : ((rd l0_0 x6_1) != 0) = true := bne_iff_ne.mpr c13
         by_cases c14 : x6_1 < (x5_1.length : Int)
         ·rw [if_pos c14] at H
          have c14b0 : decide (x6_1 < (x5_1.length : Int)) = true := decide_eq_true c14
          clear c14
          obtain ⟨y106, hy106⟩ : ∃ y_ : List Int, y_ = (x5_1.set (x6_1 : Int).toNat (Int.tmod x1_1 (rd l0_0 x6_1))) := ⟨_, rfl⟩
          replace H : (spec_l01Digits.l0 k1 (wrap64 (Int.tdiv x1_1 (rd l0_0 x6_1))) y106 (wrap64 (x6_1 - 1)) l0_0) = some r := by first | (rw [hy106]; with_reducible exact H) | (have H2_ := (Option.bind_some _ _).symm.trans H; rw [hy106]; with_reducible exact H2_) | (have H2_ := (Option.bind_some _ _).symm.trans H; with_reducible exact H2_) | with_reducible exact H | (rw [hy106]; exact H) | exact H
          have Ny106 := Aside0.mk hy106
          clear hy106
          have H' := Aside0.mk H
          clear H
          have hcz16_0 : wr.cell? ⟨gb101, 0, none⟩ = some (.slice A0_0 l0_0.length c0_0) := (blk_cell BK101.out 0).trans rfl
          have hfz16_0 := blk_frozen BK101.out 0
          have p105 : 0 ≤ (x6_1 : Int) := of_decide_eq_true (by first | (with_reducible assumption) | assumption)
          have q105 : x6_1 < (l0_0.length : Int) := of_decide_eq_true (by first | (with_reducible assumption) | assumption)
          obtain ⟨ad105, e105, hx105_0⟩ := Kd.at_int HR0_0.out x6_1 p105 q105
          cases e105
          replace hx105_0 := (HB.out.cell (World.block_lt_of_cell? w _ hx105_0)).trans hx105_0
          replace p105 := eq_true p105
          replace q105 := eq_true q105
          have p15 : 0 ≤ (x6_1 : Int) := of_decide_eq_true (by first | (with_reducible assumption) | assumption)
          have q15 : (x6_1 : Int) < ((x5_1.length : Int) : Int) := of_decide_eq_true (by first | (with_reducible assumption) | assumption)
          obtain ⟨go15, co15, eo15, gb15, gl15, cl15, HG15⟩ := Kd.R_form HO_5.out (by omega)
          (first | cases eo15 | (injection eo15 with ea_ en_ ec_; (first | subst ea_ | (injection ea_ with ea_; subst ea_)); subst ec_; clear en_))
          have GB15 := Aside0.mk gb15
          have GG15 := Aside0.mk HG15
          clear gb15 gl15 HG15
          obtain ⟨hx15_0, hf15_0⟩ := Kd.R_celln 0 HO_5.out (x6_1 : Int) p15 q15
          replace p15 := eq_true p15
          replace q15 := eq_true q15
          have HP17 := Kd.R_putg HO_5.out (x6_1 : Int) (Int.tmod x1_1 (rd l0_0 x6_1))
          go_wp2_with (first | ((with_reducible refine gate_store (t := 2) (p := 28) rfl ?_); refine store_event (t := 2) (p := 28) (v := ?vo_w18) (w1 := (wr.setCell ⟨go15, (x6_1 : Int).toNat, none⟩ (.int .i64 (Int.tmod x1_1 (rd l0_0 x6_1))))) ?hg ?ho ?hn ?hr ?_; (case ho => rfl); (case hg => rfl); (case hn => rfl); (case hr => first | (go_simp; done) | (go_simp; rfl)); intro w18 hw; have hg : wr.grownBy w18 (some go15) := (by rw [hw]; exact HP17.2); have hp_ : Kd.R (Kd.int .i64) 2 w18 w.heap.size (fun _ => True) (.slice (some ⟨go15, 0, none⟩) x5_1.length co15) y106 := (by rw [hw, Ny106.out]; exact HP17.1); clear HP17; have n0_ := Aside0.mk (hp_); have n1_ := Aside0.mk (blk_grown (g := gb101) (o := .cells #[.slice (some ad105) l0_0.length c0_0] 28 (0, 0)) (by (with_reducible repeat (first | refine blk_drewN ?_ _ | refine blk_drew ?_ | refine blk_alloc ?_ _)); exact BK101.out) hg (Kd.R_ne HO_5.out BK101.out (by decide))); have n2_ := Aside0.mk ((by rw [hw]; exact below_set (HB.out) GB15.out : Below w.heap.size w w18)); clear HO_5; clear BK101; clear HB; have HO_5 := n0_; have BK101 := n1_; have HB := n2_; clear n0_ n1_ n2_; clear hg hw hp_; have hcz19_0 : w18.cell? ⟨gb101, 0, none⟩ = some (.slice (some ad105) l0_0.length c0_0) := (blk_cell BK101.out 0).trans rfl; have hfz19_0 := blk_frozen BK101.out 0; have p107 : 0 ≤ (x6_1 : Int) := of_decide_eq_true (by first | (with_reducible assumption) | assumption); have q107 : x6_1 < (l0_0.length : Int) := of_decide_eq_true (by first | (with_reducible assumption) | assumption); obtain ⟨ad107, e107, hx107_0⟩ := Kd.at_int HR0_0.out x6_1 p107 q107; obtain rfl : ad105 = ad107 := (by injection e107); replace hx107_0 := (HB.out.cell (World.block_lt_of_cell? w _ hx107_0)).trans hx107_0; replace p107 := eq_true p107; replace q107 := eq_true q107))
          go_roundg k1
          case measure => have := HK1.out; omega
          case rel => exact ⟨(wrap64 (Int.tdiv x1_1 (rd l0_0 x6_1))), (y106), (wrap64 (x6_1 - 1)), (by first | rfl | (simp; done) | (simp [*]; done)), (by first | rfl | (simp; done) | (simp [*]; done)), H', ⟨by have := HK1.out; omega⟩, ⟨by (with_reducible repeat (first | apply Kd.R_alloc | apply Kd.R_drewN | apply Kd.R_drew)); exact HO_5.out⟩, ⟨by (with_reducible repeat (first | refine blk_drewN ?_ _ | refine blk_drew ?_ | refine blk_alloc ?_ _)); exact BK101.out⟩, ⟨by repeat (first | (with_reducible first | exact HB.out | apply below_alloc | apply pw_below_drewN | apply below_drew1 | refine below_set ?_ GE101.out) | exact HB.out)⟩⟩
         ·rw [if_neg c14] at H
          exact absurd H (by simp)
       ·rw [if_neg c12] at H
        exact absurd H (by simp)
      ·rw [if_neg c11] at H
       exact absurd H (by simp)
     ·rw [if_neg c10] at H
      have c10b0 : decide (0 ≤ x6_1) = false := decide_eq_false c10
      clear c10
      obtain rfl := Option.some.inj H
      go_wp2
      go_ret
      exact ⟨_, by first | rfl | (simp [errW_none, errW_some] <;> rfl) | (simp [*, errW_none, errW_some] <;> rfl), by (with_reducible repeat (first | apply Kd.R_alloc | apply Kd.R_drewN | apply Kd.R_drew)); exact HO_5.out, by repeat (first | (with_reducible first | exact HB.out | apply below_alloc | apply pw_below_drewN | apply below_drew1 | refine below_set ?_ GE101.out) | exact HB.out)⟩
  ·rw [if_neg c4] at H
   exact absurd H (by simp)
 ·rw [if_neg c3] at H
  exact absurd H (by simp)
def spec_l10Has.l0 : Nat → List Int → List Int → Int → Int → Option (Bool)
 | 0, _, _, _, _ => none
 | k + 1, x0, x1, x5, x6 => if x6 < x5 then (if 0 ≤ x6 then (if x6 < (x1.length : Int) then (if 0 ≤ (rd x1 x6) then (if (rd x1 x6) < (x0.length : Int) then (if 0 ≤ (wrap64 (x5 + x6)) then (if (wrap64 (x5 + x6)) < (x1.length : Int) then (if (rd x0 (rd x1 x6)) = (rd x1 (wrap64 (x5 + x6))) then (spec_l10Has.l0 k x0 x1 x5 (wrap64 (x6 + 1))) else (some false)) else (none)) else (none)) else (none)) else (none)) else (none)) else (none)) else (some true)
def spec_l10Has.f (k : Nat) (l0 : List Int) (l1 : List Int) : Option (Bool) := spec_l10Has.l0 k l0 l1 (wrap64 ((l1.length : Int) / 2)) 0
set_option maxHeartbeats 8000000 in
set_option maxRecDepth 100000 in
theorem spec_l10Has.calls (k : Nat) (A0 : Option Addr) (c0 : Nat) (l0 : List Int) (A1 : Option Addr) (c1 : Nat) (l1 : List Int) (r : Bool) (w : World) (hr0 : Kd.C (Kd.int .i64) w A0 l0.length l0) (hc0 : l0.length ≤ c0) (hr1 : Kd.C (Kd.int .i64) w A1 l1.length l1) (hc1 : l1.length ≤ c1) (h : spec_l10Has.f k l0 l1 = some r) :
  Calls Try.prog 98 #[.slice A0 l0.length c0, .slice A1 l1.length c1] w fun e w' => e = .returned (.bool r) ∧ Drawn0 w w' := by
 have HR0 := Aside0.mk hr0
 have HC0 := Aside0.mk hc0
 clear hr0 hc0
 have HR1 := Aside0.mk hr1
 have HC1 := Aside0.mk hc1
 clear hr1 hc1
 have H : (spec_l10Has.l0 k l0 l1 (wrap64 ((l1.length : Int) / 2)) 0) = some r := h
 clear h
 have H' := Aside0.mk H
 clear H
 go_enter Try.func98, Try.ntmps98
 go_wp2
 repeat (go_quiet (fail); try go_wp2)
 go_loopg [6] k (fun kq v6 w' => ∃ (x6_1 : Int), v6 = .int .i64 x6_1 ∧ Aside0 (spec_l10Has.l0 kq l0 l1 (wrap64 ((l1.length : Int) / 2)) x6_1 = some r) ∧ Aside0 (kq ≤ k) ∧ Drawn0 w w')
 case atStart => exact ⟨(0), (by first | rfl | (simp; done) | (simp [*]; done)), H', ⟨Nat.le_refl _⟩, by repeat (first | exact Drawn0.refl _ | apply Drawn0.step)⟩
 case round =>
  clear H'
  try clear c1
  try clear p2
  obtain ⟨x6_1, rfl, HA, HK1, ⟨m1, rfl⟩⟩ := hrel
  cases gk with
  | zero => exact absurd HA.out (by simp [spec_l10Has.l0])
  | succ k1 =>
   have H := HA.out
   clear HA
   simp only [spec_l10Has.l0] at H
   by_cases c3 : x6_1 < (wrap64 ((l1.length : Int) / 2))
   ·rw [if_pos c3] at H
    have c3b0 : decide (x6_1 < (wrap64 ((l1.length : Int) / 2))) = true := decide_eq_true c3
    clear c3
    by_cases c4 : 0 ≤ x6_1
    ·rw [if_pos c4] at H
     have c4b0 : decide (0 ≤ x6_1) = true := decide_eq_true c4
     clear c4
     by_cases c5 : x6_1 < (l1.length : Int)
     ·rw [if_pos c5] at H
      have c5b0 : decide (x6_1 < (l1.length : Int)) = true := decide_eq_true c5
      clear c5
      by_cases c6 : 0 ≤ (rd l1 x6_1)
      ·rw [if_pos c6] at H
       have c6b0 : decide (0 ≤ (rd l1 x6_1)) = true := decide_eq_true c6
       clear c6
       by_cases c7 : (rd l1 x6_1) < (l0.length : Int)
       ·rw [if_pos c7] at H
        have c7b0 : decide ((rd l1 x6_1) < (l0.length : Int)) = true := decide_eq_true c7
        clear c7
        obtain ⟨ji8, hji8⟩ : ∃ j_ : Int, (wrap64 ((wrap64 ((l1.length : Int) / 2)) + x6_1)) = j_ := ⟨_, rfl⟩
        replace H : (if 0 ≤ (ji8) then (if (ji8) < (l1.length : Int) then (if (rd l0 (rd l1 x6_1)) = (rd l1 (ji8)) then (spec_l10Has.l0 k1 l0 l1 (wrap64 ((l1.length : Int) / 2)) (wrap64 (x6_1 + 1))) else (some false)) else (none)) else (none)) = some r := by first | (rw [hji8] at H; exact H) | (simp only [hji8] at H ⊢; exact H)
        have hji8w : (IntKind.i64.wrap ((wrap64 ((l1.length : Int) / 2)) + x6_1)) = ji8 := (i64_w _).trans hji8
        by_cases c9 : 0 ≤ (ji8)
        ·rw [if_pos c9] at H
         have c9b0 : decide (0 ≤ (ji8)) = true := decide_eq_true c9
         clear c9
         by_cases c10 : (ji8) < (l1.length : Int)
         ·rw [if_pos c10] at H
          have c10b0 : decide ((ji8) < (l1.length : Int)) = true := decide_eq_true c10
          clear c10
          by_cases c11 : (rd l0 (rd l1 x6_1)) = (rd l1 (ji8))
          ·rw [if_pos c11] at H
           have c11b0 : ((rd l0 (rd l1 x6_1)) == (rd l1 (ji8))) = true := beq_iff_eq.mpr c11
           have c11b1 : ((rd l0 (rd l1 x6_1)) != (rd l1 (ji8))) = false := bne_eq_false_iff_eq.mpr c11
           clear c11
           have H' := Aside0.mk H
           clear H
           have p101 : 0 ≤ (x6_1 : Int) := of_decide_eq_true (by first | (with_reducible assumption) | assumption)
           have q101 : x6_1 < (l1.length : Int) := of_decide_eq_true (by first | (with_reducible assumption) | assumption)
           obtain ⟨ad101, e101, hx101_0⟩ := Kd.at_int HR1.out x6_1 p101 q101
           cases e101
           replace p101 := eq_true p101
           replace q101 := eq_true q101
           have p102 : 0 ≤ ((rd l1 x6_1) : Int) := of_decide_eq_true (by first | (with_reducible assumption) | assumption)
           have q102 : (rd l1 x6_1) < (l0.length : Int) := of_decide_eq_true (by first | (with_reducible assumption) | assumption)
           obtain ⟨ad102, e102, hx102_0⟩ := Kd.at_int HR0.out (rd l1 x6_1) p102 q102
           cases e102
           replace p102 := eq_true p102
           replace q102 := eq_true q102
           have p103 : 0 ≤ ((ji8) : Int) := of_decide_eq_true (by first | (with_reducible assumption) | assumption)
           have q103 : (ji8) < (l1.length : Int) := of_decide_eq_true (by first | (with_reducible assumption) | assumption)
           obtain ⟨ad103, e103, hx103_0⟩ := Kd.at_int HR1.out (ji8) p103 q103
           obtain rfl : ad101 = ad103 := (by injection e103)
           replace p103 := eq_true p103
           replace q103 := eq_true q103
           go_wp2
           repeat (go_quiet (fail); try go_wp2)
           go_roundg k1
           case measure => have := HK1.out; omega
           case rel => exact ⟨(wrap64 (x6_1 + 1)), (by first | rfl | (simp; done) | (simp [*]; done)), H', ⟨by have := HK1.out; omega⟩, by repeat (first | exact Drawn0.refl _ | apply Drawn0.step)⟩
          ·rw [if_neg c11] at H
           have c11b0 : ((rd l0 (rd l1 x6_1)) == (rd l1 (ji8))) = false := beq_eq_false_iff_ne.mpr c11
           have c11b1 : ((rd l0 (rd l1 x6_1)) != (rd l1 (ji8))) = true := bne_iff_ne.mpr c11
           obtain rfl := Option.some.inj H
           have p101 : 0 ≤ (x6_1 : Int) := of_decide_eq_true (by first | (with_reducible assumption) | assumption)
           have q101 : x6_1 < (l1.length : Int) := of_decide_eq_true (by first | (with_reducible assumption) | assumption)
           obtain ⟨ad101, e101, hx101_0⟩ := Kd.at_int HR1.out x6_1 p101 q101
           cases e101
           replace p101 := eq_true p101
           replace q101 := eq_true q101
           have p102 : 0 ≤ ((rd l1 x6_1) : Int) := of_decide_eq_true (by first | (with_reducible assumption) | assumption)
           have q102 : (rd l1 x6_1) < (l0.length : Int) := of_decide_eq_true (by first | (with_reducible assumption) | assumption)
           obtain ⟨ad102, e102, hx102_0⟩ := Kd.at_int HR0.out (rd l1 x6_1) p102 q102
           cases e102
           replace p102 := eq_true p102
           replace q102 := eq_true q102
           have p103 : 0 ≤ ((ji8) : Int) := of_decide_eq_true (by first | (with_reducible assumption) | assumption)
           have q103 : (ji8) < (l1.length : Int) := of_decide_eq_true (by first | (with_reducible assumption) | assumption)
           obtain ⟨ad103, e103, hx103_0⟩ := Kd.at_int HR1.out (ji8) p103 q103
           obtain rfl : ad101 = ad103 := (by injection e103)
           replace p103 := eq_true p103
           replace q103 := eq_true q103
           go_wp2
           repeat (go_quiet (fail); try go_wp2)
           go_ret
           exact ⟨by first | rfl | (simp; done) | (simp only [← hji8] <;> (first | rfl | simp)) | (simp [*]; done), by repeat (first | exact Drawn0.refl _ | apply Drawn0.step)⟩
         ·rw [if_neg c10] at H
          exact absurd H (by simp)
        ·rw [if_neg c9] at H
         exact absurd H (by simp)
       ·rw [if_neg c7] at H
        exact absurd H (by simp)
      ·rw [if_neg c6] at H
       exact absurd H (by simp)
     ·rw [if_neg c5] at H
      exact absurd H (by simp)
    ·rw [if_neg c4] at H
     exact absurd H (by simp)
   ·rw [if_neg c3] at H
    have c3b0 : decide (x6_1 < (wrap64 ((l1.length : Int) / 2))) = false := decide_eq_false c3
    clear c3
    obtain rfl := Option.some.inj H
    go_wp2
    repeat (go_quiet (fail); try go_wp2)
    go_ret
    exact ⟨by first | rfl | (simp; done) | (simp [*]; done), by repeat (first | exact Drawn0.refl _ | apply Drawn0.step)⟩
mutual
def spec_l10Missing.l0 : Nat → List Int → List (List Int) → Int → List Int → Option ((List (List Int)))
 | 0, _, _, _, _ => none
 | k + 1, x2, x7, x8, x129000 => if x8 < (x2.length : Int) then (if 0 ≤ x8 then ((spec_l01Digits.f k x129000 (rd x2 x8)).bind fun t130 => (spec_l10Missing.l1 k x2 x7 x8 t130 (([] : List (List Int))) 0 x129000)) else (none)) else (some x7)
def spec_l10Missing.l1 : Nat → List Int → List (List Int) → Int → List Int → List (List Int) → Int → List Int → Option ((List (List Int)))
 | 0, _, _, _, _, _, _, _ => none
 | k + 1, x2, x7, x8, x9, x10, x11, x129000 => if x11 < (x7.length : Int) then (if 0 ≤ x11 then ((spec_l10Has.f k x9 (rd_L1 x7 x11)).bind fun t137 => (if t137 = true then (spec_l10Missing.l1 k x2 x7 x8 x9 x10 (wrap64 (x11 + 1)) x129000) else (if x10.length < 5864062014805 then (spec_l10Missing.l1 k x2 x7 x8 x9 (x10 ++ [rd_L1 x7 x11]) (wrap64 (x11 + 1)) x129000) else (none)))) else (none)) else (spec_l10Missing.l0 k x2 x10 (wrap64 (x8 + 1)) x129000)
end
def spec_l10Missing.f (k : Nat) (l0_0 : List Int) (l1 : List (List Int)) (l2 : List Int) : Option ((List (List Int))) := spec_l10Missing.l0 k l2 l1 0 l0_0
def spec_l10Missing.T5 : Bool × List (List Nat × List Nat) := (true, [([], []), ([], []), ([], []), ([1, 2], [1, 2]), ([3], [3]), ([0, 4], [0, 4]), ([], []), ([5, 5, 0, 1, 2, 3, 4, 5], [5]), ([6, 7, 0, 1, 2, 3, 4, 5, 6, 7], [6])])
def spec_l10Missing.B5 : List Nat := [0, 0, 0, 6, 14, 31, 0, 63, 255]
theorem spec_l10Missing.tab5 : rtab .any (opsOf Try.f87 5) = spec_l10Missing.T5 := by kernel_rfl
theorem spec_l10Missing.bits5 : waitsOk spec_l10Missing.T5.2 spec_l10Missing.B5 = true := by kernel_rfl
set_option maxHeartbeats 8000000 in
set_option maxRecDepth 100000 in
theorem spec_l10Missing.calls (k : Nat) (A0_0 : Option Addr) (c0_0 : Nat) (l0_0 : List Int) (P1_ : Nat → Prop) (A1 : Option Addr) (c1 : Nat) (l1 : List (List Int)) (A2 : Option Addr) (c2 : Nat) (l2 : List Int) (r : List (List Int)) (w : World) (hr0_0 : Kd.C (Kd.int .i64) w A0_0 l0_0.length l0_0) (hc0_0 : l0_0.length ≤ c0_0) (hs1 : Kd.V (Kd.slice 2 (Kd.int .i64)) 22 w w.heap.size (fun k_ => P1_ k_) (.slice A1 l1.length c1) l1) (hr2 : Kd.C (Kd.int .i64) w A2 l2.length l2) (hc2 : l2.length ≤ c2) (h : spec_l10Missing.f k l0_0 l1 l2 = some r) :
  Calls Try.prog 87 #[.agg #[.slice A0_0 l0_0.length c0_0], .slice A1 l1.length c1, .slice A2 l2.length c2] w fun e w' => ∃ v0_ : Value, e = .returned (v0_) ∧ Kd.V (Kd.slice 2 (Kd.int .i64)) 22 w' w.heap.size (fun k_ => (P1_ k_ ∨ w.heap.size ≤ k_)) v0_ r ∧ Below w.heap.size w w' := by
 have hu28 := Try.underlying28
 have HR0_0 := Aside0.mk hr0_0
 have HC0_0 := Aside0.mk hc0_0
 clear hr0_0 hc0_0
 have HO1 := Aside0.mk (show Kd.V (Kd.slice 2 (Kd.int .i64)) 22 w w.heap.size (fun k_ => (P1_ k_ ∨ w.heap.size ≤ k_)) (.slice A1 l1.length c1) l1 from Kd.V_mono hs1 (fun k_ hk => .inl hk))
 have HR2 := Aside0.mk hr2
 have HC2 := Aside0.mk hc2
 clear hr2 hc2
 have HB := Aside0.mk (Below.refl w.heap.size w)
 have H : (spec_l10Missing.l0 k l2 l1 0 l0_0) = some r := h
 clear h
 have H' := Aside0.mk H
 clear H
 go_enter Try.func87, Try.ntmps87
 go_wp2_with (first | ((with_reducible refine gate_dst (N := 3) rfl ?_); refine box_event ?hg (N := 3) ?hd (cs := #[.slice A0_0 l0_0.length c0_0]) (t := 28) ?hr ?_; (case hd => rfl); (case hg => rfl); (case hr => first | (go_simp; done) | (go_simp; rfl)); intro gb128 hg w4 hbox hb; have n0_ := Aside0.mk (Kd.V_below (Kd.V_elderB (by (with_reducible repeat (first | apply Kd.V_alloc | apply Kd.V_drewN | apply Kd.V_drew)); exact HO1.out) gb128 (Nat.le_of_eq hg.symm)) hb); have n1_ := Aside0.mk (below_step (by repeat (first | (with_reducible first | exact HB.out | apply below_alloc | apply pw_below_drewN | apply below_drew1) | exact HB.out)) hb); have n2_ := Aside0.mk (hbox); have n3_ := Aside0.mk ((by rw [hg]; exact (below_size (by repeat (first | (with_reducible first | exact HB.out | apply below_alloc | apply pw_below_drewN | apply below_drew1) | exact HB.out))) : w.heap.size ≤ gb128)); have n4_ := Aside0.mk ((by rw [hg]; exact (below_size (by repeat (first | (with_reducible first | exact HB.out | apply below_alloc | apply pw_below_drewN | apply below_drew1) | exact HB.out))) : w.heap.size ≤ gb128)); clear HO1; clear HB; have HO1 := n0_; have HB := n1_; have BK128 := n2_; have GW128 := n3_; have GE128 := n4_; clear n0_ n1_ n2_ n3_ n4_; clear hb hbox hg))
 go_loopg [7, 8] k (fun kq v7 v8 w' => ∃ (x7_1 : List (List Int)) (x8_1 : Int), v8 = .int .i64 x8_1 ∧ Aside0 (spec_l10Missing.l0 kq l2 x7_1 x8_1 l0_0 = some r) ∧ Aside0 (kq ≤ k) ∧ Aside0 (Kd.V (Kd.slice 2 (Kd.int .i64)) 22 w' w.heap.size (fun k_ => (P1_ k_ ∨ w.heap.size ≤ k_) ∧ k_ ≠ gb128) v7 x7_1) ∧ Aside0 (w'.heap[gb128]? = some (.cells #[(.slice A0_0 l0_0.length c0_0)] 28 (0, 0))) ∧ Aside0 (Below w.heap.size w w'))
 case atStart => exact ⟨(l1), (0), (by first | rfl | (simp; done) | (simp [*]; done)), H', ⟨Nat.le_refl _⟩, ⟨by (with_reducible repeat (first | apply Kd.V_alloc | apply Kd.V_drewN | apply Kd.V_drew)); exact HO1.out⟩, ⟨by (with_reducible repeat (first | refine blk_drewN ?_ _ | refine blk_drew ?_ | refine blk_alloc ?_ _)); exact BK128.out⟩, ⟨by repeat (first | (with_reducible first | exact HB.out | apply below_alloc | apply pw_below_drewN | apply below_drew1 | refine below_set ?_ GE128.out) | exact HB.out)⟩⟩
 case round =>
  clear H'
  try clear c1
  try clear c2
  try clear p2
  obtain ⟨x7_1, x8_1, rfl, HA, HK1, HO_7, BK128, HB⟩ := hrel
  cases gk with
  | zero => exact absurd HA.out (by simp [spec_l10Missing.l0])
  | succ k1 =>
   have H := HA.out
   clear HA
   simp only [spec_l10Missing.l0] at H
   by_cases c5 : x8_1 < (l2.length : Int)
   ·rw [if_pos c5] at H
    have c5b0 : decide (x8_1 < (l2.length : Int)) = true := decide_eq_true c5
    clear c5
    by_cases c6 : 0 ≤ x8_1
    ·rw [if_pos c6] at H
     have c6b0 : decide (0 ≤ x8_1) = true := decide_eq_true c6
     clear c6
     replace H := Option.bind_eq_some_iff.mp H
     obtain ⟨t130, A70, H⟩ := H
     replace H : (spec_l10Missing.l1 k1 l2 x7_1 x8_1 t130 (([] : List (List Int))) 0 l0_0) = some r := H
     have A7 := Aside0.mk A70
     clear A70
     obtain ⟨y133, hy133⟩ : ∃ y_ : List (List Int), y_ = (([] : List (List Int))) := ⟨_, rfl⟩
     replace H : (spec_l10Missing.l1 k1 l2 x7_1 x8_1 t130 y133 0 l0_0) = some r := by first | (rw [hy133]; with_reducible exact H) | (have H2_ := (Option.bind_some _ _).symm.trans H; rw [hy133]; with_reducible exact H2_) | (have H2_ := (Option.bind_some _ _).symm.trans H; with_reducible exact H2_) | with_reducible exact H | (rw [hy133]; exact H) | exact H
     have Ny133 := Aside0.mk hy133
     clear hy133
     have H' := Aside0.mk H
     clear H
     try go_wp2
     have n0_ := Aside0.mk (Kd.V_drew HO_7.out)
     have n1_ := Aside0.mk (blk_drew BK128.out)
     have n2_ := Aside0.mk (below_drew1 HB.out)
     clear HO_7
     clear BK128
     clear HB
     have HO_7 := n0_
     have BK128 := n1_
     have HB := n2_
     clear n0_ n1_ n2_
     have p129 : 0 ≤ (x8_1 : Int) := of_decide_eq_true (by first | (with_reducible assumption) | assumption)
     have q129 : x8_1 < (l2.length : Int) := of_decide_eq_true (by first | (with_reducible assumption) | assumption)
     obtain ⟨ad129, e129, hx129_0⟩ := Kd.at_int HR2.out x8_1 p129 q129
     have hw129_0 := hx129_0
     cases e129
     replace hx129_0 := (HB.out.cell (World.block_lt_of_cell? w _ hx129_0)).trans hx129_0
     replace p129 := eq_true p129
     replace q129 := eq_true q129
     refine start_ (n := 9) (S := fun w' => True) (ds := []) #[false, false, false, false, false, false, false, false, false] (by kernel_rfl) rfl rfl trivial (fun hHeld => ?_); refine with_tabW spec_l10Missing.tab5 spec_l10Missing.bits5 (fun HT_ HW_ => ?_)
     generalize wr.drew = w8 at HO_7 BK128 HB hx129_0 hHeld ⊢
     refine pure_ (i := 1) (N := some 20) (v := ?_) (a' := ?_) #[false, true, false, false, false, false, false, false, false] rfl rfl (any_of HT_.out (by kernel_rfl)) (fun _ _ _ h => h) (Or.inl ⟨by rfl, ?_⟩) ?_ ?_
     rotate_left
     ·intro w'
      go_simp
      with_reducible rfl
     rotate_left
     ·simp only [Act.put, List.setIfInBounds_toArray, List.set_cons_zero, List.set_cons_succ, i64_w, i32_w]
      rfl
     refine pure_ (i := 2) (N := some 21) (v := ?_) (a' := ?_) #[false, true, true, false, false, false, false, false, false] rfl rfl (any_of HT_.out (by kernel_rfl)) (fun _ _ _ h => h) (Or.inl ⟨by rfl, ?_⟩) ?_ ?_
     rotate_left
     ·intro w'
      go_simp
      with_reducible rfl
     rotate_left
     ·simp only [Act.put, List.setIfInBounds_toArray, List.set_cons_zero, List.set_cons_succ, i64_w, i32_w]
      rfl
     refine inv_at [0, 3, 4, 5, 6, 7, 8] (fun a0_ b a w' => ∃ (v131 : Value) (v134 : Value) (m7_ : Value) (m8_ : Value), a = putSel a0_ b [(0, 19, .agg #[.slice A0_0 l0_0.length c0_0]), (3, 22, .pointer (some (ad129.add (x8_1).toNat))), (4, 23, .int .i64 (rd l2 x8_1)), (5, 24, v131), (6, 25, v134), (7, 9, m7_), (8, 10, m8_)] ∧ (Kd.V (Kd.slice 2 (Kd.int .i64)) 22 w' w.heap.size (fun k_ => (P1_ k_ ∨ w.heap.size ≤ k_) ∧ some k_ ≠ v131.ownBlock ∧ some k_ ≠ v134.ownBlock ∧ k_ ≠ gb128) u7 x7_1) ∧ (∀ k_, v131.ownBlock = some k_ → k_ < w'.heap.size) ∧ (∀ k_, v134.ownBlock = some k_ → k_ < w'.heap.size) ∧ (w'.heap[gb128]? = some (.cells #[.slice A0_0 l0_0.length c0_0] 28 (0, 0))) ∧ (Below w.heap.size w w') ∧ (b 5 = true → Kd.R (Kd.int .i64) 2 w' w.heap.size (fun k_ => (w.heap.size ≤ k_)) v131 t130) ∧ (b 6 = true → Kd.N (Kd.slice 2 (Kd.int .i64)) 22 w' w.heap.size (fun k_ => (P1_ k_ ∨ w.heap.size ≤ k_) ∧ some k_ ≠ v131.ownBlock ∧ k_ ≠ gb128) v134 y133) ∧ (b 7 = true → (m7_ : Value) = v131) ∧ (b 8 = true → (m8_ : Value) = v134)) HT_.out HW_.out (by kernel_rfl) (by kernel_rfl) ?_ ?_ ?_
     ·exact ⟨.bool false, .bool false, .bool false, .bool false, by simp only [putSel, Bool.false_eq_true, if_false], Kd.V_mono HO_7.out (fun _ hk => ⟨hk.1, by simp [Value.ownBlock], by simp [Value.ownBlock], hk.2⟩), by simp [Value.ownBlock], by simp [Value.ownBlock], BK128.out, HB.out, fun h_ => absurd h_ (by decide), fun h_ => absurd h_ (by decide), fun h_ => absurd h_ (by decide), fun h_ => absurd h_ (by decide)⟩
     ·skip
      clear BK128 HB HO_7
      refine steps_cons ?_ ?_
      ·rintro b a w' ⟨v131, v134, m7_, m8_, ha, Q_HO_7, Q_L1, Q_L4, Q_BK128, Q_HB, Q_HO132, Q_HO135, Q_X7_, Q_X8_⟩ hb_ hon hoff
       refine ⟨_, rfl, fun K hK => ?_⟩
       have e3 : a.tmps[3]? = some (.pointer (some ⟨gb128, 0, none⟩)) := by rw [ha]; exact (putSel_off rfl).trans rfl
       replace ha := Aside0.mk ha
       have HO_7 := Aside0.mk Q_HO_7
       have BK128 := Aside0.mk Q_BK128
       have HB := Aside0.mk Q_HB
       have hc0_ : w'.cell? ⟨gb128, 0, none⟩ = some (.slice A0_0 l0_0.length c0_0) := (blk_cell BK128.out 0).trans rfl
       refine value_ (w1 := w') (v := .agg #[.slice A0_0 l0_0.length c0_0]) (by rfl) rfl ?_ ?_
       ·go_simp
        (try simp only [i64_w])
        try rfl
       refine hK.out _ _ ⟨v131, v134, m7_, m8_, (by rw [ha.out]; exact putSel_upk 0 hb_ rfl rfl rfl), Q_HO_7, Q_L1, Q_L4, Q_BK128, Q_HB, fun h0_ => absurd ((hoff 5 (by kernel_rfl)).symm.trans h0_) (by decide), Q_HO135, fun h0_ => absurd ((hoff 7 (by kernel_rfl)).symm.trans h0_) (by decide), fun h0_ => absurd ((hoff 8 (by kernel_rfl)).symm.trans h0_) (by decide)⟩
      refine steps_cons ?_ ?_
      ·rintro b a w' ⟨v131, v134, m7_, m8_, ha, Q_HO_7, Q_L1, Q_L4, Q_BK128, Q_HB, Q_HO132, Q_HO135, Q_X7_, Q_X8_⟩ hb_ hon hoff
       refine ⟨_, rfl, fun K hK => ?_⟩
       have e20 : a.tmps[20]? = some (.slice (some ad129) l2.length c2) := by rw [ha]; exact (putSel_off rfl).trans rfl
       have e21 : a.tmps[21]? = some (.int .i64 x8_1) := by rw [ha]; exact (putSel_off rfl).trans rfl
       replace ha := Aside0.mk ha
       have HO_7 := Aside0.mk Q_HO_7
       have BK128 := Aside0.mk Q_BK128
       have HB := Aside0.mk Q_HB
       have hs0_ : w'.cell? (ad129.add (x8_1).toNat) = some (.int .i64 (rd l2 x8_1)) := ((HB.out.cell (World.block_lt_of_cell? w _ hw129_0)).trans hw129_0)
       refine value_ (w1 := w') (v := .pointer (some (ad129.add (x8_1).toNat))) (by rfl) rfl ?_ ?_
       ·go_simp
        (try simp only [i64_w])
        try rfl
       refine hK.out _ _ ⟨v131, v134, m7_, m8_, (by rw [ha.out]; exact putSel_upk 1 hb_ rfl rfl rfl), Q_HO_7, Q_L1, Q_L4, Q_BK128, Q_HB, fun h0_ => absurd ((hoff 5 (by kernel_rfl)).symm.trans h0_) (by decide), Q_HO135, fun h0_ => absurd ((hoff 7 (by kernel_rfl)).symm.trans h0_) (by decide), fun h0_ => absurd ((hoff 8 (by kernel_rfl)).symm.trans h0_) (by decide)⟩
      refine steps_cons ?_ ?_
      ·rintro b a w' ⟨v131, v134, m7_, m8_, ha, Q_HO_7, Q_L1, Q_L4, Q_BK128, Q_HB, Q_HO132, Q_HO135, Q_X7_, Q_X8_⟩ hb_ hon hoff
       refine ⟨_, rfl, fun K hK => ?_⟩
       have e22 : a.tmps[22]? = some (.pointer (some (ad129.add (x8_1).toNat))) := by rw [ha]; exact putSel_on (e := (3, 22, .pointer (some (ad129.add (x8_1).toNat)))) 1 rfl rfl (hon 3 (by kernel_rfl)) rfl
       replace ha := Aside0.mk ha
       have HO_7 := Aside0.mk Q_HO_7
       have BK128 := Aside0.mk Q_BK128
       have HB := Aside0.mk Q_HB
       have hs0_ : w'.cell? (ad129.add (x8_1).toNat) = some (.int .i64 (rd l2 x8_1)) := ((HB.out.cell (World.block_lt_of_cell? w _ hw129_0)).trans hw129_0)
       refine value_ (w1 := w') (v := .int .i64 (rd l2 x8_1)) (by rfl) rfl ?_ ?_
       ·go_simp
        (try simp only [i64_w])
        try rfl
       refine hK.out _ _ ⟨v131, v134, m7_, m8_, (by rw [ha.out]; exact putSel_upk 2 hb_ rfl rfl rfl), Q_HO_7, Q_L1, Q_L4, Q_BK128, Q_HB, fun h0_ => absurd ((hoff 5 (by kernel_rfl)).symm.trans h0_) (by decide), Q_HO135, fun h0_ => absurd ((hoff 7 (by kernel_rfl)).symm.trans h0_) (by decide), fun h0_ => absurd ((hoff 8 (by kernel_rfl)).symm.trans h0_) (by decide)⟩
      refine steps_cons ?_ ?_
      ·rintro b a w' ⟨v131, v134, m7_, m8_, ha, Q_HO_7, Q_L1, Q_L4, Q_BK128, Q_HB, Q_HO132, Q_HO135, Q_X7_, Q_X8_⟩ hb_ hon hoff
       refine ⟨_, rfl, fun K hK => ?_⟩
       have e19 : a.tmps[19]? = some (.agg #[.slice A0_0 l0_0.length c0_0]) := by rw [ha]; exact putSel_on (e := (0, 19, .agg #[.slice A0_0 l0_0.length c0_0])) 0 rfl rfl (hon 0 (by kernel_rfl)) rfl
       have e23 : a.tmps[23]? = some (.int .i64 (rd l2 x8_1)) := by rw [ha]; exact putSel_on (e := (4, 23, .int .i64 (rd l2 x8_1))) 2 rfl rfl (hon 4 (by kernel_rfl)) rfl
       replace ha := Aside0.mk ha
       have HO_7 := Aside0.mk Q_HO_7
       have BK128 := Aside0.mk Q_BK128
       have HB := Aside0.mk Q_HB
       refine goes_ Try.func97 (by kernel_rfl) rfl #[.agg #[.slice A0_0 l0_0.length c0_0], .int .i64 (rd l2 x8_1)] (by rfl) rfl rfl (by first | (simp only [List.map_toArray, List.map_cons, List.map_nil, Act.eval, Array.getD_eq_getD_getElem?, Option.getD_some, e19, e23]; done) | (simp only [List.map_toArray, List.map_cons, List.map_nil, Act.eval, Array.getD_eq_getD_getElem?, Option.getD_some, e19, e23]; rfl)) ?_
       with_reducible refine (spec_l01Digits.calls k1 _ _ l0_0 (rd l2 x8_1) t130 _ ?side1 ?side2 A7.out).mono ?_
       (case side1 => repeat (first | exact (Kd.C_below HR0_0.out HB.out) | (with_reducible refine Kd.C_alloc ?_ _) | (with_reducible refine Kd.C_drewN ?_ _) | (with_reducible refine Kd.C_drew ?_)))
       (case side2 => exact HC0_0.out)
       rintro e w9 ⟨v131, rfl, ho0, hb⟩
       refine ⟨_, rfl, ?_⟩
       have n0_ := Aside0.mk (Kd.V_elder' (by (with_reducible repeat (first | apply Kd.V_alloc | apply Kd.V_drewN | apply Kd.V_drew)); exact HO_7.out) (Kd.R_base ho0) hb)
       have n1_ := Aside0.mk (Kd.R_lower (Kd.R_newM (M := fun k_ => (w.heap.size ≤ k_)) ho0 (below_size (by repeat (first | (with_reducible first | exact HB.out | apply below_alloc | apply pw_below_drewN | apply below_drew1 | refine below_set ?_ GE128.out) | exact HB.out))) (fun k_ h_ => h_)) (below_size (by repeat (first | (with_reducible first | exact HB.out | apply below_alloc | apply pw_below_drewN | apply below_drew1 | refine below_set ?_ GE128.out) | exact HB.out))))
       have n2_ := Aside0.mk (blk_below (g := gb128) (o := .cells #[.slice A0_0 l0_0.length c0_0] 28 (0, 0)) (by (with_reducible repeat (first | refine blk_drewN ?_ _ | refine blk_drew ?_ | refine blk_alloc ?_ _)); exact BK128.out) hb)
       have n3_ := Aside0.mk (below_step (by repeat (first | (with_reducible first | exact HB.out | apply below_alloc | apply pw_below_drewN | apply below_drew1 | refine below_set ?_ GE128.out) | exact HB.out)) hb)
       have z_HO135 := fun (h0_ : b 6 = true) => (show Kd.N (Kd.slice 2 (Kd.int .i64)) 22 w9 w.heap.size (fun k_ => (P1_ k_ ∨ w.heap.size ≤ k_) ∧ some k_ ≠ v131.ownBlock ∧ k_ ≠ gb128) v134 y133 from Kd.N_mono (Kd.N_elder' (by (with_reducible repeat (first | apply Kd.N_alloc | apply Kd.N_drewN | apply Kd.N_drew)); exact (Q_HO135 h0_)) (Kd.R_base ho0) hb) (fun k_ (h_ : ((P1_ k_ ∨ w.heap.size ≤ k_) ∧ some k_ ≠ _ ∧ k_ ≠ gb128) ∧ some k_ ≠ v131.ownBlock) => ⟨h_.1.1, h_.2, h_.1.2.2⟩))
       have z_L1 : ∀ k_, v131.ownBlock = some k_ → k_ < w9.heap.size := Kd.R_lt ho0
       have z_L4 : ∀ k_, v134.ownBlock = some k_ → k_ < w9.heap.size := fun k_ h_ => Nat.lt_of_lt_of_le (Q_L4 k_ h_) hb.size
       clear HO_7
       clear BK128
       clear HB
       have HO_7 := n0_
       have HO132 := n1_
       have BK128 := n2_
       have HB := n3_
       clear n0_ n1_ n2_ n3_
       (try clear hb)
       (try clear hb2)
       (try clear hk)
       (try clear hi)
       (try clear ho0)
       refine hK.out _ _ ⟨v131, v134, m7_, m8_, (by rw [ha.out]; exact putSel_upk 3 hb_ rfl rfl rfl), (by (with_reducible repeat (first | apply Kd.V_alloc | apply Kd.V_drewN | apply Kd.V_drew)); exact Kd.V_mono HO_7.out (fun _ hk => ⟨hk.1.1, hk.2, hk.1.2.2.1, hk.1.2.2.2⟩)), z_L1, z_L4, (by (with_reducible repeat (first | refine blk_drewN ?_ _ | refine blk_drew ?_ | refine blk_alloc ?_ _)); exact BK128.out), (by repeat (first | (with_reducible first | exact HB.out | apply below_alloc | apply pw_below_drewN | apply below_drew1 | refine below_set ?_ GE128.out) | exact HB.out)), fun _ => (by (with_reducible repeat (first | apply Kd.R_alloc | apply Kd.R_drewN | apply Kd.R_drew)); exact Kd.R_mono HO132.out (fun _ hk => hk.1)), z_HO135, fun h0_ => absurd ((hoff 7 (by kernel_rfl)).symm.trans h0_) (by decide), fun h0_ => absurd ((hoff 8 (by kernel_rfl)).symm.trans h0_) (by decide)⟩
      refine steps_cons ?_ ?_
      ·rintro b a w' ⟨v131, v134, m7_, m8_, ha, Q_HO_7, Q_L1, Q_L4, Q_BK128, Q_HB, Q_HO132, Q_HO135, Q_X7_, Q_X8_⟩ hb_ hon hoff
       refine ⟨_, rfl, fun K hK => ?_⟩
       replace ha := Aside0.mk ha
       have HO_7 := Aside0.mk Q_HO_7
       have BK128 := Aside0.mk Q_BK128
       have HB := Aside0.mk Q_HB
       refine Kd.N_lit_step (Kd.slice 2 (Kd.int .i64)) _ 22 ?hg (N' := 25) ?hd (xs := ([] : List (List Int))) (inner := []) (ok := (fun k_ => (P1_ k_ ∨ w.heap.size ≤ k_) ∧ some k_ ≠ v131.ownBlock ∧ k_ ≠ gb128)) (okp := (fun k_ => (P1_ k_ ∨ w.heap.size ≤ k_) ∧ some k_ ≠ v131.ownBlock ∧ k_ ≠ gb128)) ?hr ?hp (fun _ hk => hk) ((show ∀ k_, w'.heap.size ≤ k_ → (fun k_ => (P1_ k_ ∨ w.heap.size ≤ k_) ∧ some k_ ≠ v131.ownBlock ∧ k_ ≠ gb128) k_ from fun k_ hk => ⟨(.inr (Nat.le_trans (below_size (by repeat (first | (with_reducible first | exact HB.out | apply below_alloc | apply pw_below_drewN | apply below_drew1 | refine below_set ?_ GE128.out) | exact HB.out))) hk)), (fun he_ => Nat.lt_irrefl _ (Nat.lt_of_lt_of_le (Q_L1 k_ he_.symm) hk)), Kd.freshB (g := gb128) (o := .cells #[.slice A0_0 l0_0.length c0_0] 28 (0, 0)) (by (with_reducible repeat (first | refine blk_drewN ?_ _ | refine blk_drew ?_ | refine blk_alloc ?_ _)); exact BK128.out) k_ hk⟩) _ (Nat.le_refl _)) (Below.refl _ _) (Nat.le_refl _) (by simp) ?_; (case hd => rfl); (case hg => rfl); (case hr => first | (go_simp; done) | (go_simp; rfl)); (case hp => exact (Reps.none _ _))
       intro v134 w9 ho10 hb hg_ hnew_
       clear hg_ hnew_
       have q_sz : w'.heap.size ≤ w9.heap.size := hb.size
       have q_L4 : ∀ k_, v134.ownBlock = some k_ → k_ < w9.heap.size := Kd.N_lt ho10
       (first | rw [← Ny133.out] at ho10 | (simp only [Int.reduceToNat] at ho10; rw [← Ny133.out] at ho10))
       have n0_ := Aside0.mk (Kd.V_elder' (by (with_reducible repeat (first | apply Kd.V_alloc | apply Kd.V_drewN | apply Kd.V_drew)); exact HO_7.out) (Kd.N_base ho10) hb)
       have n1_ := Aside0.mk (Kd.N_lower ho10 (below_size (by repeat (first | (with_reducible first | exact HB.out | apply below_alloc | apply pw_below_drewN | apply below_drew1 | refine below_set ?_ GE128.out) | exact HB.out))))
       have n2_ := Aside0.mk (blk_below (g := gb128) (o := .cells #[.slice A0_0 l0_0.length c0_0] 28 (0, 0)) (by (with_reducible repeat (first | refine blk_drewN ?_ _ | refine blk_drew ?_ | refine blk_alloc ?_ _)); exact BK128.out) hb)
       have n3_ := Aside0.mk (below_step (by repeat (first | (with_reducible first | exact HB.out | apply below_alloc | apply pw_below_drewN | apply below_drew1 | refine below_set ?_ GE128.out) | exact HB.out)) hb)
       have z_HO132 := fun (h0_ : b 5 = true) => (show Kd.R (Kd.int .i64) 2 w9 w.heap.size (fun k_ => (w.heap.size ≤ k_)) v131 t130 from by first | exact (Kd.R_below (by (with_reducible repeat (first | apply Kd.R_alloc | apply Kd.R_drewN | apply Kd.R_drew)); exact (Q_HO132 h0_)) hb) | exact Kd.R_mono (Kd.R_below (by (with_reducible repeat (first | apply Kd.R_alloc | apply Kd.R_drewN | apply Kd.R_drew)); exact (Q_HO132 h0_)) hb) (fun _ h_ => by first | trivial | exact h_ | exact h_.1))
       clear HO_7
       clear BK128
       clear HB
       have HO_7 := n0_
       have HO135 := n1_
       have BK128 := n2_
       have HB := n3_
       clear n0_ n1_ n2_ n3_
       clear hb ho10
       refine hK.out _ _ ⟨v131, v134, m7_, m8_, (by rw [ha.out]; exact putSel_upk 4 hb_ rfl rfl rfl), (by (with_reducible repeat (first | apply Kd.V_alloc | apply Kd.V_drewN | apply Kd.V_drew)); exact Kd.V_mono HO_7.out (fun _ hk => ⟨hk.1.1, hk.1.2.1, hk.2, hk.1.2.2.2⟩)), (fun k_ h_ => Nat.lt_of_lt_of_le (Q_L1 k_ h_) q_sz), q_L4, (by (with_reducible repeat (first | refine blk_drewN ?_ _ | refine blk_drew ?_ | refine blk_alloc ?_ _)); exact BK128.out), (by repeat (first | (with_reducible first | exact HB.out | apply below_alloc | apply pw_below_drewN | apply below_drew1 | refine below_set ?_ GE128.out) | exact HB.out)), z_HO132, fun _ => (by (with_reducible repeat (first | apply Kd.N_alloc | apply Kd.N_drewN | apply Kd.N_drew)); exact HO135.out), Q_X7_, fun h0_ => absurd ((hoff 8 (by kernel_rfl)).symm.trans h0_) (by decide)⟩
      refine steps_cons ?_ ?_
      ·rintro b a w' ⟨v131, v134, m7_, m8_, ha, Q_HO_7, Q_L1, Q_L4, Q_BK128, Q_HB, Q_HO132, Q_HO135, Q_X7_, Q_X8_⟩ hb_ hon hoff
       refine ⟨_, rfl, fun K hK => ?_⟩
       have e24 : a.tmps[24]? = some (v131) := by rw [ha]; exact putSel_on (e := (5, 24, v131)) 3 rfl rfl (hon 5 (by kernel_rfl)) rfl
       replace ha := Aside0.mk ha
       have HO_7 := Aside0.mk Q_HO_7
       have BK128 := Aside0.mk Q_BK128
       have HB := Aside0.mk Q_HB
       have HO132 := Aside0.mk (Q_HO132 (hon 5 (by kernel_rfl)))
       refine value_ (w1 := w') (v := v131) (by rfl) rfl ?_ ?_
       ·go_simp
        (try simp only [i64_w])
        try rfl
       refine hK.out _ _ ⟨v131, v134, (v131), m8_, (by rw [ha.out]; exact putSel_upk 5 hb_ rfl rfl rfl), Q_HO_7, Q_L1, Q_L4, Q_BK128, Q_HB, Q_HO132, Q_HO135, fun _ => rfl, fun h0_ => absurd ((hoff 8 (by kernel_rfl)).symm.trans h0_) (by decide)⟩
      refine steps_cons ?_ ?_
      ·rintro b a w' ⟨v131, v134, m7_, m8_, ha, Q_HO_7, Q_L1, Q_L4, Q_BK128, Q_HB, Q_HO132, Q_HO135, Q_X7_, Q_X8_⟩ hb_ hon hoff
       refine ⟨_, rfl, fun K hK => ?_⟩
       have e25 : a.tmps[25]? = some (v134) := by rw [ha]; exact putSel_on (e := (6, 25, v134)) 4 rfl rfl (hon 6 (by kernel_rfl)) rfl
       replace ha := Aside0.mk ha
       have HO_7 := Aside0.mk Q_HO_7
       have BK128 := Aside0.mk Q_BK128
       have HB := Aside0.mk Q_HB
       have HO132 := Aside0.mk (Q_HO132 (hon 5 (by kernel_rfl)))
       have HO135 := Aside0.mk (Q_HO135 (hon 6 (by kernel_rfl)))
       refine value_ (w1 := w') (v := v134) (by rfl) rfl ?_ ?_
       ·go_simp
        (try simp only [i64_w])
        try rfl
       refine hK.out _ _ ⟨v131, v134, m7_, (v134), (by rw [ha.out]; exact putSel_upk 6 hb_ rfl rfl rfl), Q_HO_7, Q_L1, Q_L4, Q_BK128, Q_HB, Q_HO132, Q_HO135, Q_X7_, fun _ => rfl⟩
      exact steps_nil
     rintro b a w12 hall ⟨v131, v134, m7_, m8_, ha, Q_HO_7, Q_L1, Q_L4, Q_BK128, Q_HB, Q_HO132, Q_HO135, Q_X7_, Q_X8_⟩
     clear BK128 HB HO_7
     have hb0_ := hall 0 (by kernel_rfl)
     have hb3_ := hall 3 (by kernel_rfl)
     have hb4_ := hall 4 (by kernel_rfl)
     have hb5_ := hall 5 (by kernel_rfl)
     have hb6_ := hall 6 (by kernel_rfl)
     have hb7_ := hall 7 (by kernel_rfl)
     have hb8_ := hall 8 (by kernel_rfl)
     subst ha
     obtain rfl := (Q_X7_ hb7_).symm
     obtain rfl := (Q_X8_ hb8_).symm
     simp only [putSel, hb0_, hb3_, hb4_, hb5_, hb6_, hb7_, hb8_, if_true, Act.put, List.setIfInBounds_toArray, List.set_cons_zero, List.set_cons_succ]
     have HO_7 := Aside0.mk Q_HO_7
     clear Q_HO_7
     have BK128 := Aside0.mk Q_BK128
     clear Q_BK128
     have HB := Aside0.mk Q_HB
     clear Q_HB
     have HO132 := Aside0.mk (Q_HO132 hb5_)
     clear Q_HO132
     have HO135 := Aside0.mk (Q_HO135 hb6_)
     clear Q_HO135
     clear hall hb0_ hb3_ hb4_ hb5_ hb6_ hb7_ hb8_
     try go_wp2
     go_loopg [10, 11] k1 (fun kq v10 v11 w' => ∃ (x10_2 : List (List Int)) (x11_2 : Int), v11 = .int .i64 x11_2 ∧ Aside0 (spec_l10Missing.l1 kq l2 x7_1 x8_1 t130 x10_2 x11_2 l0_0 = some r) ∧ Aside0 (kq ≤ k1) ∧ Aside0 (Kd.V (Kd.slice 2 (Kd.int .i64)) 22 w' w.heap.size (fun k_ => (P1_ k_ ∨ w.heap.size ≤ k_) ∧ some k_ ≠ (v131 : Value).ownBlock ∧ some k_ ≠ (v10 : Value).ownBlock ∧ k_ ≠ gb128) u7 x7_1) ∧ Aside0 (Kd.R (Kd.int .i64) 2 w' w.heap.size (fun k_ => (w.heap.size ≤ k_)) v131 t130) ∧ Aside0 (Kd.N (Kd.slice 2 (Kd.int .i64)) 22 w' w.heap.size (fun k_ => (P1_ k_ ∨ w.heap.size ≤ k_) ∧ some k_ ≠ (v131 : Value).ownBlock ∧ k_ ≠ gb128) v10 x10_2) ∧ Aside0 (w'.heap[gb128]? = some (.cells #[(.slice A0_0 l0_0.length c0_0)] 28 (0, 0))) ∧ Aside0 (Below w.heap.size w w'))
     case atStart => exact ⟨(y133), (0), (by first | rfl | (simp; done) | (simp [*]; done)), H', ⟨Nat.le_refl _⟩, ⟨by (with_reducible repeat (first | apply Kd.V_alloc | apply Kd.V_drewN | apply Kd.V_drew)); exact HO_7.out⟩, ⟨by (with_reducible repeat (first | apply Kd.R_alloc | apply Kd.R_drewN | apply Kd.R_drew)); exact HO132.out⟩, ⟨by (with_reducible repeat (first | apply Kd.N_alloc | apply Kd.N_drewN | apply Kd.N_drew)); exact HO135.out⟩, ⟨by (with_reducible repeat (first | refine blk_drewN ?_ _ | refine blk_drew ?_ | refine blk_alloc ?_ _)); exact BK128.out⟩, ⟨by repeat (first | (with_reducible first | exact HB.out | apply below_alloc | apply pw_below_drewN | apply below_drew1 | refine below_set ?_ GE128.out) | exact HB.out)⟩⟩
     case round =>
      clear H'
      try clear c1
      try clear p1
      try clear q1
      try clear hx1
      try clear c2
      try clear p2
      try clear c5
      try clear c5b0
      try clear c6
      try clear c6b0
      try clear c8
      try clear c9
      try clear p12
      try clear q12
      try clear hx12
      try clear hx129_0
      try clear p129
      try clear p2
      try clear q129
      obtain ⟨x10_2, x11_2, rfl, HA, HK2, HO_7, HO_9, HO_10, BK128, HB⟩ := hrel
      cases gk with
      | zero => exact absurd HA.out (by simp [spec_l10Missing.l1])
      | succ k2 =>
       have H := HA.out
       clear HA
       simp only [spec_l10Missing.l1] at H
       by_cases c13 : x11_2 < (x7_1.length : Int)
       ·rw [if_pos c13] at H
        have c13b0 : decide (x11_2 < (x7_1.length : Int)) = true := decide_eq_true c13
        clear c13
        by_cases c14 : 0 ≤ x11_2
        ·rw [if_pos c14] at H
         have c14b0 : decide (0 ≤ x11_2) = true := decide_eq_true c14
         clear c14
         replace H := Option.bind_eq_some_iff.mp H
         obtain ⟨t137, A150, H⟩ := H
         replace H : (if t137 = true then (spec_l10Missing.l1 k2 l2 x7_1 x8_1 t130 x10_2 (wrap64 (x11_2 + 1)) l0_0) else (if x10_2.length < 5864062014805 then (spec_l10Missing.l1 k2 l2 x7_1 x8_1 t130 (x10_2 ++ [rd_L1 x7_1 x11_2]) (wrap64 (x11_2 + 1)) l0_0) else (none))) = some r := H
         have A15 := Aside0.mk A150
         clear A150
         by_cases c16 : t137 = true
         ·subst c16
          have H1 : (spec_l10Missing.l1 k2 l2 x7_1 x8_1 t130 x10_2 (wrap64 (x11_2 + 1)) l0_0) = some r := by rw [if_pos rfl] at H; exact H
          clear H
          have H := H1
          clear H1
          have H' := Aside0.mk H
          clear H
          obtain ⟨Ao17, co17, eo17⟩ := Kd.V_slice HO_7.out
          subst eo17
          have p136 : 0 ≤ (x11_2 : Int) := of_decide_eq_true (by first | (with_reducible assumption) | assumption)
          have q136 : x11_2 < (x7_1.length : Int) := of_decide_eq_true (by first | (with_reducible assumption) | assumption)
          obtain ⟨ad136, A136_0, c136_0, e136, hx136_0, hl136_0, hi136_0⟩ := at_L1 (Kd.V_reads' HO_7.out).2.2 x11_2 p136 q136
          cases e136
          obtain ⟨ce136, hce136, hMe136, hcc136⟩ := Kd.V_get HO_7.out [] x11_2 p136 (by first | exact q136 | exact of_decide_eq_true (by first | (with_reducible assumption) | assumption) | (have e_ := (Kd.V_reads' HO_7.out).1; omega))
          obtain ⟨ua136_0, uc136_0, rfl, ul136_0, ge136_0⟩ := Kd.FK_slice_open hMe136
          have hv136_0 := hcc136 0 _ rfl
          rw [Nat.add_zero, show ((Kd.slice 2 (Kd.int .i64))).sz = 1 from rfl, Nat.mul_one] at hv136_0
          replace hv136_0 := Option.some.inj (hv136_0.symm.trans hx136_0)
          injection hv136_0 with hva_ hvn_ hvc_
          rw [hva_] at ge136_0
          rw [hvc_] at ul136_0
          have HL136_0 := Aside0.mk (show Kd.V (Kd.int .i64) 2 _ w.heap.size _ _ (rd_L1 x7_1 x11_2) from Kd.V_mk ul136_0 ge136_0)
          clear hva_ hvn_ hvc_ ge136_0 ul136_0
          clear hcc136 hce136
          have HR136_0 := Aside0.mk hi136_0
          have HC136_0 := Aside0.mk hl136_0
          clear hi136_0 hl136_0
          replace p136 := eq_true p136
          replace q136 := eq_true q136
          obtain ⟨Ao18, co18, eo18⟩ := Kd.R_slice HO_9.out
          subst eo18
          go_wp2_with (first | ((with_reducible refine gate_callee (f := 98) rfl ?_); refine goesL_ (some 37) rfl rfl Try.func98 (by kernel_rfl) rfl #[.slice Ao18 t130.length co18, .slice A136_0 (rd_L1 x7_1 x11_2).length c136_0] rfl (by (try simp only [List.map_toArray, List.map_cons, List.map_nil]); first | done | rfl | (simp only [List.length_drop, List.length_take]; rfl)) ?_; (with_reducible refine (spec_l10Has.calls k2 _ _ t130 _ _ (rd_L1 x7_1 x11_2) true _ ?side1 ?side2 ?side3 ?side4 A15.out).mono ?_); (case side1 => repeat (first | exact (Kd.R_reads' HO_9.out).2.2 | (with_reducible refine Kd.C_alloc ?_ _) | (with_reducible refine Kd.C_drewN ?_ _) | (with_reducible refine Kd.C_drew ?_))); (case side2 => exact (Kd.R_reads' HO_9.out).2.1); (case side3 => repeat (first | exact (by repeat (first | (with_reducible exact HR136_0.out) | (with_reducible refine Kd.C_alloc ?_ _) | (with_reducible refine Kd.C_drewN ?_ _) | (with_reducible refine Kd.C_drew ?_) | exact HR136_0.out)) | (with_reducible refine Kd.C_alloc ?_ _) | (with_reducible refine Kd.C_drewN ?_ _) | (with_reducible refine Kd.C_drew ?_))); (case side4 => exact HC136_0.out); rintro e w' ⟨rfl, ⟨nd, rfl⟩⟩; refine ⟨_, rfl, ?_⟩))
          go_roundg k2
          case measure => have := HK1.out; have := HK2.out; omega
          case rel => exact ⟨(x10_2), (wrap64 (x11_2 + 1)), (by first | rfl | (simp; done) | (simp [*]; done)), H', ⟨by have := HK1.out; have := HK2.out; omega⟩, ⟨by (with_reducible repeat (first | apply Kd.V_alloc | apply Kd.V_drewN | apply Kd.V_drew)); exact HO_7.out⟩, ⟨by (with_reducible repeat (first | apply Kd.R_alloc | apply Kd.R_drewN | apply Kd.R_drew)); exact HO_9.out⟩, ⟨by (with_reducible repeat (first | apply Kd.N_alloc | apply Kd.N_drewN | apply Kd.N_drew)); exact HO_10.out⟩, ⟨by (with_reducible repeat (first | refine blk_drewN ?_ _ | refine blk_drew ?_ | refine blk_alloc ?_ _)); exact BK128.out⟩, ⟨by repeat (first | (with_reducible first | exact HB.out | apply below_alloc | apply pw_below_drewN | apply below_drew1 | refine below_set ?_ GE128.out) | exact HB.out)⟩⟩
         ·replace c16 := Bool.eq_false_iff.mpr c16
          subst c16
          have H1 : (if x10_2.length < 5864062014805 then (spec_l10Missing.l1 k2 l2 x7_1 x8_1 t130 (x10_2 ++ [rd_L1 x7_1 x11_2]) (wrap64 (x11_2 + 1)) l0_0) else (none)) = some r := by rw [if_neg (show ¬ (false = true) by decide)] at H; exact H
          clear H
          have H := H1
          clear H1
          by_cases c19 : x10_2.length < 5864062014805
          ·rw [if_pos c19] at H
           have LMc19 := Aside0.mk c19
           clear c19
           obtain ⟨y139, hy139⟩ : ∃ y_ : List (List Int), y_ = (x10_2 ++ [rd_L1 x7_1 x11_2]) := ⟨_, rfl⟩
           replace H : (spec_l10Missing.l1 k2 l2 x7_1 x8_1 t130 y139 (wrap64 (x11_2 + 1)) l0_0) = some r := by first | (rw [hy139]; with_reducible exact H) | (have H2_ := (Option.bind_some _ _).symm.trans H; rw [hy139]; with_reducible exact H2_) | (have H2_ := (Option.bind_some _ _).symm.trans H; with_reducible exact H2_) | with_reducible exact H | (rw [hy139]; exact H) | exact H
           have Ny139 := Aside0.mk hy139
           clear hy139
           have H' := Aside0.mk H
           clear H
           obtain ⟨Ao20, co20, eo20⟩ := Kd.V_slice HO_7.out
           subst eo20
           have p136 : 0 ≤ (x11_2 : Int) := of_decide_eq_true (by first | (with_reducible assumption) | assumption)
           have q136 : x11_2 < (x7_1.length : Int) := of_decide_eq_true (by first | (with_reducible assumption) | assumption)
           obtain ⟨ad136, A136_0, c136_0, e136, hx136_0, hl136_0, hi136_0⟩ := at_L1 (Kd.V_reads' HO_7.out).2.2 x11_2 p136 q136
           cases e136
           obtain ⟨ce136, hce136, hMe136, hcc136⟩ := Kd.V_get HO_7.out [] x11_2 p136 (by first | exact q136 | exact of_decide_eq_true (by first | (with_reducible assumption) | assumption) | (have e_ := (Kd.V_reads' HO_7.out).1; omega))
           obtain ⟨ua136_0, uc136_0, rfl, ul136_0, ge136_0⟩ := Kd.FK_slice_open hMe136
           have hv136_0 := hcc136 0 _ rfl
           rw [Nat.add_zero, show ((Kd.slice 2 (Kd.int .i64))).sz = 1 from rfl, Nat.mul_one] at hv136_0
           replace hv136_0 := Option.some.inj (hv136_0.symm.trans hx136_0)
           injection hv136_0 with hva_ hvn_ hvc_
           rw [hva_] at ge136_0
           rw [hvc_] at ul136_0
           have HL136_0 := Aside0.mk (show Kd.V (Kd.int .i64) 2 _ w.heap.size _ _ (rd_L1 x7_1 x11_2) from Kd.V_mk ul136_0 ge136_0)
           clear hva_ hvn_ hvc_ ge136_0 ul136_0
           clear hcc136 hce136
           have HR136_0 := Aside0.mk hi136_0
           have HC136_0 := Aside0.mk hl136_0
           clear hi136_0 hl136_0
           replace p136 := eq_true p136
           replace q136 := eq_true q136
           obtain ⟨Ao21, co21, eo21⟩ := Kd.R_slice HO_9.out
           subst eo21
           go_wp2_with (first | ((with_reducible refine gate_callee (f := 98) rfl ?_); refine goesL_ (some 37) rfl rfl Try.func98 (by kernel_rfl) rfl #[.slice Ao21 t130.length co21, .slice A136_0 (rd_L1 x7_1 x11_2).length c136_0] rfl (by (try simp only [List.map_toArray, List.map_cons, List.map_nil]); first | done | rfl | (simp only [List.length_drop, List.length_take]; rfl)) ?_; (with_reducible refine (spec_l10Has.calls k2 _ _ t130 _ _ (rd_L1 x7_1 x11_2) false _ ?side1 ?side2 ?side3 ?side4 A15.out).mono ?_); (case side1 => repeat (first | exact (Kd.R_reads' HO_9.out).2.2 | (with_reducible refine Kd.C_alloc ?_ _) | (with_reducible refine Kd.C_drewN ?_ _) | (with_reducible refine Kd.C_drew ?_))); (case side2 => exact (Kd.R_reads' HO_9.out).2.1); (case side3 => repeat (first | exact (by repeat (first | (with_reducible exact HR136_0.out) | (with_reducible refine Kd.C_alloc ?_ _) | (with_reducible refine Kd.C_drewN ?_ _) | (with_reducible refine Kd.C_drew ?_) | exact HR136_0.out)) | (with_reducible refine Kd.C_alloc ?_ _) | (with_reducible refine Kd.C_drewN ?_ _) | (with_reducible refine Kd.C_drew ?_))); (case side4 => exact HC136_0.out); rintro e w' ⟨rfl, ⟨nd, rfl⟩⟩; refine ⟨_, rfl, ?_⟩; have p138 : 0 ≤ (x11_2 : Int) := of_decide_eq_true (by first | (with_reducible assumption) | assumption); have q138 : x11_2 < (x7_1.length : Int) := of_decide_eq_true (by first | (with_reducible assumption) | assumption); obtain ⟨ad138, A138_0, c138_0, e138, hx138_0, hl138_0, hi138_0⟩ := at_L1 (Kd.V_reads' HO_7.out).2.2 x11_2 p138 q138; obtain rfl : ad136 = ad138 := (by injection e138); obtain ⟨ce138, hce138, hMe138, hcc138⟩ := Kd.V_get HO_7.out [] x11_2 p138 (by first | exact q138 | exact of_decide_eq_true (by first | (with_reducible assumption) | assumption) | (have e_ := (Kd.V_reads' HO_7.out).1; omega)); obtain ⟨ua138_0, uc138_0, rfl, ul138_0, ge138_0⟩ := Kd.FK_slice_open hMe138; have hv138_0 := hcc138 0 _ rfl; rw [Nat.add_zero, show ((Kd.slice 2 (Kd.int .i64))).sz = 1 from rfl, Nat.mul_one] at hv138_0; replace hv138_0 := Option.some.inj (hv138_0.symm.trans hx138_0); injection hv138_0 with hva_ hvn_ hvc_; rw [hva_] at ge138_0; rw [hvc_] at ul138_0; have HL138_0 := Aside0.mk (show Kd.V (Kd.int .i64) 2 _ w.heap.size _ _ (rd_L1 x7_1 x11_2) from Kd.V_mk ul138_0 ge138_0); clear hva_ hvn_ hvc_ ge138_0 ul138_0; clear hcc138 hce138; have HR138_0 := Aside0.mk hi138_0; have HC138_0 := Aside0.mk hl138_0; clear hi138_0 hl138_0; replace p138 := eq_true p138; replace q138 := eq_true q138; have ea_ := Option.some.inj (hx136_0.symm.trans hx138_0); injection ea_ with ea_ en_ ec_; subst ea_; subst ec_; clear en_) | ((with_reducible refine gate_builtin (b := .append) (xs := #[.tmp 39, .tmp 44]) rfl ?_); at_builtin; refine Kd.N_append (Kd.slice 2 (Kd.int .i64)) (w0 := w) w.heap.size rfl (.tmp 39) (.tmp 44) 42 22 (.slice none 0 0) 24 rfl Try.underlying42 info22 rfl (by decide) (by omega) u10 x10_2 (rd_L1 x7_1 x11_2) [.slice A136_0 (rd_L1 x7_1 x11_2).length c136_0] (fun k_ => (P1_ k_ ∨ w.heap.size ≤ k_) ∧ some k_ ≠ (.slice Ao21 t130.length co21 : Value).ownBlock ∧ k_ ≠ gb128) (fun k_ => ((fun k_ => (P1_ k_ ∨ w.heap.size ≤ k_) ∧ some k_ ≠ (.slice Ao21 t130.length co21 : Value).ownBlock ∧ k_ ≠ gb128)) k_ ∧ some k_ ≠ (u10 : Value).ownBlock) rfl rfl ?aP (fun _ hk => hk) ?aF ?aO ?aB ?aS ?aL ?_; (case aP => exact (Kd.FK_slice_mk (Kd.V_reads' (e := 2) (base := w.heap.size) (Kd.V_mono (ok' := (fun k_ => ((fun k_ => (P1_ k_ ∨ w.heap.size ≤ k_) ∧ some k_ ≠ (.slice Ao21 t130.length co21 : Value).ownBlock ∧ k_ ≠ gb128)) k_ ∧ some k_ ≠ (u10 : Value).ownBlock)) (HL138_0.out) (fun k_ hk => ⟨⟨hk.1, ⟨hk.2.1, hk.2.2.2⟩⟩, hk.2.2.1⟩))).2.1 (Kd.V_F (e := 2) (base := w.heap.size) (Kd.V_mono (ok' := (fun k_ => ((fun k_ => (P1_ k_ ∨ w.heap.size ≤ k_) ∧ some k_ ≠ (.slice Ao21 t130.length co21 : Value).ownBlock ∧ k_ ≠ gb128)) k_ ∧ some k_ ≠ (u10 : Value).ownBlock)) (HL138_0.out) (fun k_ hk => ⟨⟨hk.1, ⟨hk.2.1, hk.2.2.2⟩⟩, hk.2.2.1⟩))))); (case aB => exact (by repeat (first | (with_reducible first | exact HB.out | apply below_alloc | apply pw_below_drewN | apply below_drew1 | refine below_set ?_ GE128.out) | exact HB.out))); (case aF => exact (fun k_ hk => ⟨(.inr (Nat.le_trans (below_size (by repeat (first | (with_reducible first | exact HB.out | apply below_alloc | apply pw_below_drewN | apply below_drew1 | refine below_set ?_ GE128.out) | exact HB.out))) hk)), Kd.fresh' (Kd.R_lt (by (with_reducible repeat (first | apply Kd.R_alloc | apply Kd.R_drewN | apply Kd.R_drew)); exact HO_9.out)) k_ hk, Kd.freshB (g := gb128) (o := .cells #[.slice A0_0 l0_0.length c0_0] 28 (0, 0)) (by (with_reducible repeat (first | refine blk_drewN ?_ _ | refine blk_drew ?_ | refine blk_alloc ?_ _)); exact BK128.out) k_ hk⟩)); (case aO => exact (by (with_reducible repeat (first | apply Kd.N_alloc | apply Kd.N_drewN | apply Kd.N_drew)); exact HO_10.out)); (case aS => exact (below_size (by repeat (first | (with_reducible first | exact HB.out | apply below_alloc | apply pw_below_drewN | apply below_drew1 | refine below_set ?_ GE128.out) | exact HB.out)))); (case aL => have := LMc19.out; omega); intro v140 w22 ho hb hg hat; rw [← Ny139.out] at ho; have n0_ := Aside0.mk (Kd.V_afterv (ok := (fun k_ => (P1_ k_ ∨ w.heap.size ≤ k_) ∧ some k_ ≠ (.slice Ao21 t130.length co21 : Value).ownBlock ∧ k_ ≠ gb128)) (by (with_reducible repeat (first | apply Kd.V_alloc | apply Kd.V_drewN | apply Kd.V_drew)); exact Kd.V_mono HO_7.out (fun _ hk => ⟨⟨hk.1, ⟨hk.2.1, hk.2.2.2⟩⟩, hk.2.2.1⟩)) hg hat); have n1_ := Aside0.mk (Kd.R_over' (by (with_reducible repeat (first | apply Kd.R_alloc | apply Kd.R_drewN | apply Kd.R_drew)); exact HO_9.out) (Kd.N_typed (by (with_reducible repeat (first | apply Kd.N_alloc | apply Kd.N_drewN | apply Kd.N_drew)); exact HO_10.out)) (by decide) hg); have n2_ := Aside0.mk (blk_grown (g := gb128) (o := .cells #[.slice A0_0 l0_0.length c0_0] 28 (0, 0)) (by (with_reducible repeat (first | refine blk_drewN ?_ _ | refine blk_drew ?_ | refine blk_alloc ?_ _)); exact BK128.out) hg (Kd.N_ne HO_10.out BK128.out (by decide))); have n3_ := Aside0.mk (Kd.V_afterv (ok := (fun k_ => (P1_ k_ ∨ w.heap.size ≤ k_) ∧ some k_ ≠ (.slice Ao21 t130.length co21 : Value).ownBlock ∧ k_ ≠ gb128)) (by (with_reducible repeat (first | apply Kd.V_alloc | apply Kd.V_drewN | apply Kd.V_drew)); exact Kd.V_mono HL136_0.out (fun _ hk => ⟨⟨hk.1, ⟨hk.2.1, hk.2.2.2⟩⟩, hk.2.2.1⟩)) hg hat); have n4_ := Aside0.mk (Kd.V_afterv (ok := (fun k_ => (P1_ k_ ∨ w.heap.size ≤ k_) ∧ some k_ ≠ (.slice Ao21 t130.length co21 : Value).ownBlock ∧ k_ ≠ gb128)) (by (with_reducible repeat (first | apply Kd.V_alloc | apply Kd.V_drewN | apply Kd.V_drew)); exact Kd.V_mono HL138_0.out (fun _ hk => ⟨⟨hk.1, ⟨hk.2.1, hk.2.2.2⟩⟩, hk.2.2.1⟩)) hg hat); have n5_ := Aside0.mk (hb); have n6_ := Aside0.mk (ho); clear HO_7; clear HO_9; clear BK128; clear HL136_0; clear HL138_0; clear HB; clear HO_10; have HO_7 := n0_; have HO_9 := n1_; have BK128 := n2_; have HL136_0 := n3_; have HL138_0 := n4_; have HB := n5_; have HO141 := n6_; clear n0_ n1_ n2_ n3_ n4_ n5_ n6_; clear ho hb hg hat))
           go_roundg k2
           case measure => have := HK1.out; have := HK2.out; omega
           case rel => exact ⟨(y139), (wrap64 (x11_2 + 1)), (by first | rfl | (simp; done) | (simp [*]; done)), H', ⟨by have := HK1.out; have := HK2.out; omega⟩, ⟨by (with_reducible repeat (first | apply Kd.V_alloc | apply Kd.V_drewN | apply Kd.V_drew)); exact Kd.V_mono HO_7.out (fun _ hk => ⟨hk.1.1, ⟨hk.1.2.1, ⟨hk.2, hk.1.2.2⟩⟩⟩)⟩, ⟨by (with_reducible repeat (first | apply Kd.R_alloc | apply Kd.R_drewN | apply Kd.R_drew)); exact HO_9.out⟩, ⟨by (with_reducible repeat (first | apply Kd.N_alloc | apply Kd.N_drewN | apply Kd.N_drew)); exact HO141.out⟩, ⟨by (with_reducible repeat (first | refine blk_drewN ?_ _ | refine blk_drew ?_ | refine blk_alloc ?_ _)); exact BK128.out⟩, ⟨by repeat (first | (with_reducible first | exact HB.out | apply below_alloc | apply pw_below_drewN | apply below_drew1 | refine below_set ?_ GE128.out) | exact HB.out)⟩⟩
          ·rw [if_neg c19] at H
           exact absurd H (by simp)
        ·rw [if_neg c14] at H
         exact absurd H (by simp)
       ·rw [if_neg c13] at H
        have c13b0 : decide (x11_2 < (x7_1.length : Int)) = false := decide_eq_false c13
        clear c13
        have H' := Aside0.mk H
        clear H
        obtain ⟨Ao23, co23, eo23⟩ := Kd.V_slice HO_7.out
        subst eo23
        go_wp2
        go_roundg k2
        case measure => have := HK1.out; have := HK2.out; omega
        case rel => exact ⟨(x10_2), (wrap64 (x8_1 + 1)), (by first | rfl | (simp; done) | (simp [*]; done)), H', ⟨by have := HK1.out; have := HK2.out; omega⟩, ⟨Kd.N_V (by (with_reducible repeat (first | apply Kd.N_alloc | apply Kd.N_drewN | apply Kd.N_drew)); exact Kd.N_mono HO_10.out (fun _ hk => ⟨hk.1, hk.2.2⟩))⟩, ⟨by (with_reducible repeat (first | refine blk_drewN ?_ _ | refine blk_drew ?_ | refine blk_alloc ?_ _)); exact BK128.out⟩, ⟨by repeat (first | (with_reducible first | exact HB.out | apply below_alloc | apply pw_below_drewN | apply below_drew1 | refine below_set ?_ GE128.out) | exact HB.out)⟩⟩
    ·rw [if_neg c6] at H
     exact absurd H (by simp)
   ·rw [if_neg c5] at H
    have c5b0 : decide (x8_1 < (l2.length : Int)) = false := decide_eq_false c5
    clear c5
    obtain rfl := Option.some.inj H
    go_wp2
    go_ret
    exact ⟨_, by first | rfl | (simp [errW_none, errW_some] <;> rfl) | (simp [*, errW_none, errW_some] <;> rfl), by (with_reducible repeat (first | apply Kd.V_alloc | apply Kd.V_drewN | apply Kd.V_drew)); exact Kd.V_mono HO_7.out (fun _ hk => hk.1), by repeat (first | (with_reducible first | exact HB.out | apply below_alloc | apply pw_below_drewN | apply below_drew1 | refine below_set ?_ GE128.out) | exact HB.out)⟩
open Go.Proofs.Ytionaakahhgdjaa.M
theorem mul_steps {x q d4 : Int} (h0 : 1 ≤ x) (h4 : 1 ≤ d4) (hq : 2 ≤ q ∧ q ≤ 4) (h1 : x * 4 * d4 ≤ 65536) : 1 ≤ x * q ∧ x * q ≤ 65536 ∧ x * q * d4 ≤ 65536 := by
 have hx4 : x * q ≤ x * 4 := Int.mul_le_mul_of_nonneg_left (by omega) (by omega)
 have hx1 : x * 1 ≤ x * q := Int.mul_le_mul_of_nonneg_left (by omega) (by omega)
 have hb : x * q * d4 ≤ x * 4 * d4 := Int.mul_le_mul_of_nonneg_right hx4 (by omega)
 have hb2 : x * q * 1 ≤ x * q * d4 := Int.mul_le_mul_of_nonneg_left h4 (by omega)
 omega
theorem sz_getD {l : List Int} (hz : Sz l) {i : Nat} (h : i < l.length) : 2 ≤ l.getD i 0 ∧ l.getD i 0 ≤ 4 := hz _ (by rw [List.getD_eq_getElem?_getD, List.getElem?_eq_getElem h]; exact List.getElem_mem _)
theorem l01N_l0 (l : List Int) (hl : l.length ≤ 8) (hz : Sz l) : ∀ (d i : Nat) (x : Int), i + d = l.length → 1 ≤ x → x * 4 ^ d ≤ 65536 → Ev (fun k => spec_l01N.l0 k x (i : Int) l) (x * pr (l.drop i)) := by
 intro d
 induction d with
 | zero =>
  intro i x hi h0 h1
  refine Ev.step (fun k => by simp only [spec_l01N.l0]; rw [if_neg (by omega)]) ?_
  rw [List.drop_of_length_le (by omega), pr_nil, Int.mul_one]
  exact Ev.now x
 | succ d ih =>
  intro i x hi h0 h1
  have hq := sz_getD hz (show i < l.length by omega)
  rw [Int.pow_succ, Int.mul_comm (4 ^ d) 4, ← Int.mul_assoc] at h1
  obtain ⟨a, b, c⟩ := mul_steps h0 (pow4 d) hq h1
  refine Ev.step (fun k => by simp only [spec_l01N.l0]; rw [if_pos (by omega), if_pos (by omega), rd_nat, wrap_id (by omega) (by omega), wrap_id (by omega) (by omega), show (i : Int) + 1 = ((i + 1 : Nat) : Int) by omega]) ?_
  rw [drop_get l i (by omega), pr_cons, ← Int.mul_assoc]
  exact ih (i + 1) _ (by omega) a c
theorem l01N_ev (l : List Int) (hl : l.length ≤ 8) (hz : Sz l) : Ev (fun k => spec_l01N.f k l) (pr l) := by
 have h := l01N_l0 l hl hz l.length 0 1 (by omega) (by omega) (pow4_8 _ hl)
 rw [List.drop_zero, Int.one_mul] at h
 exact h
theorem l01In_val (a b c : Int) : spec_l01In.f a b c = some (decide (b ≤ a ∧ a ≤ c)) := by
 unfold spec_l01In.f
 by_cases h : a ≥ b
 ·rw [if_pos h]
  exact congrArg some (decide_eq_decide.2 ⟨fun x => ⟨h, x⟩, fun x => x.2⟩)
 ·rw [if_neg h]
  exact congrArg some (Eq.symm (decide_eq_false (fun x => h x.1)))
theorem l01Is_l0 (l : List Int) (hl : l.length ≤ 8) : ∀ (d i : Nat), i + d = l.length → (∀ q ∈ l.take i, 2 ≤ q ∧ q ≤ 4) → Ev (fun k => spec_l01Is.l0 k (i : Int) l) (decide ((∀ q ∈ l.drop i, 2 ≤ q ∧ q ≤ 4) ∧ pr l ≤ 1024)) := by
 intro d
 induction d with
 | zero =>
  intro i hi hs
  refine Ev.step (fun k => by simp only [spec_l01Is.l0]; rw [if_neg (by omega)]) ?_
  have hz : Sz l := by rw [List.take_of_length_le (by omega)] at hs; exact hs
  refine Ev.bind (l01N_ev l hl hz) ?_
  rw [List.drop_of_length_le (by omega), show decide ((∀ q ∈ ([] : List Int), 2 ≤ q ∧ q ≤ 4) ∧ pr l ≤ 1024) = decide (pr l ≤ 1024) from decide_eq_decide.2 ⟨fun h => h.2, fun h => ⟨fun q hq => absurd hq List.not_mem_nil, h⟩⟩]
  exact Ev.now _
 | succ d ih =>
  intro i hi hs
  have hdrop := drop_get l i (show i < l.length by omega)
  by_cases c : 2 ≤ l.getD i 0 ∧ l.getD i 0 ≤ 4
  ·refine Ev.step (fun k => by simp only [spec_l01Is.l0]; rw [if_pos (by omega), if_pos (by omega), rd_nat, l01In_val, decide_eq_true c, Option.bind_some, if_pos rfl, wrap_id (by omega) (by omega), show (i : Int) + 1 = ((i + 1 : Nat) : Int) by omega]) ?_
   have h := ih (i + 1) (by omega) (fun q hq => by
    rw [List.take_succ_eq_append_getElem (show i < l.length by omega)] at hq
    rcases List.mem_append.1 hq with hq | hq
    ·exact hs q hq
    ·rw [List.mem_singleton.1 hq]
     rw [List.getD_eq_getElem?_getD, List.getElem?_eq_getElem (show i < l.length by omega)] at c
     exact c)
   have e : ((∀ q ∈ l.drop (i + 1), 2 ≤ q ∧ q ≤ 4) ∧ pr l ≤ 1024) ↔ ((∀ q ∈ l.drop i, 2 ≤ q ∧ q ≤ 4) ∧ pr l ≤ 1024) := by
    rw [hdrop]
    refine ⟨fun h => ⟨fun q hq => ?_, h.2⟩, fun h => ⟨fun q hq => h.1 q (List.mem_cons_of_mem _ hq), h.2⟩⟩
    rcases List.mem_cons.1 hq with rfl | hq
    ·exact c
    ·exact h.1 q hq
   rw [← decide_eq_decide.2 e]
   exact h
  ·refine Ev.step (fun k => by simp only [spec_l01Is.l0]; rw [if_pos (by omega), if_pos (by omega), rd_nat, l01In_val, decide_eq_false c, Option.bind_some, if_neg (by decide)]) ?_
   rw [decide_eq_false (fun h => c (h.1 _ (by rw [hdrop]; exact List.mem_cons_self)))]
   exact Ev.now _
theorem l01Is_ev (l : List Int) : Ev (fun k => spec_l01Is.f k l) (isSp l) := by
 unfold spec_l01Is.f isSp
 rw [l01In_val]
 by_cases c : (1 : Int) ≤ l.length ∧ (l.length : Int) ≤ 8
 ·refine Ev.congr (fun k => by rw [decide_eq_true c, Option.bind_some, if_pos rfl]) ?_
  have h := l01Is_l0 l (by omega) l.length 0 (by omega) (fun q hq => absurd hq List.not_mem_nil)
  rw [List.drop_zero] at h
  rw [show decide (1 ≤ l.length ∧ l.length ≤ 8 ∧ (∀ q ∈ l, 2 ≤ q ∧ q ≤ 4) ∧ pr l ≤ 1024) = decide ((∀ q ∈ l, 2 ≤ q ∧ q ≤ 4) ∧ pr l ≤ 1024) from decide_eq_decide.2 ⟨fun h => h.2.2, fun h => ⟨by omega, by omega, h⟩⟩]
  exact h
 ·refine Ev.congr (fun k => by rw [decide_eq_false c, Option.bind_some, if_neg (by decide)]) ?_
  rw [decide_eq_false (fun h => c ⟨by omega, by omega⟩)]
  exact Ev.now _
theorem l10Code_ev (l : List Int) (t : Int) : Ev (fun k => spec_l10Code.f k l t) (if isSp l = true then (if 1 ≤ t ∧ t ≤ 3 ∧ t ≤ l.length then 0 else 2) else 1) := by
 unfold spec_l10Code.f
 refine Ev.bind (l01Is_ev l) ?_
 by_cases c : isSp l = true
 ·simp only [if_pos c]
  rw [l01In_val]
  by_cases c2 : 1 ≤ t ∧ t ≤ 3 ∧ t ≤ l.length
  ·rw [if_pos c2, decide_eq_true (by unfold mn; split <;> omega), Option.bind_some, if_pos rfl]
   exact Ev.now _
  ·rw [if_neg c2, decide_eq_false (by unfold mn; split <;> omega), Option.bind_some, if_neg (by decide)]
   exact Ev.now _
 ·simp only [if_neg c]
  exact Ev.now _
theorem l10Rows_l0 (l rows : List Int) (hl : l.length ≤ 8) (hz : Sz l) (hp : pr l ≤ 1024) (hr : rows.length ≤ 140737488351232) (c : Int) : ∀ (d i : Nat), i + d = rows.length →
  Ev (fun k => spec_l10Rows.l0 k rows c (i : Int) l) (if (∀ r ∈ rows.drop i, 0 ≤ r ∧ r < pr l) then (if rows.length > 200 then 2 else c) else 2) := by
 intro d
 have hpos := pr_pos hz
 induction d with
 | zero =>
  intro i hi
  refine Ev.step (fun k => by simp only [spec_l10Rows.l0]; rw [if_neg (by omega)]) ?_
  rw [List.drop_of_length_le (by omega), if_pos (fun r hr => absurd hr List.not_mem_nil)]
  by_cases c1 : rows.length > 200
  ·rw [if_pos c1, if_pos (by omega)]; exact Ev.now _
  ·rw [if_neg c1, if_neg (by omega)]; exact Ev.now _
 | succ d ih =>
  intro i hi
  have hdrop := drop_get rows i (show i < rows.length by omega)
  refine Ev.step (fun k => by simp only [spec_l10Rows.l0]; rw [if_pos (by omega), if_pos (by omega), rd_nat]) ?_
  refine Ev.bind (l01N_ev l hl hz) ?_
  by_cases c1 : 0 ≤ rows.getD i 0 ∧ rows.getD i 0 ≤ pr l - 1
  ·refine Ev.congr (fun k => by rw [wrap_id (x := pr l - 1) (by omega) (by omega), l01In_val, decide_eq_true c1, Option.bind_some, if_pos rfl, wrap_id (by omega) (by omega), show (i : Int) + 1 = ((i + 1 : Nat) : Int) by omega]) ?_
   have h := ih (i + 1) (by omega)
   by_cases c2 : ∀ r ∈ rows.drop (i + 1), 0 ≤ r ∧ r < pr l
   ·rw [if_pos c2] at h
    rw [if_pos (fun r hr => by
     rw [hdrop] at hr
     rcases List.mem_cons.1 hr with rfl | hr
     ·omega
     ·exact c2 r hr)]
    exact h
   ·rw [if_neg c2] at h
    rw [if_neg (fun H => c2 (fun r hr => H r (by rw [hdrop]; exact List.mem_cons_of_mem _ hr)))]
    exact h
  ·refine Ev.congr (fun k => by rw [wrap_id (x := pr l - 1) (by omega) (by omega), l01In_val, decide_eq_false c1, Option.bind_some, if_neg (by decide)]) ?_
   rw [if_neg (fun H => by have := H _ (by rw [hdrop]; exact List.mem_cons_self); omega)]
   exact Ev.now _
theorem l10Rows_ev (l rows : List Int) (t : Int) (hr : rows.length ≤ 140737488351232) : Ev (fun k => spec_l10Rows.f k l rows t) (rowsCode l rows t) := by
 unfold spec_l10Rows.f rowsCode
 refine Ev.bind (l10Code_ev l t) ?_
 by_cases c : isSp l = true
 ·obtain ⟨h1, h2, h3, h4⟩ := isSp_sz c
  rw [if_pos c, if_pos c]
  by_cases c4 : 1 ≤ t ∧ t ≤ 3 ∧ t ≤ l.length
  ·rw [if_pos c4]
   simp only [show ¬ ((0 : Int) = 1) by decide, if_false]
   have h := l10Rows_l0 l rows h2 h3 h4 hr 0 rows.length 0 (by omega)
   rw [List.drop_zero] at h
   by_cases c3 : ∀ r ∈ rows, 0 ≤ r ∧ r < pr l
   ·rw [if_pos c3] at h
    by_cases c5 : rows.length > 200
    ·rw [if_pos c5] at h
     rw [if_pos (Or.inl c5)]; exact h
    ·rw [if_neg c5] at h
     rw [if_neg (fun H => by rcases H with H | H | H; (· exact c5 H); (· exact H c3); (· exact H c4))]; exact h
   ·rw [if_neg c3] at h
    rw [if_pos (Or.inr (Or.inl c3))]; exact h
  ·rw [if_neg c4]
   simp only [show ¬ ((2 : Int) = 1) by decide, if_false]
   have h := l10Rows_l0 l rows h2 h3 h4 hr 2 rows.length 0 (by omega)
   rw [List.drop_zero, ite_self, ite_self] at h
   rw [if_pos (Or.inr (Or.inr c4))]; exact h
 ·rw [if_neg c, if_neg c]
  simp only [if_true]
  exact Ev.now _
theorem getD_01 (l : List Int) (i : Nat) (h : i < l.length) : l.getD i 0 = l.getD i 1 := by
 rw [List.getD_eq_getElem?_getD, List.getD_eq_getElem?_getD, List.getElem?_eq_getElem h]; rfl
theorem l01Digits_l0 (l : List Int) (hl : l.length ≤ 8) (hz : Sz l) (row : Int) (h0 : 0 ≤ row) (h1 : row ≤ 1000000000) : ∀ (j : Nat) (x5 : List Int), j ≤ l.length → x5.length = l.length → (∀ i, j ≤ i → i < l.length → x5.getD i 0 = dgAt l row i) →
  Ev (fun k => spec_l01Digits.l0 k (row / pr (l.drop j)) x5 ((j : Int) - 1) l) (dgs l row) := by
 intro j
 induction j with
 | zero =>
  intro x5 _ hlen hx
  refine Ev.step (fun k => by simp only [spec_l01Digits.l0]; rw [if_neg (by omega)]) ?_
  have e : x5 = dgs l row := by
   refine List.ext_getElem (by rw [hlen, dgs_length]) (fun i h2 h3 => ?_)
   have h4 := hx i (by omega) (by omega)
   rw [List.getD_eq_getElem?_getD, List.getElem?_eq_getElem h2] at h4
   have h5 : (dgs l row)[i] = dgAt l row i := by simp [dgs]
   rw [h5]
   exact h4
  rw [e]
  exact Ev.now _
 | succ j ih =>
  intro x5 hj hlen hx
  have hq := sz_getD hz (show j < l.length by omega)
  have hd := div_range hz row h0 (j + 1)
  have hm1 := Int.emod_nonneg (row / pr (l.drop (j + 1))) (show l.getD j 0 ≠ 0 by omega)
  have hdd := div_range hz row h0 j
  have hst := div_step hz row j (by omega)
  rw [← getD_01 l j (by omega)] at hst
  refine Ev.step (fun k => by
   simp only [spec_l01Digits.l0]
   rw [if_pos (by omega), if_pos (by omega), if_pos (by omega), show ((j + 1 : Nat) : Int) - 1 = (j : Int) by omega, rd_nat, if_neg (by omega), if_pos (by omega), Int.tdiv_eq_ediv_of_nonneg hd.1, Int.tmod_eq_emod_of_nonneg hd.1, hst, wrap_id (by omega) (by omega), wrap_id (by omega) (by omega)]) ?_
  refine ih _ (by omega) (by rw [List.length_set]; exact hlen) (fun i h2 h3 => ?_)
  rw [List.getD_eq_getElem?_getD, List.getElem?_set, show ((j : Int)).toNat = j by omega]
  by_cases c : j = i
  ·rw [if_pos c, if_pos (by omega), ← c]
   unfold dgAt
   rw [if_pos (by omega), ← getD_01 l j (by omega)]; rfl
  ·rw [if_neg c, ← List.getD_eq_getElem?_getD]
   exact hx i (by omega) h3
theorem l01Digits_ev (l : List Int) (hl : l.length ≤ 8) (hz : Sz l) (row : Int) (h0 : 0 ≤ row) (h1 : row ≤ 1000000000) : Ev (fun k => spec_l01Digits.f k l row) (dgs l row) := by
 unfold spec_l01Digits.f
 refine Ev.congr (fun k => by rw [if_pos (by omega), if_pos (by omega), wrap_id (by omega) (by omega)]) ?_
 have h := l01Digits_l0 l hl hz row h0 h1 l.length (List.replicate ((l.length : Int)).toNat 0) (by omega) (by rw [List.length_replicate]; omega) (fun i h2 h3 => by omega)
 rw [List.drop_of_length_le (Nat.le_refl _), pr_nil, Int.ediv_one] at h
 exact h
/-- A choice whose places are places of so many digits. -/
def Ch (n : Nat) (c : List Int) : Prop := c.length ≤ 1000 ∧ ∀ i : Nat, i < c.length / 2 → 0 ≤ at' c i ∧ at' c i < n
theorem l10Has_l0 (dg c : List Int) (hc : Ch dg.length c) : ∀ (d i : Nat) (b : Bool), i + d = c.length / 2 → (b = true ↔ ∀ j : Nat, i ≤ j → j < c.length / 2 → at' dg (at' c j) = at' c ((c.length / 2 + j : Nat) : Int)) →
  Ev (fun k => spec_l10Has.l0 k dg c ((c.length / 2 : Nat) : Int) (i : Int)) b := by
 obtain ⟨hc1, hc2⟩ := hc
 intro d
 induction d with
 | zero =>
  intro i b hi hb
  refine Ev.step (fun k => by simp only [spec_l10Has.l0]; rw [if_neg (by omega)]) ?_
  rw [hb.2 (fun j h1 h2 => by omega)]
  exact Ev.now _
 | succ d ih =>
  intro i b hi hb
  have h1 := hc2 i (by omega)
  have h2 : 0 ≤ rd c (i : Int) ∧ rd c (i : Int) < dg.length := h1
  by_cases e : rd dg (rd c (i : Int)) = rd c ((c.length / 2 + i : Nat) : Int)
  ·refine Ev.step (fun k => by
    simp only [spec_l10Has.l0]
    rw [if_pos (by omega), if_pos (by omega), if_pos (by omega), if_pos (by omega), if_pos (by omega), wrap_id (by omega) (by omega), if_pos (by omega), if_pos (by omega), show ((c.length / 2 : Nat) : Int) + (i : Int) = ((c.length / 2 + i : Nat) : Int) by omega, if_pos e, wrap_id (by omega) (by omega), show (i : Int) + 1 = ((i + 1 : Nat) : Int) by omega]) ?_
   refine ih (i + 1) b (by omega) (hb.trans ⟨fun H j h3 h4 => H j (by omega) h4, fun H j h3 h4 => ?_⟩)
   by_cases hj : j = i
   ·rw [hj]; exact e
   ·exact H j (by omega) h4
  ·refine Ev.step (fun k => by
    simp only [spec_l10Has.l0]
    rw [if_pos (by omega), if_pos (by omega), if_pos (by omega), if_pos (by omega), if_pos (by omega), wrap_id (by omega) (by omega), if_pos (by omega), if_pos (by omega), show ((c.length / 2 : Nat) : Int) + (i : Int) = ((c.length / 2 + i : Nat) : Int) by omega, if_neg e]) ?_
   have : b = false := by
    cases b with
    | false => rfl
    | true => exact absurd (hb.1 rfl i (Nat.le_refl _) (by omega)) e
   rw [this]
   exact Ev.now _
theorem l10Has_ev (dg c : List Int) (hc : Ch dg.length c) : Ev (fun k => spec_l10Has.f k dg c) (hasB dg c) := by
 unfold spec_l10Has.f
 have h := l10Has_l0 dg c hc (c.length / 2) 0 (hasB dg c) (by omega) (by unfold hasB; rw [decide_eq_true_iff]; exact ⟨fun H j _ h => H j h, fun H j h => H j (Nat.zero_le _) h⟩)
 have hc1 := hc.1
 refine Ev.congr (fun k => ?_) h
 rw [show wrap64 ((c.length : Int) / 2) = ((c.length / 2 : Nat) : Int) by rw [wrap_id (by omega) (by omega)]; omega]
 rfl
theorem rd_L1_nat (xs : List (List Int)) (i : Nat) : rd_L1 xs (i : Int) = xs.getD i [] := rfl
theorem dropL (xs : List (List Int)) (i : Nat) (h : i < xs.length) : xs.drop i = xs.getD i [] :: xs.drop (i + 1) := by
 rw [List.drop_eq_getElem_cons h, List.getD_eq_getElem?_getD, List.getElem?_eq_getElem h]; rfl
theorem memL (xs : List (List Int)) (i : Nat) (h : i < xs.length) : xs.getD i [] ∈ xs := by
 rw [List.getD_eq_getElem?_getD, List.getElem?_eq_getElem h]; exact List.getElem_mem h
theorem l10Missing_l1 (l rows dg : List Int) (cs : List (List Int)) (hdg : dg.length = l.length) (hcs : ∀ c ∈ cs, Ch l.length c) (hlen : cs.length ≤ 100000) (x8 : Int) (r : List (List Int)) : ∀ (d i : Nat) (acc : List (List Int)), i + d = cs.length → acc.length + d ≤ 100000 →
  Ev (fun k => spec_l10Missing.l0 k rows (acc ++ (cs.drop i).filter (fun c => !hasB dg c)) (wrap64 (x8 + 1)) l) r →
  Ev (fun k => spec_l10Missing.l1 k rows cs x8 dg acc (i : Int) l) r := by
 intro d
 induction d with
 | zero =>
  intro i acc hi ha h
  refine Ev.step (fun k => by simp only [spec_l10Missing.l1]; rw [if_neg (by omega)]) ?_
  rw [List.drop_of_length_le (by omega), List.filter_nil, List.append_nil] at h
  exact h
 | succ d ih =>
  intro i acc hi ha h
  rw [dropL cs i (by omega), List.filter_cons] at h
  refine Ev.step (fun k => by simp only [spec_l10Missing.l1]; rw [if_pos (by omega), if_pos (by omega), rd_L1_nat]) ?_
  refine Ev.bind (l10Has_ev dg (cs.getD i []) (by rw [hdg]; exact hcs _ (memL cs i (by omega)))) ?_
  cases hb : hasB dg (cs.getD i []) with
  | true =>
   rw [hb] at h
   simp only [if_true]
   refine Ev.congr (fun k => by rw [wrap_id (by omega) (by omega), show (i : Int) + 1 = ((i + 1 : Nat) : Int) by omega]) ?_
   exact ih (i + 1) acc (by omega) (by omega) h
  | false =>
   rw [hb] at h
   simp only [Bool.false_eq_true, if_false]
   refine Ev.congr (fun k => by rw [if_pos (by omega), wrap_id (by omega) (by omega), show (i : Int) + 1 = ((i + 1 : Nat) : Int) by omega]) ?_
   refine ih (i + 1) _ (by omega) (by rw [List.length_append, List.length_singleton]; omega) ?_
   rw [List.append_assoc]
   exact h
theorem missing_cons (l : List Int) (cs : List (List Int)) (r : Int) (rows : List Int) : missing l cs (r :: rows) = missing l (cs.filter (fun c => !hasB (dgs l r) c)) rows := by
 unfold missing
 rw [List.filter_filter]
 refine List.filter_congr fun c _ => ?_
 rw [List.all_cons, Bool.and_comm]
theorem l10Missing_l0 (l : List Int) (hl : l.length ≤ 8) (hz : Sz l) (rows : List Int) (hr : ∀ r ∈ rows, 0 ≤ r ∧ r ≤ 1000000000) (hrl : rows.length ≤ 140737488351232) : ∀ (d i : Nat) (cs : List (List Int)), i + d = rows.length → (∀ c ∈ cs, Ch l.length c) → cs.length ≤ 100000 →
  Ev (fun k => spec_l10Missing.l0 k rows cs (i : Int) l) (missing l cs (rows.drop i)) := by
 intro d
 induction d with
 | zero =>
  intro i cs hi hcs hlen
  refine Ev.step (fun k => by simp only [spec_l10Missing.l0]; rw [if_neg (by omega)]) ?_
  rw [List.drop_of_length_le (by omega), missing_nil]
  exact Ev.now _
 | succ d ih =>
  intro i cs hi hcs hlen
  have hx : 0 ≤ rows.getD i 0 ∧ rows.getD i 0 ≤ 1000000000 := hr _ (by rw [List.getD_eq_getElem?_getD, List.getElem?_eq_getElem (show i < rows.length by omega)]; exact List.getElem_mem _)
  refine Ev.step (fun k => by simp only [spec_l10Missing.l0]; rw [if_pos (by omega), if_pos (by omega), rd_nat]) ?_
  refine Ev.bind (l01Digits_ev l hl hz _ hx.1 hx.2) ?_
  refine l10Missing_l1 l rows (dgs l (rows.getD i 0)) cs (dgs_length _ _) hcs hlen (i : Int) _ cs.length 0 [] (by omega) (by simp; omega) ?_
  rw [List.drop_zero, List.nil_append, wrap_id (by omega) (by omega), show (i : Int) + 1 = ((i + 1 : Nat) : Int) by omega, drop_get rows i (by omega), missing_cons]
  exact ih (i + 1) _ (by omega) (fun c hc => hcs c (List.mem_filter.1 hc).1) (Nat.le_trans (List.length_filter_le _ _) hlen)
theorem l10Missing_ev (l : List Int) (hl : l.length ≤ 8) (hz : Sz l) (rows : List Int) (hr : ∀ r ∈ rows, 0 ≤ r ∧ r ≤ 1000000000) (hrl : rows.length ≤ 140737488351232) (cs : List (List Int)) (hcs : ∀ c ∈ cs, Ch l.length c) (hlen : cs.length ≤ 100000) :
  Ev (fun k => spec_l10Missing.f k l cs rows) (missing l cs rows) := l10Missing_l0 l hl hz rows hr hrl rows.length 0 cs (by omega) hcs hlen
theorem l01Own_val (l : List Int) (h : l.length < 17592186044416) : spec_l01Own.f l = some l := by
 unfold spec_l01Own.f
 rw [Option.bind_some, if_pos (by simpa using h), List.nil_append]
theorem l10Places_l1 (l : List Int) (x2 : Int) (i : Nat) (hi : i ≤ 100) (T : List (List Int)) (hT : ∀ t ∈ T, t.length ≤ 1000) (hTl : T.length ≤ 100000) (r : List (List Int)) : ∀ (d m : Nat) (acc : List (List Int)), m + d = T.length → acc.length + d ≤ 100000 →
  Ev (fun k => spec_l10Places.l0 k x2 (acc ++ (T.drop m).map (fun r => (i : Int) :: r)) ((i + 1 : Nat) : Int) l) r →
  Ev (fun k => spec_l10Places.l1 k x2 acc (i : Int) T (m : Int) l) r := by
 intro d
 induction d with
 | zero =>
  intro m acc hm ha h
  refine Ev.step (fun k => by simp only [spec_l10Places.l1]; rw [if_neg (by omega), wrap_id (by omega) (by omega), show (i : Int) + 1 = ((i + 1 : Nat) : Int) by omega]) ?_
  rw [List.drop_of_length_le (by omega), List.map_nil, List.append_nil] at h
  exact h
 | succ d ih =>
  intro m acc hm ha h
  rw [dropL T m (by omega), List.map_cons] at h
  have h1 := hT _ (memL T m (by omega))
  refine Ev.step (fun k => by simp only [spec_l10Places.l1]; rw [if_pos (by omega), Option.bind_some, if_pos (by omega), rd_L1_nat, if_pos (by simp only [List.length_singleton]; omega), if_pos (by omega), wrap_id (by omega) (by omega), show (m : Int) + 1 = ((m + 1 : Nat) : Int) by omega]) ?_
  refine ih (m + 1) _ (by omega) (by rw [List.length_append, List.length_singleton]; omega) ?_
  rw [List.append_assoc]
  exact h
theorem l10Places_ev (l : List Int) (hl : l.length ≤ 8) : ∀ (d b : Nat), d ≤ 3 → b ≤ l.length → Ev (fun k => spec_l10Places.f k l (b : Int) (d : Int)) (places l.length d b) := by
 intro d
 induction d with
 | zero =>
  intro b _ hb
  refine Ev.step (fun k => by simp only [spec_l10Places.f]; rw [if_pos (by omega)]) ?_
  exact Ev.now _
 | succ d ih =>
  intro b hd hb
  have L : ∀ (e i : Nat) (acc : List (List Int)), i + e = l.length → acc.length + 512 * e ≤ 10000 → Ev (fun k => spec_l10Places.l0 k ((d + 1 : Nat) : Int) acc (i : Int) l) (acc ++ run (fun i => (places l.length d (i + 1)).map (fun r => i :: r)) (i : Int) e) := by
   intro e
   induction e with
   | zero =>
    intro i acc hi ha
    refine Ev.step (fun k => by simp only [spec_l10Places.l0]; rw [if_neg (by omega)]) ?_
    rw [show run (fun i => (places l.length d (i + 1)).map (fun r => i :: r)) (i : Int) 0 = [] from rfl, List.append_nil]
    exact Ev.now _
   | succ e ih2 =>
    intro i acc hi ha
    refine Ev.step (fun k => by simp only [spec_l10Places.l0]; rw [if_pos (by omega), wrap_id (by omega) (by omega), wrap_id (by omega) (by omega), show (i : Int) + 1 = ((i + 1 : Nat) : Int) by omega, show ((d + 1 : Nat) : Int) - 1 = (d : Int) by omega]) ?_
    refine Ev.bind (ih (i + 1) (by omega) (by omega)) ?_
    have h8 := places_len l.length hl d ((i + 1 : Nat) : Int) (by omega)
    have h9 : 8 ^ d ≤ 8 ^ 3 := Nat.pow_le_pow_right (by decide) (by omega)
    have h10 : (8 : Nat) ^ 3 = 512 := rfl
    refine l10Places_l1 l _ i (by omega) _ (fun t ht => by have := places_each l.length d _ t ht; omega) (by omega) _ _ 0 acc (Nat.zero_add _) (by omega) ?_
    have h := ih2 (i + 1) (acc ++ (places l.length d ((i + 1 : Nat) : Int)).map (fun r => (i : Int) :: r)) (by omega) (by rw [List.length_append, List.length_map]; omega)
    rw [List.drop_zero]
    rw [List.append_assoc] at h
    exact h
  refine Ev.step (fun k => by simp only [spec_l10Places.f]; rw [if_neg (by omega)]) ?_
  have h := L (l.length - b) b [] (by omega) (by simp; omega)
  rw [List.nil_append] at h
  show Ev _ (run (fun i => (places l.length d (i + 1)).map (fun r => i :: r)) (b : Int) ((l.length : Int) - b).toNat)
  rw [show ((l.length : Int) - (b : Int)).toNat = l.length - b by omega]
  exact h
def digCond (l : List Int) (a : Int) : Prop := l.length ≤ 8 ∧ (∀ q ∈ l, 2 ≤ q ∧ q ≤ 4) ∧ 0 ≤ a ∧ a < 1073741824
instance (l : List Int) (a : Int) : Decidable (digCond l a) := by unfold digCond; infer_instance
def impl_digitsOf.f (l0_0 : List Int) (a1 : Int) : Option (Int × Int × Int × Int × Int × Int × Int × Int) :=
 if digCond l0_0 a1 then
  some (dgAt l0_0 a1 0, dgAt l0_0 a1 1, dgAt l0_0 a1 2, dgAt l0_0 a1 3, dgAt l0_0 a1 4, dgAt l0_0 a1 5, dgAt l0_0 a1 6, dgAt l0_0 a1 7)
 else none

def digRel (l : List Int) (a : Int) (w W : World) (A : Option Addr) (c : Nat) (v1 v6 : Value) : Prop :=
 ∃ i : Int, -1 ≤ i ∧ i < l.length ∧ v1 = .int .i64 (a / pr (l.drop (i + 1).toNat)) ∧ v6 = .int .i64 i ∧
  W.heap[w.heap.size]? = some (.cells #[.slice A l.length c] 28 (0, 0)) ∧
  W.heap[w.heap.size + 1]? = some (.cells (arr8 fun _ => 0) 106 (0, 0)) ∧
  W.heap[w.heap.size + 1 + 1]? = some (.cells (arr8 fun j => if i < j then dgAt l a j else 0) 106 (0, 0)) ∧
  Below w.heap.size w W

theorem dig_next {l : List Int} (hq : Sz l) {a i : Int} (ha : 0 ≤ a) (hb : a < 1073741824) (h0 : 0 ≤ i) (h1 : i < l.length) :
  a / pr (l.drop (i + 1).toNat) / rd l i = a / pr (l.drop (i - 1 + 1).toNat) ∧ a / pr (l.drop (i + 1).toNat) % rd l i % 256 = dgAt l a i.toNat := by
 have e1 : (i + 1).toNat = i.toNat + 1 := by omega
 have e2 : (i - 1 + 1).toNat = i.toNat := by omega
 rw [e1, e2, rd_getD l i h0 h1 1, div_step hq a i.toNat (by omega)]
 refine ⟨rfl, ?_⟩
 have h := dgAt_range hq a i.toNat
 unfold dgAt at h ⊢
 rw [if_pos (by omega)] at h ⊢
 omega

set_option maxHeartbeats 8000000 in
set_option maxRecDepth 100000 in
theorem impl_digitsOf.calls (A0_0 : Option Addr) (c0_0 : Nat) (l0_0 : List Int) (a1 : Int) (r1 r2 r3 r4 r5 r6 r7 r8 : Int) (w : World) (hr0_0 : Kd.C (Kd.int .i64) w A0_0 l0_0.length l0_0) (hc0_0 : l0_0.length ≤ c0_0) (h : impl_digitsOf.f l0_0 a1 = some (r1, r2, r3, r4, r5, r6, r7, r8)) :
  Calls Try.prog 110 #[.agg #[.slice A0_0 l0_0.length c0_0], .int .i64 a1] w fun e w' => e = .returned (.agg #[.int .u8 r1, .int .u8 r2, .int .u8 r3, .int .u8 r4, .int .u8 r5, .int .u8 r6, .int .u8 r7, .int .u8 r8]) ∧ Below w.heap.size w w' := by
 have hcond : digCond l0_0 a1 := by
  unfold impl_digitsOf.f at h
  split at h
  ·assumption
  ·cases h
 obtain ⟨hn, hq, ha, hb⟩ := hcond
 have HF : Aside0 (arr8 (dgAt l0_0 a1) = #[.int .u8 r1, .int .u8 r2, .int .u8 r3, .int .u8 r4, .int .u8 r5, .int .u8 r6, .int .u8 r7, .int .u8 r8]) := by
  unfold impl_digitsOf.f at h
  rw [if_pos ⟨hn, hq, ha, hb⟩] at h
  simp only [Option.some.injEq, Prod.mk.injEq] at h
  obtain ⟨rfl, rfl, rfl, rfl, rfl, rfl, rfl, rfl⟩ := h
  exact ⟨rfl⟩
 clear h
 have hu28 := Try.underlying28
 have hu106 := Try.underlying106
 have HR0_0 := Aside0.mk hr0_0
 have HQ := Aside0.mk hq
 clear hr0_0 hc0_0 hq
 go_enter Try.func110, Try.ntmps110
 go_wp2
 go_loopw [1, 6] (fun v1 v6 W => Aside0 (digRel l0_0 a1 w W A0_0 c0_0 v1 v6)) (fun _ v _ => (intOf v + 1).toNat)
 case atStart =>
  refine ⟨⟨l0_0.length - 1, by omega, by omega, ?_, rfl, ?_, ?_, ?_, ?_⟩⟩
  ·rw [show ((l0_0.length : Int) - 1 + 1).toNat = l0_0.length by omega, List.drop_length, pr_nil, Int.ediv_one]
  ·exact blk_alloc (blk_alloc (blk_new _ _) _) _
  ·have := blk_new (w.alloc (.cells #[.slice A0_0 l0_0.length c0_0] 28)) (.cells (arr8 fun _ => 0) 106)
   rw [World.size_alloc] at this
   exact blk_alloc this _
  ·have := blk_new ((w.alloc (.cells #[.slice A0_0 l0_0.length c0_0] 28)).alloc (.cells (arr8 fun _ => 0) 106)) (.cells (arr8 fun _ => 0) 106)
   rw [arr8_congr (f := fun j => if (l0_0.length : Int) - 1 < (j : Nat) then dgAt l0_0 a1 j else 0) (g := fun _ => 0) (fun j hj => by
    show (if (l0_0.length : Int) - 1 < (j : Nat) then dgAt l0_0 a1 j else 0) = 0
    split
    ·unfold dgAt; rw [if_neg (by omega)]
    ·rfl)]
   rw [World.size_alloc, World.size_alloc] at this
   exact this
  ·exact below_alloc (below_alloc (below_alloc (Below.refl _ _) _) _) _
 case round =>
  obtain ⟨i, hi0, hi1, rfl, rfl, h0, h1, h2, hB⟩ := hrel.out
  have hcz : wr.cell? ⟨w.heap.size, 0, none⟩ = some (.slice A0_0 l0_0.length c0_0) := (blk_cell h0 0).trans rfl
  have hcz2 : ∀ i u, (wr.setCell ⟨w.heap.size + 1 + 1, i, none⟩ u).cell? ⟨w.heap.size, 0, none⟩ = some (.slice A0_0 l0_0.length c0_0) := fun i u => (cell_far (by show w.heap.size ≠ w.heap.size + 1 + 1; omega) u).trans hcz
  have hst : 0 ≤ i → wr.cell? ⟨w.heap.size + 1 + 1, i.toNat, none⟩ = some (.int .u8 0) := fun hi => by
   rw [blk_cell8 h2 _ (by omega), if_neg (by omega)]
  have hfz : wr.frozen? ⟨w.heap.size + 1 + 1, i.toNat, none⟩ = false := blk_frozen h2 _
  have hz1 : wr.cell? ⟨w.heap.size + 1, 0, none⟩ = some (.int .u8 0) := blk_cell8 h1 0 (by omega)
  have H0 := Aside0.mk h0
  have H1 := Aside0.mk h1
  have H2 := Aside0.mk h2
  have HB := Aside0.mk hB
  clear hrel h0 h1 h2 hB
  have hwc := div_range (l := l0_0) HQ.out a1 ha (i + 1).toNat
  have HN : Aside0 (0 ≤ i → a1 / pr (l0_0.drop (i + 1).toNat) / rd l0_0 i = a1 / pr (l0_0.drop (i - 1 + 1).toNat) ∧ a1 / pr (l0_0.drop (i + 1).toNat) % rd l0_0 i % 256 = dgAt l0_0 a1 i.toNat) := ⟨fun hi => dig_next HQ.out ha hb hi hi1⟩
  have HS : Aside0 (i = -1 → a1 / pr (l0_0.drop (i + 1).toNat) = a1 / pr (l0_0.drop (i + 1).toNat)) := ⟨fun _ => rfl⟩
  obtain ⟨wc, hwe⟩ : ∃ wc, wc = a1 / pr (l0_0.drop (i + 1).toNat) := ⟨_, rfl⟩
  rw [← hwe] at HN hwc ⊢
  clear HS hwe
  obtain ⟨hwc0, hwc1⟩ := hwc
  have hwc2 : wc < 1073741824 := by omega
  by_cases hm0 : 0 ≤ i
  ·have hst' := hst hm0
   obtain ⟨ad, rfl, hx⟩ := Kd.at_int HR0_0.out i hm0 hi1
   have hx2 : ∀ j u, (wr.setCell ⟨w.heap.size + 1 + 1, j, none⟩ u).cell? (ad.add i.toNat) = some (.int .i64 (rd l0_0 i)) := fun j u => cell_old hx HB.out (by omega) u
   replace hx := (HB.out.cell (World.block_lt_of_cell? w _ hx)).trans hx
   have hqb : 2 ≤ rd l0_0 i ∧ rd l0_0 i ≤ 4 := by
    rw [rd_getD l0_0 i hm0 hi1 1]; exact Sz.at HQ.out _ (by omega)
   obtain ⟨hq1, hq2⟩ := hqb
   have hi8 : i < 8 := by omega
   clear hst
   go_wp2
   obtain ⟨hn1, hn2⟩ := HN.out hm0
   go_roundw
   case measure => simp [intOf]; omega
   case rel =>
    refine ⟨⟨i - 1, by omega, by omega, ?_, ?_, ?_, ?_, ?_, ?_⟩⟩
    ·first | rw [hn1] | (rw [← hn1])
    ·first | rfl | (simp; done)
    ·exact blk_far H0.out (by show w.heap.size ≠ w.heap.size + 1 + 1; omega) _
    ·exact blk_far H1.out (by show w.heap.size + 1 ≠ w.heap.size + 1 + 1; omega) _
    ·rw [hn2, blk_set8 H2.out _ (by omega)]
     refine congrArg (fun z => some (Obj.cells z 106 (0, 0))) (arr8_congr fun j hj => ?_)
     show (if j = i.toNat then _ else if i < (j : Int) then _ else _) = (if i - 1 < (j : Int) then _ else _)
     by_cases e : j = i.toNat
     ·subst e; rw [if_pos rfl, if_pos (by omega)]
     ·rw [if_neg e]
      by_cases e2 : i < (j : Int)
      ·rw [if_pos e2, if_pos (by omega)]
      ·rw [if_neg e2, if_neg (by omega)]
    ·exact below_set HB.out (by omega)
  ·have hie : i = -1 := by omega
   have H2' : wr.heap[w.heap.size + 1 + 1]? = some (.cells #[.int .u8 r1, .int .u8 r2, .int .u8 r3, .int .u8 r4, .int .u8 r5, .int .u8 r6, .int .u8 r7, .int .u8 r8] 106 (0, 0)) := by
    rw [H2.out, ← HF.out]
    refine congrArg (fun z => some (Obj.cells z 106 (0, 0))) (arr8_congr fun j hj => ?_)
    rw [if_pos (by omega)]
   have hl : (106 : Nat) = 106 := rfl
   obtain ⟨z0, z1, z2, z3, z4, z5, z6, z7⟩ := cells8 H1.out
   have hfz1 : ∀ j, wr.frozen? ⟨w.heap.size + 1, j, none⟩ = false := fun j => blk_frozen H1.out j
   clear hst hl hz1
   have H2x := Aside0.mk H2'
   clear H2'
   go_wp2_with (refine wpList_load_row rfl 106 _ rfl (w.heap.size + 1 + 1) rfl _ _ _ _ H2x.out hu106 rfl (by kernel_rfl) ?_)
   refine bodyPost_ret (results_cell_row rfl _ _ (w.heap.size + 1) 106 #[.int .u8 r1, .int .u8 r2, .int .u8 r3, .int .u8 r4, .int .u8 r5, .int .u8 r6, .int .u8 r7, .int .u8 r8] (0, 0) _ rfl (blk_store8 H1.out _ _ _ _ _ _ _ _) Try.underlying106 rfl (by kernel_rfl)) rfl ?_
   exact ⟨rfl, below_store8 HB.out (by omega) _ _ _ _ _ _ _ _⟩
/-- A walk stands still here, till 'refine ⟨?_⟩'. -/
structure Here (p : Prop) : Prop where mk :: (out : p)
/-- Only block g has turned. -/
structure Only (W w1 : World) (g : Nat) : Prop where
 os : w1.os = W.os
 tape : w1.tape = W.tape
 output : w1.output = W.output
 size : w1.heap.size = W.heap.size
 block : ∀ k, k ≠ g → w1.heap[k]? = W.heap[k]?
theorem Only.refl (W : World) (g : Nat) : Only W W g := ⟨rfl, rfl, rfl, rfl, fun _ _ => rfl⟩
theorem Only.set {W w1 : World} {g : Nat} (h : Only W w1 g) (i : Nat) (u : Value) : Only W (w1.setCell ⟨g, i, none⟩ u) g :=
 ⟨h.os, h.tape, h.output, by rw [World.size_setCell]; exact h.size, fun k hk => (Below.heap_setCell w1 ⟨g, i, none⟩ u k hk).trans (h.block k hk)⟩
theorem Only.below {w W w1 : World} {g : Nat} (h : Only W w1 g) (hb : Below w.heap.size w W) (hg : w.heap.size ≤ g) : Below w.heap.size w w1 :=
 ⟨h.os.trans hb.os, h.tape.trans hb.tape, h.output.trans hb.output, by rw [h.size]; exact hb.size, fun k hk => (h.block k (by omega)).trans (hb.block k hk)⟩
theorem Only.R {W w1 : World} {g : Nat} {α : Type} {d : Kd α} {e base : Nat} {ok : Nat → Prop} {v : Value} {xs : List α} (h : Only W w1 g) (hr : d.R e W base ok v xs) (hok : ∀ k, ok k → k ≠ g) : d.R e w1 base ok v xs := Kd.R_step hr (fun k ho _ => h.block k (hok k ho))
section
variable {ops : Array Oper} {rest : List Oper} {o : Oper} {a : Act} {Q : Exit → Act → World → Prop} {W : World}
set_option maxHeartbeats 2000000 in
theorem wp_store8 (hgd : o.guard = none) (hN : o.dst = none) (p v : Tmp) (ho : o.op = .store 106 (.tmp p) (.tmp v)) (g : Nat) (hp : a.tmps.getD p undef = .pointer (some ⟨g, 0, none⟩)) (r1 r2 r3 r4 r5 r6 r7 r8 : Int)
  (hv : a.tmps.getD v undef = .agg #[.int .u8 r1, .int .u8 r2, .int .u8 r3, .int .u8 r4, .int .u8 r5, .int .u8 r6, .int .u8 r7, .int .u8 r8]) {f : Nat → Int} (hg : W.heap[g]? = some (.cells (arr8 f) 106 (0, 0)))
  (h : ∀ w1, w1.heap[g]? = some (.cells #[.int .u8 r1, .int .u8 r2, .int .u8 r3, .int .u8 r4, .int .u8 r5, .int .u8 r6, .int .u8 r7, .int .u8 r8] 106 (0, 0)) → Only W w1 g → wpList Try.prog ops Q rest a w1) : wpList Try.prog ops Q (o :: rest) a W := by
 have hu106 := Try.underlying106
 obtain ⟨z0, z1, z2, z3, z4, z5, z6, z7⟩ := cells8 hg
 have hfz : ∀ j, W.frozen? ⟨g, j, none⟩ = false := fun j => blk_frozen hg j
 refine store_event hgd (p := p) ho hN (w1 := (((((((W.setCell ⟨g, 0, none⟩ (.int .u8 r1)).setCell ⟨g, 1, none⟩ (.int .u8 r2)).setCell ⟨g, 2, none⟩ (.int .u8 r3)).setCell ⟨g, 3, none⟩ (.int .u8 r4)).setCell ⟨g, 4, none⟩ (.int .u8 r5)).setCell ⟨g, 5, none⟩ (.int .u8 r6)).setCell ⟨g, 6, none⟩ (.int .u8 r7)).setCell ⟨g, 7, none⟩ (.int .u8 r8)) ?_ ?_
 ·unfold execOp
  rw [ho]
  simp only [Act.eval, hp, hv]
  have hs := blk_store8 hg r1 r2 r3 r4 r5 r6 r7 r8
  clear h hs hg ho hN hgd
  go_simp
 ·rintro w' rfl
  exact h _ (blk_store8 hg _ _ _ _ _ _ _ _) (((((((((Only.refl W g).set 0 _).set 1 _).set 2 _).set 3 _).set 4 _).set 5 _).set 6 _).set 7 _)
end
/-- Block g holds choices: a space's sizes l, lists of places P, first numbers F, how many m. -/
def ChAt (w : World) (g : Nat) (l : List Int) (P : List (List Int)) (F : List Int) (m : Int) : Prop :=
 ∃ A0 c0 A1 c1 A2 c2, w.heap[g]? = some (.cells #[.slice A0 l.length c0, .slice A1 P.length c1, .slice A2 F.length c2, .int .i64 m] 92 (0, 0)) ∧
  l.length ≤ c0 ∧ Kd.C (Kd.int .i64) w A0 l.length l ∧ Kd.C (Kd.slice 2 (Kd.int .i64)) w A1 P.length P ∧ Kd.C (Kd.int .i64) w A2 F.length F
theorem ChAt.below {w W : World} {g : Nat} {l : List Int} {P : List (List Int)} {F : List Int} {m : Int} (h : ChAt w g l P F m) (hb : Below w.heap.size w W) : ChAt W g l P F m := by
 obtain ⟨A0, c0, A1, c1, A2, c2, h, h0, h1, h2, h3⟩ := h
 exact ⟨A0, c0, A1, c1, A2, c2, blk_below h hb, h0, Kd.C_below h1 hb, Kd.C_below h2 hb, Kd.C_below h3 hb⟩

/-- What is asked of choices. -/
structure ChOk (l : List Int) (P : List (List Int)) (F : List Int) : Prop where
 n : l.length ≤ 8
 sz : Sz l
 pl : ∀ p ∈ P, Pl l p
 len : F.length = P.length
 most : P.length ≤ 512
 fi : ∀ f ∈ F, 0 ≤ f ∧ f ≤ 1000000

set_option maxHeartbeats 8000000 in
set_option maxRecDepth 100000 in
theorem of_calls (g : Nat) (l : List Int) (P : List (List Int)) (F : List Int) (m row : Int) (w : World) (hch : ChAt w g l P F m) (hok : ChOk l P F) (hr : 0 ≤ row ∧ row < 1073741824) :
  Calls Try.prog 94 #[.pointer (some ⟨g, 0, none⟩), .int .i64 row] w fun e w' => ∃ v0_ : Value, e = .returned v0_ ∧ Kd.R (Kd.int .i64) 2 w' w.heap.size (fun _ => True) v0_ (ofTo l P F row P.length) ∧ Below w.heap.size w w' := by
 obtain ⟨A0, c0, A1, c1, A2, c2, hg, hl0, hC0, hC1, hC2⟩ := hch
 have hu28 := Try.underlying28
 have hu92 := Try.underlying92
 have hu106 := Try.underlying106
 obtain ⟨r1, r2, r3, r4, r5, r6, r7, r8, hdig⟩ : ∃ r1 r2 r3 r4 r5 r6 r7 r8, impl_digitsOf.f l row = some (r1, r2, r3, r4, r5, r6, r7, r8) := by
  unfold impl_digitsOf.f
  rw [if_pos ⟨hok.n, hok.sz, hr.1, hr.2⟩]
  exact ⟨_, _, _, _, _, _, _, _, rfl⟩
 have HD := Aside0.mk hdig
 have hz0 : w.cell? ⟨g, 0, none⟩ = some (.slice A0 l.length c0) := (blk_cell hg 0).trans rfl
 have HG := Aside0.mk hg
 have HC0 := Aside0.mk hC0
 have HC1 := Aside0.mk hC1
 have HC2 := Aside0.mk hC2
 have HL0 := Aside0.mk hl0
 have HK := Aside0.mk hok
 clear hg hC0 hC1 hC2 hl0 hok hdig
 have HB := Aside0.mk (Below.refl w.heap.size w)
 go_enter Try.func94, Try.ntmps94
 go_wp2_with (first | (go_at_call 110; (with_reducible refine (impl_digitsOf.calls A0 c0 l row _ _ _ _ _ _ _ _ _ HC0.out HL0.out HD.out).mono ?_); rintro e w1 ⟨rfl, hb1⟩; have HB1 := Aside0.mk hb1; clear hb1) | ((with_reducible refine gate_dst (N := 18) rfl ?_); refine Kd.R_lit (Kd.int .i64) _ 2 ?hg (N := 18) ?hd (xs := ([] : List Int)) (inner := []) (ok := fun _ => True) (okp := fun _ => True) ?hr ?hp (fun _ hk => hk) trivial (Below.refl _ _) (Nat.le_refl _) (by simp) ?_; (case hd => rfl); (case hg => rfl); (case hr => first | (go_simp; done) | (go_simp; rfl)); (case hp => exact (Reps.none _ _)); intro v2 w2 ho_ hb_ hg_ hnew_; have HO2 := Aside0.mk ho_; have HB2 := Aside0.mk hb_; clear ho_ hb_ hg_ hnew_) | ((with_reducible refine gate_dst (N := 5) rfl ?_); refine box_event ?hg (N := 5) ?hd (cs := #[.int .u8 0, .int .u8 0, .int .u8 0, .int .u8 0, .int .u8 0, .int .u8 0, .int .u8 0, .int .u8 0]) (t := 106) ?hr ?_; (case hd => rfl); (case hg => rfl); (case hr => first | (go_simp; done) | (go_simp; rfl)); intro g5 hg_ w3 hbox_ hb_; have BK3 := Aside0.mk hbox_; have HB3 := Aside0.mk hb_; have HG3 := Aside0.mk hg_; clear hbox_ hb_ hg_; skip) | ((with_reducible refine gate_store (p := 5) (t := 106) (v := .tmp 17) rfl ?_); refine wp_store8 rfl rfl 5 17 rfl g5 rfl r1 r2 r3 r4 r5 r6 r7 r8 rfl (show w3.heap[g5]? = some (.cells (arr8 fun _ => 0) 106 (0, 0)) from BK3.out) ?_; intro w4 hs_ ho_; have BK4 := Aside0.mk hs_; have ON4 := Aside0.mk ho_; clear hs_ ho_; refine Here.out ?_))
 refine ⟨?_⟩
 have HW4 : Below w.heap.size w w3 := below_step (below_step HB1.out HB2.out) HB3.out
 have HG5 : w.heap.size ≤ g5 := by rw [HG3.out]; exact (below_step HB1.out HB2.out).size
 have HW5 := Aside0.mk (Only.below ON4.out HW4 HG5)
 have hz1 : w4.cell? ⟨g, 1, none⟩ = some (.slice A1 P.length c1) := (blk_cell (blk_below HG.out HW5.out) 1).trans rfl
 clear HW4
 clear hz0
 go_wp2
 have HR4 : Aside0 (Kd.R (Kd.int .i64) 2 w4 w.heap.size (fun _ => True) v2 []) := ⟨Kd.R_mono (Only.R ON4.out (Kd.R_below (Kd.R_elderB (Kd.R_lower HO2.out HB1.out.size) g5 (Nat.le_of_eq HG3.out.symm)) HB3.out) (fun k hk => hk.2)) (fun _ _ => trivial)⟩
 have HD8 : #[Value.int .u8 r1, .int .u8 r2, .int .u8 r3, .int .u8 r4, .int .u8 r5, .int .u8 r6, .int .u8 r7, .int .u8 r8] = arr8 (dgAt l row) := by
  have h := HD.out
  unfold impl_digitsOf.f at h
  rw [if_pos ⟨HK.out.n, HK.out.sz, hr.1, hr.2⟩] at h
  simp only [Option.some.injEq, Prod.mk.injEq] at h
  obtain ⟨rfl, rfl, rfl, rfl, rfl, rfl, rfl, rfl⟩ := h
  rfl
 have BK5 := BK4.out
 rw [HD8] at BK5
 have BKD := Aside0.mk BK5
 have HG5' := Aside0.mk HG5
 clear HD8 BK5 BK4 HG5
 have hF := HK.out.len
 have hmost := HK.out.most
 have HFL := Aside0.mk hF
 clear hF
 go_loopw [6, 24] (fun v6 v24 W => ∃ x : Int, 0 ≤ x ∧ x ≤ P.length ∧ v24 = .int .i64 x ∧ Aside0 (Kd.R (Kd.int .i64) 2 W w.heap.size (fun _ => True) v6 (ofTo l P F row x.toNat)) ∧ Aside0 (W.heap[g5]? = some (.cells (arr8 (dgAt l row)) 106 (0, 0))) ∧ Aside0 (Below w.heap.size w W)) (fun _ v _ => (P.length - intOf v).toNat)
 case atStart => exact ⟨0, by omega, by omega, rfl, HR4, BKD, HW5⟩
 case round =>
  obtain ⟨x, hx0, hx1, rfl, HO6, BKx, HBx⟩ := hrel
  clear HB HB1 HB2 HB3 HR4 BK3 ON4 HO2 BKD HW5 hz1
  by_cases hlt : x < (P.length : Int)
  ·obtain ⟨ad, A', c', rfl, hxc, hl', hC'⟩ := at_L1 HC1.out x hx0 hlt
   replace hxc := (HBx.out.cell (World.block_lt_of_cell? w _ hxc)).trans hxc
   have hpl : Pl l (rd_L1 P x) := HK.out.pl _ (by unfold rd_L1; rw [List.getD_eq_getElem?_getD, List.getElem?_eq_getElem (show x.toNat < P.length by omega)]; exact List.getElem_mem _)
   have HPL := Aside0.mk hpl
   have HC' := Aside0.mk hC'
   have hpl3 := hpl.1
   clear hC' hpl
   go_wp2
   have hxc2 := hxc
   clear hxc
   obtain ⟨wo, hwo⟩ : ∃ wo : World, wo = wr := ⟨_, rfl⟩
   subst hwo
   obtain ⟨p, hp⟩ : ∃ p : List Int, p = rd_L1 P x := ⟨_, rfl⟩
   rw [← hp] at HPL HC' hpl3 hl' hxc2 ⊢
   have HP := Aside0.mk hp
   clear hp
   go_loopw [9, 31] (fun v9 v31 W => ∃ j : Int, 0 ≤ j ∧ j ≤ p.length ∧ v31 = .int .i64 j ∧ v9 = .int .i64 (val l (dgAt l row) (p.take j.toNat)) ∧ Aside0 (Kd.R (Kd.int .i64) 2 W w.heap.size (fun _ => True) u6 (ofTo l P F row x.toNat)) ∧ Aside0 (W.heap[g5]? = some (.cells (arr8 (dgAt l row)) 106 (0, 0))) ∧ Aside0 (Below w.heap.size w W)) (fun _ v _ => (p.length - intOf v).toNat)
   case atStart => exact ⟨0, by omega, by omega, rfl, rfl, HO6, BKx, HBx⟩
   case round =>
    obtain ⟨j, hj0, hj1, rfl, rfl, HO6, BKx, HBx⟩ := hrel
    have hvb := val_bound3 HK.out.sz row HPL.out j.toNat
    obtain ⟨hv0, hv1⟩ := hvb
    by_cases hjl : j < (p.length : Int)
    ·obtain ⟨ad3, rfl, hx3⟩ := Kd.at_int HC'.out j hj0 hjl
     have hmem : rd p j ∈ p := by unfold rd; rw [List.getD_eq_getElem?_getD, List.getElem?_eq_getElem (show j.toNat < p.length by omega)]; exact List.getElem_mem _
     obtain ⟨he0, he1⟩ := HPL.out.2 _ hmem
     have HMEM := Aside0.mk hmem
     clear hmem
     have hn8 := HK.out.n
     have he8 : rd p j < 8 := by omega
     replace hx3 := (HBx.out.cell (World.block_lt_of_cell? w _ hx3)).trans hx3
     obtain ⟨e, he⟩ : ∃ e : Int, e = rd p j := ⟨_, rfl⟩
     rw [← he] at hx3 he0 he1 he8
     have HE := Aside0.mk he
     clear he
     have hz0 : wr.cell? ⟨g, 0, none⟩ = some (.slice A0 l.length c0) := (blk_cell (blk_below HG.out HBx.out) 0).trans rfl
     obtain ⟨ad4, rfl, hx4⟩ := Kd.at_int HC0.out e he0 he1
     replace hx4 := (HBx.out.cell (World.block_lt_of_cell? w _ hx4)).trans hx4
     have hx5 : wr.cell? ⟨g5, e.toNat, none⟩ = some (.int .u8 (dgAt l row e.toNat)) := blk_cell8 BKx.out _ (by omega)
     have hq : 2 ≤ rd l e ∧ rd l e ≤ 4 := by rw [rd_getD l e he0 he1 1]; exact HK.out.sz.at _ (by omega)
     obtain ⟨hq0, hq1⟩ := hq
     obtain ⟨hd0, hd1⟩ := dgAt_range HK.out.sz row e.toNat
     have hstep : val l (dgAt l row) (p.take (j.toNat + 1)) = val l (dgAt l row) (p.take j.toNat) * rd l e + dgAt l row e.toNat := by
      rw [List.take_succ_eq_append_getElem (show j.toNat < p.length by omega), val_snoc]
      have : p[j.toNat]'(by omega) = e := by rw [HE.out]; unfold rd; rw [List.getD_eq_getElem?_getD, List.getElem?_eq_getElem (show j.toNat < p.length by omega)]; rfl
      rw [this]; rfl
     have HST := Aside0.mk hstep
     clear hstep
     obtain ⟨vv, hvv⟩ : ∃ vv : Int, vv = val l (dgAt l row) (p.take j.toNat) := ⟨_, rfl⟩
     rw [← hvv] at hv0 hv1 HST ⊢
     have HVV := Aside0.mk hvv
     clear hvv
     have hm1 : vv * rd l e ≤ vv * 4 := Int.mul_le_mul_of_nonneg_left hq1 hv0
     have hm0 : 0 ≤ vv * rd l e := Int.mul_nonneg hv0 (by omega)
     go_wp2
     go_quiet (fail)
     go_wp2
     go_roundw
     case measure => simp [intOf]; omega
     case rel => exact ⟨j + 1, by omega, by omega, by first | rfl | (simp; done), by rw [show (j + 1).toNat = j.toNat + 1 by omega, HST.out], ⟨by (with_reducible repeat (first | apply Kd.R_alloc | apply Kd.R_drewN | apply Kd.R_drew)); exact HO6.out⟩, ⟨by (with_reducible repeat (first | refine blk_drewN ?_ _ | refine blk_drew ?_ | refine blk_alloc ?_ _)); exact BKx.out⟩, ⟨by repeat (first | (with_reducible first | exact HBx.out | apply below_alloc | apply pw_below_drewN | apply below_drew1) | exact HBx.out)⟩⟩
    ·have hje : j = p.length := by omega
     have HT : p.take j.toNat = p := by rw [hje]; exact List.take_of_length_le (by omega)
     rw [HT] at hv0 hv1 ⊢
     have hz2 : wr.cell? ⟨g, 2, none⟩ = some (.slice A2 F.length c2) := (blk_cell (blk_below HG.out HBx.out) 2).trans rfl
     have hxF : x < (F.length : Int) := by rw [HFL.out]; exact hlt
     obtain ⟨ad6, rfl, hx6⟩ := Kd.at_int HC2.out x hx0 hxF
     replace hx6 := (HBx.out.cell (World.block_lt_of_cell? w _ hx6)).trans hx6
     have hf := HK.out.fi (rd F x) (by unfold rd; rw [List.getD_eq_getElem?_getD, List.getElem?_eq_getElem (show x.toNat < F.length by omega)]; exact List.getElem_mem _)
     obtain ⟨hf0, hf1⟩ := hf
     have HLM : Aside0 ((ofTo l P F row x.toNat).length < 17592186044416) := ⟨by rw [ofTo_length]; omega⟩
     have hsucc : ofTo l P F row (x + 1).toNat = ofTo l P F row x.toNat ++ [rd F x + val l (dgAt l row) p] := by
      rw [show (x + 1).toNat = x.toNat + 1 by omega, ofTo_succ, HP.out]; rfl
     have HSU := Aside0.mk hsucc
     clear hsucc HT hje
     obtain ⟨vv, hvv⟩ : ∃ vv : Int, vv = val l (dgAt l row) p := ⟨_, rfl⟩
     rw [← hvv] at hv0 hv1 HSU ⊢
     clear hvv
     go_wp2_with ((with_reducible refine gate_builtin (b := .append) (xs := #[.tmp 51, .tmp 61]) rfl ?_); at_builtin; refine Here.out ?_)
     refine ⟨?_⟩
     refine Kd.R_append (Kd.int .i64) (w0 := w) w.heap.size rfl (.tmp 51) (.tmp 61) 22 2 (.int .i64 0) 8 rfl Try.underlying22 info2 rfl (by decide) (by omega) u6 (ofTo l P F row x.toNat) (rd F x + vv) [.int .i64 (rd F x + vv)] (fun _ => True) (fun _ => False) rfl rfl ?aP (fun _ hk => hk.elim) ?aF ?aO ?aB ?aS ?aL ?_
     case aP => exact rfl
     case aB => exact (by repeat (first | (with_reducible first | exact HBx.out | apply below_alloc | apply pw_below_drewN | apply below_drew1) | exact HBx.out))
     case aF => exact (fun _ _ => trivial)
     case aO => exact (by (with_reducible repeat (first | apply Kd.R_alloc | apply Kd.R_drewN | apply Kd.R_drew)); exact HO6.out)
     case aS => exact (below_size (by repeat (first | (with_reducible first | exact HBx.out | apply below_alloc | apply pw_below_drewN | apply below_drew1) | exact HBx.out)))
     case aL => have := HLM.out; omega
     intro v7 w7 ho_ hb_ hg_ hat_
     have HO7 := Aside0.mk ho_
     have HB7 := Aside0.mk hb_
     have HG7 := Aside0.mk hg_
     have HAT7 := Aside0.mk hat_
     clear ho_ hb_ hg_ hat_
     go_wp2
     go_roundw
     case measure => simp [intOf]; omega
     case rel => exact ⟨x + 1, by omega, by omega, by first | rfl | (simp; done), ⟨by rw [HSU.out]; exact HO7.out⟩, ⟨blk_grown BKx.out HG7.out (Kd.R_ne HO6.out BKx.out (by decide))⟩, HB7⟩
  ·go_wp2
   go_ret
   exact ⟨_, rfl, by rw [show x.toNat = P.length by omega] at HO6; exact HO6.out, HBx.out⟩
def slices_Clone_int64_int64.f (l0 : List Int) : Option (List Int) := if l0.length < 17592186044416 then some l0 else none
set_option maxHeartbeats 8000000 in
set_option maxRecDepth 100000 in
theorem slices_Clone_int64_int64.calls (A0 : Option Addr) (c0 : Nat) (l0 : List Int) (r : List Int) (w : World) (hr0 : Kd.C (Kd.int .i64) w A0 l0.length l0) (hc0 : l0.length ≤ c0) (h : slices_Clone_int64_int64.f l0 = some r) :
  Calls Try.prog 109 #[.slice A0 l0.length c0] w fun e w' => ∃ v0_ : Value, e = .returned (v0_) ∧ Kd.R (Kd.int .i64) 2 w' w.heap.size (fun _ => True) v0_ r ∧ Below w.heap.size w w' := by
 unfold slices_Clone_int64_int64.f at h
 split at h
 case isFalse => cases h
 case isTrue hlim =>
 obtain rfl := Option.some.inj h
 clear h
 have HLIM := Aside0.mk hlim
 have HR0 := Aside0.mk hr0
 clear hr0 hlim
 cases A0 with
 | none =>
  have hl : l0 = [] := by
   rcases l0 with _ | ⟨x, l⟩
   ·rfl
   ·obtain ⟨ad, e, _⟩ := Kd.at_int HR0.out 0 (by omega) (by simp)
    cases e
  subst hl
  have he := fun (w : World) => Lib.run_eql_slice_nil (P := Try.prog) w 22 2 none 0 c0 0 0 Try.underlying22
  go_enter Try.func109, Try.ntmps109
  go_wp2
  go_ret
  exact ⟨_, rfl, Kd.R_nil _ _ _ _ _, Below.refl _ _⟩
 | some ad =>
  have he := fun (w : World) => Lib.run_eql_slice_nil (P := Try.prog) w 22 2 (some ad) l0.length c0 0 0 Try.underlying22
  have HB := Aside0.mk (Below.refl w.heap.size w)
  go_enter Try.func109, Try.ntmps109
  go_wp2_with ((with_reducible refine gate_dst (N := 5) rfl ?_); refine Kd.R_lit (Kd.int .i64) _ 2 ?hg (N := 5) ?hd (xs := ([] : List Int)) (inner := []) (ok := fun _ => True) (okp := fun _ => True) ?hr ?hp (fun _ hk => hk) trivial (Below.refl _ _) (Nat.le_refl _) (by simp) ?_; (case hd => rfl); (case hg => rfl); (case hr => first | (go_simp; done) | (go_simp; rfl)); (case hp => exact (Reps.none _ _)); intro v1 w1 ho hb hg_ hnew_; refine Here.out ?_)
  refine ⟨?_⟩
  have HO1 := Aside0.mk ho
  have HB1 := Aside0.mk hb
  clear ho hb hg_ hnew_ he
  go_wp2_with ((with_reducible refine gate_builtin (b := .append) (xs := #[.tmp 5, .tmp 6]) rfl ?_); at_builtin; refine Here.out ?_)
  refine ⟨?_⟩
  refine Kd.R_append_row (Value.int .i64) 0 (w0 := w) w.heap.size rfl (.tmp 5) (.tmp 6) 22 2 (.int .i64 0) 8 rfl Try.underlying22 info2 rfl (by decide) v1 [] l0 (some ad) l0.length c0 (fun _ => True) rfl rfl (fun _ _ => trivial) HO1.out (Kd.C_below HR0.out HB1.out) HB1.out HB1.out.size (by have := HLIM.out; simp only [List.length_nil]; omega) ?_
  intro v2 w2 ho hb hg_ hat_
  go_wp2
  go_ret
  exact ⟨_, rfl, ho, hb⟩
end Go.Proofs.Ytionaakahhgdjaa.P
