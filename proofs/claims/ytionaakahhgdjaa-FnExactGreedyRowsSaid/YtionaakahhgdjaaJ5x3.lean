/- What some functions of the program return, and plain facts on it; conditions: those that each theorem names. Part 3 of the proof. -/
import Derived.Test.YtionaakahhgdjaaJ5x1
import Derived.Test.YtionaakahhgdjaaJ5x2
import Derived.WalkSpells
import Derived.Deep.RegionLaw
import Derived.Deep.AppendLies
import Derived.RowKit3
import Derived.Laws.EntriesVeiled
namespace Go.Proofs.Ytionaakahhgdjaa.P
open Go.RowKit Go.Proofs.YtionaakahhgdjaaW.PrintWords Go.Proofs.YtionaakahhgdjaaW.PrintLast Go.Proofs.YtionaakahhgdjaaW.PrintMore
attribute [local go_sem] max2_int min2_int max_two min_two max_three min_three max_four min_four
set_option linter.unusedVariables false
set_option linter.unusedSimpArgs false
mutual
def spec_GreedyRows.l0 : Nat → Int → List (List Int) → Int → List Int → Option (List Int × Int)
 | 0, _, _, _, _ => none
 | k + 1, x1, x7, x8, x102000 => (spec_l01N.f k x102000).bind fun t106 => (if x8 < t106 then ((spec_l01Digits.f k x102000 x8).bind fun t107 => (if x7.length < 5864062014805 then (spec_GreedyRows.l0 k x1 (x7 ++ [t107]) (wrap64 (x8 + 1)) x102000) else (none))) else ((spec_l10All.f k x102000 x1).bind fun t113 => (spec_GreedyRows.l1 k x7 t113 (([] : List Int)) x102000)))
def spec_GreedyRows.l1 : Nat → List (List Int) → List (List Int) → List Int → List Int → Option (List Int × Int)
 | 0, _, _, _, _ => none
 | k + 1, x7, x9, x10, x102000 => if (x9.length : Int) > 0 then (if (x10.length : Int) = 200 then (some (([] : List Int), 3)) else (spec_GreedyRows.l2 k x7 x9 x10 0 0 0 x102000)) else (some (x10, 0))
def spec_GreedyRows.l2 : Nat → List (List Int) → List (List Int) → List Int → Int → Int → Int → List Int → Option (List Int × Int)
 | 0, _, _, _, _, _, _, _ => none
 | k + 1, x7, x9, x10, x11, x12, x13, x102000 => if x13 < (x7.length : Int) then (spec_GreedyRows.l3 k x7 x9 x10 x11 x12 x13 0 0 x102000) else (if x10.length < 17592186044416 then ((spec_l10Missing.f k x102000 x9 (([x11] : List Int))).bind fun t125 => (spec_GreedyRows.l1 k x7 t125 (x10 ++ [x11]) x102000)) else (none))
def spec_GreedyRows.l3 : Nat → List (List Int) → List (List Int) → List Int → Int → Int → Int → Int → Int → List Int → Option (List Int × Int)
 | 0, _, _, _, _, _, _, _, _, _ => none
 | k + 1, x7, x9, x10, x11, x12, x13, x14, x15, x102000 => if x15 < (x9.length : Int) then (if 0 ≤ x13 then (if x13 < (x7.length : Int) then (if 0 ≤ x15 then ((spec_l10Has.f k (rd_L1 x7 x13) (rd_L1 x9 x15)).bind fun t130 => (if t130 = true then (spec_GreedyRows.l3 k x7 x9 x10 x11 x12 x13 (wrap64 (x14 + 1)) (wrap64 (x15 + 1)) x102000) else (spec_GreedyRows.l3 k x7 x9 x10 x11 x12 x13 x14 (wrap64 (x15 + 1)) x102000))) else (none)) else (none)) else (none)) else (if x14 > x12 then (spec_GreedyRows.l2 k x7 x9 x10 x13 x14 (wrap64 (x13 + 1)) x102000) else (spec_GreedyRows.l2 k x7 x9 x10 x11 x12 (wrap64 (x13 + 1)) x102000))
end
def spec_GreedyRows.f (k : Nat) (l0_0 : List Int) (a1 : Int) : Option (List Int × Int) := (spec_l10Code.f k l0_0 a1).bind fun t102 => (if t102 = 0 then (spec_GreedyRows.l0 k a1 (([] : List (List Int))) 0 l0_0) else (some (([] : List Int), t102)))
set_option maxHeartbeats 8000000 in
set_option maxRecDepth 100000 in
theorem spec_GreedyRows.calls (k : Nat) (A0_0 : Option Addr) (c0_0 : Nat) (l0_0 : List Int) (a1 : Int) (r1 : List Int) (r2 : Int) (w : World) (hr0_0 : Kd.C (Kd.int .i64) w A0_0 l0_0.length l0_0) (hc0_0 : l0_0.length ≤ c0_0) (h : spec_GreedyRows.f k l0_0 a1 = some (r1, r2)) :
  Calls Try.prog 27 #[.agg #[.slice A0_0 l0_0.length c0_0], .int .i64 a1] w fun e w' => ∃ v0_ : Value, e = .returned (.tuple #[v0_, .int .i64 r2]) ∧ Kd.R (Kd.int .i64) 2 w' w.heap.size (fun _ => True) v0_ r1 ∧ Below w.heap.size w w' := by
 have hu28 := Try.underlying28
 have HR0_0 := Aside0.mk hr0_0
 have HC0_0 := Aside0.mk hc0_0
 clear hr0_0 hc0_0
 have HB := Aside0.mk (Below.refl w.heap.size w)
 have H : ((spec_l10Code.f k l0_0 a1).bind fun t102 => (if t102 = 0 then (spec_GreedyRows.l0 k a1 (([] : List (List Int))) 0 l0_0) else (some (([] : List Int), t102)))) = some (r1, r2) := h
 clear h
 replace H := Option.bind_eq_some_iff.mp H
 obtain ⟨t102, A30, H⟩ := H
 replace H : (if t102 = 0 then (spec_GreedyRows.l0 k a1 (([] : List (List Int))) 0 l0_0) else (some (([] : List Int), t102))) = some (r1, r2) := H
 have A3 := Aside0.mk A30
 clear A30
 by_cases c4 : t102 = 0
 ·rw [if_pos c4] at H
  have c4b0 : (t102 == 0) = true := beq_iff_eq.mpr c4
  have c4b1 : (t102 != 0) = false := bne_eq_false_iff_eq.mpr c4
  clear c4
  obtain ⟨y103, hy103⟩ : ∃ y_ : List (List Int), y_ = (([] : List (List Int))) := ⟨_, rfl⟩
  replace H : (spec_GreedyRows.l0 k a1 y103 0 l0_0) = some (r1, r2) := by first | (rw [hy103]; with_reducible exact H) | (have H2_ := (Option.bind_some _ _).symm.trans H; rw [hy103]; with_reducible exact H2_) | (have H2_ := (Option.bind_some _ _).symm.trans H; with_reducible exact H2_) | with_reducible exact H | (rw [hy103]; exact H) | exact H
  have Ny103 := Aside0.mk hy103
  clear hy103
  have H' := Aside0.mk H
  clear H
  go_enter Try.func27, Try.ntmps27
  go_wp2_with (first | ((with_reducible refine gate_dst (N := 2) rfl ?_); refine box_event ?hg (N := 2) ?hd (cs := #[.slice A0_0 l0_0.length c0_0]) (t := 28) ?hr ?_; (case hd => rfl); (case hg => rfl); (case hr => first | (go_simp; done) | (go_simp; rfl)); intro gb101 hg w5 hbox hb; have n0_ := Aside0.mk (below_step (by repeat (first | (with_reducible first | exact HB.out | apply below_alloc | apply pw_below_drewN | apply below_drew1) | exact HB.out)) hb); have n1_ := Aside0.mk (hbox); have n2_ := Aside0.mk ((by rw [hg]; exact (below_size (by repeat (first | (with_reducible first | exact HB.out | apply below_alloc | apply pw_below_drewN | apply below_drew1) | exact HB.out))) : w.heap.size ≤ gb101)); have n3_ := Aside0.mk ((by rw [hg]; exact (below_size (by repeat (first | (with_reducible first | exact HB.out | apply below_alloc | apply pw_below_drewN | apply below_drew1) | exact HB.out))) : w.heap.size ≤ gb101)); clear HB; have HB := n0_; have BK101 := n1_; have GW101 := n2_; have GE101 := n3_; clear n0_ n1_ n2_ n3_; clear hb hbox hg; have hcz6_0 : w5.cell? ⟨gb101, 0, none⟩ = some (.slice A0_0 l0_0.length c0_0) := (blk_cell BK101.out 0).trans rfl; have hfz6_0 := blk_frozen BK101.out 0) | (go_at_call 95; (with_reducible refine (spec_l10Code.calls k _ _ l0_0 a1 t102 _ ?side1 ?side2 A3.out).mono ?_); (case side1 => repeat (first | exact (Kd.C_below HR0_0.out HB.out) | (with_reducible refine Kd.C_alloc ?_ _) | (with_reducible refine Kd.C_drewN ?_ _) | (with_reducible refine Kd.C_drew ?_))); (case side2 => exact HC0_0.out); rintro e w7 ⟨rfl, hb⟩; have n0_ := Aside0.mk (blk_below (g := gb101) (o := .cells #[.slice A0_0 l0_0.length c0_0] 28 (0, 0)) (by (with_reducible repeat (first | refine blk_drewN ?_ _ | refine blk_drew ?_ | refine blk_alloc ?_ _)); exact BK101.out) hb); have n1_ := Aside0.mk (below_step (by repeat (first | (with_reducible first | exact HB.out | apply below_alloc | apply pw_below_drewN | apply below_drew1 | refine below_set ?_ GE101.out) | exact HB.out)) hb); clear BK101; clear HB; have BK101 := n0_; have HB := n1_; clear n0_ n1_; (try clear hb); (try clear hb2); (try clear hk); (try clear hi)) | ((with_reducible refine gate_dst (N := 22) rfl ?_); refine Kd.N_lit (Kd.slice 2 (Kd.int .i64)) _ 22 ?hg (N' := 22) ?hd (xs := ([] : List (List Int))) (inner := []) (ok := (fun k_ => k_ ≠ gb101)) (okp := (fun k_ => k_ ≠ gb101)) ?hr ?hp (fun _ hk => hk) ((show ∀ k_, w7.heap.size ≤ k_ → (fun k_ => k_ ≠ gb101) k_ from fun k_ hk => Kd.freshB (g := gb101) (o := .cells #[.slice A0_0 l0_0.length c0_0] 28 (0, 0)) (by (with_reducible repeat (first | refine blk_drewN ?_ _ | refine blk_drew ?_ | refine blk_alloc ?_ _)); exact BK101.out) k_ hk) _ (Nat.le_refl _)) (Below.refl _ _) (Nat.le_refl _) (by simp) ?_; (case hd => rfl); (case hg => rfl); (case hr => first | (go_simp; done) | (go_simp; rfl)); (case hp => exact (Reps.none _ _)); intro v104 w8 ho9 hb hg_ hnew_; clear hg_ hnew_; (first | rw [← Ny103.out] at ho9 | (simp only [Int.reduceToNat] at ho9; rw [← Ny103.out] at ho9)); have n0_ := Aside0.mk (Kd.N_lower ho9 (below_size (by repeat (first | (with_reducible first | exact HB.out | apply below_alloc | apply pw_below_drewN | apply below_drew1 | refine below_set ?_ GE101.out) | exact HB.out)))); have n1_ := Aside0.mk (blk_below (g := gb101) (o := .cells #[.slice A0_0 l0_0.length c0_0] 28 (0, 0)) (by (with_reducible repeat (first | refine blk_drewN ?_ _ | refine blk_drew ?_ | refine blk_alloc ?_ _)); exact BK101.out) hb); have n2_ := Aside0.mk (below_step (by repeat (first | (with_reducible first | exact HB.out | apply below_alloc | apply pw_below_drewN | apply below_drew1 | refine below_set ?_ GE101.out) | exact HB.out)) hb); clear BK101; clear HB; have HO105 := n0_; have BK101 := n1_; have HB := n2_; clear n0_ n1_ n2_; clear hb ho9))
  repeat (go_quiet (first | ((with_reducible refine gate_dst (N := 2) rfl ?_); refine box_event ?hg (N := 2) ?hd (cs := #[.slice A0_0 l0_0.length c0_0]) (t := 28) ?hr ?_; (case hd => rfl); (case hg => rfl); (case hr => first | (go_simp; done) | (go_simp; rfl)); intro gb101 hg w5 hbox hb; have n0_ := Aside0.mk (below_step (by repeat (first | (with_reducible first | exact HB.out | apply below_alloc | apply pw_below_drewN | apply below_drew1) | exact HB.out)) hb); have n1_ := Aside0.mk (hbox); have n2_ := Aside0.mk ((by rw [hg]; exact (below_size (by repeat (first | (with_reducible first | exact HB.out | apply below_alloc | apply pw_below_drewN | apply below_drew1) | exact HB.out))) : w.heap.size ≤ gb101)); have n3_ := Aside0.mk ((by rw [hg]; exact (below_size (by repeat (first | (with_reducible first | exact HB.out | apply below_alloc | apply pw_below_drewN | apply below_drew1) | exact HB.out))) : w.heap.size ≤ gb101)); clear HB; have HB := n0_; have BK101 := n1_; have GW101 := n2_; have GE101 := n3_; clear n0_ n1_ n2_ n3_; clear hb hbox hg; have hcz6_0 : w5.cell? ⟨gb101, 0, none⟩ = some (.slice A0_0 l0_0.length c0_0) := (blk_cell BK101.out 0).trans rfl; have hfz6_0 := blk_frozen BK101.out 0) | (go_at_call 95; (with_reducible refine (spec_l10Code.calls k _ _ l0_0 a1 t102 _ ?side1 ?side2 A3.out).mono ?_); (case side1 => repeat (first | exact (Kd.C_below HR0_0.out HB.out) | (with_reducible refine Kd.C_alloc ?_ _) | (with_reducible refine Kd.C_drewN ?_ _) | (with_reducible refine Kd.C_drew ?_))); (case side2 => exact HC0_0.out); rintro e w7 ⟨rfl, hb⟩; have n0_ := Aside0.mk (blk_below (g := gb101) (o := .cells #[.slice A0_0 l0_0.length c0_0] 28 (0, 0)) (by (with_reducible repeat (first | refine blk_drewN ?_ _ | refine blk_drew ?_ | refine blk_alloc ?_ _)); exact BK101.out) hb); have n1_ := Aside0.mk (below_step (by repeat (first | (with_reducible first | exact HB.out | apply below_alloc | apply pw_below_drewN | apply below_drew1 | refine below_set ?_ GE101.out) | exact HB.out)) hb); clear BK101; clear HB; have BK101 := n0_; have HB := n1_; clear n0_ n1_; (try clear hb); (try clear hb2); (try clear hk); (try clear hi)) | ((with_reducible refine gate_dst (N := 22) rfl ?_); refine Kd.N_lit (Kd.slice 2 (Kd.int .i64)) _ 22 ?hg (N' := 22) ?hd (xs := ([] : List (List Int))) (inner := []) (ok := (fun k_ => k_ ≠ gb101)) (okp := (fun k_ => k_ ≠ gb101)) ?hr ?hp (fun _ hk => hk) ((show ∀ k_, w7.heap.size ≤ k_ → (fun k_ => k_ ≠ gb101) k_ from fun k_ hk => Kd.freshB (g := gb101) (o := .cells #[.slice A0_0 l0_0.length c0_0] 28 (0, 0)) (by (with_reducible repeat (first | refine blk_drewN ?_ _ | refine blk_drew ?_ | refine blk_alloc ?_ _)); exact BK101.out) k_ hk) _ (Nat.le_refl _)) (Below.refl _ _) (Nat.le_refl _) (by simp) ?_; (case hd => rfl); (case hg => rfl); (case hr => first | (go_simp; done) | (go_simp; rfl)); (case hp => exact (Reps.none _ _)); intro v104 w8 ho9 hb hg_ hnew_; clear hg_ hnew_; (first | rw [← Ny103.out] at ho9 | (simp only [Int.reduceToNat] at ho9; rw [← Ny103.out] at ho9)); have n0_ := Aside0.mk (Kd.N_lower ho9 (below_size (by repeat (first | (with_reducible first | exact HB.out | apply below_alloc | apply pw_below_drewN | apply below_drew1 | refine below_set ?_ GE101.out) | exact HB.out)))); have n1_ := Aside0.mk (blk_below (g := gb101) (o := .cells #[.slice A0_0 l0_0.length c0_0] 28 (0, 0)) (by (with_reducible repeat (first | refine blk_drewN ?_ _ | refine blk_drew ?_ | refine blk_alloc ?_ _)); exact BK101.out) hb); have n2_ := Aside0.mk (below_step (by repeat (first | (with_reducible first | exact HB.out | apply below_alloc | apply pw_below_drewN | apply below_drew1 | refine below_set ?_ GE101.out) | exact HB.out)) hb); clear BK101; clear HB; have HO105 := n0_; have BK101 := n1_; have HB := n2_; clear n0_ n1_ n2_; clear hb ho9)); try go_wp2_with (first | ((with_reducible refine gate_dst (N := 2) rfl ?_); refine box_event ?hg (N := 2) ?hd (cs := #[.slice A0_0 l0_0.length c0_0]) (t := 28) ?hr ?_; (case hd => rfl); (case hg => rfl); (case hr => first | (go_simp; done) | (go_simp; rfl)); intro gb101 hg w5 hbox hb; have n0_ := Aside0.mk (below_step (by repeat (first | (with_reducible first | exact HB.out | apply below_alloc | apply pw_below_drewN | apply below_drew1) | exact HB.out)) hb); have n1_ := Aside0.mk (hbox); have n2_ := Aside0.mk ((by rw [hg]; exact (below_size (by repeat (first | (with_reducible first | exact HB.out | apply below_alloc | apply pw_below_drewN | apply below_drew1) | exact HB.out))) : w.heap.size ≤ gb101)); have n3_ := Aside0.mk ((by rw [hg]; exact (below_size (by repeat (first | (with_reducible first | exact HB.out | apply below_alloc | apply pw_below_drewN | apply below_drew1) | exact HB.out))) : w.heap.size ≤ gb101)); clear HB; have HB := n0_; have BK101 := n1_; have GW101 := n2_; have GE101 := n3_; clear n0_ n1_ n2_ n3_; clear hb hbox hg; have hcz6_0 : w5.cell? ⟨gb101, 0, none⟩ = some (.slice A0_0 l0_0.length c0_0) := (blk_cell BK101.out 0).trans rfl; have hfz6_0 := blk_frozen BK101.out 0) | (go_at_call 95; (with_reducible refine (spec_l10Code.calls k _ _ l0_0 a1 t102 _ ?side1 ?side2 A3.out).mono ?_); (case side1 => repeat (first | exact (Kd.C_below HR0_0.out HB.out) | (with_reducible refine Kd.C_alloc ?_ _) | (with_reducible refine Kd.C_drewN ?_ _) | (with_reducible refine Kd.C_drew ?_))); (case side2 => exact HC0_0.out); rintro e w7 ⟨rfl, hb⟩; have n0_ := Aside0.mk (blk_below (g := gb101) (o := .cells #[.slice A0_0 l0_0.length c0_0] 28 (0, 0)) (by (with_reducible repeat (first | refine blk_drewN ?_ _ | refine blk_drew ?_ | refine blk_alloc ?_ _)); exact BK101.out) hb); have n1_ := Aside0.mk (below_step (by repeat (first | (with_reducible first | exact HB.out | apply below_alloc | apply pw_below_drewN | apply below_drew1 | refine below_set ?_ GE101.out) | exact HB.out)) hb); clear BK101; clear HB; have BK101 := n0_; have HB := n1_; clear n0_ n1_; (try clear hb); (try clear hb2); (try clear hk); (try clear hi)) | ((with_reducible refine gate_dst (N := 22) rfl ?_); refine Kd.N_lit (Kd.slice 2 (Kd.int .i64)) _ 22 ?hg (N' := 22) ?hd (xs := ([] : List (List Int))) (inner := []) (ok := (fun k_ => k_ ≠ gb101)) (okp := (fun k_ => k_ ≠ gb101)) ?hr ?hp (fun _ hk => hk) ((show ∀ k_, w7.heap.size ≤ k_ → (fun k_ => k_ ≠ gb101) k_ from fun k_ hk => Kd.freshB (g := gb101) (o := .cells #[.slice A0_0 l0_0.length c0_0] 28 (0, 0)) (by (with_reducible repeat (first | refine blk_drewN ?_ _ | refine blk_drew ?_ | refine blk_alloc ?_ _)); exact BK101.out) k_ hk) _ (Nat.le_refl _)) (Below.refl _ _) (Nat.le_refl _) (by simp) ?_; (case hd => rfl); (case hg => rfl); (case hr => first | (go_simp; done) | (go_simp; rfl)); (case hp => exact (Reps.none _ _)); intro v104 w8 ho9 hb hg_ hnew_; clear hg_ hnew_; (first | rw [← Ny103.out] at ho9 | (simp only [Int.reduceToNat] at ho9; rw [← Ny103.out] at ho9)); have n0_ := Aside0.mk (Kd.N_lower ho9 (below_size (by repeat (first | (with_reducible first | exact HB.out | apply below_alloc | apply pw_below_drewN | apply below_drew1 | refine below_set ?_ GE101.out) | exact HB.out)))); have n1_ := Aside0.mk (blk_below (g := gb101) (o := .cells #[.slice A0_0 l0_0.length c0_0] 28 (0, 0)) (by (with_reducible repeat (first | refine blk_drewN ?_ _ | refine blk_drew ?_ | refine blk_alloc ?_ _)); exact BK101.out) hb); have n2_ := Aside0.mk (below_step (by repeat (first | (with_reducible first | exact HB.out | apply below_alloc | apply pw_below_drewN | apply below_drew1 | refine below_set ?_ GE101.out) | exact HB.out)) hb); clear BK101; clear HB; have HO105 := n0_; have BK101 := n1_; have HB := n2_; clear n0_ n1_ n2_; clear hb ho9)))
  go_loopg [7, 8] k (fun kq v7 v8 w' => ∃ (x7_1 : List (List Int)) (x8_1 : Int), v8 = .int .i64 x8_1 ∧ Aside0 (spec_GreedyRows.l0 kq a1 x7_1 x8_1 l0_0 = some (r1, r2)) ∧ Aside0 (kq ≤ k) ∧ Aside0 (Kd.N (Kd.slice 2 (Kd.int .i64)) 22 w' w.heap.size (fun k_ => k_ ≠ gb101) v7 x7_1) ∧ Aside0 (w'.heap[gb101]? = some (.cells #[(.slice A0_0 l0_0.length c0_0)] 28 (0, 0))) ∧ Aside0 (Below w.heap.size w w'))
  case atStart => exact ⟨(y103), (0), (by first | rfl | (simp; done) | (simp [*]; done)), H', ⟨Nat.le_refl _⟩, ⟨by (with_reducible repeat (first | apply Kd.N_alloc | apply Kd.N_drewN | apply Kd.N_drew)); exact HO105.out⟩, ⟨by (with_reducible repeat (first | refine blk_drewN ?_ _ | refine blk_drew ?_ | refine blk_alloc ?_ _)); exact BK101.out⟩, ⟨by repeat (first | (with_reducible first | exact HB.out | apply below_alloc | apply pw_below_drewN | apply below_drew1 | refine below_set ?_ GE101.out) | exact HB.out)⟩⟩
  case round =>
   clear H'
   try clear c2
   try clear p2
   try clear c4
   try clear c4b0
   try clear c4b1
   try clear hcz6_0
   try clear hfz6_0
   obtain ⟨x7_1, x8_1, rfl, HA, HK1, HO_7, BK101, HB⟩ := hrel
   cases gk with
   | zero => exact absurd HA.out (by simp [spec_GreedyRows.l0])
   | succ k1 =>
    have H := HA.out
    clear HA
    simp only [spec_GreedyRows.l0] at H
    replace H := Option.bind_eq_some_iff.mp H
    obtain ⟨t106, A100, H⟩ := H
    replace H : (if x8_1 < t106 then ((spec_l01Digits.f k1 l0_0 x8_1).bind fun t107 => (if x7_1.length < 5864062014805 then (spec_GreedyRows.l0 k1 a1 (x7_1 ++ [t107]) (wrap64 (x8_1 + 1)) l0_0) else (none))) else ((spec_l10All.f k1 l0_0 a1).bind fun t113 => (spec_GreedyRows.l1 k1 x7_1 t113 (([] : List Int)) l0_0))) = some (r1, r2) := H
    have A10 := Aside0.mk A100
    clear A100
    by_cases c11 : x8_1 < t106
    ·rw [if_pos c11] at H
     have c11b0 : decide (x8_1 < t106) = true := decide_eq_true c11
     clear c11
     replace H := Option.bind_eq_some_iff.mp H
     obtain ⟨t107, A120, H⟩ := H
     replace H : (if x7_1.length < 5864062014805 then (spec_GreedyRows.l0 k1 a1 (x7_1 ++ [t107]) (wrap64 (x8_1 + 1)) l0_0) else (none)) = some (r1, r2) := H
     have A12 := Aside0.mk A120
     clear A120
     by_cases c13 : x7_1.length < 5864062014805
     ·rw [if_pos c13] at H
      have LMc13 := Aside0.mk c13
      clear c13
      obtain ⟨y110, hy110⟩ : ∃ y_ : List (List Int), y_ = (x7_1 ++ [t107]) := ⟨_, rfl⟩
      replace H : (spec_GreedyRows.l0 k1 a1 y110 (wrap64 (x8_1 + 1)) l0_0) = some (r1, r2) := by first | (rw [hy110]; with_reducible exact H) | (have H2_ := (Option.bind_some _ _).symm.trans H; rw [hy110]; with_reducible exact H2_) | (have H2_ := (Option.bind_some _ _).symm.trans H; with_reducible exact H2_) | with_reducible exact H | (rw [hy110]; exact H) | exact H
      have Ny110 := Aside0.mk hy110
      clear hy110
      have H' := Aside0.mk H
      clear H
      have hcz14_0 : wr.cell? ⟨gb101, 0, none⟩ = some (.slice A0_0 l0_0.length c0_0) := (blk_cell BK101.out 0).trans rfl
      have hfz14_0 := blk_frozen BK101.out 0
      go_wp2_with (first | (go_at_call 96; (with_reducible refine (spec_l01N.calls k1 _ _ l0_0 t106 _ ?side1 ?side2 A10.out).mono ?_); (case side1 => repeat (first | exact (Kd.C_below HR0_0.out HB.out) | (with_reducible refine Kd.C_alloc ?_ _) | (with_reducible refine Kd.C_drewN ?_ _) | (with_reducible refine Kd.C_drew ?_))); (case side2 => exact HC0_0.out); rintro e w15 ⟨rfl, hb⟩; have n0_ := Aside0.mk (Kd.N_below (by (with_reducible repeat (first | apply Kd.N_alloc | apply Kd.N_drewN | apply Kd.N_drew)); exact HO_7.out) hb); have n1_ := Aside0.mk (blk_below (g := gb101) (o := .cells #[.slice A0_0 l0_0.length c0_0] 28 (0, 0)) (by (with_reducible repeat (first | refine blk_drewN ?_ _ | refine blk_drew ?_ | refine blk_alloc ?_ _)); exact BK101.out) hb); have n2_ := Aside0.mk (below_step (by repeat (first | (with_reducible first | exact HB.out | apply below_alloc | apply pw_below_drewN | apply below_drew1 | refine below_set ?_ GE101.out) | exact HB.out)) hb); clear HO_7; clear BK101; clear HB; have HO_7 := n0_; have BK101 := n1_; have HB := n2_; clear n0_ n1_ n2_; (try clear hb); (try clear hb2); (try clear hk); (try clear hi); have hcz16_0 : w15.cell? ⟨gb101, 0, none⟩ = some (.slice A0_0 l0_0.length c0_0) := (blk_cell BK101.out 0).trans rfl; have hfz16_0 := blk_frozen BK101.out 0) | (go_at_call 97; (with_reducible refine (spec_l01Digits.calls k1 _ _ l0_0 x8_1 t107 _ ?side1 ?side2 A12.out).mono ?_); (case side1 => repeat (first | exact (Kd.C_below HR0_0.out HB.out) | (with_reducible refine Kd.C_alloc ?_ _) | (with_reducible refine Kd.C_drewN ?_ _) | (with_reducible refine Kd.C_drew ?_))); (case side2 => exact HC0_0.out); rintro e w17 ⟨v108, rfl, ho0, hb⟩; have n0_ := Aside0.mk (Kd.N_elder' (by (with_reducible repeat (first | apply Kd.N_alloc | apply Kd.N_drewN | apply Kd.N_drew)); exact HO_7.out) (Kd.R_base ho0) hb); have n1_ := Aside0.mk (Kd.R_lower ho0 (below_size (by repeat (first | (with_reducible first | exact HB.out | apply below_alloc | apply pw_below_drewN | apply below_drew1 | refine below_set ?_ GE101.out) | exact HB.out)))); have n2_ := Aside0.mk (blk_below (g := gb101) (o := .cells #[.slice A0_0 l0_0.length c0_0] 28 (0, 0)) (by (with_reducible repeat (first | refine blk_drewN ?_ _ | refine blk_drew ?_ | refine blk_alloc ?_ _)); exact BK101.out) hb); have n3_ := Aside0.mk (below_step (by repeat (first | (with_reducible first | exact HB.out | apply below_alloc | apply pw_below_drewN | apply below_drew1 | refine below_set ?_ GE101.out) | exact HB.out)) hb); clear HO_7; clear BK101; clear HB; have HO_7 := n0_; have HO109 := n1_; have BK101 := n2_; have HB := n3_; clear n0_ n1_ n2_ n3_; (try clear hb); (try clear hb2); (try clear hk); (try clear hi); (try clear ho0); obtain ⟨Ao19, co19, eo19⟩ := Kd.R_slice HO109.out; subst eo19) | ((with_reducible refine gate_builtin (b := .append) (xs := #[.tmp 29, .tmp 33]) rfl ?_); at_builtin; refine Kd.N_append (Kd.slice 2 (Kd.int .i64)) (w0 := w) w.heap.size rfl (.tmp 29) (.tmp 33) 42 22 (.slice none 0 0) 24 rfl Try.underlying42 info22 rfl (by decide) (by omega) u7 x7_1 t107 [.slice Ao19 t107.length co19] (fun k_ => k_ ≠ gb101) (fun k_ => ((fun k_ => k_ ≠ gb101)) k_ ∧ some k_ ≠ (u7 : Value).ownBlock) rfl rfl ?aP (fun _ hk => hk) ?aF ?aO ?aB ?aS ?aL ?_; (case aP => exact (Kd.FK_slice_mk (Kd.R_reads' (Kd.R_mono (ok' := (fun k_ => ((fun k_ => k_ ≠ gb101)) k_ ∧ some k_ ≠ (u7 : Value).ownBlock)) (Kd.R_types (Kd.R_apart' (HO109.out) (Kd.N_typed HO_7.out) (by decide)) BK101.out (by decide)) (fun k_ hk => ⟨hk.2, hk.1.2⟩))).2.1 (Kd.R_F (Kd.R_mono (ok' := (fun k_ => ((fun k_ => k_ ≠ gb101)) k_ ∧ some k_ ≠ (u7 : Value).ownBlock)) (Kd.R_types (Kd.R_apart' (HO109.out) (Kd.N_typed HO_7.out) (by decide)) BK101.out (by decide)) (fun k_ hk => ⟨hk.2, hk.1.2⟩))))); (case aB => exact (by repeat (first | (with_reducible first | exact HB.out | apply below_alloc | apply pw_below_drewN | apply below_drew1 | refine below_set ?_ GE101.out) | exact HB.out))); (case aF => exact (fun k_ hk => Kd.freshB (g := gb101) (o := .cells #[.slice A0_0 l0_0.length c0_0] 28 (0, 0)) (by (with_reducible repeat (first | refine blk_drewN ?_ _ | refine blk_drew ?_ | refine blk_alloc ?_ _)); exact BK101.out) k_ hk)); (case aO => exact (by (with_reducible repeat (first | apply Kd.N_alloc | apply Kd.N_drewN | apply Kd.N_drew)); exact Kd.N_mono HO_7.out (fun _ hk => hk.1))); (case aS => exact (below_size (by repeat (first | (with_reducible first | exact HB.out | apply below_alloc | apply pw_below_drewN | apply below_drew1 | refine below_set ?_ GE101.out) | exact HB.out)))); (case aL => have := LMc13.out; omega); intro v111 w18 ho hb hg hat; rw [← Ny110.out] at ho; have n0_ := Aside0.mk (blk_grown (g := gb101) (o := .cells #[.slice A0_0 l0_0.length c0_0] 28 (0, 0)) (by (with_reducible repeat (first | refine blk_drewN ?_ _ | refine blk_drew ?_ | refine blk_alloc ?_ _)); exact BK101.out) hg (Kd.N_ne HO_7.out BK101.out (by decide))); have n1_ := Aside0.mk (hb); have n2_ := Aside0.mk (ho); clear BK101; clear HB; clear HO_7; clear HO109; have BK101 := n0_; have HB := n1_; have HO112 := n2_; clear n0_ n1_ n2_; clear ho hb hg hat))
      repeat (go_quiet (first | (go_at_call 96; (with_reducible refine (spec_l01N.calls k1 _ _ l0_0 t106 _ ?side1 ?side2 A10.out).mono ?_); (case side1 => repeat (first | exact (Kd.C_below HR0_0.out HB.out) | (with_reducible refine Kd.C_alloc ?_ _) | (with_reducible refine Kd.C_drewN ?_ _) | (with_reducible refine Kd.C_drew ?_))); (case side2 => exact HC0_0.out); rintro e w15 ⟨rfl, hb⟩; have n0_ := Aside0.mk (Kd.N_below (by (with_reducible repeat (first | apply Kd.N_alloc | apply Kd.N_drewN | apply Kd.N_drew)); exact HO_7.out) hb); have n1_ := Aside0.mk (blk_below (g := gb101) (o := .cells #[.slice A0_0 l0_0.length c0_0] 28 (0, 0)) (by (with_reducible repeat (first | refine blk_drewN ?_ _ | refine blk_drew ?_ | refine blk_alloc ?_ _)); exact BK101.out) hb); have n2_ := Aside0.mk (below_step (by repeat (first | (with_reducible first | exact HB.out | apply below_alloc | apply pw_below_drewN | apply below_drew1 | refine below_set ?_ GE101.out) | exact HB.out)) hb); clear HO_7; clear BK101; clear HB; have HO_7 := n0_; have BK101 := n1_; have HB := n2_; clear n0_ n1_ n2_; (try clear hb); (try clear hb2); (try clear hk); (try clear hi); have hcz16_0 : w15.cell? ⟨gb101, 0, none⟩ = some (.slice A0_0 l0_0.length c0_0) := (blk_cell BK101.out 0).trans rfl; have hfz16_0 := blk_frozen BK101.out 0) | (go_at_call 97; (with_reducible refine (spec_l01Digits.calls k1 _ _ l0_0 x8_1 t107 _ ?side1 ?side2 A12.out).mono ?_); (case side1 => repeat (first | exact (Kd.C_below HR0_0.out HB.out) | (with_reducible refine Kd.C_alloc ?_ _) | (with_reducible refine Kd.C_drewN ?_ _) | (with_reducible refine Kd.C_drew ?_))); (case side2 => exact HC0_0.out); rintro e w17 ⟨v108, rfl, ho0, hb⟩; have n0_ := Aside0.mk (Kd.N_elder' (by (with_reducible repeat (first | apply Kd.N_alloc | apply Kd.N_drewN | apply Kd.N_drew)); exact HO_7.out) (Kd.R_base ho0) hb); have n1_ := Aside0.mk (Kd.R_lower ho0 (below_size (by repeat (first | (with_reducible first | exact HB.out | apply below_alloc | apply pw_below_drewN | apply below_drew1 | refine below_set ?_ GE101.out) | exact HB.out)))); have n2_ := Aside0.mk (blk_below (g := gb101) (o := .cells #[.slice A0_0 l0_0.length c0_0] 28 (0, 0)) (by (with_reducible repeat (first | refine blk_drewN ?_ _ | refine blk_drew ?_ | refine blk_alloc ?_ _)); exact BK101.out) hb); have n3_ := Aside0.mk (below_step (by repeat (first | (with_reducible first | exact HB.out | apply below_alloc | apply pw_below_drewN | apply below_drew1 | refine below_set ?_ GE101.out) | exact HB.out)) hb); clear HO_7; clear BK101; clear HB; have HO_7 := n0_; have HO109 := n1_; have BK101 := n2_; have HB := n3_; clear n0_ n1_ n2_ n3_; (try clear hb); (try clear hb2); (try clear hk); (try clear hi); (try clear ho0); obtain ⟨Ao19, co19, eo19⟩ := Kd.R_slice HO109.out; subst eo19) | ((with_reducible refine gate_builtin (b := .append) (xs := #[.tmp 29, .tmp 33]) rfl ?_); at_builtin; refine Kd.N_append (Kd.slice 2 (Kd.int .i64)) (w0 := w) w.heap.size rfl (.tmp 29) (.tmp 33) 42 22 (.slice none 0 0) 24 rfl Try.underlying42 info22 rfl (by decide) (by omega) u7 x7_1 t107 [.slice Ao19 t107.length co19] (fun k_ => k_ ≠ gb101) (fun k_ => ((fun k_ => k_ ≠ gb101)) k_ ∧ some k_ ≠ (u7 : Value).ownBlock) rfl rfl ?aP (fun _ hk => hk) ?aF ?aO ?aB ?aS ?aL ?_; (case aP => exact (Kd.FK_slice_mk (Kd.R_reads' (Kd.R_mono (ok' := (fun k_ => ((fun k_ => k_ ≠ gb101)) k_ ∧ some k_ ≠ (u7 : Value).ownBlock)) (Kd.R_types (Kd.R_apart' (HO109.out) (Kd.N_typed HO_7.out) (by decide)) BK101.out (by decide)) (fun k_ hk => ⟨hk.2, hk.1.2⟩))).2.1 (Kd.R_F (Kd.R_mono (ok' := (fun k_ => ((fun k_ => k_ ≠ gb101)) k_ ∧ some k_ ≠ (u7 : Value).ownBlock)) (Kd.R_types (Kd.R_apart' (HO109.out) (Kd.N_typed HO_7.out) (by decide)) BK101.out (by decide)) (fun k_ hk => ⟨hk.2, hk.1.2⟩))))); (case aB => exact (by repeat (first | (with_reducible first | exact HB.out | apply below_alloc | apply pw_below_drewN | apply below_drew1 | refine below_set ?_ GE101.out) | exact HB.out))); (case aF => exact (fun k_ hk => Kd.freshB (g := gb101) (o := .cells #[.slice A0_0 l0_0.length c0_0] 28 (0, 0)) (by (with_reducible repeat (first | refine blk_drewN ?_ _ | refine blk_drew ?_ | refine blk_alloc ?_ _)); exact BK101.out) k_ hk)); (case aO => exact (by (with_reducible repeat (first | apply Kd.N_alloc | apply Kd.N_drewN | apply Kd.N_drew)); exact Kd.N_mono HO_7.out (fun _ hk => hk.1))); (case aS => exact (below_size (by repeat (first | (with_reducible first | exact HB.out | apply below_alloc | apply pw_below_drewN | apply below_drew1 | refine below_set ?_ GE101.out) | exact HB.out)))); (case aL => have := LMc13.out; omega); intro v111 w18 ho hb hg hat; rw [← Ny110.out] at ho; have n0_ := Aside0.mk (blk_grown (g := gb101) (o := .cells #[.slice A0_0 l0_0.length c0_0] 28 (0, 0)) (by (with_reducible repeat (first | refine blk_drewN ?_ _ | refine blk_drew ?_ | refine blk_alloc ?_ _)); exact BK101.out) hg (Kd.N_ne HO_7.out BK101.out (by decide))); have n1_ := Aside0.mk (hb); have n2_ := Aside0.mk (ho); clear BK101; clear HB; clear HO_7; clear HO109; have BK101 := n0_; have HB := n1_; have HO112 := n2_; clear n0_ n1_ n2_; clear ho hb hg hat)); try go_wp2_with (first | (go_at_call 96; (with_reducible refine (spec_l01N.calls k1 _ _ l0_0 t106 _ ?side1 ?side2 A10.out).mono ?_); (case side1 => repeat (first | exact (Kd.C_below HR0_0.out HB.out) | (with_reducible refine Kd.C_alloc ?_ _) | (with_reducible refine Kd.C_drewN ?_ _) | (with_reducible refine Kd.C_drew ?_))); (case side2 => exact HC0_0.out); rintro e w15 ⟨rfl, hb⟩; have n0_ := Aside0.mk (Kd.N_below (by (with_reducible repeat (first | apply Kd.N_alloc | apply Kd.N_drewN | apply Kd.N_drew)); exact HO_7.out) hb); have n1_ := Aside0.mk (blk_below (g := gb101) (o := .cells #[.slice A0_0 l0_0.length c0_0] 28 (0, 0)) (by (with_reducible repeat (first | refine blk_drewN ?_ _ | refine blk_drew ?_ | refine blk_alloc ?_ _)); exact BK101.out) hb); have n2_ := Aside0.mk (below_step (by repeat (first | (with_reducible first | exact HB.out | apply below_alloc | apply pw_below_drewN | apply below_drew1 | refine below_set ?_ GE101.out) | exact HB.out)) hb); clear HO_7; clear BK101; clear HB; have HO_7 := n0_; have BK101 := n1_; have HB := n2_; clear n0_ n1_ n2_; (try clear hb); (try clear hb2); (try clear hk); (try clear hi); have hcz16_0 : w15.cell? ⟨gb101, 0, none⟩ = some (.slice A0_0 l0_0.length c0_0) := (blk_cell BK101.out 0).trans rfl; have hfz16_0 := blk_frozen BK101.out 0) | (go_at_call 97; (with_reducible refine (spec_l01Digits.calls k1 _ _ l0_0 x8_1 t107 _ ?side1 ?side2 A12.out).mono ?_); (case side1 => repeat (first | exact (Kd.C_below HR0_0.out HB.out) | (with_reducible refine Kd.C_alloc ?_ _) | (with_reducible refine Kd.C_drewN ?_ _) | (with_reducible refine Kd.C_drew ?_))); (case side2 => exact HC0_0.out); rintro e w17 ⟨v108, rfl, ho0, hb⟩; have n0_ := Aside0.mk (Kd.N_elder' (by (with_reducible repeat (first | apply Kd.N_alloc | apply Kd.N_drewN | apply Kd.N_drew)); exact HO_7.out) (Kd.R_base ho0) hb); have n1_ := Aside0.mk (Kd.R_lower ho0 (below_size (by repeat (first | (with_reducible first | exact HB.out | apply below_alloc | apply pw_below_drewN | apply below_drew1 | refine below_set ?_ GE101.out) | exact HB.out)))); have n2_ := Aside0.mk (blk_below (g := gb101) (o := .cells #[.slice A0_0 l0_0.length c0_0] 28 (0, 0)) (by (with_reducible repeat (first | refine blk_drewN ?_ _ | refine blk_drew ?_ | refine blk_alloc ?_ _)); exact BK101.out) hb); have n3_ := Aside0.mk (below_step (by repeat (first | (with_reducible first | exact HB.out | apply below_alloc | apply pw_below_drewN | apply below_drew1 | refine below_set ?_ GE101.out) | exact HB.out)) hb); clear HO_7; clear BK101; clear HB; have HO_7 := n0_; have HO109 := n1_; have BK101 := n2_; have HB := n3_; clear n0_ n1_ n2_ n3_; (try clear hb); (try clear hb2); (try clear hk); (try clear hi); (try clear ho0); obtain ⟨Ao19, co19, eo19⟩ := Kd.R_slice HO109.out; subst eo19) | ((with_reducible refine gate_builtin (b := .append) (xs := #[.tmp 29, .tmp 33]) rfl ?_); at_builtin; refine Kd.N_append (Kd.slice 2 (Kd.int .i64)) (w0 := w) w.heap.size rfl (.tmp 29) (.tmp 33) 42 22 (.slice none 0 0) 24 rfl Try.underlying42 info22 rfl (by decide) (by omega) u7 x7_1 t107 [.slice Ao19 t107.length co19] (fun k_ => k_ ≠ gb101) (fun k_ => ((fun k_ => k_ ≠ gb101)) k_ ∧ some k_ ≠ (u7 : Value).ownBlock) rfl rfl ?aP (fun _ hk => hk) ?aF ?aO ?aB ?aS ?aL ?_; (case aP => exact (Kd.FK_slice_mk (Kd.R_reads' (Kd.R_mono (ok' := (fun k_ => ((fun k_ => k_ ≠ gb101)) k_ ∧ some k_ ≠ (u7 : Value).ownBlock)) (Kd.R_types (Kd.R_apart' (HO109.out) (Kd.N_typed HO_7.out) (by decide)) BK101.out (by decide)) (fun k_ hk => ⟨hk.2, hk.1.2⟩))).2.1 (Kd.R_F (Kd.R_mono (ok' := (fun k_ => ((fun k_ => k_ ≠ gb101)) k_ ∧ some k_ ≠ (u7 : Value).ownBlock)) (Kd.R_types (Kd.R_apart' (HO109.out) (Kd.N_typed HO_7.out) (by decide)) BK101.out (by decide)) (fun k_ hk => ⟨hk.2, hk.1.2⟩))))); (case aB => exact (by repeat (first | (with_reducible first | exact HB.out | apply below_alloc | apply pw_below_drewN | apply below_drew1 | refine below_set ?_ GE101.out) | exact HB.out))); (case aF => exact (fun k_ hk => Kd.freshB (g := gb101) (o := .cells #[.slice A0_0 l0_0.length c0_0] 28 (0, 0)) (by (with_reducible repeat (first | refine blk_drewN ?_ _ | refine blk_drew ?_ | refine blk_alloc ?_ _)); exact BK101.out) k_ hk)); (case aO => exact (by (with_reducible repeat (first | apply Kd.N_alloc | apply Kd.N_drewN | apply Kd.N_drew)); exact Kd.N_mono HO_7.out (fun _ hk => hk.1))); (case aS => exact (below_size (by repeat (first | (with_reducible first | exact HB.out | apply below_alloc | apply pw_below_drewN | apply below_drew1 | refine below_set ?_ GE101.out) | exact HB.out)))); (case aL => have := LMc13.out; omega); intro v111 w18 ho hb hg hat; rw [← Ny110.out] at ho; have n0_ := Aside0.mk (blk_grown (g := gb101) (o := .cells #[.slice A0_0 l0_0.length c0_0] 28 (0, 0)) (by (with_reducible repeat (first | refine blk_drewN ?_ _ | refine blk_drew ?_ | refine blk_alloc ?_ _)); exact BK101.out) hg (Kd.N_ne HO_7.out BK101.out (by decide))); have n1_ := Aside0.mk (hb); have n2_ := Aside0.mk (ho); clear BK101; clear HB; clear HO_7; clear HO109; have BK101 := n0_; have HB := n1_; have HO112 := n2_; clear n0_ n1_ n2_; clear ho hb hg hat)))
      go_roundg k1
      case measure => have := HK1.out; omega
      case rel => exact ⟨(y110), (wrap64 (x8_1 + 1)), (by first | rfl | (simp; done) | (simp [*]; done)), H', ⟨by have := HK1.out; omega⟩, ⟨by (with_reducible repeat (first | apply Kd.N_alloc | apply Kd.N_drewN | apply Kd.N_drew)); exact HO112.out⟩, ⟨by (with_reducible repeat (first | refine blk_drewN ?_ _ | refine blk_drew ?_ | refine blk_alloc ?_ _)); exact BK101.out⟩, ⟨by repeat (first | (with_reducible first | exact HB.out | apply below_alloc | apply pw_below_drewN | apply below_drew1 | refine below_set ?_ GE101.out) | exact HB.out)⟩⟩
     ·rw [if_neg c13] at H
      exact absurd H (by simp)
    ·rw [if_neg c11] at H
     have c11b0 : decide (x8_1 < t106) = false := decide_eq_false c11
     clear c11
     replace H := Option.bind_eq_some_iff.mp H
     obtain ⟨t113, A200, H⟩ := H
     replace H : (spec_GreedyRows.l1 k1 x7_1 t113 (([] : List Int)) l0_0) = some (r1, r2) := H
     have A20 := Aside0.mk A200
     clear A200
     obtain ⟨y116, hy116⟩ : ∃ y_ : List Int, y_ = (([] : List Int)) := ⟨_, rfl⟩
     replace H : (spec_GreedyRows.l1 k1 x7_1 t113 y116 l0_0) = some (r1, r2) := by first | (rw [hy116]; with_reducible exact H) | (have H2_ := (Option.bind_some _ _).symm.trans H; rw [hy116]; with_reducible exact H2_) | (have H2_ := (Option.bind_some _ _).symm.trans H; with_reducible exact H2_) | with_reducible exact H | (rw [hy116]; exact H) | exact H
     have Ny116 := Aside0.mk hy116
     clear hy116
     have H' := Aside0.mk H
     clear H
     have hcz21_0 : wr.cell? ⟨gb101, 0, none⟩ = some (.slice A0_0 l0_0.length c0_0) := (blk_cell BK101.out 0).trans rfl
     have hfz21_0 := blk_frozen BK101.out 0
     go_wp2_with (first | (go_at_call 96; (with_reducible refine (spec_l01N.calls k1 _ _ l0_0 t106 _ ?side1 ?side2 A10.out).mono ?_); (case side1 => repeat (first | exact (Kd.C_below HR0_0.out HB.out) | (with_reducible refine Kd.C_alloc ?_ _) | (with_reducible refine Kd.C_drewN ?_ _) | (with_reducible refine Kd.C_drew ?_))); (case side2 => exact HC0_0.out); rintro e w22 ⟨rfl, hb⟩; have n0_ := Aside0.mk (Kd.N_below (by (with_reducible repeat (first | apply Kd.N_alloc | apply Kd.N_drewN | apply Kd.N_drew)); exact HO_7.out) hb); have n1_ := Aside0.mk (blk_below (g := gb101) (o := .cells #[.slice A0_0 l0_0.length c0_0] 28 (0, 0)) (by (with_reducible repeat (first | refine blk_drewN ?_ _ | refine blk_drew ?_ | refine blk_alloc ?_ _)); exact BK101.out) hb); have n2_ := Aside0.mk (below_step (by repeat (first | (with_reducible first | exact HB.out | apply below_alloc | apply pw_below_drewN | apply below_drew1 | refine below_set ?_ GE101.out) | exact HB.out)) hb); clear HO_7; clear BK101; clear HB; have HO_7 := n0_; have BK101 := n1_; have HB := n2_; clear n0_ n1_ n2_; (try clear hb); (try clear hb2); (try clear hk); (try clear hi); have hcz23_0 : w22.cell? ⟨gb101, 0, none⟩ = some (.slice A0_0 l0_0.length c0_0) := (blk_cell BK101.out 0).trans rfl; have hfz23_0 := blk_frozen BK101.out 0) | (go_at_call 88; (with_reducible refine (spec_l10All.calls k1 _ _ l0_0 a1 t113 _ ?side1 ?side2 A20.out).mono ?_); (case side1 => repeat (first | exact (Kd.C_below HR0_0.out HB.out) | (with_reducible refine Kd.C_alloc ?_ _) | (with_reducible refine Kd.C_drewN ?_ _) | (with_reducible refine Kd.C_drew ?_))); (case side2 => exact HC0_0.out); rintro e w24 ⟨v114, rfl, ho0, hb⟩; have n0_ := Aside0.mk (Kd.N_elder' (by (with_reducible repeat (first | apply Kd.N_alloc | apply Kd.N_drewN | apply Kd.N_drew)); exact HO_7.out) (Kd.N_base ho0) hb); have n1_ := Aside0.mk (Kd.N_lower (Kd.N_mono (ok' := fun k_ => some k_ ≠ (u7 : Value).ownBlock ∧ k_ ≠ gb101) ho0 (fun k_ hk_ => ⟨(Kd.fresh' (Kd.N_lt (by (with_reducible repeat (first | apply Kd.N_alloc | apply Kd.N_drewN | apply Kd.N_drew)); exact HO_7.out)) k_ hk_), (Kd.freshB (g := gb101) (o := .cells #[.slice A0_0 l0_0.length c0_0] 28 (0, 0)) (by (with_reducible repeat (first | refine blk_drewN ?_ _ | refine blk_drew ?_ | refine blk_alloc ?_ _)); exact BK101.out) k_ hk_)⟩)) (below_size (by repeat (first | (with_reducible first | exact HB.out | apply below_alloc | apply pw_below_drewN | apply below_drew1 | refine below_set ?_ GE101.out) | exact HB.out)))); have n2_ := Aside0.mk (blk_below (g := gb101) (o := .cells #[.slice A0_0 l0_0.length c0_0] 28 (0, 0)) (by (with_reducible repeat (first | refine blk_drewN ?_ _ | refine blk_drew ?_ | refine blk_alloc ?_ _)); exact BK101.out) hb); have n3_ := Aside0.mk (below_step (by repeat (first | (with_reducible first | exact HB.out | apply below_alloc | apply pw_below_drewN | apply below_drew1 | refine below_set ?_ GE101.out) | exact HB.out)) hb); clear HO_7; clear BK101; clear HB; have HO_7 := n0_; have HO115 := n1_; have BK101 := n2_; have HB := n3_; clear n0_ n1_ n2_ n3_; (try clear hb); (try clear hb2); (try clear hk); (try clear hi); (try clear ho0)) | ((with_reducible refine gate_dst (N := 38) rfl ?_); refine Kd.R_lit (Kd.int .i64) _ 2 ?hg (N := 38) ?hd (xs := ([] : List Int)) (inner := []) (ok := fun _ => True) (okp := fun _ => True) ?hr ?hp (fun _ hk => hk) trivial (Below.refl _ _) (Nat.le_refl _) (by simp) ?_; (case hd => rfl); (case hg => rfl); (case hr => first | (go_simp; done) | (go_simp; rfl)); (case hp => exact (Reps.none _ _)); intro v117 w25 ho26 hb hg_ hnew_; clear hg_ hnew_; (first | rw [← Ny116.out] at ho26 | (simp only [Int.reduceToNat] at ho26; rw [← Ny116.out] at ho26)); have n0_ := Aside0.mk (Kd.N_elder' (by (with_reducible repeat (first | apply Kd.N_alloc | apply Kd.N_drewN | apply Kd.N_drew)); exact HO_7.out) (Kd.R_base ho26) hb); have n1_ := Aside0.mk (Kd.N_elder' (by (with_reducible repeat (first | apply Kd.N_alloc | apply Kd.N_drewN | apply Kd.N_drew)); exact HO115.out) (Kd.R_base ho26) hb); have n2_ := Aside0.mk (Kd.R_lower ho26 (below_size (by repeat (first | (with_reducible first | exact HB.out | apply below_alloc | apply pw_below_drewN | apply below_drew1 | refine below_set ?_ GE101.out) | exact HB.out)))); have n3_ := Aside0.mk (blk_below (g := gb101) (o := .cells #[.slice A0_0 l0_0.length c0_0] 28 (0, 0)) (by (with_reducible repeat (first | refine blk_drewN ?_ _ | refine blk_drew ?_ | refine blk_alloc ?_ _)); exact BK101.out) hb); have n4_ := Aside0.mk (below_step (by repeat (first | (with_reducible first | exact HB.out | apply below_alloc | apply pw_below_drewN | apply below_drew1 | refine below_set ?_ GE101.out) | exact HB.out)) hb); clear HO_7; clear HO115; clear BK101; clear HB; have HO_7 := n0_; have HO115 := n1_; have HO118 := n2_; have BK101 := n3_; have HB := n4_; clear n0_ n1_ n2_ n3_ n4_; clear hb ho26))
     repeat (go_quiet (first | (go_at_call 96; (with_reducible refine (spec_l01N.calls k1 _ _ l0_0 t106 _ ?side1 ?side2 A10.out).mono ?_); (case side1 => repeat (first | exact (Kd.C_below HR0_0.out HB.out) | (with_reducible refine Kd.C_alloc ?_ _) | (with_reducible refine Kd.C_drewN ?_ _) | (with_reducible refine Kd.C_drew ?_))); (case side2 => exact HC0_0.out); rintro e w22 ⟨rfl, hb⟩; have n0_ := Aside0.mk (Kd.N_below (by (with_reducible repeat (first | apply Kd.N_alloc | apply Kd.N_drewN | apply Kd.N_drew)); exact HO_7.out) hb); have n1_ := Aside0.mk (blk_below (g := gb101) (o := .cells #[.slice A0_0 l0_0.length c0_0] 28 (0, 0)) (by (with_reducible repeat (first | refine blk_drewN ?_ _ | refine blk_drew ?_ | refine blk_alloc ?_ _)); exact BK101.out) hb); have n2_ := Aside0.mk (below_step (by repeat (first | (with_reducible first | exact HB.out | apply below_alloc | apply pw_below_drewN | apply below_drew1 | refine below_set ?_ GE101.out) | exact HB.out)) hb); clear HO_7; clear BK101; clear HB; have HO_7 := n0_; have BK101 := n1_; have HB := n2_; clear n0_ n1_ n2_; (try clear hb); (try clear hb2); (try clear hk); (try clear hi); have hcz23_0 : w22.cell? ⟨gb101, 0, none⟩ = some (.slice A0_0 l0_0.length c0_0) := (blk_cell BK101.out 0).trans rfl; have hfz23_0 := blk_frozen BK101.out 0) | (go_at_call 88; (with_reducible refine (spec_l10All.calls k1 _ _ l0_0 a1 t113 _ ?side1 ?side2 A20.out).mono ?_); (case side1 => repeat (first | exact (Kd.C_below HR0_0.out HB.out) | (with_reducible refine Kd.C_alloc ?_ _) | (with_reducible refine Kd.C_drewN ?_ _) | (with_reducible refine Kd.C_drew ?_))); (case side2 => exact HC0_0.out); rintro e w24 ⟨v114, rfl, ho0, hb⟩; have n0_ := Aside0.mk (Kd.N_elder' (by (with_reducible repeat (first | apply Kd.N_alloc | apply Kd.N_drewN | apply Kd.N_drew)); exact HO_7.out) (Kd.N_base ho0) hb); have n1_ := Aside0.mk (Kd.N_lower (Kd.N_mono (ok' := fun k_ => some k_ ≠ (u7 : Value).ownBlock ∧ k_ ≠ gb101) ho0 (fun k_ hk_ => ⟨(Kd.fresh' (Kd.N_lt (by (with_reducible repeat (first | apply Kd.N_alloc | apply Kd.N_drewN | apply Kd.N_drew)); exact HO_7.out)) k_ hk_), (Kd.freshB (g := gb101) (o := .cells #[.slice A0_0 l0_0.length c0_0] 28 (0, 0)) (by (with_reducible repeat (first | refine blk_drewN ?_ _ | refine blk_drew ?_ | refine blk_alloc ?_ _)); exact BK101.out) k_ hk_)⟩)) (below_size (by repeat (first | (with_reducible first | exact HB.out | apply below_alloc | apply pw_below_drewN | apply below_drew1 | refine below_set ?_ GE101.out) | exact HB.out)))); have n2_ := Aside0.mk (blk_below (g := gb101) (o := .cells #[.slice A0_0 l0_0.length c0_0] 28 (0, 0)) (by (with_reducible repeat (first | refine blk_drewN ?_ _ | refine blk_drew ?_ | refine blk_alloc ?_ _)); exact BK101.out) hb); have n3_ := Aside0.mk (below_step (by repeat (first | (with_reducible first | exact HB.out | apply below_alloc | apply pw_below_drewN | apply below_drew1 | refine below_set ?_ GE101.out) | exact HB.out)) hb); clear HO_7; clear BK101; clear HB; have HO_7 := n0_; have HO115 := n1_; have BK101 := n2_; have HB := n3_; clear n0_ n1_ n2_ n3_; (try clear hb); (try clear hb2); (try clear hk); (try clear hi); (try clear ho0)) | ((with_reducible refine gate_dst (N := 38) rfl ?_); refine Kd.R_lit (Kd.int .i64) _ 2 ?hg (N := 38) ?hd (xs := ([] : List Int)) (inner := []) (ok := fun _ => True) (okp := fun _ => True) ?hr ?hp (fun _ hk => hk) trivial (Below.refl _ _) (Nat.le_refl _) (by simp) ?_; (case hd => rfl); (case hg => rfl); (case hr => first | (go_simp; done) | (go_simp; rfl)); (case hp => exact (Reps.none _ _)); intro v117 w25 ho26 hb hg_ hnew_; clear hg_ hnew_; (first | rw [← Ny116.out] at ho26 | (simp only [Int.reduceToNat] at ho26; rw [← Ny116.out] at ho26)); have n0_ := Aside0.mk (Kd.N_elder' (by (with_reducible repeat (first | apply Kd.N_alloc | apply Kd.N_drewN | apply Kd.N_drew)); exact HO_7.out) (Kd.R_base ho26) hb); have n1_ := Aside0.mk (Kd.N_elder' (by (with_reducible repeat (first | apply Kd.N_alloc | apply Kd.N_drewN | apply Kd.N_drew)); exact HO115.out) (Kd.R_base ho26) hb); have n2_ := Aside0.mk (Kd.R_lower ho26 (below_size (by repeat (first | (with_reducible first | exact HB.out | apply below_alloc | apply pw_below_drewN | apply below_drew1 | refine below_set ?_ GE101.out) | exact HB.out)))); have n3_ := Aside0.mk (blk_below (g := gb101) (o := .cells #[.slice A0_0 l0_0.length c0_0] 28 (0, 0)) (by (with_reducible repeat (first | refine blk_drewN ?_ _ | refine blk_drew ?_ | refine blk_alloc ?_ _)); exact BK101.out) hb); have n4_ := Aside0.mk (below_step (by repeat (first | (with_reducible first | exact HB.out | apply below_alloc | apply pw_below_drewN | apply below_drew1 | refine below_set ?_ GE101.out) | exact HB.out)) hb); clear HO_7; clear HO115; clear BK101; clear HB; have HO_7 := n0_; have HO115 := n1_; have HO118 := n2_; have BK101 := n3_; have HB := n4_; clear n0_ n1_ n2_ n3_ n4_; clear hb ho26)); try go_wp2_with (first | (go_at_call 96; (with_reducible refine (spec_l01N.calls k1 _ _ l0_0 t106 _ ?side1 ?side2 A10.out).mono ?_); (case side1 => repeat (first | exact (Kd.C_below HR0_0.out HB.out) | (with_reducible refine Kd.C_alloc ?_ _) | (with_reducible refine Kd.C_drewN ?_ _) | (with_reducible refine Kd.C_drew ?_))); (case side2 => exact HC0_0.out); rintro e w22 ⟨rfl, hb⟩; have n0_ := Aside0.mk (Kd.N_below (by (with_reducible repeat (first | apply Kd.N_alloc | apply Kd.N_drewN | apply Kd.N_drew)); exact HO_7.out) hb); have n1_ := Aside0.mk (blk_below (g := gb101) (o := .cells #[.slice A0_0 l0_0.length c0_0] 28 (0, 0)) (by (with_reducible repeat (first | refine blk_drewN ?_ _ | refine blk_drew ?_ | refine blk_alloc ?_ _)); exact BK101.out) hb); have n2_ := Aside0.mk (below_step (by repeat (first | (with_reducible first | exact HB.out | apply below_alloc | apply pw_below_drewN | apply below_drew1 | refine below_set ?_ GE101.out) | exact HB.out)) hb); clear HO_7; clear BK101; clear HB; have HO_7 := n0_; have BK101 := n1_; have HB := n2_; clear n0_ n1_ n2_; (try clear hb); (try clear hb2); (try clear hk); (try clear hi); have hcz23_0 : w22.cell? ⟨gb101, 0, none⟩ = some (.slice A0_0 l0_0.length c0_0) := (blk_cell BK101.out 0).trans rfl; have hfz23_0 := blk_frozen BK101.out 0) | (go_at_call 88; (with_reducible refine (spec_l10All.calls k1 _ _ l0_0 a1 t113 _ ?side1 ?side2 A20.out).mono ?_); (case side1 => repeat (first | exact (Kd.C_below HR0_0.out HB.out) | (with_reducible refine Kd.C_alloc ?_ _) | (with_reducible refine Kd.C_drewN ?_ _) | (with_reducible refine Kd.C_drew ?_))); (case side2 => exact HC0_0.out); rintro e w24 ⟨v114, rfl, ho0, hb⟩; have n0_ := Aside0.mk (Kd.N_elder' (by (with_reducible repeat (first | apply Kd.N_alloc | apply Kd.N_drewN | apply Kd.N_drew)); exact HO_7.out) (Kd.N_base ho0) hb); have n1_ := Aside0.mk (Kd.N_lower (Kd.N_mono (ok' := fun k_ => some k_ ≠ (u7 : Value).ownBlock ∧ k_ ≠ gb101) ho0 (fun k_ hk_ => ⟨(Kd.fresh' (Kd.N_lt (by (with_reducible repeat (first | apply Kd.N_alloc | apply Kd.N_drewN | apply Kd.N_drew)); exact HO_7.out)) k_ hk_), (Kd.freshB (g := gb101) (o := .cells #[.slice A0_0 l0_0.length c0_0] 28 (0, 0)) (by (with_reducible repeat (first | refine blk_drewN ?_ _ | refine blk_drew ?_ | refine blk_alloc ?_ _)); exact BK101.out) k_ hk_)⟩)) (below_size (by repeat (first | (with_reducible first | exact HB.out | apply below_alloc | apply pw_below_drewN | apply below_drew1 | refine below_set ?_ GE101.out) | exact HB.out)))); have n2_ := Aside0.mk (blk_below (g := gb101) (o := .cells #[.slice A0_0 l0_0.length c0_0] 28 (0, 0)) (by (with_reducible repeat (first | refine blk_drewN ?_ _ | refine blk_drew ?_ | refine blk_alloc ?_ _)); exact BK101.out) hb); have n3_ := Aside0.mk (below_step (by repeat (first | (with_reducible first | exact HB.out | apply below_alloc | apply pw_below_drewN | apply below_drew1 | refine below_set ?_ GE101.out) | exact HB.out)) hb); clear HO_7; clear BK101; clear HB; have HO_7 := n0_; have HO115 := n1_; have BK101 := n2_; have HB := n3_; clear n0_ n1_ n2_ n3_; (try clear hb); (try clear hb2); (try clear hk); (try clear hi); (try clear ho0)) | ((with_reducible refine gate_dst (N := 38) rfl ?_); refine Kd.R_lit (Kd.int .i64) _ 2 ?hg (N := 38) ?hd (xs := ([] : List Int)) (inner := []) (ok := fun _ => True) (okp := fun _ => True) ?hr ?hp (fun _ hk => hk) trivial (Below.refl _ _) (Nat.le_refl _) (by simp) ?_; (case hd => rfl); (case hg => rfl); (case hr => first | (go_simp; done) | (go_simp; rfl)); (case hp => exact (Reps.none _ _)); intro v117 w25 ho26 hb hg_ hnew_; clear hg_ hnew_; (first | rw [← Ny116.out] at ho26 | (simp only [Int.reduceToNat] at ho26; rw [← Ny116.out] at ho26)); have n0_ := Aside0.mk (Kd.N_elder' (by (with_reducible repeat (first | apply Kd.N_alloc | apply Kd.N_drewN | apply Kd.N_drew)); exact HO_7.out) (Kd.R_base ho26) hb); have n1_ := Aside0.mk (Kd.N_elder' (by (with_reducible repeat (first | apply Kd.N_alloc | apply Kd.N_drewN | apply Kd.N_drew)); exact HO115.out) (Kd.R_base ho26) hb); have n2_ := Aside0.mk (Kd.R_lower ho26 (below_size (by repeat (first | (with_reducible first | exact HB.out | apply below_alloc | apply pw_below_drewN | apply below_drew1 | refine below_set ?_ GE101.out) | exact HB.out)))); have n3_ := Aside0.mk (blk_below (g := gb101) (o := .cells #[.slice A0_0 l0_0.length c0_0] 28 (0, 0)) (by (with_reducible repeat (first | refine blk_drewN ?_ _ | refine blk_drew ?_ | refine blk_alloc ?_ _)); exact BK101.out) hb); have n4_ := Aside0.mk (below_step (by repeat (first | (with_reducible first | exact HB.out | apply below_alloc | apply pw_below_drewN | apply below_drew1 | refine below_set ?_ GE101.out) | exact HB.out)) hb); clear HO_7; clear HO115; clear BK101; clear HB; have HO_7 := n0_; have HO115 := n1_; have HO118 := n2_; have BK101 := n3_; have HB := n4_; clear n0_ n1_ n2_ n3_ n4_; clear hb ho26)))
     go_loopg [9, 10] k1 (fun kq v9 v10 w' => ∃ (x9_2 : List (List Int)) (x10_2 : List Int), Aside0 (spec_GreedyRows.l1 kq x7_1 x9_2 x10_2 l0_0 = some (r1, r2)) ∧ Aside0 (kq ≤ k1) ∧ Aside0 (Kd.N (Kd.slice 2 (Kd.int .i64)) 22 w' w.heap.size (fun k_ => some k_ ≠ (v10 : Value).ownBlock ∧ k_ ≠ gb101) u7 x7_1) ∧ Aside0 (Kd.V (Kd.slice 2 (Kd.int .i64)) 22 w' w.heap.size (fun k_ => some k_ ≠ (u7 : Value).ownBlock ∧ some k_ ≠ (v10 : Value).ownBlock ∧ k_ ≠ gb101) v9 x9_2) ∧ Aside0 (Kd.R (Kd.int .i64) 2 w' w.heap.size (fun _ => True) v10 x10_2) ∧ Aside0 (w'.heap[gb101]? = some (.cells #[(.slice A0_0 l0_0.length c0_0)] 28 (0, 0))) ∧ Aside0 (Below w.heap.size w w'))
     case atStart => exact ⟨(t113), (y116), H', ⟨Nat.le_refl _⟩, ⟨by (with_reducible repeat (first | apply Kd.N_alloc | apply Kd.N_drewN | apply Kd.N_drew)); exact Kd.N_mono HO_7.out (fun _ hk => ⟨hk.2, hk.1.1⟩)⟩, ⟨Kd.N_V (by (with_reducible repeat (first | apply Kd.N_alloc | apply Kd.N_drewN | apply Kd.N_drew)); exact Kd.N_mono HO115.out (fun _ hk => ⟨hk.1.1, ⟨hk.2, hk.1.2⟩⟩))⟩, ⟨by (with_reducible repeat (first | apply Kd.R_alloc | apply Kd.R_drewN | apply Kd.R_drew)); exact HO118.out⟩, ⟨by (with_reducible repeat (first | refine blk_drewN ?_ _ | refine blk_drew ?_ | refine blk_alloc ?_ _)); exact BK101.out⟩, ⟨by repeat (first | (with_reducible first | exact HB.out | apply below_alloc | apply pw_below_drewN | apply below_drew1 | refine below_set ?_ GE101.out) | exact HB.out)⟩⟩
     case round =>
      clear H'
      try clear c1
      try clear c2
      try clear p2
      try clear c4
      try clear c4b0
      try clear c4b1
      try clear p6
      try clear c11
      try clear c11b0
      try clear c13
      try clear hcz14_0
      try clear hcz16_0
      try clear hcz21_0
      try clear hcz23_0
      try clear hcz6_0
      try clear hfz14_0
      try clear hfz16_0
      try clear hfz21_0
      try clear hfz23_0
      try clear hfz6_0
      try clear p2
      obtain ⟨x9_2, x10_2, HA, HK2, HO_7, HO_9, HO_10, BK101, HB⟩ := hrel
      cases gk with
      | zero => exact absurd HA.out (by simp [spec_GreedyRows.l1])
      | succ k2 =>
       have H := HA.out
       clear HA
       simp only [spec_GreedyRows.l1] at H
       by_cases c27 : (x9_2.length : Int) > 0
       ·rw [if_pos c27] at H
        have c27b0 : decide (0 < (x9_2.length : Int)) = true := decide_eq_true c27
        have c27b1 : decide (0 < x9_2.length) = true := decide_eq_true (by omega)
        clear c27
        by_cases c28 : (x10_2.length : Int) = 200
        ·rw [if_pos c28] at H
         have c28b0 : ((x10_2.length : Int) == 200) = true := beq_iff_eq.mpr c28
         have c28b1 : ((x10_2.length : Int) != 200) = false := bne_eq_false_iff_eq.mpr c28
         clear c28
         simp only [Option.some.injEq, Prod.mk.injEq] at H
         obtain ⟨rfl, rfl⟩ := H
         obtain ⟨Ao29, co29, eo29⟩ := Kd.V_slice HO_9.out
         subst eo29
         obtain ⟨Ao30, co30, eo30⟩ := Kd.R_slice HO_10.out
         subst eo30
         go_wp2
         repeat (go_quiet (fail); try go_wp2)
         go_ret2
         exact ⟨_, by first | rfl | (simp [errW_none, errW_some] <;> rfl) | (simp [*, errW_none, errW_some] <;> rfl), by first | exact Kd.R_nil _ _ _ _ _ | exact Kd.N_nil _ _ _ _ _ | exact Kd.V_nil _ _ _ _ _ | exact Kd.Q_nil _ _ _ _ _ | exact Kd.S_nil _ _ _ _ _, by repeat (first | (with_reducible first | exact HB.out | apply below_alloc | apply pw_below_drewN | apply below_drew1 | refine below_set ?_ GE101.out) | exact HB.out)⟩
        ·rw [if_neg c28] at H
         have c28b0 : ((x10_2.length : Int) == 200) = false := beq_eq_false_iff_ne.mpr c28
         have c28b1 : ((x10_2.length : Int) != 200) = true := bne_iff_ne.mpr c28
         have H' := Aside0.mk H
         clear H
         obtain ⟨Ao31, co31, eo31⟩ := Kd.V_slice HO_9.out
         subst eo31
         obtain ⟨Ao32, co32, eo32⟩ := Kd.R_slice HO_10.out
         subst eo32
         go_wp2
         repeat (go_quiet (fail); try go_wp2)
         go_loopg [11, 12, 13] k2 (fun kq v11 v12 v13 w' => ∃ (x11_3 : Int) (x12_3 : Int) (x13_3 : Int), v11 = .int .i64 x11_3 ∧ v12 = .int .i64 x12_3 ∧ v13 = .int .i64 x13_3 ∧ Aside0 (spec_GreedyRows.l2 kq x7_1 x9_2 x10_2 x11_3 x12_3 x13_3 l0_0 = some (r1, r2)) ∧ Aside0 (kq ≤ k2) ∧ Aside0 (Kd.N (Kd.slice 2 (Kd.int .i64)) 22 w' w.heap.size (fun k_ => some k_ ≠ ((.slice Ao32 x10_2.length co32) : Value).ownBlock ∧ k_ ≠ gb101) u7 x7_1) ∧ Aside0 (Kd.V (Kd.slice 2 (Kd.int .i64)) 22 w' w.heap.size (fun k_ => some k_ ≠ (u7 : Value).ownBlock ∧ some k_ ≠ ((.slice Ao32 x10_2.length co32) : Value).ownBlock ∧ k_ ≠ gb101) (.slice Ao31 x9_2.length co31) x9_2) ∧ Aside0 (Kd.R (Kd.int .i64) 2 w' w.heap.size (fun _ => True) (.slice Ao32 x10_2.length co32) x10_2) ∧ Aside0 (w'.heap[gb101]? = some (.cells #[(.slice A0_0 l0_0.length c0_0)] 28 (0, 0))) ∧ Aside0 (Below w.heap.size w w'))
         case atStart => exact ⟨(0), (0), (0), (by first | rfl | (simp; done) | (simp [*]; done)), (by first | rfl | (simp; done) | (simp [*]; done)), (by first | rfl | (simp; done) | (simp [*]; done)), H', ⟨Nat.le_refl _⟩, ⟨by (with_reducible repeat (first | apply Kd.N_alloc | apply Kd.N_drewN | apply Kd.N_drew)); exact HO_7.out⟩, ⟨by (with_reducible repeat (first | apply Kd.V_alloc | apply Kd.V_drewN | apply Kd.V_drew)); exact HO_9.out⟩, ⟨by (with_reducible repeat (first | apply Kd.R_alloc | apply Kd.R_drewN | apply Kd.R_drew)); exact HO_10.out⟩, ⟨by (with_reducible repeat (first | refine blk_drewN ?_ _ | refine blk_drew ?_ | refine blk_alloc ?_ _)); exact BK101.out⟩, ⟨by repeat (first | (with_reducible first | exact HB.out | apply below_alloc | apply pw_below_drewN | apply below_drew1 | refine below_set ?_ GE101.out) | exact HB.out)⟩⟩
         case round =>
          clear H'
          try clear c1
          try clear c2
          try clear p2
          try clear c4
          try clear c4b0
          try clear c4b1
          try clear p6
          try clear c11
          try clear c11b0
          try clear c13
          try clear c27
          try clear c27b0
          try clear c27b1
          try clear c28
          try clear c28b0
          try clear c28b1
          try clear hcz14_0
          try clear hcz16_0
          try clear hcz21_0
          try clear hcz23_0
          try clear hcz6_0
          try clear hfz14_0
          try clear hfz16_0
          try clear hfz21_0
          try clear hfz23_0
          try clear hfz6_0
          try clear p2
          try clear p6
          obtain ⟨x11_3, x12_3, x13_3, rfl, rfl, rfl, HA, HK3, HO_7, HO_9, HO_10, BK101, HB⟩ := hrel
          cases gk with
          | zero => exact absurd HA.out (by simp [spec_GreedyRows.l2])
          | succ k3 =>
           have H := HA.out
           clear HA
           simp only [spec_GreedyRows.l2] at H
           by_cases c33 : x13_3 < (x7_1.length : Int)
           ·rw [if_pos c33] at H
            have c33b0 : decide (x13_3 < (x7_1.length : Int)) = true := decide_eq_true c33
            clear c33
            have H' := Aside0.mk H
            clear H
            obtain ⟨Ao34, co34, eo34⟩ := Kd.N_slice HO_7.out
            subst eo34
            go_wp2
            repeat (go_quiet (fail); try go_wp2)
            go_loopg [14, 15] k3 (fun kq v14 v15 w' => ∃ (x14_4 : Int) (x15_4 : Int), v14 = .int .i64 x14_4 ∧ v15 = .int .i64 x15_4 ∧ Aside0 (spec_GreedyRows.l3 kq x7_1 x9_2 x10_2 x11_3 x12_3 x13_3 x14_4 x15_4 l0_0 = some (r1, r2)) ∧ Aside0 (kq ≤ k3) ∧ Aside0 (Kd.N (Kd.slice 2 (Kd.int .i64)) 22 w' w.heap.size (fun k_ => some k_ ≠ ((.slice Ao32 x10_2.length co32) : Value).ownBlock ∧ k_ ≠ gb101) (.slice Ao34 x7_1.length co34) x7_1) ∧ Aside0 (Kd.V (Kd.slice 2 (Kd.int .i64)) 22 w' w.heap.size (fun k_ => some k_ ≠ ((.slice Ao34 x7_1.length co34) : Value).ownBlock ∧ some k_ ≠ ((.slice Ao32 x10_2.length co32) : Value).ownBlock ∧ k_ ≠ gb101) (.slice Ao31 x9_2.length co31) x9_2) ∧ Aside0 (Kd.R (Kd.int .i64) 2 w' w.heap.size (fun _ => True) (.slice Ao32 x10_2.length co32) x10_2) ∧ Aside0 (w'.heap[gb101]? = some (.cells #[(.slice A0_0 l0_0.length c0_0)] 28 (0, 0))) ∧ Aside0 (Below w.heap.size w w'))
            case atStart => exact ⟨(0), (0), (by first | rfl | (simp; done) | (simp [*]; done)), (by first | rfl | (simp; done) | (simp [*]; done)), H', ⟨Nat.le_refl _⟩, ⟨by (with_reducible repeat (first | apply Kd.N_alloc | apply Kd.N_drewN | apply Kd.N_drew)); exact HO_7.out⟩, ⟨by (with_reducible repeat (first | apply Kd.V_alloc | apply Kd.V_drewN | apply Kd.V_drew)); exact HO_9.out⟩, ⟨by (with_reducible repeat (first | apply Kd.R_alloc | apply Kd.R_drewN | apply Kd.R_drew)); exact HO_10.out⟩, ⟨by (with_reducible repeat (first | refine blk_drewN ?_ _ | refine blk_drew ?_ | refine blk_alloc ?_ _)); exact BK101.out⟩, ⟨by repeat (first | (with_reducible first | exact HB.out | apply below_alloc | apply pw_below_drewN | apply below_drew1 | refine below_set ?_ GE101.out) | exact HB.out)⟩⟩
            case round =>
             clear H'
             try clear c1
             try clear c2
             try clear p2
             try clear c3
             try clear c4
             try clear c4b0
             try clear c4b1
             try clear p6
             try clear c11
             try clear c11b0
             try clear c13
             try clear c27
             try clear c27b0
             try clear c27b1
             try clear c28
             try clear c28b0
             try clear c28b1
             try clear c33
             try clear c33b0
             try clear hcz14_0
             try clear hcz16_0
             try clear hcz21_0
             try clear hcz23_0
             try clear hcz6_0
             try clear hfz14_0
             try clear hfz16_0
             try clear hfz21_0
             try clear hfz23_0
             try clear hfz6_0
             try clear p2
             try clear p6
             obtain ⟨x14_4, x15_4, rfl, rfl, HA, HK4, HO_7, HO_9, HO_10, BK101, HB⟩ := hrel
             cases gk with
             | zero => exact absurd HA.out (by simp [spec_GreedyRows.l3])
             | succ k4 =>
              have H := HA.out
              clear HA
              simp only [spec_GreedyRows.l3] at H
              by_cases c35 : x15_4 < (x9_2.length : Int)
              ·rw [if_pos c35] at H
               have c35b0 : decide (x15_4 < (x9_2.length : Int)) = true := decide_eq_true c35
               clear c35
               by_cases c36 : 0 ≤ x13_3
               ·rw [if_pos c36] at H
                have c36b0 : decide (0 ≤ x13_3) = true := decide_eq_true c36
                clear c36
                by_cases c37 : x13_3 < (x7_1.length : Int)
                ·rw [if_pos c37] at H
                 have c37b0 : decide (x13_3 < (x7_1.length : Int)) = true := decide_eq_true c37
                 clear c37
                 by_cases c38 : 0 ≤ x15_4
                 ·rw [if_pos c38] at H
                  have c38b0 : decide (0 ≤ x15_4) = true := decide_eq_true c38
                  clear c38
                  replace H := Option.bind_eq_some_iff.mp H
                  obtain ⟨t130, A390, H⟩ := H
                  replace H : (if t130 = true then (spec_GreedyRows.l3 k4 x7_1 x9_2 x10_2 x11_3 x12_3 x13_3 (wrap64 (x14_4 + 1)) (wrap64 (x15_4 + 1)) l0_0) else (spec_GreedyRows.l3 k4 x7_1 x9_2 x10_2 x11_3 x12_3 x13_3 x14_4 (wrap64 (x15_4 + 1)) l0_0)) = some (r1, r2) := H
                  have A39 := Aside0.mk A390
                  clear A390
                  by_cases c40 : t130 = true
                  ·subst c40
                   have H1 : (spec_GreedyRows.l3 k4 x7_1 x9_2 x10_2 x11_3 x12_3 x13_3 (wrap64 (x14_4 + 1)) (wrap64 (x15_4 + 1)) l0_0) = some (r1, r2) := by rw [if_pos rfl] at H; exact H
                   clear H
                   have H := H1
                   clear H1
                   have H' := Aside0.mk H
                   clear H
                   have p128 : 0 ≤ (x13_3 : Int) := of_decide_eq_true (by first | (with_reducible assumption) | assumption)
                   have q128 : x13_3 < (x7_1.length : Int) := of_decide_eq_true (by first | (with_reducible assumption) | assumption)
                   obtain ⟨ad128, A128_0, c128_0, e128, hx128_0, hl128_0, hi128_0⟩ := at_L1 (Kd.N_reads' HO_7.out).2.2 x13_3 p128 q128
                   cases e128
                   obtain ⟨ce128, hce128, hMe128, hcc128⟩ := Kd.N_get HO_7.out [] x13_3 p128 (by first | exact q128 | exact of_decide_eq_true (by first | (with_reducible assumption) | assumption) | (have e_ := (Kd.N_reads' HO_7.out).1; omega))
                   obtain ⟨ua128_0, uc128_0, rfl, ul128_0, ge128_0⟩ := Kd.FK_slice_open hMe128
                   have hv128_0 := hcc128 0 _ rfl
                   rw [Nat.add_zero, show ((Kd.slice 2 (Kd.int .i64))).sz = 1 from rfl, Nat.mul_one] at hv128_0
                   replace hv128_0 := Option.some.inj (hv128_0.symm.trans hx128_0)
                   injection hv128_0 with hva_ hvn_ hvc_
                   rw [hva_] at ge128_0
                   rw [hvc_] at ul128_0
                   have HL128_0 := Aside0.mk (show Kd.V (Kd.int .i64) 2 _ w.heap.size _ _ (rd_L1 x7_1 x13_3) from Kd.V_mk ul128_0 ge128_0)
                   clear hva_ hvn_ hvc_ ge128_0 ul128_0
                   clear hcc128 hce128
                   have HR128_0 := Aside0.mk hi128_0
                   have HC128_0 := Aside0.mk hl128_0
                   clear hi128_0 hl128_0
                   replace p128 := eq_true p128
                   replace q128 := eq_true q128
                   have p129 : 0 ≤ (x15_4 : Int) := of_decide_eq_true (by first | (with_reducible assumption) | assumption)
                   have q129 : x15_4 < (x9_2.length : Int) := of_decide_eq_true (by first | (with_reducible assumption) | assumption)
                   obtain ⟨ad129, A129_0, c129_0, e129, hx129_0, hl129_0, hi129_0⟩ := at_L1 (Kd.V_reads' HO_9.out).2.2 x15_4 p129 q129
                   cases e129
                   obtain ⟨ce129, hce129, hMe129, hcc129⟩ := Kd.V_get HO_9.out [] x15_4 p129 (by first | exact q129 | exact of_decide_eq_true (by first | (with_reducible assumption) | assumption) | (have e_ := (Kd.V_reads' HO_9.out).1; omega))
                   obtain ⟨ua129_0, uc129_0, rfl, ul129_0, ge129_0⟩ := Kd.FK_slice_open hMe129
                   have hv129_0 := hcc129 0 _ rfl
                   rw [Nat.add_zero, show ((Kd.slice 2 (Kd.int .i64))).sz = 1 from rfl, Nat.mul_one] at hv129_0
                   replace hv129_0 := Option.some.inj (hv129_0.symm.trans hx129_0)
                   injection hv129_0 with hva_ hvn_ hvc_
                   rw [hva_] at ge129_0
                   rw [hvc_] at ul129_0
                   have HL129_0 := Aside0.mk (show Kd.V (Kd.int .i64) 2 _ w.heap.size _ _ (rd_L1 x9_2 x15_4) from Kd.V_mk ul129_0 ge129_0)
                   clear hva_ hvn_ hvc_ ge129_0 ul129_0
                   clear hcc129 hce129
                   have HR129_0 := Aside0.mk hi129_0
                   have HC129_0 := Aside0.mk hl129_0
                   clear hi129_0 hl129_0
                   replace p129 := eq_true p129
                   replace q129 := eq_true q129
                   go_wp2_with (first | (go_at_call 98; (with_reducible refine (spec_l10Has.calls k4 _ _ (rd_L1 x7_1 x13_3) _ _ (rd_L1 x9_2 x15_4) true _ ?side1 ?side2 ?side3 ?side4 A39.out).mono ?_); (case side1 => repeat (first | exact (by repeat (first | (with_reducible exact HR128_0.out) | (with_reducible refine Kd.C_alloc ?_ _) | (with_reducible refine Kd.C_drewN ?_ _) | (with_reducible refine Kd.C_drew ?_) | exact HR128_0.out)) | (with_reducible refine Kd.C_alloc ?_ _) | (with_reducible refine Kd.C_drewN ?_ _) | (with_reducible refine Kd.C_drew ?_))); (case side2 => exact HC128_0.out); (case side3 => repeat (first | exact (by repeat (first | (with_reducible exact HR129_0.out) | (with_reducible refine Kd.C_alloc ?_ _) | (with_reducible refine Kd.C_drewN ?_ _) | (with_reducible refine Kd.C_drew ?_) | exact HR129_0.out)) | (with_reducible refine Kd.C_alloc ?_ _) | (with_reducible refine Kd.C_drewN ?_ _) | (with_reducible refine Kd.C_drew ?_))); (case side4 => exact HC129_0.out); rintro e w' ⟨rfl, ⟨nd, rfl⟩⟩; (try first | exact ⟨rfl, _, World.drewN_drewN _ _ _⟩ | exact ⟨rfl, _, Eq.trans (World.drewN_drewN _ _ _) (congrArg (World.drewN _) (Nat.add_assoc _ _ _))⟩)))
                   repeat (go_quiet (first | (go_at_call 98; (with_reducible refine (spec_l10Has.calls k4 _ _ (rd_L1 x7_1 x13_3) _ _ (rd_L1 x9_2 x15_4) true _ ?side1 ?side2 ?side3 ?side4 A39.out).mono ?_); (case side1 => repeat (first | exact (by repeat (first | (with_reducible exact HR128_0.out) | (with_reducible refine Kd.C_alloc ?_ _) | (with_reducible refine Kd.C_drewN ?_ _) | (with_reducible refine Kd.C_drew ?_) | exact HR128_0.out)) | (with_reducible refine Kd.C_alloc ?_ _) | (with_reducible refine Kd.C_drewN ?_ _) | (with_reducible refine Kd.C_drew ?_))); (case side2 => exact HC128_0.out); (case side3 => repeat (first | exact (by repeat (first | (with_reducible exact HR129_0.out) | (with_reducible refine Kd.C_alloc ?_ _) | (with_reducible refine Kd.C_drewN ?_ _) | (with_reducible refine Kd.C_drew ?_) | exact HR129_0.out)) | (with_reducible refine Kd.C_alloc ?_ _) | (with_reducible refine Kd.C_drewN ?_ _) | (with_reducible refine Kd.C_drew ?_))); (case side4 => exact HC129_0.out); rintro e w' ⟨rfl, ⟨nd, rfl⟩⟩; (try first | exact ⟨rfl, _, World.drewN_drewN _ _ _⟩ | exact ⟨rfl, _, Eq.trans (World.drewN_drewN _ _ _) (congrArg (World.drewN _) (Nat.add_assoc _ _ _))⟩))); try go_wp2_with (first | (go_at_call 98; (with_reducible refine (spec_l10Has.calls k4 _ _ (rd_L1 x7_1 x13_3) _ _ (rd_L1 x9_2 x15_4) true _ ?side1 ?side2 ?side3 ?side4 A39.out).mono ?_); (case side1 => repeat (first | exact (by repeat (first | (with_reducible exact HR128_0.out) | (with_reducible refine Kd.C_alloc ?_ _) | (with_reducible refine Kd.C_drewN ?_ _) | (with_reducible refine Kd.C_drew ?_) | exact HR128_0.out)) | (with_reducible refine Kd.C_alloc ?_ _) | (with_reducible refine Kd.C_drewN ?_ _) | (with_reducible refine Kd.C_drew ?_))); (case side2 => exact HC128_0.out); (case side3 => repeat (first | exact (by repeat (first | (with_reducible exact HR129_0.out) | (with_reducible refine Kd.C_alloc ?_ _) | (with_reducible refine Kd.C_drewN ?_ _) | (with_reducible refine Kd.C_drew ?_) | exact HR129_0.out)) | (with_reducible refine Kd.C_alloc ?_ _) | (with_reducible refine Kd.C_drewN ?_ _) | (with_reducible refine Kd.C_drew ?_))); (case side4 => exact HC129_0.out); rintro e w' ⟨rfl, ⟨nd, rfl⟩⟩; (try first | exact ⟨rfl, _, World.drewN_drewN _ _ _⟩ | exact ⟨rfl, _, Eq.trans (World.drewN_drewN _ _ _) (congrArg (World.drewN _) (Nat.add_assoc _ _ _))⟩))))
                   go_roundg k4
                   case measure => have := HK1.out; have := HK2.out; have := HK3.out; have := HK4.out; omega
                   case rel => exact ⟨(wrap64 (x14_4 + 1)), (wrap64 (x15_4 + 1)), (by first | rfl | (simp; done) | (simp [*]; done)), (by first | rfl | (simp; done) | (simp [*]; done)), H', ⟨by have := HK1.out; have := HK2.out; have := HK3.out; have := HK4.out; omega⟩, ⟨by (with_reducible repeat (first | apply Kd.N_alloc | apply Kd.N_drewN | apply Kd.N_drew)); exact HO_7.out⟩, ⟨by (with_reducible repeat (first | apply Kd.V_alloc | apply Kd.V_drewN | apply Kd.V_drew)); exact HO_9.out⟩, ⟨by (with_reducible repeat (first | apply Kd.R_alloc | apply Kd.R_drewN | apply Kd.R_drew)); exact HO_10.out⟩, ⟨by (with_reducible repeat (first | refine blk_drewN ?_ _ | refine blk_drew ?_ | refine blk_alloc ?_ _)); exact BK101.out⟩, ⟨by repeat (first | (with_reducible first | exact HB.out | apply below_alloc | apply pw_below_drewN | apply below_drew1 | refine below_set ?_ GE101.out) | exact HB.out)⟩⟩
                  ·replace c40 := Bool.eq_false_iff.mpr c40
                   subst c40
                   have H1 : (spec_GreedyRows.l3 k4 x7_1 x9_2 x10_2 x11_3 x12_3 x13_3 x14_4 (wrap64 (x15_4 + 1)) l0_0) = some (r1, r2) := by rw [if_neg (show ¬ (false = true) by decide)] at H; exact H
                   clear H
                   have H := H1
                   clear H1
                   have H' := Aside0.mk H
                   clear H
                   have p128 : 0 ≤ (x13_3 : Int) := of_decide_eq_true (by first | (with_reducible assumption) | assumption)
                   have q128 : x13_3 < (x7_1.length : Int) := of_decide_eq_true (by first | (with_reducible assumption) | assumption)
                   obtain ⟨ad128, A128_0, c128_0, e128, hx128_0, hl128_0, hi128_0⟩ := at_L1 (Kd.N_reads' HO_7.out).2.2 x13_3 p128 q128
                   cases e128
                   obtain ⟨ce128, hce128, hMe128, hcc128⟩ := Kd.N_get HO_7.out [] x13_3 p128 (by first | exact q128 | exact of_decide_eq_true (by first | (with_reducible assumption) | assumption) | (have e_ := (Kd.N_reads' HO_7.out).1; omega))
                   obtain ⟨ua128_0, uc128_0, rfl, ul128_0, ge128_0⟩ := Kd.FK_slice_open hMe128
                   have hv128_0 := hcc128 0 _ rfl
                   rw [Nat.add_zero, show ((Kd.slice 2 (Kd.int .i64))).sz = 1 from rfl, Nat.mul_one] at hv128_0
                   replace hv128_0 := Option.some.inj (hv128_0.symm.trans hx128_0)
                   injection hv128_0 with hva_ hvn_ hvc_
                   rw [hva_] at ge128_0
                   rw [hvc_] at ul128_0
                   have HL128_0 := Aside0.mk (show Kd.V (Kd.int .i64) 2 _ w.heap.size _ _ (rd_L1 x7_1 x13_3) from Kd.V_mk ul128_0 ge128_0)
                   clear hva_ hvn_ hvc_ ge128_0 ul128_0
                   clear hcc128 hce128
                   have HR128_0 := Aside0.mk hi128_0
                   have HC128_0 := Aside0.mk hl128_0
                   clear hi128_0 hl128_0
                   replace p128 := eq_true p128
                   replace q128 := eq_true q128
                   have p129 : 0 ≤ (x15_4 : Int) := of_decide_eq_true (by first | (with_reducible assumption) | assumption)
                   have q129 : x15_4 < (x9_2.length : Int) := of_decide_eq_true (by first | (with_reducible assumption) | assumption)
                   obtain ⟨ad129, A129_0, c129_0, e129, hx129_0, hl129_0, hi129_0⟩ := at_L1 (Kd.V_reads' HO_9.out).2.2 x15_4 p129 q129
                   cases e129
                   obtain ⟨ce129, hce129, hMe129, hcc129⟩ := Kd.V_get HO_9.out [] x15_4 p129 (by first | exact q129 | exact of_decide_eq_true (by first | (with_reducible assumption) | assumption) | (have e_ := (Kd.V_reads' HO_9.out).1; omega))
                   obtain ⟨ua129_0, uc129_0, rfl, ul129_0, ge129_0⟩ := Kd.FK_slice_open hMe129
                   have hv129_0 := hcc129 0 _ rfl
                   rw [Nat.add_zero, show ((Kd.slice 2 (Kd.int .i64))).sz = 1 from rfl, Nat.mul_one] at hv129_0
                   replace hv129_0 := Option.some.inj (hv129_0.symm.trans hx129_0)
                   injection hv129_0 with hva_ hvn_ hvc_
                   rw [hva_] at ge129_0
                   rw [hvc_] at ul129_0
                   have HL129_0 := Aside0.mk (show Kd.V (Kd.int .i64) 2 _ w.heap.size _ _ (rd_L1 x9_2 x15_4) from Kd.V_mk ul129_0 ge129_0)
                   clear hva_ hvn_ hvc_ ge129_0 ul129_0
                   clear hcc129 hce129
                   have HR129_0 := Aside0.mk hi129_0
                   have HC129_0 := Aside0.mk hl129_0
                   clear hi129_0 hl129_0
                   replace p129 := eq_true p129
                   replace q129 := eq_true q129
                   go_wp2_with (first | (go_at_call 98; (with_reducible refine (spec_l10Has.calls k4 _ _ (rd_L1 x7_1 x13_3) _ _ (rd_L1 x9_2 x15_4) false _ ?side1 ?side2 ?side3 ?side4 A39.out).mono ?_); (case side1 => repeat (first | exact (by repeat (first | (with_reducible exact HR128_0.out) | (with_reducible refine Kd.C_alloc ?_ _) | (with_reducible refine Kd.C_drewN ?_ _) | (with_reducible refine Kd.C_drew ?_) | exact HR128_0.out)) | (with_reducible refine Kd.C_alloc ?_ _) | (with_reducible refine Kd.C_drewN ?_ _) | (with_reducible refine Kd.C_drew ?_))); (case side2 => exact HC128_0.out); (case side3 => repeat (first | exact (by repeat (first | (with_reducible exact HR129_0.out) | (with_reducible refine Kd.C_alloc ?_ _) | (with_reducible refine Kd.C_drewN ?_ _) | (with_reducible refine Kd.C_drew ?_) | exact HR129_0.out)) | (with_reducible refine Kd.C_alloc ?_ _) | (with_reducible refine Kd.C_drewN ?_ _) | (with_reducible refine Kd.C_drew ?_))); (case side4 => exact HC129_0.out); rintro e w' ⟨rfl, ⟨nd, rfl⟩⟩; (try first | exact ⟨rfl, _, World.drewN_drewN _ _ _⟩ | exact ⟨rfl, _, Eq.trans (World.drewN_drewN _ _ _) (congrArg (World.drewN _) (Nat.add_assoc _ _ _))⟩)))
                   repeat (go_quiet (first | (go_at_call 98; (with_reducible refine (spec_l10Has.calls k4 _ _ (rd_L1 x7_1 x13_3) _ _ (rd_L1 x9_2 x15_4) false _ ?side1 ?side2 ?side3 ?side4 A39.out).mono ?_); (case side1 => repeat (first | exact (by repeat (first | (with_reducible exact HR128_0.out) | (with_reducible refine Kd.C_alloc ?_ _) | (with_reducible refine Kd.C_drewN ?_ _) | (with_reducible refine Kd.C_drew ?_) | exact HR128_0.out)) | (with_reducible refine Kd.C_alloc ?_ _) | (with_reducible refine Kd.C_drewN ?_ _) | (with_reducible refine Kd.C_drew ?_))); (case side2 => exact HC128_0.out); (case side3 => repeat (first | exact (by repeat (first | (with_reducible exact HR129_0.out) | (with_reducible refine Kd.C_alloc ?_ _) | (with_reducible refine Kd.C_drewN ?_ _) | (with_reducible refine Kd.C_drew ?_) | exact HR129_0.out)) | (with_reducible refine Kd.C_alloc ?_ _) | (with_reducible refine Kd.C_drewN ?_ _) | (with_reducible refine Kd.C_drew ?_))); (case side4 => exact HC129_0.out); rintro e w' ⟨rfl, ⟨nd, rfl⟩⟩; (try first | exact ⟨rfl, _, World.drewN_drewN _ _ _⟩ | exact ⟨rfl, _, Eq.trans (World.drewN_drewN _ _ _) (congrArg (World.drewN _) (Nat.add_assoc _ _ _))⟩))); try go_wp2_with (first | (go_at_call 98; (with_reducible refine (spec_l10Has.calls k4 _ _ (rd_L1 x7_1 x13_3) _ _ (rd_L1 x9_2 x15_4) false _ ?side1 ?side2 ?side3 ?side4 A39.out).mono ?_); (case side1 => repeat (first | exact (by repeat (first | (with_reducible exact HR128_0.out) | (with_reducible refine Kd.C_alloc ?_ _) | (with_reducible refine Kd.C_drewN ?_ _) | (with_reducible refine Kd.C_drew ?_) | exact HR128_0.out)) | (with_reducible refine Kd.C_alloc ?_ _) | (with_reducible refine Kd.C_drewN ?_ _) | (with_reducible refine Kd.C_drew ?_))); (case side2 => exact HC128_0.out); (case side3 => repeat (first | exact (by repeat (first | (with_reducible exact HR129_0.out) | (with_reducible refine Kd.C_alloc ?_ _) | (with_reducible refine Kd.C_drewN ?_ _) | (with_reducible refine Kd.C_drew ?_) | exact HR129_0.out)) | (with_reducible refine Kd.C_alloc ?_ _) | (with_reducible refine Kd.C_drewN ?_ _) | (with_reducible refine Kd.C_drew ?_))); (case side4 => exact HC129_0.out); rintro e w' ⟨rfl, ⟨nd, rfl⟩⟩; (try first | exact ⟨rfl, _, World.drewN_drewN _ _ _⟩ | exact ⟨rfl, _, Eq.trans (World.drewN_drewN _ _ _) (congrArg (World.drewN _) (Nat.add_assoc _ _ _))⟩))))
                   go_roundg k4
                   case measure => have := HK1.out; have := HK2.out; have := HK3.out; have := HK4.out; omega
                   case rel => exact ⟨(x14_4), (wrap64 (x15_4 + 1)), (by first | rfl | (simp; done) | (simp [*]; done)), (by first | rfl | (simp; done) | (simp [*]; done)), H', ⟨by have := HK1.out; have := HK2.out; have := HK3.out; have := HK4.out; omega⟩, ⟨by (with_reducible repeat (first | apply Kd.N_alloc | apply Kd.N_drewN | apply Kd.N_drew)); exact HO_7.out⟩, ⟨by (with_reducible repeat (first | apply Kd.V_alloc | apply Kd.V_drewN | apply Kd.V_drew)); exact HO_9.out⟩, ⟨by (with_reducible repeat (first | apply Kd.R_alloc | apply Kd.R_drewN | apply Kd.R_drew)); exact HO_10.out⟩, ⟨by (with_reducible repeat (first | refine blk_drewN ?_ _ | refine blk_drew ?_ | refine blk_alloc ?_ _)); exact BK101.out⟩, ⟨by repeat (first | (with_reducible first | exact HB.out | apply below_alloc | apply pw_below_drewN | apply below_drew1 | refine below_set ?_ GE101.out) | exact HB.out)⟩⟩
                 ·rw [if_neg c38] at H
                  exact absurd H (by simp)
                ·rw [if_neg c37] at H
                 exact absurd H (by simp)
               ·rw [if_neg c36] at H
                exact absurd H (by simp)
              ·rw [if_neg c35] at H
               have c35b0 : decide (x15_4 < (x9_2.length : Int)) = false := decide_eq_false c35
               clear c35
               by_cases c41 : x14_4 > x12_3
               ·rw [if_pos c41] at H
                have c41b0 : decide (x12_3 < x14_4) = true := decide_eq_true c41
                clear c41
                have H' := Aside0.mk H
                clear H
                go_wp2
                repeat (go_quiet (fail); try go_wp2)
                go_roundg k4
                case measure => have := HK1.out; have := HK2.out; have := HK3.out; have := HK4.out; omega
                case rel => exact ⟨(x13_3), (x14_4), (wrap64 (x13_3 + 1)), (by first | rfl | (simp; done) | (simp [*]; done)), (by first | rfl | (simp; done) | (simp [*]; done)), (by first | rfl | (simp; done) | (simp [*]; done)), H', ⟨by have := HK1.out; have := HK2.out; have := HK3.out; have := HK4.out; omega⟩, ⟨by (with_reducible repeat (first | apply Kd.N_alloc | apply Kd.N_drewN | apply Kd.N_drew)); exact HO_7.out⟩, ⟨by (with_reducible repeat (first | apply Kd.V_alloc | apply Kd.V_drewN | apply Kd.V_drew)); exact HO_9.out⟩, ⟨by (with_reducible repeat (first | apply Kd.R_alloc | apply Kd.R_drewN | apply Kd.R_drew)); exact HO_10.out⟩, ⟨by (with_reducible repeat (first | refine blk_drewN ?_ _ | refine blk_drew ?_ | refine blk_alloc ?_ _)); exact BK101.out⟩, ⟨by repeat (first | (with_reducible first | exact HB.out | apply below_alloc | apply pw_below_drewN | apply below_drew1 | refine below_set ?_ GE101.out) | exact HB.out)⟩⟩
               ·rw [if_neg c41] at H
                have c41b0 : decide (x12_3 < x14_4) = false := decide_eq_false c41
                clear c41
                have H' := Aside0.mk H
                clear H
                go_wp2
                repeat (go_quiet (fail); try go_wp2)
                go_roundg k4
                case measure => have := HK1.out; have := HK2.out; have := HK3.out; have := HK4.out; omega
                case rel => exact ⟨(x11_3), (x12_3), (wrap64 (x13_3 + 1)), (by first | rfl | (simp; done) | (simp [*]; done)), (by first | rfl | (simp; done) | (simp [*]; done)), (by first | rfl | (simp; done) | (simp [*]; done)), H', ⟨by have := HK1.out; have := HK2.out; have := HK3.out; have := HK4.out; omega⟩, ⟨by (with_reducible repeat (first | apply Kd.N_alloc | apply Kd.N_drewN | apply Kd.N_drew)); exact HO_7.out⟩, ⟨by (with_reducible repeat (first | apply Kd.V_alloc | apply Kd.V_drewN | apply Kd.V_drew)); exact HO_9.out⟩, ⟨by (with_reducible repeat (first | apply Kd.R_alloc | apply Kd.R_drewN | apply Kd.R_drew)); exact HO_10.out⟩, ⟨by (with_reducible repeat (first | refine blk_drewN ?_ _ | refine blk_drew ?_ | refine blk_alloc ?_ _)); exact BK101.out⟩, ⟨by repeat (first | (with_reducible first | exact HB.out | apply below_alloc | apply pw_below_drewN | apply below_drew1 | refine below_set ?_ GE101.out) | exact HB.out)⟩⟩
           ·rw [if_neg c33] at H
            have c33b0 : decide (x13_3 < (x7_1.length : Int)) = false := decide_eq_false c33
            clear c33
            by_cases c42 : x10_2.length < 17592186044416
            ·rw [if_pos c42] at H
             have LMc42 := Aside0.mk c42
             clear c42
             obtain ⟨y119, hy119⟩ : ∃ y_ : List Int, y_ = (x10_2 ++ [x11_3]) := ⟨_, rfl⟩
             replace H : ((spec_l10Missing.f k3 l0_0 x9_2 (([x11_3] : List Int))).bind fun t125 => (spec_GreedyRows.l1 k3 x7_1 t125 y119 l0_0)) = some (r1, r2) := by first | (rw [hy119]; with_reducible exact H) | (have H2_ := (Option.bind_some _ _).symm.trans H; rw [hy119]; with_reducible exact H2_) | (have H2_ := (Option.bind_some _ _).symm.trans H; with_reducible exact H2_) | with_reducible exact H | (rw [hy119]; exact H) | exact H
             have Ny119 := Aside0.mk hy119
             clear hy119
             obtain ⟨y122, hy122⟩ : ∃ y_ : List Int, y_ = (([x11_3] : List Int)) := ⟨_, rfl⟩
             replace H : ((spec_l10Missing.f k3 l0_0 x9_2 y122).bind fun t125 => (spec_GreedyRows.l1 k3 x7_1 t125 y119 l0_0)) = some (r1, r2) := by first | (rw [hy122]; with_reducible exact H) | (have H2_ := (Option.bind_some _ _).symm.trans H; rw [hy122]; with_reducible exact H2_) | (have H2_ := (Option.bind_some _ _).symm.trans H; with_reducible exact H2_) | with_reducible exact H | (rw [hy122]; exact H) | exact H
             have Ny122 := Aside0.mk hy122
             clear hy122
             replace H := Option.bind_eq_some_iff.mp H
             obtain ⟨t125, A430, H⟩ := H
             replace H : (spec_GreedyRows.l1 k3 x7_1 t125 y119 l0_0) = some (r1, r2) := H
             have A43 := Aside0.mk A430
             clear A430
             have H' := Aside0.mk H
             clear H
             obtain ⟨Ao44, co44, eo44⟩ := Kd.N_slice HO_7.out
             subst eo44
             go_wp2_with (first | ((with_reducible refine gate_builtin (b := .append) (xs := #[.tmp 73, .tmp 75]) rfl ?_); at_builtin; refine Kd.R_append (Kd.int .i64) (w0 := w) w.heap.size rfl (.tmp 73) (.tmp 75) 22 2 (.int .i64 0) 8 rfl Try.underlying22 info2 rfl (by decide) (by omega) (.slice Ao32 x10_2.length co32) x10_2 x11_3 [.int .i64 x11_3] (fun _ => True) (fun _ => False) rfl rfl ?aP (fun _ hk => hk.elim) ?aF ?aO ?aB ?aS ?aL ?_; (case aP => exact rfl); (case aB => exact (by repeat (first | (with_reducible first | exact HB.out | apply below_alloc | apply pw_below_drewN | apply below_drew1 | refine below_set ?_ GE101.out) | exact HB.out))); (case aF => exact (fun _ _ => trivial)); (case aO => exact (by (with_reducible repeat (first | apply Kd.R_alloc | apply Kd.R_drewN | apply Kd.R_drew)); exact HO_10.out)); (case aS => exact (below_size (by repeat (first | (with_reducible first | exact HB.out | apply below_alloc | apply pw_below_drewN | apply below_drew1 | refine below_set ?_ GE101.out) | exact HB.out)))); (case aL => have := LMc42.out; omega); intro v120 w45 ho hb hg hat; rw [← Ny119.out] at ho; have n0_ := Aside0.mk (Kd.N_afterv (ok := (fun k_ => k_ ≠ gb101)) (by (with_reducible repeat (first | apply Kd.N_alloc | apply Kd.N_drewN | apply Kd.N_drew)); exact Kd.N_mono HO_7.out (fun _ hk => ⟨hk.2, hk.1⟩)) hg hat); have n1_ := Aside0.mk (Kd.V_afterv (ok := (fun k_ => some k_ ≠ (.slice Ao44 x7_1.length co44 : Value).ownBlock ∧ k_ ≠ gb101)) (by (with_reducible repeat (first | apply Kd.V_alloc | apply Kd.V_drewN | apply Kd.V_drew)); exact Kd.V_mono HO_9.out (fun _ hk => ⟨⟨hk.1, hk.2.2⟩, hk.2.1⟩)) hg hat); have n2_ := Aside0.mk (blk_grown (g := gb101) (o := .cells #[.slice A0_0 l0_0.length c0_0] 28 (0, 0)) (by (with_reducible repeat (first | refine blk_drewN ?_ _ | refine blk_drew ?_ | refine blk_alloc ?_ _)); exact BK101.out) hg (Kd.R_ne HO_10.out BK101.out (by decide))); have n3_ := Aside0.mk (hb); have n4_ := Aside0.mk (ho); clear HO_7; clear HO_9; clear BK101; clear HB; clear HO_10; have HO_7 := n0_; have HO_9 := n1_; have BK101 := n2_; have HB := n3_; have HO121 := n4_; clear n0_ n1_ n2_ n3_ n4_; clear ho hb hg hat; have hcz46_0 : w45.cell? ⟨gb101, 0, none⟩ = some (.slice A0_0 l0_0.length c0_0) := (blk_cell BK101.out 0).trans rfl; have hfz46_0 := blk_frozen BK101.out 0) | ((with_reducible refine gate_dst (N := 80) rfl ?_); refine Kd.R_lit (Kd.int .i64) _ 2 ?hg (N := 80) ?hd (xs := ([x11_3] : List Int)) (inner := [.int .i64 x11_3]) (ok := fun _ => True) (okp := fun _ => True) ?hr ?hp (fun _ hk => hk) trivial (Below.refl _ _) (Nat.le_refl _) (by simp) ?_; (case hd => rfl); (case hg => rfl); (case hr => first | (go_simp; done) | (go_simp; rfl)); (case hp => exact (Reps.one (show Kd.M (Kd.int .i64) _ _ _ x11_3 [.int .i64 x11_3] from rfl) (Reps.none _ _))); intro v123 w47 ho48 hb hg_ hnew_; clear hg_ hnew_; (first | rw [← Ny122.out] at ho48 | (simp only [Int.reduceToNat] at ho48; rw [← Ny122.out] at ho48)); have n0_ := Aside0.mk (Kd.N_elder' (by (with_reducible repeat (first | apply Kd.N_alloc | apply Kd.N_drewN | apply Kd.N_drew)); exact HO_7.out) (Kd.R_base ho48) hb); have n1_ := Aside0.mk (Kd.V_elder' (by (with_reducible repeat (first | apply Kd.V_alloc | apply Kd.V_drewN | apply Kd.V_drew)); exact HO_9.out) (Kd.R_base ho48) hb); have n2_ := Aside0.mk (Kd.R_elder' (by (with_reducible repeat (first | apply Kd.R_alloc | apply Kd.R_drewN | apply Kd.R_drew)); exact HO121.out) (Kd.R_base ho48) hb); have n3_ := Aside0.mk (Kd.R_lower (Kd.R_new' ho48 (Kd.R_lt (by (with_reducible repeat (first | apply Kd.R_alloc | apply Kd.R_drewN | apply Kd.R_drew)); exact HO121.out))) (below_size (by repeat (first | (with_reducible first | exact HB.out | apply below_alloc | apply pw_below_drewN | apply below_drew1 | refine below_set ?_ GE101.out) | exact HB.out)))); have n4_ := Aside0.mk (blk_below (g := gb101) (o := .cells #[.slice A0_0 l0_0.length c0_0] 28 (0, 0)) (by (with_reducible repeat (first | refine blk_drewN ?_ _ | refine blk_drew ?_ | refine blk_alloc ?_ _)); exact BK101.out) hb); have n5_ := Aside0.mk (below_step (by repeat (first | (with_reducible first | exact HB.out | apply below_alloc | apply pw_below_drewN | apply below_drew1 | refine below_set ?_ GE101.out) | exact HB.out)) hb); clear HO_7; clear HO_9; clear HO121; clear BK101; clear HB; have HO_7 := n0_; have HO_9 := n1_; have HO121 := n2_; have HO124 := n3_; have BK101 := n4_; have HB := n5_; clear n0_ n1_ n2_ n3_ n4_ n5_; clear hb ho48; obtain ⟨Ao49, co49, eo49⟩ := Kd.R_slice HO124.out; subst eo49) | (go_at_call 87; (with_reducible refine (spec_l10Missing.calls k3 _ _ l0_0 (fun k_ => (((some k_ ≠ (.slice Ao44 x7_1.length co44 : Value).ownBlock ∧ k_ ≠ gb101) ∧ some k_ ≠ (v120 : Value).ownBlock) ∧ some k_ ≠ (.slice Ao49 y122.length co49 : Value).ownBlock)) _ _ x9_2 _ _ y122 t125 _ ?side1 ?side2 ?side3 ?side4 ?side5 A43.out).mono ?_); (case side1 => repeat (first | exact (Kd.C_below HR0_0.out HB.out) | (with_reducible refine Kd.C_alloc ?_ _) | (with_reducible refine Kd.C_drewN ?_ _) | (with_reducible refine Kd.C_drew ?_))); (case side2 => exact HC0_0.out); (case side3 => exact HO_9.out); (case side4 => repeat (first | exact (Kd.R_reads' HO124.out).2.2 | (with_reducible refine Kd.C_alloc ?_ _) | (with_reducible refine Kd.C_drewN ?_ _) | (with_reducible refine Kd.C_drew ?_))); (case side5 => exact (Kd.R_reads' HO124.out).2.1); rintro e w50 ⟨v126, rfl, ho0, hb⟩; have n0_ := Aside0.mk (Kd.N_below (by (with_reducible repeat (first | apply Kd.N_alloc | apply Kd.N_drewN | apply Kd.N_drew)); exact HO_7.out) hb); have n1_ := Aside0.mk (Kd.V_below (by (with_reducible repeat (first | apply Kd.V_alloc | apply Kd.V_drewN | apply Kd.V_drew)); exact HO_9.out) hb); have n2_ := Aside0.mk (Kd.R_below (by (with_reducible repeat (first | apply Kd.R_alloc | apply Kd.R_drewN | apply Kd.R_drew)); exact HO121.out) hb); have n3_ := Aside0.mk (Kd.R_below (by (with_reducible repeat (first | apply Kd.R_alloc | apply Kd.R_drewN | apply Kd.R_drew)); exact HO124.out) hb); have n4_ := Aside0.mk (Kd.V_lower (Kd.V_mono (ok' := fun k_ => some k_ ≠ (.slice Ao44 x7_1.length co44 : Value).ownBlock ∧ some k_ ≠ (v120 : Value).ownBlock ∧ some k_ ≠ (.slice Ao49 y122.length co49 : Value).ownBlock ∧ k_ ≠ gb101) ho0 (fun k_ hk_ => ⟨Or.elim hk_ (fun hs_ => hs_.1.1.1) (fun hn_ => (Kd.fresh' (Kd.N_lt (by (with_reducible repeat (first | apply Kd.N_alloc | apply Kd.N_drewN | apply Kd.N_drew)); exact HO_7.out)) k_ hn_)), Or.elim hk_ (fun hs_ => hs_.1.2) (fun hn_ => (Kd.fresh' (Kd.R_lt (by (with_reducible repeat (first | apply Kd.R_alloc | apply Kd.R_drewN | apply Kd.R_drew)); exact HO121.out)) k_ hn_)), Or.elim hk_ (fun hs_ => hs_.2) (fun hn_ => (Kd.fresh' (Kd.R_lt (by (with_reducible repeat (first | apply Kd.R_alloc | apply Kd.R_drewN | apply Kd.R_drew)); exact HO124.out)) k_ hn_)), Or.elim hk_ (fun hs_ => hs_.1.1.2) (fun hn_ => (Kd.freshB (g := gb101) (o := .cells #[.slice A0_0 l0_0.length c0_0] 28 (0, 0)) (by (with_reducible repeat (first | refine blk_drewN ?_ _ | refine blk_drew ?_ | refine blk_alloc ?_ _)); exact BK101.out) k_ hn_))⟩)) (below_size (by repeat (first | (with_reducible first | exact HB.out | apply below_alloc | apply pw_below_drewN | apply below_drew1 | refine below_set ?_ GE101.out) | exact HB.out)))); have n5_ := Aside0.mk (blk_below (g := gb101) (o := .cells #[.slice A0_0 l0_0.length c0_0] 28 (0, 0)) (by (with_reducible repeat (first | refine blk_drewN ?_ _ | refine blk_drew ?_ | refine blk_alloc ?_ _)); exact BK101.out) hb); have n6_ := Aside0.mk (below_step (by repeat (first | (with_reducible first | exact HB.out | apply below_alloc | apply pw_below_drewN | apply below_drew1 | refine below_set ?_ GE101.out) | exact HB.out)) hb); clear HO_7; clear HO_9; clear HO121; clear HO124; clear BK101; clear HB; have HO_7 := n0_; have HO_9 := n1_; have HO121 := n2_; have HO124 := n3_; have HO127 := n4_; have BK101 := n5_; have HB := n6_; clear n0_ n1_ n2_ n3_ n4_ n5_ n6_; (try clear hb); (try clear hb2); (try clear hk); (try clear hi); (try clear ho0)))
             repeat (go_quiet (first | ((with_reducible refine gate_builtin (b := .append) (xs := #[.tmp 73, .tmp 75]) rfl ?_); at_builtin; refine Kd.R_append (Kd.int .i64) (w0 := w) w.heap.size rfl (.tmp 73) (.tmp 75) 22 2 (.int .i64 0) 8 rfl Try.underlying22 info2 rfl (by decide) (by omega) (.slice Ao32 x10_2.length co32) x10_2 x11_3 [.int .i64 x11_3] (fun _ => True) (fun _ => False) rfl rfl ?aP (fun _ hk => hk.elim) ?aF ?aO ?aB ?aS ?aL ?_; (case aP => exact rfl); (case aB => exact (by repeat (first | (with_reducible first | exact HB.out | apply below_alloc | apply pw_below_drewN | apply below_drew1 | refine below_set ?_ GE101.out) | exact HB.out))); (case aF => exact (fun _ _ => trivial)); (case aO => exact (by (with_reducible repeat (first | apply Kd.R_alloc | apply Kd.R_drewN | apply Kd.R_drew)); exact HO_10.out)); (case aS => exact (below_size (by repeat (first | (with_reducible first | exact HB.out | apply below_alloc | apply pw_below_drewN | apply below_drew1 | refine below_set ?_ GE101.out) | exact HB.out)))); (case aL => have := LMc42.out; omega); intro v120 w45 ho hb hg hat; rw [← Ny119.out] at ho; have n0_ := Aside0.mk (Kd.N_afterv (ok := (fun k_ => k_ ≠ gb101)) (by (with_reducible repeat (first | apply Kd.N_alloc | apply Kd.N_drewN | apply Kd.N_drew)); exact Kd.N_mono HO_7.out (fun _ hk => ⟨hk.2, hk.1⟩)) hg hat); have n1_ := Aside0.mk (Kd.V_afterv (ok := (fun k_ => some k_ ≠ (.slice Ao44 x7_1.length co44 : Value).ownBlock ∧ k_ ≠ gb101)) (by (with_reducible repeat (first | apply Kd.V_alloc | apply Kd.V_drewN | apply Kd.V_drew)); exact Kd.V_mono HO_9.out (fun _ hk => ⟨⟨hk.1, hk.2.2⟩, hk.2.1⟩)) hg hat); have n2_ := Aside0.mk (blk_grown (g := gb101) (o := .cells #[.slice A0_0 l0_0.length c0_0] 28 (0, 0)) (by (with_reducible repeat (first | refine blk_drewN ?_ _ | refine blk_drew ?_ | refine blk_alloc ?_ _)); exact BK101.out) hg (Kd.R_ne HO_10.out BK101.out (by decide))); have n3_ := Aside0.mk (hb); have n4_ := Aside0.mk (ho); clear HO_7; clear HO_9; clear BK101; clear HB; clear HO_10; have HO_7 := n0_; have HO_9 := n1_; have BK101 := n2_; have HB := n3_; have HO121 := n4_; clear n0_ n1_ n2_ n3_ n4_; clear ho hb hg hat; have hcz46_0 : w45.cell? ⟨gb101, 0, none⟩ = some (.slice A0_0 l0_0.length c0_0) := (blk_cell BK101.out 0).trans rfl; have hfz46_0 := blk_frozen BK101.out 0) | ((with_reducible refine gate_dst (N := 80) rfl ?_); refine Kd.R_lit (Kd.int .i64) _ 2 ?hg (N := 80) ?hd (xs := ([x11_3] : List Int)) (inner := [.int .i64 x11_3]) (ok := fun _ => True) (okp := fun _ => True) ?hr ?hp (fun _ hk => hk) trivial (Below.refl _ _) (Nat.le_refl _) (by simp) ?_; (case hd => rfl); (case hg => rfl); (case hr => first | (go_simp; done) | (go_simp; rfl)); (case hp => exact (Reps.one (show Kd.M (Kd.int .i64) _ _ _ x11_3 [.int .i64 x11_3] from rfl) (Reps.none _ _))); intro v123 w47 ho48 hb hg_ hnew_; clear hg_ hnew_; (first | rw [← Ny122.out] at ho48 | (simp only [Int.reduceToNat] at ho48; rw [← Ny122.out] at ho48)); have n0_ := Aside0.mk (Kd.N_elder' (by (with_reducible repeat (first | apply Kd.N_alloc | apply Kd.N_drewN | apply Kd.N_drew)); exact HO_7.out) (Kd.R_base ho48) hb); have n1_ := Aside0.mk (Kd.V_elder' (by (with_reducible repeat (first | apply Kd.V_alloc | apply Kd.V_drewN | apply Kd.V_drew)); exact HO_9.out) (Kd.R_base ho48) hb); have n2_ := Aside0.mk (Kd.R_elder' (by (with_reducible repeat (first | apply Kd.R_alloc | apply Kd.R_drewN | apply Kd.R_drew)); exact HO121.out) (Kd.R_base ho48) hb); have n3_ := Aside0.mk (Kd.R_lower (Kd.R_new' ho48 (Kd.R_lt (by (with_reducible repeat (first | apply Kd.R_alloc | apply Kd.R_drewN | apply Kd.R_drew)); exact HO121.out))) (below_size (by repeat (first | (with_reducible first | exact HB.out | apply below_alloc | apply pw_below_drewN | apply below_drew1 | refine below_set ?_ GE101.out) | exact HB.out)))); have n4_ := Aside0.mk (blk_below (g := gb101) (o := .cells #[.slice A0_0 l0_0.length c0_0] 28 (0, 0)) (by (with_reducible repeat (first | refine blk_drewN ?_ _ | refine blk_drew ?_ | refine blk_alloc ?_ _)); exact BK101.out) hb); have n5_ := Aside0.mk (below_step (by repeat (first | (with_reducible first | exact HB.out | apply below_alloc | apply pw_below_drewN | apply below_drew1 | refine below_set ?_ GE101.out) | exact HB.out)) hb); clear HO_7; clear HO_9; clear HO121; clear BK101; clear HB; have HO_7 := n0_; have HO_9 := n1_; have HO121 := n2_; have HO124 := n3_; have BK101 := n4_; have HB := n5_; clear n0_ n1_ n2_ n3_ n4_ n5_; clear hb ho48; obtain ⟨Ao49, co49, eo49⟩ := Kd.R_slice HO124.out; subst eo49) | (go_at_call 87; (with_reducible refine (spec_l10Missing.calls k3 _ _ l0_0 (fun k_ => (((some k_ ≠ (.slice Ao44 x7_1.length co44 : Value).ownBlock ∧ k_ ≠ gb101) ∧ some k_ ≠ (v120 : Value).ownBlock) ∧ some k_ ≠ (.slice Ao49 y122.length co49 : Value).ownBlock)) _ _ x9_2 _ _ y122 t125 _ ?side1 ?side2 ?side3 ?side4 ?side5 A43.out).mono ?_); (case side1 => repeat (first | exact (Kd.C_below HR0_0.out HB.out) | (with_reducible refine Kd.C_alloc ?_ _) | (with_reducible refine Kd.C_drewN ?_ _) | (with_reducible refine Kd.C_drew ?_))); (case side2 => exact HC0_0.out); (case side3 => exact HO_9.out); (case side4 => repeat (first | exact (Kd.R_reads' HO124.out).2.2 | (with_reducible refine Kd.C_alloc ?_ _) | (with_reducible refine Kd.C_drewN ?_ _) | (with_reducible refine Kd.C_drew ?_))); (case side5 => exact (Kd.R_reads' HO124.out).2.1); rintro e w50 ⟨v126, rfl, ho0, hb⟩; have n0_ := Aside0.mk (Kd.N_below (by (with_reducible repeat (first | apply Kd.N_alloc | apply Kd.N_drewN | apply Kd.N_drew)); exact HO_7.out) hb); have n1_ := Aside0.mk (Kd.V_below (by (with_reducible repeat (first | apply Kd.V_alloc | apply Kd.V_drewN | apply Kd.V_drew)); exact HO_9.out) hb); have n2_ := Aside0.mk (Kd.R_below (by (with_reducible repeat (first | apply Kd.R_alloc | apply Kd.R_drewN | apply Kd.R_drew)); exact HO121.out) hb); have n3_ := Aside0.mk (Kd.R_below (by (with_reducible repeat (first | apply Kd.R_alloc | apply Kd.R_drewN | apply Kd.R_drew)); exact HO124.out) hb); have n4_ := Aside0.mk (Kd.V_lower (Kd.V_mono (ok' := fun k_ => some k_ ≠ (.slice Ao44 x7_1.length co44 : Value).ownBlock ∧ some k_ ≠ (v120 : Value).ownBlock ∧ some k_ ≠ (.slice Ao49 y122.length co49 : Value).ownBlock ∧ k_ ≠ gb101) ho0 (fun k_ hk_ => ⟨Or.elim hk_ (fun hs_ => hs_.1.1.1) (fun hn_ => (Kd.fresh' (Kd.N_lt (by (with_reducible repeat (first | apply Kd.N_alloc | apply Kd.N_drewN | apply Kd.N_drew)); exact HO_7.out)) k_ hn_)), Or.elim hk_ (fun hs_ => hs_.1.2) (fun hn_ => (Kd.fresh' (Kd.R_lt (by (with_reducible repeat (first | apply Kd.R_alloc | apply Kd.R_drewN | apply Kd.R_drew)); exact HO121.out)) k_ hn_)), Or.elim hk_ (fun hs_ => hs_.2) (fun hn_ => (Kd.fresh' (Kd.R_lt (by (with_reducible repeat (first | apply Kd.R_alloc | apply Kd.R_drewN | apply Kd.R_drew)); exact HO124.out)) k_ hn_)), Or.elim hk_ (fun hs_ => hs_.1.1.2) (fun hn_ => (Kd.freshB (g := gb101) (o := .cells #[.slice A0_0 l0_0.length c0_0] 28 (0, 0)) (by (with_reducible repeat (first | refine blk_drewN ?_ _ | refine blk_drew ?_ | refine blk_alloc ?_ _)); exact BK101.out) k_ hn_))⟩)) (below_size (by repeat (first | (with_reducible first | exact HB.out | apply below_alloc | apply pw_below_drewN | apply below_drew1 | refine below_set ?_ GE101.out) | exact HB.out)))); have n5_ := Aside0.mk (blk_below (g := gb101) (o := .cells #[.slice A0_0 l0_0.length c0_0] 28 (0, 0)) (by (with_reducible repeat (first | refine blk_drewN ?_ _ | refine blk_drew ?_ | refine blk_alloc ?_ _)); exact BK101.out) hb); have n6_ := Aside0.mk (below_step (by repeat (first | (with_reducible first | exact HB.out | apply below_alloc | apply pw_below_drewN | apply below_drew1 | refine below_set ?_ GE101.out) | exact HB.out)) hb); clear HO_7; clear HO_9; clear HO121; clear HO124; clear BK101; clear HB; have HO_7 := n0_; have HO_9 := n1_; have HO121 := n2_; have HO124 := n3_; have HO127 := n4_; have BK101 := n5_; have HB := n6_; clear n0_ n1_ n2_ n3_ n4_ n5_ n6_; (try clear hb); (try clear hb2); (try clear hk); (try clear hi); (try clear ho0))); try go_wp2_with (first | ((with_reducible refine gate_builtin (b := .append) (xs := #[.tmp 73, .tmp 75]) rfl ?_); at_builtin; refine Kd.R_append (Kd.int .i64) (w0 := w) w.heap.size rfl (.tmp 73) (.tmp 75) 22 2 (.int .i64 0) 8 rfl Try.underlying22 info2 rfl (by decide) (by omega) (.slice Ao32 x10_2.length co32) x10_2 x11_3 [.int .i64 x11_3] (fun _ => True) (fun _ => False) rfl rfl ?aP (fun _ hk => hk.elim) ?aF ?aO ?aB ?aS ?aL ?_; (case aP => exact rfl); (case aB => exact (by repeat (first | (with_reducible first | exact HB.out | apply below_alloc | apply pw_below_drewN | apply below_drew1 | refine below_set ?_ GE101.out) | exact HB.out))); (case aF => exact (fun _ _ => trivial)); (case aO => exact (by (with_reducible repeat (first | apply Kd.R_alloc | apply Kd.R_drewN | apply Kd.R_drew)); exact HO_10.out)); (case aS => exact (below_size (by repeat (first | (with_reducible first | exact HB.out | apply below_alloc | apply pw_below_drewN | apply below_drew1 | refine below_set ?_ GE101.out) | exact HB.out)))); (case aL => have := LMc42.out; omega); intro v120 w45 ho hb hg hat; rw [← Ny119.out] at ho; have n0_ := Aside0.mk (Kd.N_afterv (ok := (fun k_ => k_ ≠ gb101)) (by (with_reducible repeat (first | apply Kd.N_alloc | apply Kd.N_drewN | apply Kd.N_drew)); exact Kd.N_mono HO_7.out (fun _ hk => ⟨hk.2, hk.1⟩)) hg hat); have n1_ := Aside0.mk (Kd.V_afterv (ok := (fun k_ => some k_ ≠ (.slice Ao44 x7_1.length co44 : Value).ownBlock ∧ k_ ≠ gb101)) (by (with_reducible repeat (first | apply Kd.V_alloc | apply Kd.V_drewN | apply Kd.V_drew)); exact Kd.V_mono HO_9.out (fun _ hk => ⟨⟨hk.1, hk.2.2⟩, hk.2.1⟩)) hg hat); have n2_ := Aside0.mk (blk_grown (g := gb101) (o := .cells #[.slice A0_0 l0_0.length c0_0] 28 (0, 0)) (by (with_reducible repeat (first | refine blk_drewN ?_ _ | refine blk_drew ?_ | refine blk_alloc ?_ _)); exact BK101.out) hg (Kd.R_ne HO_10.out BK101.out (by decide))); have n3_ := Aside0.mk (hb); have n4_ := Aside0.mk (ho); clear HO_7; clear HO_9; clear BK101; clear HB; clear HO_10; have HO_7 := n0_; have HO_9 := n1_; have BK101 := n2_; have HB := n3_; have HO121 := n4_; clear n0_ n1_ n2_ n3_ n4_; clear ho hb hg hat; have hcz46_0 : w45.cell? ⟨gb101, 0, none⟩ = some (.slice A0_0 l0_0.length c0_0) := (blk_cell BK101.out 0).trans rfl; have hfz46_0 := blk_frozen BK101.out 0) | ((with_reducible refine gate_dst (N := 80) rfl ?_); refine Kd.R_lit (Kd.int .i64) _ 2 ?hg (N := 80) ?hd (xs := ([x11_3] : List Int)) (inner := [.int .i64 x11_3]) (ok := fun _ => True) (okp := fun _ => True) ?hr ?hp (fun _ hk => hk) trivial (Below.refl _ _) (Nat.le_refl _) (by simp) ?_; (case hd => rfl); (case hg => rfl); (case hr => first | (go_simp; done) | (go_simp; rfl)); (case hp => exact (Reps.one (show Kd.M (Kd.int .i64) _ _ _ x11_3 [.int .i64 x11_3] from rfl) (Reps.none _ _))); intro v123 w47 ho48 hb hg_ hnew_; clear hg_ hnew_; (first | rw [← Ny122.out] at ho48 | (simp only [Int.reduceToNat] at ho48; rw [← Ny122.out] at ho48)); have n0_ := Aside0.mk (Kd.N_elder' (by (with_reducible repeat (first | apply Kd.N_alloc | apply Kd.N_drewN | apply Kd.N_drew)); exact HO_7.out) (Kd.R_base ho48) hb); have n1_ := Aside0.mk (Kd.V_elder' (by (with_reducible repeat (first | apply Kd.V_alloc | apply Kd.V_drewN | apply Kd.V_drew)); exact HO_9.out) (Kd.R_base ho48) hb); have n2_ := Aside0.mk (Kd.R_elder' (by (with_reducible repeat (first | apply Kd.R_alloc | apply Kd.R_drewN | apply Kd.R_drew)); exact HO121.out) (Kd.R_base ho48) hb); have n3_ := Aside0.mk (Kd.R_lower (Kd.R_new' ho48 (Kd.R_lt (by (with_reducible repeat (first | apply Kd.R_alloc | apply Kd.R_drewN | apply Kd.R_drew)); exact HO121.out))) (below_size (by repeat (first | (with_reducible first | exact HB.out | apply below_alloc | apply pw_below_drewN | apply below_drew1 | refine below_set ?_ GE101.out) | exact HB.out)))); have n4_ := Aside0.mk (blk_below (g := gb101) (o := .cells #[.slice A0_0 l0_0.length c0_0] 28 (0, 0)) (by (with_reducible repeat (first | refine blk_drewN ?_ _ | refine blk_drew ?_ | refine blk_alloc ?_ _)); exact BK101.out) hb); have n5_ := Aside0.mk (below_step (by repeat (first | (with_reducible first | exact HB.out | apply below_alloc | apply pw_below_drewN | apply below_drew1 | refine below_set ?_ GE101.out) | exact HB.out)) hb); clear HO_7; clear HO_9; clear HO121; clear BK101; clear HB; have HO_7 := n0_; have HO_9 := n1_; have HO121 := n2_; have HO124 := n3_; have BK101 := n4_; have HB := n5_; clear n0_ n1_ n2_ n3_ n4_ n5_; clear hb ho48; obtain ⟨Ao49, co49, eo49⟩ := Kd.R_slice HO124.out; subst eo49) | (go_at_call 87; (with_reducible refine (spec_l10Missing.calls k3 _ _ l0_0 (fun k_ => (((some k_ ≠ (.slice Ao44 x7_1.length co44 : Value).ownBlock ∧ k_ ≠ gb101) ∧ some k_ ≠ (v120 : Value).ownBlock) ∧ some k_ ≠ (.slice Ao49 y122.length co49 : Value).ownBlock)) _ _ x9_2 _ _ y122 t125 _ ?side1 ?side2 ?side3 ?side4 ?side5 A43.out).mono ?_); (case side1 => repeat (first | exact (Kd.C_below HR0_0.out HB.out) | (with_reducible refine Kd.C_alloc ?_ _) | (with_reducible refine Kd.C_drewN ?_ _) | (with_reducible refine Kd.C_drew ?_))); (case side2 => exact HC0_0.out); (case side3 => exact HO_9.out); (case side4 => repeat (first | exact (Kd.R_reads' HO124.out).2.2 | (with_reducible refine Kd.C_alloc ?_ _) | (with_reducible refine Kd.C_drewN ?_ _) | (with_reducible refine Kd.C_drew ?_))); (case side5 => exact (Kd.R_reads' HO124.out).2.1); rintro e w50 ⟨v126, rfl, ho0, hb⟩; have n0_ := Aside0.mk (Kd.N_below (by (with_reducible repeat (first | apply Kd.N_alloc | apply Kd.N_drewN | apply Kd.N_drew)); exact HO_7.out) hb); have n1_ := Aside0.mk (Kd.V_below (by (with_reducible repeat (first | apply Kd.V_alloc | apply Kd.V_drewN | apply Kd.V_drew)); exact HO_9.out) hb); have n2_ := Aside0.mk (Kd.R_below (by (with_reducible repeat (first | apply Kd.R_alloc | apply Kd.R_drewN | apply Kd.R_drew)); exact HO121.out) hb); have n3_ := Aside0.mk (Kd.R_below (by (with_reducible repeat (first | apply Kd.R_alloc | apply Kd.R_drewN | apply Kd.R_drew)); exact HO124.out) hb); have n4_ := Aside0.mk (Kd.V_lower (Kd.V_mono (ok' := fun k_ => some k_ ≠ (.slice Ao44 x7_1.length co44 : Value).ownBlock ∧ some k_ ≠ (v120 : Value).ownBlock ∧ some k_ ≠ (.slice Ao49 y122.length co49 : Value).ownBlock ∧ k_ ≠ gb101) ho0 (fun k_ hk_ => ⟨Or.elim hk_ (fun hs_ => hs_.1.1.1) (fun hn_ => (Kd.fresh' (Kd.N_lt (by (with_reducible repeat (first | apply Kd.N_alloc | apply Kd.N_drewN | apply Kd.N_drew)); exact HO_7.out)) k_ hn_)), Or.elim hk_ (fun hs_ => hs_.1.2) (fun hn_ => (Kd.fresh' (Kd.R_lt (by (with_reducible repeat (first | apply Kd.R_alloc | apply Kd.R_drewN | apply Kd.R_drew)); exact HO121.out)) k_ hn_)), Or.elim hk_ (fun hs_ => hs_.2) (fun hn_ => (Kd.fresh' (Kd.R_lt (by (with_reducible repeat (first | apply Kd.R_alloc | apply Kd.R_drewN | apply Kd.R_drew)); exact HO124.out)) k_ hn_)), Or.elim hk_ (fun hs_ => hs_.1.1.2) (fun hn_ => (Kd.freshB (g := gb101) (o := .cells #[.slice A0_0 l0_0.length c0_0] 28 (0, 0)) (by (with_reducible repeat (first | refine blk_drewN ?_ _ | refine blk_drew ?_ | refine blk_alloc ?_ _)); exact BK101.out) k_ hn_))⟩)) (below_size (by repeat (first | (with_reducible first | exact HB.out | apply below_alloc | apply pw_below_drewN | apply below_drew1 | refine below_set ?_ GE101.out) | exact HB.out)))); have n5_ := Aside0.mk (blk_below (g := gb101) (o := .cells #[.slice A0_0 l0_0.length c0_0] 28 (0, 0)) (by (with_reducible repeat (first | refine blk_drewN ?_ _ | refine blk_drew ?_ | refine blk_alloc ?_ _)); exact BK101.out) hb); have n6_ := Aside0.mk (below_step (by repeat (first | (with_reducible first | exact HB.out | apply below_alloc | apply pw_below_drewN | apply below_drew1 | refine below_set ?_ GE101.out) | exact HB.out)) hb); clear HO_7; clear HO_9; clear HO121; clear HO124; clear BK101; clear HB; have HO_7 := n0_; have HO_9 := n1_; have HO121 := n2_; have HO124 := n3_; have HO127 := n4_; have BK101 := n5_; have HB := n6_; clear n0_ n1_ n2_ n3_ n4_ n5_ n6_; (try clear hb); (try clear hb2); (try clear hk); (try clear hi); (try clear ho0))))
             go_roundg k3
             case measure => have := HK1.out; have := HK2.out; have := HK3.out; omega
             case rel => exact ⟨(t125), (y119), H', ⟨by have := HK1.out; have := HK2.out; have := HK3.out; omega⟩, ⟨by (with_reducible repeat (first | apply Kd.N_alloc | apply Kd.N_drewN | apply Kd.N_drew)); exact Kd.N_mono HO_7.out (fun _ hk => ⟨hk.1.2, hk.1.1⟩)⟩, ⟨by (with_reducible repeat (first | apply Kd.V_alloc | apply Kd.V_drewN | apply Kd.V_drew)); exact Kd.V_mono HO127.out (fun _ hk => ⟨hk.1, ⟨hk.2.1, hk.2.2.2⟩⟩)⟩, ⟨by (with_reducible repeat (first | apply Kd.R_alloc | apply Kd.R_drewN | apply Kd.R_drew)); exact Kd.R_mono HO121.out (fun _ hk => trivial)⟩, ⟨by (with_reducible repeat (first | refine blk_drewN ?_ _ | refine blk_drew ?_ | refine blk_alloc ?_ _)); exact BK101.out⟩, ⟨by repeat (first | (with_reducible first | exact HB.out | apply below_alloc | apply pw_below_drewN | apply below_drew1 | refine below_set ?_ GE101.out) | exact HB.out)⟩⟩
            ·rw [if_neg c42] at H
             exact absurd H (by simp)
       ·rw [if_neg c27] at H
        have c27b0 : decide (0 < (x9_2.length : Int)) = false := decide_eq_false c27
        have c27b1 : decide (0 < x9_2.length) = false := decide_eq_false (by omega)
        clear c27
        simp only [Option.some.injEq, Prod.mk.injEq] at H
        obtain ⟨rfl, rfl⟩ := H
        obtain ⟨Ao51, co51, eo51⟩ := Kd.V_slice HO_9.out
        subst eo51
        go_wp2
        repeat (go_quiet (fail); try go_wp2)
        go_ret2
        exact ⟨_, by first | rfl | (simp [errW_none, errW_some] <;> rfl) | (simp [*, errW_none, errW_some] <;> rfl), by (with_reducible repeat (first | apply Kd.R_alloc | apply Kd.R_drewN | apply Kd.R_drew)); exact HO_10.out, by repeat (first | (with_reducible first | exact HB.out | apply below_alloc | apply pw_below_drewN | apply below_drew1 | refine below_set ?_ GE101.out) | exact HB.out)⟩
 ·rw [if_neg c4] at H
  have c4b0 : (t102 == 0) = false := beq_eq_false_iff_ne.mpr c4
  have c4b1 : (t102 != 0) = true := bne_iff_ne.mpr c4
  simp only [Option.some.injEq, Prod.mk.injEq] at H
  obtain ⟨rfl, rfl⟩ := H
  go_enter Try.func27, Try.ntmps27
  go_wp2_with (first | ((with_reducible refine gate_dst (N := 2) rfl ?_); refine box_event ?hg (N := 2) ?hd (cs := #[.slice A0_0 l0_0.length c0_0]) (t := 28) ?hr ?_; (case hd => rfl); (case hg => rfl); (case hr => first | (go_simp; done) | (go_simp; rfl)); intro gb101 hg w52 hbox hb; have n0_ := Aside0.mk (below_step (by repeat (first | (with_reducible first | exact HB.out | apply below_alloc | apply pw_below_drewN | apply below_drew1) | exact HB.out)) hb); have n1_ := Aside0.mk (hbox); have n2_ := Aside0.mk ((by rw [hg]; exact (below_size (by repeat (first | (with_reducible first | exact HB.out | apply below_alloc | apply pw_below_drewN | apply below_drew1) | exact HB.out))) : w.heap.size ≤ gb101)); have n3_ := Aside0.mk ((by rw [hg]; exact (below_size (by repeat (first | (with_reducible first | exact HB.out | apply below_alloc | apply pw_below_drewN | apply below_drew1) | exact HB.out))) : w.heap.size ≤ gb101)); clear HB; have HB := n0_; have BK101 := n1_; have GW101 := n2_; have GE101 := n3_; clear n0_ n1_ n2_ n3_; clear hb hbox hg; have hcz53_0 : w52.cell? ⟨gb101, 0, none⟩ = some (.slice A0_0 l0_0.length c0_0) := (blk_cell BK101.out 0).trans rfl; have hfz53_0 := blk_frozen BK101.out 0) | (go_at_call 95; (with_reducible refine (spec_l10Code.calls k _ _ l0_0 a1 t102 _ ?side1 ?side2 A3.out).mono ?_); (case side1 => repeat (first | exact (Kd.C_below HR0_0.out HB.out) | (with_reducible refine Kd.C_alloc ?_ _) | (with_reducible refine Kd.C_drewN ?_ _) | (with_reducible refine Kd.C_drew ?_))); (case side2 => exact HC0_0.out); rintro e w54 ⟨rfl, hb⟩; have n0_ := Aside0.mk (blk_below (g := gb101) (o := .cells #[.slice A0_0 l0_0.length c0_0] 28 (0, 0)) (by (with_reducible repeat (first | refine blk_drewN ?_ _ | refine blk_drew ?_ | refine blk_alloc ?_ _)); exact BK101.out) hb); have n1_ := Aside0.mk (below_step (by repeat (first | (with_reducible first | exact HB.out | apply below_alloc | apply pw_below_drewN | apply below_drew1 | refine below_set ?_ GE101.out) | exact HB.out)) hb); clear BK101; clear HB; have BK101 := n0_; have HB := n1_; clear n0_ n1_; (try clear hb); (try clear hb2); (try clear hk); (try clear hi)))
  repeat (go_quiet (first | ((with_reducible refine gate_dst (N := 2) rfl ?_); refine box_event ?hg (N := 2) ?hd (cs := #[.slice A0_0 l0_0.length c0_0]) (t := 28) ?hr ?_; (case hd => rfl); (case hg => rfl); (case hr => first | (go_simp; done) | (go_simp; rfl)); intro gb101 hg w52 hbox hb; have n0_ := Aside0.mk (below_step (by repeat (first | (with_reducible first | exact HB.out | apply below_alloc | apply pw_below_drewN | apply below_drew1) | exact HB.out)) hb); have n1_ := Aside0.mk (hbox); have n2_ := Aside0.mk ((by rw [hg]; exact (below_size (by repeat (first | (with_reducible first | exact HB.out | apply below_alloc | apply pw_below_drewN | apply below_drew1) | exact HB.out))) : w.heap.size ≤ gb101)); have n3_ := Aside0.mk ((by rw [hg]; exact (below_size (by repeat (first | (with_reducible first | exact HB.out | apply below_alloc | apply pw_below_drewN | apply below_drew1) | exact HB.out))) : w.heap.size ≤ gb101)); clear HB; have HB := n0_; have BK101 := n1_; have GW101 := n2_; have GE101 := n3_; clear n0_ n1_ n2_ n3_; clear hb hbox hg; have hcz53_0 : w52.cell? ⟨gb101, 0, none⟩ = some (.slice A0_0 l0_0.length c0_0) := (blk_cell BK101.out 0).trans rfl; have hfz53_0 := blk_frozen BK101.out 0) | (go_at_call 95; (with_reducible refine (spec_l10Code.calls k _ _ l0_0 a1 t102 _ ?side1 ?side2 A3.out).mono ?_); (case side1 => repeat (first | exact (Kd.C_below HR0_0.out HB.out) | (with_reducible refine Kd.C_alloc ?_ _) | (with_reducible refine Kd.C_drewN ?_ _) | (with_reducible refine Kd.C_drew ?_))); (case side2 => exact HC0_0.out); rintro e w54 ⟨rfl, hb⟩; have n0_ := Aside0.mk (blk_below (g := gb101) (o := .cells #[.slice A0_0 l0_0.length c0_0] 28 (0, 0)) (by (with_reducible repeat (first | refine blk_drewN ?_ _ | refine blk_drew ?_ | refine blk_alloc ?_ _)); exact BK101.out) hb); have n1_ := Aside0.mk (below_step (by repeat (first | (with_reducible first | exact HB.out | apply below_alloc | apply pw_below_drewN | apply below_drew1 | refine below_set ?_ GE101.out) | exact HB.out)) hb); clear BK101; clear HB; have BK101 := n0_; have HB := n1_; clear n0_ n1_; (try clear hb); (try clear hb2); (try clear hk); (try clear hi))); try go_wp2_with (first | ((with_reducible refine gate_dst (N := 2) rfl ?_); refine box_event ?hg (N := 2) ?hd (cs := #[.slice A0_0 l0_0.length c0_0]) (t := 28) ?hr ?_; (case hd => rfl); (case hg => rfl); (case hr => first | (go_simp; done) | (go_simp; rfl)); intro gb101 hg w52 hbox hb; have n0_ := Aside0.mk (below_step (by repeat (first | (with_reducible first | exact HB.out | apply below_alloc | apply pw_below_drewN | apply below_drew1) | exact HB.out)) hb); have n1_ := Aside0.mk (hbox); have n2_ := Aside0.mk ((by rw [hg]; exact (below_size (by repeat (first | (with_reducible first | exact HB.out | apply below_alloc | apply pw_below_drewN | apply below_drew1) | exact HB.out))) : w.heap.size ≤ gb101)); have n3_ := Aside0.mk ((by rw [hg]; exact (below_size (by repeat (first | (with_reducible first | exact HB.out | apply below_alloc | apply pw_below_drewN | apply below_drew1) | exact HB.out))) : w.heap.size ≤ gb101)); clear HB; have HB := n0_; have BK101 := n1_; have GW101 := n2_; have GE101 := n3_; clear n0_ n1_ n2_ n3_; clear hb hbox hg; have hcz53_0 : w52.cell? ⟨gb101, 0, none⟩ = some (.slice A0_0 l0_0.length c0_0) := (blk_cell BK101.out 0).trans rfl; have hfz53_0 := blk_frozen BK101.out 0) | (go_at_call 95; (with_reducible refine (spec_l10Code.calls k _ _ l0_0 a1 t102 _ ?side1 ?side2 A3.out).mono ?_); (case side1 => repeat (first | exact (Kd.C_below HR0_0.out HB.out) | (with_reducible refine Kd.C_alloc ?_ _) | (with_reducible refine Kd.C_drewN ?_ _) | (with_reducible refine Kd.C_drew ?_))); (case side2 => exact HC0_0.out); rintro e w54 ⟨rfl, hb⟩; have n0_ := Aside0.mk (blk_below (g := gb101) (o := .cells #[.slice A0_0 l0_0.length c0_0] 28 (0, 0)) (by (with_reducible repeat (first | refine blk_drewN ?_ _ | refine blk_drew ?_ | refine blk_alloc ?_ _)); exact BK101.out) hb); have n1_ := Aside0.mk (below_step (by repeat (first | (with_reducible first | exact HB.out | apply below_alloc | apply pw_below_drewN | apply below_drew1 | refine below_set ?_ GE101.out) | exact HB.out)) hb); clear BK101; clear HB; have BK101 := n0_; have HB := n1_; clear n0_ n1_; (try clear hb); (try clear hb2); (try clear hk); (try clear hi))))
  go_ret2
  exact ⟨_, by first | rfl | (simp [errW_none, errW_some] <;> rfl) | (simp [*, errW_none, errW_some] <;> rfl), by first | exact Kd.R_nil _ _ _ _ _ | exact Kd.N_nil _ _ _ _ _ | exact Kd.V_nil _ _ _ _ _ | exact Kd.Q_nil _ _ _ _ _ | exact Kd.S_nil _ _ _ _ _, by repeat (first | (with_reducible first | exact HB.out | apply below_alloc | apply pw_below_drewN | apply below_drew1 | refine below_set ?_ GE101.out) | exact HB.out)⟩
open Go.Proofs.Ytionaakahhgdjaa.M
/-- Eight bytes as an array's cells. -/
def arr8 (f : Nat → Int) : Array Value := #[.int .u8 (f 0), .int .u8 (f 1), .int .u8 (f 2), .int .u8 (f 3), .int .u8 (f 4), .int .u8 (f 5), .int .u8 (f 6), .int .u8 (f 7)]
theorem arr8_get (f : Nat → Int) (i : Nat) (h : i < 8) : (arr8 f)[i]? = some (.int .u8 (f i)) := by
 rcases i with _|_|_|_|_|_|_|_|i <;> first | rfl | omega
theorem arr8_set (f : Nat → Int) (i : Nat) (h : i < 8) (v : Int) : (arr8 f).setIfInBounds i (.int .u8 v) = arr8 (fun j => if j = i then v else f j) := by
 rcases i with _|_|_|_|_|_|_|_|i <;> first | rfl | omega
theorem arr8_congr {f g : Nat → Int} (h : ∀ j, j < 8 → f j = g j) : arr8 f = arr8 g := by
 unfold arr8
 rw [h 0 (by omega), h 1 (by omega), h 2 (by omega), h 3 (by omega), h 4 (by omega), h 5 (by omega), h 6 (by omega), h 7 (by omega)]
theorem blk_cell8 {w : World} {g t : Nat} {f : Nat → Int} (h : w.heap[g]? = some (.cells (arr8 f) t (0, 0))) (i : Nat) (hi : i < 8) : w.cell? ⟨g, i, none⟩ = some (.int .u8 (f i)) := (blk_cell h i).trans (arr8_get f i hi)
theorem blk_set8 {w : World} {g t : Nat} {f : Nat → Int} (h : w.heap[g]? = some (.cells (arr8 f) t (0, 0))) (i : Nat) (hi : i < 8) (v : Int) : (w.setCell ⟨g, i, none⟩ (.int .u8 v)).heap[g]? = some (.cells (arr8 fun j => if j = i then v else f j) t (0, 0)) := blk_put h i _ (arr8_set f i hi v)
/-- A cell that was there when the call began is not one of a new block's. -/
theorem cell_old {w W : World} {a : Addr} {v : Value} (h : w.cell? a = some v) (hb : Below w.heap.size w W) {g i : Nat} (hg : w.heap.size ≤ g) (u : Value) : (W.setCell ⟨g, i, none⟩ u).cell? a = some v := by
 have hl := World.block_lt_of_cell? w a h
 rw [cell_far (show a.block ≠ g by omega) u]
 exact (hb.cell hl).trans h
theorem rd_getD (l : List Int) (i : Int) (h0 : 0 ≤ i) (h1 : i < l.length) (d : Int) : rd l i = l.getD i.toNat d := by
 unfold rd
 rw [List.getD_eq_getElem?_getD, List.getD_eq_getElem?_getD, List.getElem?_eq_getElem (by omega : i.toNat < l.length)]; rfl
theorem blk_store8 {w : World} {g t : Nat} {f : Nat → Int} (h : w.heap[g]? = some (.cells (arr8 f) t (0, 0))) (r1 r2 r3 r4 r5 r6 r7 r8 : Int) :
  ((((((((w.setCell ⟨g, 0, none⟩ (.int .u8 r1)).setCell ⟨g, 1, none⟩ (.int .u8 r2)).setCell ⟨g, 2, none⟩ (.int .u8 r3)).setCell ⟨g, 3, none⟩ (.int .u8 r4)).setCell ⟨g, 4, none⟩ (.int .u8 r5)).setCell ⟨g, 5, none⟩ (.int .u8 r6)).setCell ⟨g, 6, none⟩ (.int .u8 r7)).setCell ⟨g, 7, none⟩ (.int .u8 r8)).heap[g]? = some (.cells #[.int .u8 r1, .int .u8 r2, .int .u8 r3, .int .u8 r4, .int .u8 r5, .int .u8 r6, .int .u8 r7, .int .u8 r8] t (0, 0)) :=
 blk_set8 (blk_set8 (blk_set8 (blk_set8 (blk_set8 (blk_set8 (blk_set8 (blk_set8 h 0 (by omega) _) 1 (by omega) _) 2 (by omega) _) 3 (by omega) _) 4 (by omega) _) 5 (by omega) _) 6 (by omega) _) 7 (by omega) _
theorem cells8 {w : World} {g t : Nat} {f : Nat → Int} (h : w.heap[g]? = some (.cells (arr8 f) t (0, 0))) :
  w.cell? ⟨g, 0, none⟩ = some (.int .u8 (f 0)) ∧ w.cell? ⟨g, 1, none⟩ = some (.int .u8 (f 1)) ∧ w.cell? ⟨g, 2, none⟩ = some (.int .u8 (f 2)) ∧ w.cell? ⟨g, 3, none⟩ = some (.int .u8 (f 3)) ∧ w.cell? ⟨g, 4, none⟩ = some (.int .u8 (f 4)) ∧ w.cell? ⟨g, 5, none⟩ = some (.int .u8 (f 5)) ∧ w.cell? ⟨g, 6, none⟩ = some (.int .u8 (f 6)) ∧ w.cell? ⟨g, 7, none⟩ = some (.int .u8 (f 7)) :=
 ⟨blk_cell8 h 0 (by omega), blk_cell8 h 1 (by omega), blk_cell8 h 2 (by omega), blk_cell8 h 3 (by omega), blk_cell8 h 4 (by omega), blk_cell8 h 5 (by omega), blk_cell8 h 6 (by omega), blk_cell8 h 7 (by omega)⟩
theorem below_store8 {w W : World} {g : Nat} (h : Below w.heap.size w W) (hg : w.heap.size ≤ g) (r1 r2 r3 r4 r5 r6 r7 r8 : Value) :
  Below w.heap.size w ((((((((W.setCell ⟨g, 0, none⟩ r1).setCell ⟨g, 1, none⟩ r2).setCell ⟨g, 2, none⟩ r3).setCell ⟨g, 3, none⟩ r4).setCell ⟨g, 4, none⟩ r5).setCell ⟨g, 5, none⟩ r6).setCell ⟨g, 6, none⟩ r7).setCell ⟨g, 7, none⟩ r8) :=
 below_set (below_set (below_set (below_set (below_set (below_set (below_set (below_set h hg) hg) hg) hg) hg) hg) hg) hg
def digCond (l : List Int) (a : Int) : Prop := l.length ≤ 8 ∧ (∀ q ∈ l, 2 ≤ q ∧ q ≤ 4) ∧ 0 ≤ a ∧ a < 1073741824
instance (l : List Int) (a : Int) : Decidable (digCond l a) := by unfold digCond; infer_instance
def impl_digitsOf.f (l0_0 : List Int) (a1 : Int) : Option (Int × Int × Int × Int × Int × Int × Int × Int) :=
 if digCond l0_0 a1 then
  some (dgAt l0_0 a1 0, dgAt l0_0 a1 1, dgAt l0_0 a1 2, dgAt l0_0 a1 3, dgAt l0_0 a1 4, dgAt l0_0 a1 5, dgAt l0_0 a1 6, dgAt l0_0 a1 7)
 else none

def digRel (l : List Int) (a : Int) (w W : World) (A : Option Addr) (c : Nat) (v1 v6 : Value) : Prop :=
 ∃ i : Int, -1 ≤ i ∧ i < l.length ∧ v1 = .int .i64 (a / pr (l.drop (i + 1).toNat)) ∧ v6 = .int .i64 i ∧
  W.heap[w.heap.size]? = some (.cells #[.slice A l.length c] 28 (0, 0)) ∧
  W.heap[w.heap.size + 1]? = some (.cells (arr8 fun _ => 0) 106 (0, 0)) ∧
  W.heap[w.heap.size + 1 + 1]? = some (.cells (arr8 fun j => if i < j then dgAt l a j else 0) 106 (0, 0)) ∧
  Below w.heap.size w W

theorem dig_next {l : List Int} (hq : Sz l) {a i : Int} (ha : 0 ≤ a) (hb : a < 1073741824) (h0 : 0 ≤ i) (h1 : i < l.length) :
  a / pr (l.drop (i + 1).toNat) / rd l i = a / pr (l.drop (i - 1 + 1).toNat) ∧ a / pr (l.drop (i + 1).toNat) % rd l i % 256 = dgAt l a i.toNat := by
 have e1 : (i + 1).toNat = i.toNat + 1 := by omega
 have e2 : (i - 1 + 1).toNat = i.toNat := by omega
 rw [e1, e2, rd_getD l i h0 h1 1, div_step hq a i.toNat (by omega)]
 refine ⟨rfl, ?_⟩
 have h := dgAt_range hq a i.toNat
 unfold dgAt at h ⊢
 rw [if_pos (by omega)] at h ⊢
 omega

set_option maxHeartbeats 8000000 in
set_option maxRecDepth 100000 in
theorem impl_digitsOf.calls (A0_0 : Option Addr) (c0_0 : Nat) (l0_0 : List Int) (a1 : Int) (r1 r2 r3 r4 r5 r6 r7 r8 : Int) (w : World) (hr0_0 : Kd.C (Kd.int .i64) w A0_0 l0_0.length l0_0) (hc0_0 : l0_0.length ≤ c0_0) (h : impl_digitsOf.f l0_0 a1 = some (r1, r2, r3, r4, r5, r6, r7, r8)) :
  Calls Try.prog 110 #[.agg #[.slice A0_0 l0_0.length c0_0], .int .i64 a1] w fun e w' => e = .returned (.agg #[.int .u8 r1, .int .u8 r2, .int .u8 r3, .int .u8 r4, .int .u8 r5, .int .u8 r6, .int .u8 r7, .int .u8 r8]) ∧ Below w.heap.size w w' := by
 have hcond : digCond l0_0 a1 := by
  unfold impl_digitsOf.f at h
  split at h
  ·assumption
  ·cases h
 obtain ⟨hn, hq, ha, hb⟩ := hcond
 have HF : Aside0 (arr8 (dgAt l0_0 a1) = #[.int .u8 r1, .int .u8 r2, .int .u8 r3, .int .u8 r4, .int .u8 r5, .int .u8 r6, .int .u8 r7, .int .u8 r8]) := by
  unfold impl_digitsOf.f at h
  rw [if_pos ⟨hn, hq, ha, hb⟩] at h
  simp only [Option.some.injEq, Prod.mk.injEq] at h
  obtain ⟨rfl, rfl, rfl, rfl, rfl, rfl, rfl, rfl⟩ := h
  exact ⟨rfl⟩
 clear h
 have hu28 := Try.underlying28
 have hu106 := Try.underlying106
 have HR0_0 := Aside0.mk hr0_0
 have HQ := Aside0.mk hq
 clear hr0_0 hc0_0 hq
 go_enter Try.func110, Try.ntmps110
 go_wp2
 go_loopw [1, 6] (fun v1 v6 W => Aside0 (digRel l0_0 a1 w W A0_0 c0_0 v1 v6)) (fun _ v _ => (intOf v + 1).toNat)
 case atStart =>
  refine ⟨⟨l0_0.length - 1, by omega, by omega, ?_, rfl, ?_, ?_, ?_, ?_⟩⟩
  ·rw [show ((l0_0.length : Int) - 1 + 1).toNat = l0_0.length by omega, List.drop_length, pr_nil, Int.ediv_one]
  ·exact blk_alloc (blk_alloc (blk_new _ _) _) _
  ·have := blk_new (w.alloc (.cells #[.slice A0_0 l0_0.length c0_0] 28)) (.cells (arr8 fun _ => 0) 106)
   rw [World.size_alloc] at this
   exact blk_alloc this _
  ·have := blk_new ((w.alloc (.cells #[.slice A0_0 l0_0.length c0_0] 28)).alloc (.cells (arr8 fun _ => 0) 106)) (.cells (arr8 fun _ => 0) 106)
   rw [arr8_congr (f := fun j => if (l0_0.length : Int) - 1 < (j : Nat) then dgAt l0_0 a1 j else 0) (g := fun _ => 0) (fun j hj => by
    show (if (l0_0.length : Int) - 1 < (j : Nat) then dgAt l0_0 a1 j else 0) = 0
    split
    ·unfold dgAt; rw [if_neg (by omega)]
    ·rfl)]
   rw [World.size_alloc, World.size_alloc] at this
   exact this
  ·exact below_alloc (below_alloc (below_alloc (Below.refl _ _) _) _) _
 case round =>
  obtain ⟨i, hi0, hi1, rfl, rfl, h0, h1, h2, hB⟩ := hrel.out
  have hcz : wr.cell? ⟨w.heap.size, 0, none⟩ = some (.slice A0_0 l0_0.length c0_0) := (blk_cell h0 0).trans rfl
  have hcz2 : ∀ i u, (wr.setCell ⟨w.heap.size + 1 + 1, i, none⟩ u).cell? ⟨w.heap.size, 0, none⟩ = some (.slice A0_0 l0_0.length c0_0) := fun i u => (cell_far (by show w.heap.size ≠ w.heap.size + 1 + 1; omega) u).trans hcz
  have hst : 0 ≤ i → wr.cell? ⟨w.heap.size + 1 + 1, i.toNat, none⟩ = some (.int .u8 0) := fun hi => by
   rw [blk_cell8 h2 _ (by omega), if_neg (by omega)]
  have hfz : wr.frozen? ⟨w.heap.size + 1 + 1, i.toNat, none⟩ = false := blk_frozen h2 _
  have hz1 : wr.cell? ⟨w.heap.size + 1, 0, none⟩ = some (.int .u8 0) := blk_cell8 h1 0 (by omega)
  have H0 := Aside0.mk h0
  have H1 := Aside0.mk h1
  have H2 := Aside0.mk h2
  have HB := Aside0.mk hB
  clear hrel h0 h1 h2 hB
  have hwc := div_range (l := l0_0) HQ.out a1 ha (i + 1).toNat
  have HN : Aside0 (0 ≤ i → a1 / pr (l0_0.drop (i + 1).toNat) / rd l0_0 i = a1 / pr (l0_0.drop (i - 1 + 1).toNat) ∧ a1 / pr (l0_0.drop (i + 1).toNat) % rd l0_0 i % 256 = dgAt l0_0 a1 i.toNat) := ⟨fun hi => dig_next HQ.out ha hb hi hi1⟩
  have HS : Aside0 (i = -1 → a1 / pr (l0_0.drop (i + 1).toNat) = a1 / pr (l0_0.drop (i + 1).toNat)) := ⟨fun _ => rfl⟩
  obtain ⟨wc, hwe⟩ : ∃ wc, wc = a1 / pr (l0_0.drop (i + 1).toNat) := ⟨_, rfl⟩
  rw [← hwe] at HN hwc ⊢
  clear HS hwe
  obtain ⟨hwc0, hwc1⟩ := hwc
  have hwc2 : wc < 1073741824 := by omega
  by_cases hm0 : 0 ≤ i
  ·have hst' := hst hm0
   obtain ⟨ad, rfl, hx⟩ := Kd.at_int HR0_0.out i hm0 hi1
   have hx2 : ∀ j u, (wr.setCell ⟨w.heap.size + 1 + 1, j, none⟩ u).cell? (ad.add i.toNat) = some (.int .i64 (rd l0_0 i)) := fun j u => cell_old hx HB.out (by omega) u
   replace hx := (HB.out.cell (World.block_lt_of_cell? w _ hx)).trans hx
   have hqb : 2 ≤ rd l0_0 i ∧ rd l0_0 i ≤ 4 := by
    rw [rd_getD l0_0 i hm0 hi1 1]; exact Sz.at HQ.out _ (by omega)
   obtain ⟨hq1, hq2⟩ := hqb
   have hi8 : i < 8 := by omega
   clear hst
   go_wp2
   obtain ⟨hn1, hn2⟩ := HN.out hm0
   go_roundw
   case measure => simp [intOf]; omega
   case rel =>
    refine ⟨⟨i - 1, by omega, by omega, ?_, ?_, ?_, ?_, ?_, ?_⟩⟩
    ·first | rw [hn1] | (rw [← hn1])
    ·first | rfl | (simp; done)
    ·exact blk_far H0.out (by show w.heap.size ≠ w.heap.size + 1 + 1; omega) _
    ·exact blk_far H1.out (by show w.heap.size + 1 ≠ w.heap.size + 1 + 1; omega) _
    ·rw [hn2, blk_set8 H2.out _ (by omega)]
     refine congrArg (fun z => some (Obj.cells z 106 (0, 0))) (arr8_congr fun j hj => ?_)
     show (if j = i.toNat then _ else if i < (j : Int) then _ else _) = (if i - 1 < (j : Int) then _ else _)
     by_cases e : j = i.toNat
     ·subst e; rw [if_pos rfl, if_pos (by omega)]
     ·rw [if_neg e]
      by_cases e2 : i < (j : Int)
      ·rw [if_pos e2, if_pos (by omega)]
      ·rw [if_neg e2, if_neg (by omega)]
    ·exact below_set HB.out (by omega)
  ·have hie : i = -1 := by omega
   have H2' : wr.heap[w.heap.size + 1 + 1]? = some (.cells #[.int .u8 r1, .int .u8 r2, .int .u8 r3, .int .u8 r4, .int .u8 r5, .int .u8 r6, .int .u8 r7, .int .u8 r8] 106 (0, 0)) := by
    rw [H2.out, ← HF.out]
    refine congrArg (fun z => some (Obj.cells z 106 (0, 0))) (arr8_congr fun j hj => ?_)
    rw [if_pos (by omega)]
   have hl : (106 : Nat) = 106 := rfl
   obtain ⟨z0, z1, z2, z3, z4, z5, z6, z7⟩ := cells8 H1.out
   have hfz1 : ∀ j, wr.frozen? ⟨w.heap.size + 1, j, none⟩ = false := fun j => blk_frozen H1.out j
   clear hst hl hz1
   have H2x := Aside0.mk H2'
   clear H2'
   go_wp2_with (refine wpList_load_row rfl 106 _ rfl (w.heap.size + 1 + 1) rfl _ _ _ _ H2x.out hu106 rfl (by kernel_rfl) ?_)
   refine bodyPost_ret (results_cell_row rfl _ _ (w.heap.size + 1) 106 #[.int .u8 r1, .int .u8 r2, .int .u8 r3, .int .u8 r4, .int .u8 r5, .int .u8 r6, .int .u8 r7, .int .u8 r8] (0, 0) _ rfl (blk_store8 H1.out _ _ _ _ _ _ _ _) Try.underlying106 rfl (by kernel_rfl)) rfl ?_
   exact ⟨rfl, below_store8 HB.out (by omega) _ _ _ _ _ _ _ _⟩
/-- A walk stands still here, till 'refine ⟨?_⟩'. -/
structure Here (p : Prop) : Prop where mk :: (out : p)
/-- Only block g has turned. -/
structure Only (W w1 : World) (g : Nat) : Prop where
 os : w1.os = W.os
 tape : w1.tape = W.tape
 output : w1.output = W.output
 size : w1.heap.size = W.heap.size
 block : ∀ k, k ≠ g → w1.heap[k]? = W.heap[k]?
theorem Only.refl (W : World) (g : Nat) : Only W W g := ⟨rfl, rfl, rfl, rfl, fun _ _ => rfl⟩
theorem Only.set {W w1 : World} {g : Nat} (h : Only W w1 g) (i : Nat) (u : Value) : Only W (w1.setCell ⟨g, i, none⟩ u) g :=
 ⟨h.os, h.tape, h.output, by rw [World.size_setCell]; exact h.size, fun k hk => (Below.heap_setCell w1 ⟨g, i, none⟩ u k hk).trans (h.block k hk)⟩
theorem Only.below {w W w1 : World} {g : Nat} (h : Only W w1 g) (hb : Below w.heap.size w W) (hg : w.heap.size ≤ g) : Below w.heap.size w w1 :=
 ⟨h.os.trans hb.os, h.tape.trans hb.tape, h.output.trans hb.output, by rw [h.size]; exact hb.size, fun k hk => (h.block k (by omega)).trans (hb.block k hk)⟩
theorem Only.R {W w1 : World} {g : Nat} {α : Type} {d : Kd α} {e base : Nat} {ok : Nat → Prop} {v : Value} {xs : List α} (h : Only W w1 g) (hr : d.R e W base ok v xs) (hok : ∀ k, ok k → k ≠ g) : d.R e w1 base ok v xs := Kd.R_step hr (fun k ho _ => h.block k (hok k ho))
section
variable {ops : Array Oper} {rest : List Oper} {o : Oper} {a : Act} {Q : Exit → Act → World → Prop} {W : World}
set_option maxHeartbeats 2000000 in
theorem wp_store8 (hgd : o.guard = none) (hN : o.dst = none) (p v : Tmp) (ho : o.op = .store 106 (.tmp p) (.tmp v)) (g : Nat) (hp : a.tmps.getD p undef = .pointer (some ⟨g, 0, none⟩)) (r1 r2 r3 r4 r5 r6 r7 r8 : Int)
  (hv : a.tmps.getD v undef = .agg #[.int .u8 r1, .int .u8 r2, .int .u8 r3, .int .u8 r4, .int .u8 r5, .int .u8 r6, .int .u8 r7, .int .u8 r8]) {f : Nat → Int} (hg : W.heap[g]? = some (.cells (arr8 f) 106 (0, 0)))
  (h : ∀ w1, w1.heap[g]? = some (.cells #[.int .u8 r1, .int .u8 r2, .int .u8 r3, .int .u8 r4, .int .u8 r5, .int .u8 r6, .int .u8 r7, .int .u8 r8] 106 (0, 0)) → Only W w1 g → wpList Try.prog ops Q rest a w1) : wpList Try.prog ops Q (o :: rest) a W := by
 have hu106 := Try.underlying106
 obtain ⟨z0, z1, z2, z3, z4, z5, z6, z7⟩ := cells8 hg
 have hfz : ∀ j, W.frozen? ⟨g, j, none⟩ = false := fun j => blk_frozen hg j
 refine store_event hgd (p := p) ho hN (w1 := (((((((W.setCell ⟨g, 0, none⟩ (.int .u8 r1)).setCell ⟨g, 1, none⟩ (.int .u8 r2)).setCell ⟨g, 2, none⟩ (.int .u8 r3)).setCell ⟨g, 3, none⟩ (.int .u8 r4)).setCell ⟨g, 4, none⟩ (.int .u8 r5)).setCell ⟨g, 5, none⟩ (.int .u8 r6)).setCell ⟨g, 6, none⟩ (.int .u8 r7)).setCell ⟨g, 7, none⟩ (.int .u8 r8)) ?_ ?_
 ·unfold execOp
  rw [ho]
  simp only [Act.eval, hp, hv]
  have hs := blk_store8 hg r1 r2 r3 r4 r5 r6 r7 r8
  clear h hs hg ho hN hgd
  go_simp
 ·rintro w' rfl
  exact h _ (blk_store8 hg _ _ _ _ _ _ _ _) (((((((((Only.refl W g).set 0 _).set 1 _).set 2 _).set 3 _).set 4 _).set 5 _).set 6 _).set 7 _)
end
/-- Block g holds choices: a space's sizes l, lists of places P, first numbers F, how many m. -/
def ChAt (w : World) (g : Nat) (l : List Int) (P : List (List Int)) (F : List Int) (m : Int) : Prop :=
 ∃ A0 c0 A1 c1 A2 c2, w.heap[g]? = some (.cells #[.slice A0 l.length c0, .slice A1 P.length c1, .slice A2 F.length c2, .int .i64 m] 92 (0, 0)) ∧
  l.length ≤ c0 ∧ Kd.C (Kd.int .i64) w A0 l.length l ∧ Kd.C (Kd.slice 2 (Kd.int .i64)) w A1 P.length P ∧ Kd.C (Kd.int .i64) w A2 F.length F
theorem ChAt.below {w W : World} {g : Nat} {l : List Int} {P : List (List Int)} {F : List Int} {m : Int} (h : ChAt w g l P F m) (hb : Below w.heap.size w W) : ChAt W g l P F m := by
 obtain ⟨A0, c0, A1, c1, A2, c2, h, h0, h1, h2, h3⟩ := h
 exact ⟨A0, c0, A1, c1, A2, c2, blk_below h hb, h0, Kd.C_below h1 hb, Kd.C_below h2 hb, Kd.C_below h3 hb⟩

/-- What is asked of choices. -/
structure ChOk (l : List Int) (P : List (List Int)) (F : List Int) : Prop where
 n : l.length ≤ 8
 sz : Sz l
 pl : ∀ p ∈ P, Pl l p
 len : F.length = P.length
 most : P.length ≤ 512
 fi : ∀ f ∈ F, 0 ≤ f ∧ f ≤ 1000000

set_option maxHeartbeats 8000000 in
set_option maxRecDepth 100000 in
theorem of_calls (g : Nat) (l : List Int) (P : List (List Int)) (F : List Int) (m row : Int) (w : World) (hch : ChAt w g l P F m) (hok : ChOk l P F) (hr : 0 ≤ row ∧ row < 1073741824) :
  Calls Try.prog 94 #[.pointer (some ⟨g, 0, none⟩), .int .i64 row] w fun e w' => ∃ v0_ : Value, e = .returned v0_ ∧ Kd.R (Kd.int .i64) 2 w' w.heap.size (fun _ => True) v0_ (ofTo l P F row P.length) ∧ Below w.heap.size w w' := by
 obtain ⟨A0, c0, A1, c1, A2, c2, hg, hl0, hC0, hC1, hC2⟩ := hch
 have hu28 := Try.underlying28
 have hu92 := Try.underlying92
 have hu106 := Try.underlying106
 obtain ⟨r1, r2, r3, r4, r5, r6, r7, r8, hdig⟩ : ∃ r1 r2 r3 r4 r5 r6 r7 r8, impl_digitsOf.f l row = some (r1, r2, r3, r4, r5, r6, r7, r8) := by
  unfold impl_digitsOf.f
  rw [if_pos ⟨hok.n, hok.sz, hr.1, hr.2⟩]
  exact ⟨_, _, _, _, _, _, _, _, rfl⟩
 have HD := Aside0.mk hdig
 have hz0 : w.cell? ⟨g, 0, none⟩ = some (.slice A0 l.length c0) := (blk_cell hg 0).trans rfl
 have HG := Aside0.mk hg
 have HC0 := Aside0.mk hC0
 have HC1 := Aside0.mk hC1
 have HC2 := Aside0.mk hC2
 have HL0 := Aside0.mk hl0
 have HK := Aside0.mk hok
 clear hg hC0 hC1 hC2 hl0 hok hdig
 have HB := Aside0.mk (Below.refl w.heap.size w)
 go_enter Try.func94, Try.ntmps94
 go_wp2_with (first | (go_at_call 110; (with_reducible refine (impl_digitsOf.calls A0 c0 l row _ _ _ _ _ _ _ _ _ HC0.out HL0.out HD.out).mono ?_); rintro e w1 ⟨rfl, hb1⟩; have HB1 := Aside0.mk hb1; clear hb1) | ((with_reducible refine gate_dst (N := 18) rfl ?_); refine Kd.R_lit (Kd.int .i64) _ 2 ?hg (N := 18) ?hd (xs := ([] : List Int)) (inner := []) (ok := fun _ => True) (okp := fun _ => True) ?hr ?hp (fun _ hk => hk) trivial (Below.refl _ _) (Nat.le_refl _) (by simp) ?_; (case hd => rfl); (case hg => rfl); (case hr => first | (go_simp; done) | (go_simp; rfl)); (case hp => exact (Reps.none _ _)); intro v2 w2 ho_ hb_ hg_ hnew_; have HO2 := Aside0.mk ho_; have HB2 := Aside0.mk hb_; clear ho_ hb_ hg_ hnew_) | ((with_reducible refine gate_dst (N := 5) rfl ?_); refine box_event ?hg (N := 5) ?hd (cs := #[.int .u8 0, .int .u8 0, .int .u8 0, .int .u8 0, .int .u8 0, .int .u8 0, .int .u8 0, .int .u8 0]) (t := 106) ?hr ?_; (case hd => rfl); (case hg => rfl); (case hr => first | (go_simp; done) | (go_simp; rfl)); intro g5 hg_ w3 hbox_ hb_; have BK3 := Aside0.mk hbox_; have HB3 := Aside0.mk hb_; have HG3 := Aside0.mk hg_; clear hbox_ hb_ hg_; skip) | ((with_reducible refine gate_store (p := 5) (t := 106) (v := .tmp 17) rfl ?_); refine wp_store8 rfl rfl 5 17 rfl g5 rfl r1 r2 r3 r4 r5 r6 r7 r8 rfl (show w3.heap[g5]? = some (.cells (arr8 fun _ => 0) 106 (0, 0)) from BK3.out) ?_; intro w4 hs_ ho_; have BK4 := Aside0.mk hs_; have ON4 := Aside0.mk ho_; clear hs_ ho_; refine Here.out ?_))
 refine ⟨?_⟩
 have HW4 : Below w.heap.size w w3 := below_step (below_step HB1.out HB2.out) HB3.out
 have HG5 : w.heap.size ≤ g5 := by rw [HG3.out]; exact (below_step HB1.out HB2.out).size
 have HW5 := Aside0.mk (Only.below ON4.out HW4 HG5)
 have hz1 : w4.cell? ⟨g, 1, none⟩ = some (.slice A1 P.length c1) := (blk_cell (blk_below HG.out HW5.out) 1).trans rfl
 clear HW4
 clear hz0
 go_wp2
 have HR4 : Aside0 (Kd.R (Kd.int .i64) 2 w4 w.heap.size (fun _ => True) v2 []) := ⟨Kd.R_mono (Only.R ON4.out (Kd.R_below (Kd.R_elderB (Kd.R_lower HO2.out HB1.out.size) g5 (Nat.le_of_eq HG3.out.symm)) HB3.out) (fun k hk => hk.2)) (fun _ _ => trivial)⟩
 have HD8 : #[Value.int .u8 r1, .int .u8 r2, .int .u8 r3, .int .u8 r4, .int .u8 r5, .int .u8 r6, .int .u8 r7, .int .u8 r8] = arr8 (dgAt l row) := by
  have h := HD.out
  unfold impl_digitsOf.f at h
  rw [if_pos ⟨HK.out.n, HK.out.sz, hr.1, hr.2⟩] at h
  simp only [Option.some.injEq, Prod.mk.injEq] at h
  obtain ⟨rfl, rfl, rfl, rfl, rfl, rfl, rfl, rfl⟩ := h
  rfl
 have BK5 := BK4.out
 rw [HD8] at BK5
 have BKD := Aside0.mk BK5
 have HG5' := Aside0.mk HG5
 clear HD8 BK5 BK4 HG5
 have hF := HK.out.len
 have hmost := HK.out.most
 have HFL := Aside0.mk hF
 clear hF
 go_loopw [6, 24] (fun v6 v24 W => ∃ x : Int, 0 ≤ x ∧ x ≤ P.length ∧ v24 = .int .i64 x ∧ Aside0 (Kd.R (Kd.int .i64) 2 W w.heap.size (fun _ => True) v6 (ofTo l P F row x.toNat)) ∧ Aside0 (W.heap[g5]? = some (.cells (arr8 (dgAt l row)) 106 (0, 0))) ∧ Aside0 (Below w.heap.size w W)) (fun _ v _ => (P.length - intOf v).toNat)
 case atStart => exact ⟨0, by omega, by omega, rfl, HR4, BKD, HW5⟩
 case round =>
  obtain ⟨x, hx0, hx1, rfl, HO6, BKx, HBx⟩ := hrel
  clear HB HB1 HB2 HB3 HR4 BK3 ON4 HO2 BKD HW5 hz1
  by_cases hlt : x < (P.length : Int)
  ·obtain ⟨ad, A', c', rfl, hxc, hl', hC'⟩ := at_L1 HC1.out x hx0 hlt
   replace hxc := (HBx.out.cell (World.block_lt_of_cell? w _ hxc)).trans hxc
   have hpl : Pl l (rd_L1 P x) := HK.out.pl _ (by unfold rd_L1; rw [List.getD_eq_getElem?_getD, List.getElem?_eq_getElem (show x.toNat < P.length by omega)]; exact List.getElem_mem _)
   have HPL := Aside0.mk hpl
   have HC' := Aside0.mk hC'
   have hpl3 := hpl.1
   clear hC' hpl
   go_wp2
   have hxc2 := hxc
   clear hxc
   obtain ⟨wo, hwo⟩ : ∃ wo : World, wo = wr := ⟨_, rfl⟩
   subst hwo
   obtain ⟨p, hp⟩ : ∃ p : List Int, p = rd_L1 P x := ⟨_, rfl⟩
   rw [← hp] at HPL HC' hpl3 hl' hxc2 ⊢
   have HP := Aside0.mk hp
   clear hp
   go_loopw [9, 31] (fun v9 v31 W => ∃ j : Int, 0 ≤ j ∧ j ≤ p.length ∧ v31 = .int .i64 j ∧ v9 = .int .i64 (val l (dgAt l row) (p.take j.toNat)) ∧ Aside0 (Kd.R (Kd.int .i64) 2 W w.heap.size (fun _ => True) u6 (ofTo l P F row x.toNat)) ∧ Aside0 (W.heap[g5]? = some (.cells (arr8 (dgAt l row)) 106 (0, 0))) ∧ Aside0 (Below w.heap.size w W)) (fun _ v _ => (p.length - intOf v).toNat)
   case atStart => exact ⟨0, by omega, by omega, rfl, rfl, HO6, BKx, HBx⟩
   case round =>
    obtain ⟨j, hj0, hj1, rfl, rfl, HO6, BKx, HBx⟩ := hrel
    have hvb := val_bound3 HK.out.sz row HPL.out j.toNat
    obtain ⟨hv0, hv1⟩ := hvb
    by_cases hjl : j < (p.length : Int)
    ·obtain ⟨ad3, rfl, hx3⟩ := Kd.at_int HC'.out j hj0 hjl
     have hmem : rd p j ∈ p := by unfold rd; rw [List.getD_eq_getElem?_getD, List.getElem?_eq_getElem (show j.toNat < p.length by omega)]; exact List.getElem_mem _
     obtain ⟨he0, he1⟩ := HPL.out.2 _ hmem
     have HMEM := Aside0.mk hmem
     clear hmem
     have hn8 := HK.out.n
     have he8 : rd p j < 8 := by omega
     replace hx3 := (HBx.out.cell (World.block_lt_of_cell? w _ hx3)).trans hx3
     obtain ⟨e, he⟩ : ∃ e : Int, e = rd p j := ⟨_, rfl⟩
     rw [← he] at hx3 he0 he1 he8
     have HE := Aside0.mk he
     clear he
     have hz0 : wr.cell? ⟨g, 0, none⟩ = some (.slice A0 l.length c0) := (blk_cell (blk_below HG.out HBx.out) 0).trans rfl
     obtain ⟨ad4, rfl, hx4⟩ := Kd.at_int HC0.out e he0 he1
     replace hx4 := (HBx.out.cell (World.block_lt_of_cell? w _ hx4)).trans hx4
     have hx5 : wr.cell? ⟨g5, e.toNat, none⟩ = some (.int .u8 (dgAt l row e.toNat)) := blk_cell8 BKx.out _ (by omega)
     have hq : 2 ≤ rd l e ∧ rd l e ≤ 4 := by rw [rd_getD l e he0 he1 1]; exact HK.out.sz.at _ (by omega)
     obtain ⟨hq0, hq1⟩ := hq
     obtain ⟨hd0, hd1⟩ := dgAt_range HK.out.sz row e.toNat
     have hstep : val l (dgAt l row) (p.take (j.toNat + 1)) = val l (dgAt l row) (p.take j.toNat) * rd l e + dgAt l row e.toNat := by
      rw [List.take_succ_eq_append_getElem (show j.toNat < p.length by omega), val_snoc]
      have : p[j.toNat]'(by omega) = e := by rw [HE.out]; unfold rd; rw [List.getD_eq_getElem?_getD, List.getElem?_eq_getElem (show j.toNat < p.length by omega)]; rfl
      rw [this]; rfl
     have HST := Aside0.mk hstep
     clear hstep
     obtain ⟨vv, hvv⟩ : ∃ vv : Int, vv = val l (dgAt l row) (p.take j.toNat) := ⟨_, rfl⟩
     rw [← hvv] at hv0 hv1 HST ⊢
     have HVV := Aside0.mk hvv
     clear hvv
     have hm1 : vv * rd l e ≤ vv * 4 := Int.mul_le_mul_of_nonneg_left hq1 hv0
     have hm0 : 0 ≤ vv * rd l e := Int.mul_nonneg hv0 (by omega)
     go_wp2
     go_quiet (fail)
     go_wp2
     go_roundw
     case measure => simp [intOf]; omega
     case rel => exact ⟨j + 1, by omega, by omega, by first | rfl | (simp; done), by rw [show (j + 1).toNat = j.toNat + 1 by omega, HST.out], ⟨by (with_reducible repeat (first | apply Kd.R_alloc | apply Kd.R_drewN | apply Kd.R_drew)); exact HO6.out⟩, ⟨by (with_reducible repeat (first | refine blk_drewN ?_ _ | refine blk_drew ?_ | refine blk_alloc ?_ _)); exact BKx.out⟩, ⟨by repeat (first | (with_reducible first | exact HBx.out | apply below_alloc | apply pw_below_drewN | apply below_drew1) | exact HBx.out)⟩⟩
    ·have hje : j = p.length := by omega
     have HT : p.take j.toNat = p := by rw [hje]; exact List.take_of_length_le (by omega)
     rw [HT] at hv0 hv1 ⊢
     have hz2 : wr.cell? ⟨g, 2, none⟩ = some (.slice A2 F.length c2) := (blk_cell (blk_below HG.out HBx.out) 2).trans rfl
     have hxF : x < (F.length : Int) := by rw [HFL.out]; exact hlt
     obtain ⟨ad6, rfl, hx6⟩ := Kd.at_int HC2.out x hx0 hxF
     replace hx6 := (HBx.out.cell (World.block_lt_of_cell? w _ hx6)).trans hx6
     have hf := HK.out.fi (rd F x) (by unfold rd; rw [List.getD_eq_getElem?_getD, List.getElem?_eq_getElem (show x.toNat < F.length by omega)]; exact List.getElem_mem _)
     obtain ⟨hf0, hf1⟩ := hf
     have HLM : Aside0 ((ofTo l P F row x.toNat).length < 17592186044416) := ⟨by rw [ofTo_length]; omega⟩
     have hsucc : ofTo l P F row (x + 1).toNat = ofTo l P F row x.toNat ++ [rd F x + val l (dgAt l row) p] := by
      rw [show (x + 1).toNat = x.toNat + 1 by omega, ofTo_succ, HP.out]; rfl
     have HSU := Aside0.mk hsucc
     clear hsucc HT hje
     obtain ⟨vv, hvv⟩ : ∃ vv : Int, vv = val l (dgAt l row) p := ⟨_, rfl⟩
     rw [← hvv] at hv0 hv1 HSU ⊢
     clear hvv
     go_wp2_with ((with_reducible refine gate_builtin (b := .append) (xs := #[.tmp 51, .tmp 61]) rfl ?_); at_builtin; refine Here.out ?_)
     refine ⟨?_⟩
     refine Kd.R_append (Kd.int .i64) (w0 := w) w.heap.size rfl (.tmp 51) (.tmp 61) 22 2 (.int .i64 0) 8 rfl Try.underlying22 info2 rfl (by decide) (by omega) u6 (ofTo l P F row x.toNat) (rd F x + vv) [.int .i64 (rd F x + vv)] (fun _ => True) (fun _ => False) rfl rfl ?aP (fun _ hk => hk.elim) ?aF ?aO ?aB ?aS ?aL ?_
     case aP => exact rfl
     case aB => exact (by repeat (first | (with_reducible first | exact HBx.out | apply below_alloc | apply pw_below_drewN | apply below_drew1) | exact HBx.out))
     case aF => exact (fun _ _ => trivial)
     case aO => exact (by (with_reducible repeat (first | apply Kd.R_alloc | apply Kd.R_drewN | apply Kd.R_drew)); exact HO6.out)
     case aS => exact (below_size (by repeat (first | (with_reducible first | exact HBx.out | apply below_alloc | apply pw_below_drewN | apply below_drew1) | exact HBx.out)))
     case aL => have := HLM.out; omega
     intro v7 w7 ho_ hb_ hg_ hat_
     have HO7 := Aside0.mk ho_
     have HB7 := Aside0.mk hb_
     have HG7 := Aside0.mk hg_
     have HAT7 := Aside0.mk hat_
     clear ho_ hb_ hg_ hat_
     go_wp2
     go_roundw
     case measure => simp [intOf]; omega
     case rel => exact ⟨x + 1, by omega, by omega, by first | rfl | (simp; done), ⟨by rw [HSU.out]; exact HO7.out⟩, ⟨blk_grown BKx.out HG7.out (Kd.R_ne HO6.out BKx.out (by decide))⟩, HB7⟩
  ·go_wp2
   go_ret
   exact ⟨_, rfl, by rw [show x.toNat = P.length by omega] at HO6; exact HO6.out, HBx.out⟩
def slices_Clone_int64_int64.f (l0 : List Int) : Option (List Int) := if l0.length < 17592186044416 then some l0 else none
set_option maxHeartbeats 8000000 in
set_option maxRecDepth 100000 in
theorem slices_Clone_int64_int64.calls (A0 : Option Addr) (c0 : Nat) (l0 : List Int) (r : List Int) (w : World) (hr0 : Kd.C (Kd.int .i64) w A0 l0.length l0) (hc0 : l0.length ≤ c0) (h : slices_Clone_int64_int64.f l0 = some r) :
  Calls Try.prog 109 #[.slice A0 l0.length c0] w fun e w' => ∃ v0_ : Value, e = .returned (v0_) ∧ Kd.R (Kd.int .i64) 2 w' w.heap.size (fun _ => True) v0_ r ∧ Below w.heap.size w w' := by
 unfold slices_Clone_int64_int64.f at h
 split at h
 case isFalse => cases h
 case isTrue hlim =>
 obtain rfl := Option.some.inj h
 clear h
 have HLIM := Aside0.mk hlim
 have HR0 := Aside0.mk hr0
 clear hr0 hlim
 cases A0 with
 | none =>
  have hl : l0 = [] := by
   rcases l0 with _ | ⟨x, l⟩
   ·rfl
   ·obtain ⟨ad, e, _⟩ := Kd.at_int HR0.out 0 (by omega) (by simp)
    cases e
  subst hl
  have he := fun (w : World) => Lib.run_eql_slice_nil (P := Try.prog) w 22 2 none 0 c0 0 0 Try.underlying22
  go_enter Try.func109, Try.ntmps109
  go_wp2
  go_ret
  exact ⟨_, rfl, Kd.R_nil _ _ _ _ _, Below.refl _ _⟩
 | some ad =>
  have he := fun (w : World) => Lib.run_eql_slice_nil (P := Try.prog) w 22 2 (some ad) l0.length c0 0 0 Try.underlying22
  have HB := Aside0.mk (Below.refl w.heap.size w)
  go_enter Try.func109, Try.ntmps109
  go_wp2_with ((with_reducible refine gate_dst (N := 5) rfl ?_); refine Kd.R_lit (Kd.int .i64) _ 2 ?hg (N := 5) ?hd (xs := ([] : List Int)) (inner := []) (ok := fun _ => True) (okp := fun _ => True) ?hr ?hp (fun _ hk => hk) trivial (Below.refl _ _) (Nat.le_refl _) (by simp) ?_; (case hd => rfl); (case hg => rfl); (case hr => first | (go_simp; done) | (go_simp; rfl)); (case hp => exact (Reps.none _ _)); intro v1 w1 ho hb hg_ hnew_; refine Here.out ?_)
  refine ⟨?_⟩
  have HO1 := Aside0.mk ho
  have HB1 := Aside0.mk hb
  clear ho hb hg_ hnew_ he
  go_wp2_with ((with_reducible refine gate_builtin (b := .append) (xs := #[.tmp 5, .tmp 6]) rfl ?_); at_builtin; refine Here.out ?_)
  refine ⟨?_⟩
  refine Kd.R_append_row (Value.int .i64) 0 (w0 := w) w.heap.size rfl (.tmp 5) (.tmp 6) 22 2 (.int .i64 0) 8 rfl Try.underlying22 info2 rfl (by decide) v1 [] l0 (some ad) l0.length c0 (fun _ => True) rfl rfl (fun _ _ => trivial) HO1.out (Kd.C_below HR0.out HB1.out) HB1.out HB1.out.size (by have := HLIM.out; simp only [List.length_nil]; omega) ?_
  intro v2 w2 ho hb hg_ hat_
  go_wp2
  go_ret
  exact ⟨_, rfl, ho, hb⟩
def impl_places.f (l0_0 : List Int) : Option (Int) := some (l0_0.length : Int)
set_option maxHeartbeats 8000000 in
set_option maxRecDepth 100000 in
theorem impl_places.calls (A0_0 : Option Addr) (c0_0 : Nat) (l0_0 : List Int) (r : Int) (w : World) (hr0_0 : Kd.C (Kd.int .i64) w A0_0 l0_0.length l0_0) (hc0_0 : l0_0.length ≤ c0_0) (h : impl_places.f l0_0 = some r) :
  Calls Try.prog 168 #[.agg #[.slice A0_0 l0_0.length c0_0]] w fun e w' => e = .returned (.int .i64 r) ∧ Below w.heap.size w w' := by
 have hu28 := Try.underlying28
 have HR0_0 := Aside0.mk hr0_0
 have HC0_0 := Aside0.mk hc0_0
 clear hr0_0 hc0_0
 have HB := Aside0.mk (Below.refl w.heap.size w)
 have H : (some (l0_0.length : Int)) = some r := h
 clear h
 obtain rfl := Option.some.inj H
 go_enter Try.func168, Try.ntmps168
 go_wp2_with (first | ((with_reducible refine gate_dst (N := 1) rfl ?_); refine box_event ?hg (N := 1) ?hd (cs := #[.slice A0_0 l0_0.length c0_0]) (t := 28) ?hr ?_; (case hd => rfl); (case hg => rfl); (case hr => first | (go_simp; done) | (go_simp; rfl)); intro gb101 hg w2 hbox hb; have n0_ := Aside0.mk (below_step (by repeat (first | (with_reducible first | exact HB.out | apply below_alloc | apply pw_below_drewN | apply below_drew1) | exact HB.out)) hb); have n1_ := Aside0.mk (hbox); have n2_ := Aside0.mk ((by rw [hg]; exact (below_size (by repeat (first | (with_reducible first | exact HB.out | apply below_alloc | apply pw_below_drewN | apply below_drew1) | exact HB.out))) : w.heap.size ≤ gb101)); have n3_ := Aside0.mk ((by rw [hg]; exact (below_size (by repeat (first | (with_reducible first | exact HB.out | apply below_alloc | apply pw_below_drewN | apply below_drew1) | exact HB.out))) : w.heap.size ≤ gb101)); clear HB; have HB := n0_; have BK101 := n1_; have GW101 := n2_; have GE101 := n3_; clear n0_ n1_ n2_ n3_; clear hb hbox hg; have hcz3_0 : w2.cell? ⟨gb101, 0, none⟩ = some (.slice A0_0 l0_0.length c0_0) := (blk_cell BK101.out 0).trans rfl; have hfz3_0 := blk_frozen BK101.out 0))
 go_ret
 exact ⟨by first | rfl | (simp [errW_none, errW_some] <;> rfl) | (simp [*, errW_none, errW_some] <;> rfl), by repeat (first | (with_reducible first | exact HB.out | apply below_alloc | apply pw_below_drewN | apply below_drew1 | refine below_set ?_ GE101.out) | exact HB.out)⟩
/-- Six variables in memory, all older than H0 and younger than w0. -/
structure SSt (w0 : World) (H0 bt bs bc bf gC L : Nat) : Prop where
 lt : bt < H0 ∧ bs < H0 ∧ bc < H0 ∧ bf < H0 ∧ gC < H0 ∧ L < H0
 ge : w0.heap.size ≤ gC ∧ w0.heap.size ≤ L
 gne : bt ≠ gC ∧ bs ≠ gC ∧ bc ≠ gC ∧ bf ≠ gC
 lne : bt ≠ L ∧ bs ≠ L ∧ bc ≠ L ∧ bf ≠ L ∧ gC ≠ L
/-- How memory stands during the search. -/
structure SS (w0 W : World) (H0 bt bs bc bf gC : Nat) (A0 : Option Addr) (c0 : Nat) (l : List Int) (t : Int) (vP : Value) (P : List (List Int)) (vF : Value) (F : List Int) (m : Int) : Prop where
 hbt : W.heap[bt]? = some (.cells #[.int .i64 t] 2 (0, 0))
 hbs : W.heap[bs]? = some (.cells #[.slice A0 l.length c0] 28 (0, 0))
 hbc : W.heap[bc]? = some (.cells #[.pointer (some ⟨gC, 0, none⟩)] 88 (0, 0))
 hbf : W.heap[bf]? = some (.cells #[.func (.func 169) #[] #[.pointer (some ⟨bt, 0, none⟩), .pointer (some ⟨bs, 0, none⟩), .pointer (some ⟨bc, 0, none⟩), .pointer (some ⟨bf, 0, none⟩)]] 144 (0, 0))
 hgC : W.heap[gC]? = some (.cells #[.slice A0 l.length c0, vP, vF, .int .i64 m] 92 (0, 0))
 rP : Kd.R (Kd.slice 2 (Kd.int .i64)) 22 W w0.heap.size (fun k => H0 ≤ k ∧ some k ≠ vF.ownBlock) vP P
 rF : Kd.R (Kd.int .i64) 2 W w0.heap.size (fun k => H0 ≤ k) vF F
 hB : Below w0.heap.size w0 W
 hs : H0 ≤ W.heap.size
section
variable {w0 W w1 : World} {H0 bt bs bc bf gC L : Nat} {A0 : Option Addr} {c0 : Nat} {l : List Int} {t : Int} {vP : Value} {P : List (List Int)} {vF : Value} {F : List Int} {m : Int}
theorem SS.below (h : SS w0 W H0 bt bs bc bf gC A0 c0 l t vP P vF F m) (hb : Below W.heap.size W w1) : SS w0 w1 H0 bt bs bc bf gC A0 c0 l t vP P vF F m :=
 ⟨blk_below h.hbt hb, blk_below h.hbs hb, blk_below h.hbc hb, blk_below h.hbf hb, blk_below h.hgC hb, Kd.R_below h.rP hb, Kd.R_below h.rF hb, below_step h.hB hb, Nat.le_trans h.hs hb.size⟩
theorem SS.grownL (h : SS w0 W H0 bt bs bc bf gC A0 c0 l t vP P vF F m) (s : SSt w0 H0 bt bs bc bf gC L) (hg : W.grownBy w1 (some L)) : SS w0 w1 H0 bt bs bc bf gC A0 c0 l t vP P vF F m := by
 have n (k : Nat) (hk : k ≠ L) : some k ≠ some L := fun e => hk (Option.some.inj e)
 exact ⟨blk_grown h.hbt hg (n _ s.lne.1), blk_grown h.hbs hg (n _ s.lne.2.1), blk_grown h.hbc hg (n _ s.lne.2.2.1), blk_grown h.hbf hg (n _ s.lne.2.2.2.1), blk_grown h.hgC hg (n _ s.lne.2.2.2.2),
  Kd.R_grown h.rP hg (fun k hk => n _ (by have := s.lt.2.2.2.2.2; have := hk.1; omega)), Kd.R_grown h.rF hg (fun k hk => n _ (by have := s.lt.2.2.2.2.2; have : H0 ≤ k := hk; omega)), h.hB.grown hg h.hB.size (fun k hk => by injection hk with hk; have := s.ge.2; omega), Nat.le_trans h.hs hg.size⟩
theorem SS.neP (h : SS w0 W H0 bt bs bc bf gC A0 c0 l t vP P vF F m) {k : Nat} (hk : k < H0) : some k ≠ vP.ownBlock := fun e => by have := (h.rP.1 k e.symm).1; omega
theorem SS.neF (h : SS w0 W H0 bt bs bc bf gC A0 c0 l t vP P vF F m) {k : Nat} (hk : k < H0) : some k ≠ vF.ownBlock := fun e => by have : H0 ≤ k := h.rF.1 k e.symm; omega
theorem SS.setP (h : SS w0 W H0 bt bs bc bf gC A0 c0 l t vP P vF F m) (s : SSt w0 H0 bt bs bc bf gC L) {v1 : Value} {P1 : List (List Int)} (hg : W.grownBy w1 vP.ownBlock)
  (ho : Kd.R (Kd.slice 2 (Kd.int .i64)) 22 w1 w0.heap.size (fun k => H0 ≤ k ∧ some k ≠ vF.ownBlock) v1 P1) : SS w0 (w1.setCell ⟨gC, 1, none⟩ v1) H0 bt bs bc bf gC A0 c0 l t v1 P1 vF F m :=
 ⟨blk_far (blk_grown h.hbt hg (h.neP s.lt.1)) s.gne.1 _, blk_far (blk_grown h.hbs hg (h.neP s.lt.2.1)) s.gne.2.1 _, blk_far (blk_grown h.hbc hg (h.neP s.lt.2.2.1)) s.gne.2.2.1 _, blk_far (blk_grown h.hbf hg (h.neP s.lt.2.2.2.1)) s.gne.2.2.2 _,
  blk_put (blk_grown h.hgC hg (h.neP s.lt.2.2.2.2.1)) 1 _ rfl, Kd.R_far ho (fun k hk => by have := s.lt.2.2.2.2.1; have := hk.1; show k ≠ gC; omega) _,
  Kd.R_far (Kd.R_over h.rF h.rP (by decide) hg) (fun k hk => by have := s.lt.2.2.2.2.1; have : H0 ≤ k := hk; show k ≠ gC; omega) _,
  below_set (h.hB.grown hg h.hB.size (fun k hk => Nat.le_trans (by have := s.lt.2.2.2.2.1; have := s.ge.1; omega) (h.rP.1 k hk).1)) s.ge.1, by rw [World.size_setCell]; exact Nat.le_trans h.hs hg.size⟩
theorem SS.setF (h : SS w0 W H0 bt bs bc bf gC A0 c0 l t vP P vF F m) (s : SSt w0 H0 bt bs bc bf gC L) {v1 : Value} {F1 : List Int} (hg : W.grownBy w1 vF.ownBlock) (hat : v1.ownBlock = vF.ownBlock ∨ ∃ b, v1.ownBlock = some b ∧ W.heap.size ≤ b)
  (ho : Kd.R (Kd.int .i64) 2 w1 w0.heap.size (fun k => H0 ≤ k) v1 F1) : SS w0 (w1.setCell ⟨gC, 2, none⟩ v1) H0 bt bs bc bf gC A0 c0 l t vP P v1 F1 m :=
 ⟨blk_far (blk_grown h.hbt hg (h.neF s.lt.1)) s.gne.1 _, blk_far (blk_grown h.hbs hg (h.neF s.lt.2.1)) s.gne.2.1 _, blk_far (blk_grown h.hbc hg (h.neF s.lt.2.2.1)) s.gne.2.2.1 _, blk_far (blk_grown h.hbf hg (h.neF s.lt.2.2.2.1)) s.gne.2.2.2 _,
  blk_put (blk_grown h.hgC hg (h.neF s.lt.2.2.2.2.1)) 2 _ rfl, Kd.R_far (Kd.R_after h.rP hg hat) (fun k hk => by have := s.lt.2.2.2.2.1; have := hk.1; show k ≠ gC; omega) _,
  Kd.R_far ho (fun k hk => by have := s.lt.2.2.2.2.1; have : H0 ≤ k := hk; show k ≠ gC; omega) _,
  below_set (h.hB.grown hg h.hB.size (fun k hk => Nat.le_trans (by have := s.lt.2.2.2.2.1; have := s.ge.1; omega) (h.rF.1 k hk))) s.ge.1, by rw [World.size_setCell]; exact Nat.le_trans h.hs hg.size⟩
theorem SS.setM (h : SS w0 W H0 bt bs bc bf gC A0 c0 l t vP P vF F m) (s : SSt w0 H0 bt bs bc bf gC L) (m1 : Int) : SS w0 (W.setCell ⟨gC, 3, none⟩ (.int .i64 m1)) H0 bt bs bc bf gC A0 c0 l t vP P vF F m1 :=
 ⟨blk_far h.hbt s.gne.1 _, blk_far h.hbs s.gne.2.1 _, blk_far h.hbc s.gne.2.2.1 _, blk_far h.hbf s.gne.2.2.2 _,
  blk_put h.hgC 3 _ rfl, Kd.R_far h.rP (fun k hk => by have := s.lt.2.2.2.2.1; have := hk.1; show k ≠ gC; omega) _,
  Kd.R_far h.rF (fun k hk => by have := s.lt.2.2.2.2.1; have : H0 ≤ k := hk; show k ≠ gC; omega) _, below_set h.hB s.ge.1, by rw [World.size_setCell]; exact h.hs⟩
/-- The list that is searched on. -/
def LL (W : World) (L : Nat) (xs : List Int) : Prop := Kd.R (Kd.int .i64) 2 W 0 (fun k => k = L) (.slice (some ⟨L, 0, none⟩) xs.length 3) xs
theorem LL.below {xs : List Int} (h : LL W L xs) (hb : Below W.heap.size W w1) : LL w1 L xs := Kd.R_below h hb
theorem LL.grown {xs : List Int} (h : LL W L xs) {v : Value} (hg : W.grownBy w1 v.ownBlock) (hne : some L ≠ v.ownBlock) : LL w1 L xs := Kd.R_grown h hg (fun k hk => by have : k = L := hk; subst this; exact hne)
theorem LL.far {xs : List Int} (h : LL W L xs) {i : Nat} (hne : gC ≠ L) (u : Value) : LL (W.setCell ⟨gC, i, none⟩ u) L xs := Kd.R_far h (fun k hk => by have : k = L := hk; show k ≠ gC; omega) u
end

set_option maxHeartbeats 8000000 in
set_option maxRecDepth 100000 in
theorem search_end (w0 W : World) (H0 bt bs bc bf gC L : Nat) (A0 : Option Addr) (c0 : Nat) (l : List Int) (vP : Value) (P : List (List Int)) (vF : Value) (F : List Int) (m : Int) (xs : List Int)
  (s : SSt w0 H0 bt bs bc bf gC L) (h : SS w0 W H0 bt bs bc bf gC A0 c0 l xs.length vP P vF F m) (hC : Kd.C (Kd.int .i64) w0 A0 l.length l) (hL : LL W L xs)
  (hl : Sz l) (hp : Pl l xs) (hP : P.length ≤ 1000) (hF : F.length = P.length) (hm : 0 ≤ m ∧ m ≤ 100000) :
  Calls Try.prog 169 #[.slice (some ⟨L, 0, none⟩) xs.length 3, .pointer (some ⟨bt, 0, none⟩), .pointer (some ⟨bs, 0, none⟩), .pointer (some ⟨bc, 0, none⟩), .pointer (some ⟨bf, 0, none⟩)] W fun e W' => e = .returned (.tuple #[]) ∧ ∃ vP' vF', SS w0 W' H0 bt bs bc bf gC A0 c0 l xs.length vP' (P ++ [xs]) vF' (F ++ [m]) (m + szp l xs) ∧ LL W' L xs := by
 obtain ⟨AP, cP, rfl⟩ := Kd.R_slice h.rP
 obtain ⟨AF, cF, rfl⟩ := Kd.R_slice h.rF
 have hzt : W.cell? ⟨bt, 0, none⟩ = some (.int .i64 xs.length) := (blk_cell h.hbt 0).trans rfl
 have hzs : W.cell? ⟨bs, 0, none⟩ = some (.slice A0 l.length c0) := (blk_cell h.hbs 0).trans rfl
 have HS := Aside0.mk s
 have HH := Aside0.mk h
 have HC := Aside0.mk hC
 have HL := Aside0.mk hL
 have HSZ := Aside0.mk hl
 have HPL := Aside0.mk hp
 have HFP := Aside0.mk hF
 obtain ⟨hm0, hm1⟩ := hm
 have hx3 : xs.length ≤ 3 := hp.1
 have hu28 := Try.underlying28
 have hu92 := Try.underlying92
 clear s h hC hL hl hp hF
 go_enter Try.func169, Try.ntmps169
 go_wp2
 go_loop [6, 18] (fun v6 v18 => ∃ j : Int, 0 ≤ j ∧ j ≤ xs.length ∧ v18 = .int .i64 j ∧ v6 = .int .i64 (szp l (xs.take j.toNat))) (fun _ v => (xs.length - intOf v).toNat)
 case atStart => exact ⟨0, by omega, by omega, rfl, rfl⟩
 case round =>
  obtain ⟨j, hj0, hj1, rfl, rfl⟩ := hrel
  obtain ⟨hv0, hv1⟩ := szp_range HSZ.out HPL.out j.toNat
  by_cases hjl : j < (xs.length : Int)
  ·obtain ⟨ad3, hade, hx3⟩ := Kd.at_int (Kd.R_reads' (show Kd.R (Kd.int .i64) 2 W 0 (fun k => k = L) (.slice (some ⟨L, 0, none⟩) xs.length 3) xs from HL.out)).2.2 j hj0 hjl
   cases hade
   have hx3' : W.cell? ⟨L, j.toNat, none⟩ = some (.int .i64 (rd xs j)) := by rw [← add_plain]; exact hx3
   clear hx3
   obtain ⟨he0, he1⟩ := HPL.out.2 _ (at_mem xs j hj0 hjl)
   have hstep : szp l (xs.take (j + 1).toNat) = szp l (xs.take j.toNat) * rd l (rd xs j) := by
    rw [take_snoc xs j hj0 hjl, szp_snoc]; rfl
   have HST := Aside0.mk hstep
   clear hstep
   obtain ⟨e, he⟩ : ∃ e : Int, e = rd xs j := ⟨_, rfl⟩
   have he0' : 0 ≤ e := by rw [he]; exact he0
   have he1' : e < (l.length : Int) := by rw [he]; exact he1
   rw [← he] at hx3' HST
   clear he he0 he1
   have hq := HSZ.out.at e.toNat (by omega)
   rw [← at_getD l e (by omega) 1] at hq
   obtain ⟨hq0, hq1⟩ : 2 ≤ rd l e ∧ rd l e ≤ 4 := hq
   obtain ⟨ad4, rfl, hx4⟩ := Kd.at_int HC.out e he0' he1'
   replace hx4 := (HH.out.hB.cell (World.block_lt_of_cell? w0 _ hx4)).trans hx4
   obtain ⟨vv, hvv⟩ : ∃ vv : Int, vv = szp l (xs.take j.toNat) := ⟨_, rfl⟩
   rw [← hvv] at hv0 hv1 HST ⊢
   clear hvv
   have hm1 : vv * rd l e ≤ vv * 4 := Int.mul_le_mul_of_nonneg_left hq1 (by omega)
   have hm0 : 0 ≤ vv * rd l e := Int.mul_nonneg (by omega) (by omega)
   go_wp2
   go_round
   case measure => simp [intOf]; omega
   case rel => exact ⟨j + 1, by omega, by omega, by first | rfl | (simp; done), by rw [HST.out]⟩
  ·have HT : xs.take j.toNat = xs := by rw [show j = (xs.length : Int) by omega]; exact take_all xs
   rw [HT] at hv0 hv1 ⊢
   clear HT
   obtain ⟨vv, hvv⟩ : ∃ vv : Int, vv = szp l xs := ⟨_, rfl⟩
   rw [← hvv] at hv0 hv1 ⊢
   have HVV := Aside0.mk hvv
   clear hvv hzt hzs
   have hcc : W.cell? ⟨bc, 0, none⟩ = some (.pointer (some ⟨gC, 0, none⟩)) := (blk_cell HH.out.hbc 0).trans rfl
   have hcP : W.cell? ⟨gC, 1, none⟩ = some (.slice AP P.length cP) := (blk_cell HH.out.hgC 1).trans rfl
   have lcc := World.block_lt_of_cell? W _ hcc
   have lcP := World.block_lt_of_cell? W _ hcP
   have HCL : Aside0 (slices_Clone_int64_int64.f xs = some xs) := ⟨by unfold slices_Clone_int64_int64.f; rw [if_pos (by omega)]⟩
   have HLC := Aside0.mk (Kd.R_reads' (show Kd.R (Kd.int .i64) 2 W 0 (fun k => k = L) (.slice (some ⟨L, 0, none⟩) xs.length 3) xs from HL.out)).2.2
   have HI3 : Aside0 (xs.length ≤ 3) := ⟨by omega⟩
   go_wp2
   refine start_ (n := 12) (S := fun w' => w'.cell? ⟨bc, 0, none⟩ = some (.pointer (some ⟨gC, 0, none⟩)) ∧ w'.cell? ⟨gC, 1, none⟩ = some (.slice AP P.length cP)) (ds := [11]) #[false, false, false, false, false, false, false, false, false, false, false, false] (by kernel_rfl) rfl rfl ⟨hcc, hcP⟩ (fun hHeld => ?_)
   refine pure_ (i := 5) (N := some 35) (v := ?_) (a' := ?_) #[false, false, false, false, false, true, false, false, false, false, false, false] rfl rfl (by kernel_rfl) (fun _ _ _ h => h) (Or.inl ⟨by rfl, ?_⟩) ?_ ?_
   rotate_left
   ·intro w'
    go_simp
    with_reducible rfl
   rotate_left
   ·simp only [Act.put, List.setIfInBounds_toArray, List.set_cons_zero, List.set_cons_succ, i64_w, i32_w]
    rfl
   refine take_ (i := 0) (N := some 30) (v := ?_) (a' := ?_) #[true, false, false, false, false, true, false, false, false, false, false, false] rfl rfl (by kernel_rfl) (fun _ _ _ h => h) (Or.inl ⟨by rfl, ?_⟩) hHeld ?_ ?_
   rotate_left
   ·rintro w' ⟨s0, s1⟩
    go_simp
    with_reducible rfl
   rotate_left
   ·simp only [Act.put, List.setIfInBounds_toArray, List.set_cons_zero, List.set_cons_succ, i64_w, i32_w]
    rfl
   refine take_ (i := 1) (N := some 31) (v := ?_) (a' := ?_) #[true, true, false, false, false, true, false, false, false, false, false, false] rfl rfl (by kernel_rfl) (fun _ _ _ h => h) (Or.inl ⟨by rfl, ?_⟩) hHeld ?_ ?_
   rotate_left
   ·rintro w' ⟨s0, s1⟩
    go_simp
    with_reducible rfl
   rotate_left
   ·simp only [Act.put, List.setIfInBounds_toArray, List.set_cons_zero, List.set_cons_succ, i64_w, i32_w]
    rfl
   refine pure_ (i := 2) (N := some 32) (v := ?_) (a' := ?_) #[true, true, true, false, false, true, false, false, false, false, false, false] rfl rfl (by kernel_rfl) (fun _ _ _ h => h) (Or.inl ⟨by rfl, ?_⟩) ?_ ?_
   rotate_left
   ·intro w'
    go_simp
    with_reducible rfl
   rotate_left
   ·simp only [Act.put, List.setIfInBounds_toArray, List.set_cons_zero, List.set_cons_succ, i64_w, i32_w]
    rfl
   refine pure_ (i := 3) (N := some 33) (v := ?_) (a' := ?_) #[true, true, true, true, false, true, false, false, false, false, false, false] rfl rfl (by kernel_rfl) (fun _ _ _ h => h) (Or.inl ⟨by rfl, ?_⟩) ?_ ?_
   rotate_left
   ·intro w'
    go_simp
    with_reducible rfl
   rotate_left
   ·simp only [Act.put, List.setIfInBounds_toArray, List.set_cons_zero, List.set_cons_succ, i64_w, i32_w]
    rfl
   refine take_ (i := 4) (N := some 34) (v := ?_) (a' := ?_) #[true, true, true, true, true, true, false, false, false, false, false, false] rfl rfl (by kernel_rfl) (fun _ _ _ h => h) (Or.inl ⟨by rfl, ?_⟩) hHeld ?_ ?_
   rotate_left
   ·rintro w' ⟨s0, s1⟩
    go_simp
    with_reducible rfl
   rotate_left
   ·simp only [Act.put, List.setIfInBounds_toArray, List.set_cons_zero, List.set_cons_succ, i64_w, i32_w]
    rfl
   refine one_ (i := 6) (N := some 36) #[true, true, true, true, true, true, true, false, false, false, false, false] rfl rfl (by kernel_rfl) (by decide) (fun K hK => ?_)
   refine goes_ Try.func109 (by kernel_rfl) rfl #[.slice (some ⟨L, 0, none⟩) xs.length 3] (by rfl) rfl rfl (by simp only [List.map_toArray, List.map_cons, List.map_nil]; rfl) ?_
   with_reducible refine (slices_Clone_int64_int64.calls (some ⟨L, 0, none⟩) 3 xs xs _ (Kd.C_drew HLC.out) HI3.out HCL.out).mono ?_
   rintro e w2 ⟨vc, rfl, hoc, hbc⟩
   refine ⟨_, rfl, ?_⟩
   obtain ⟨Ac, cc, rfl⟩ := Kd.R_slice hoc
   have HOC := Aside0.mk hoc
   have HBC := Aside0.mk hbc
   have hk1 : w2.cell? ⟨bc, 0, none⟩ = some (.pointer (some ⟨gC, 0, none⟩)) := (hbc.cell lcc).trans hcc
   have hk2 : w2.cell? ⟨gC, 1, none⟩ = some (.slice AP P.length cP) := (hbc.cell lcP).trans hcP
   clear hoc hbc
   refine hK.out _ _ ⟨hk1, hk2⟩ (fun hHeld => ?_)
   clear hK K
   refine norm_ (a' := ?_) ?_ ?_
   rotate_left
   ·show Act.put _ (some 36) _ = _
    simp only [Act.put, List.setIfInBounds_toArray, List.set_cons_zero, List.set_cons_succ, i64_w, i32_w]
    rfl
   refine one_ (i := 7) (N := some 37) #[true, true, true, true, true, true, true, true, false, false, false, false] rfl rfl (by kernel_rfl) (by decide) (fun K hK => ?_)
   refine value_ (w1 := ?_) (v := ?_) (by rfl) rfl ?_ ?_
   rotate_left 2
   ·go_simp
    constructor
    ·rfl
    ·rfl
   refine hK.out _ _ ⟨(World.cell?_alloc_lt _ _ _ (World.block_lt_of_cell? _ _ hk1)).trans hk1, (World.cell?_alloc_lt _ _ _ (World.block_lt_of_cell? _ _ hk2)).trans hk2⟩ (fun hHeld => ?_)
   clear hK K
   refine norm_ (a' := ?_) ?_ ?_
   rotate_left
   ·show Act.put _ (some 37) _ = _
    simp only [Act.put, List.setIfInBounds_toArray, List.set_cons_zero, List.set_cons_succ, i64_w, i32_w]
    rfl
   refine one_ (i := 8) (N := some 38) #[true, true, true, true, true, true, true, true, true, false, false, false] rfl rfl (by kernel_rfl) (by decide) (fun K hK => ?_)
   have HH2 := Aside0.mk (HH.out.below (below_drew (Below.refl _ _)) |>.below HBC.out)
   refine Kd.R_append_step (Kd.slice 2 (Kd.int .i64)) (w0 := w0) w0.heap.size (by rfl) (.tmp 34) (.tmp 37) 42 22 (.slice none 0 0) 24 rfl Try.underlying42 info22 rfl (by decide) (by omega) (.slice AP P.length cP) P xs [.slice Ac xs.length cc] (fun k => H0 ≤ k ∧ some k ≠ (.slice AF F.length cF : Value).ownBlock) (fun k => H0 ≤ k ∧ some k ≠ (.slice AF F.length cF : Value).ownBlock ∧ some k ≠ (.slice AP P.length cP : Value).ownBlock) (by rfl) (by rfl) ?aP (fun k hk => ⟨⟨hk.1, hk.2.1⟩, hk.2.2⟩) ?aF HH2.out.rP HH2.out.hB HH2.out.hB.size (by omega) ?_
   case aP => exact Kd.M_row (Kd.R_mono (Kd.R_lower (Kd.R_bound HOC.out) HH.out.hB.size) (fun k hk => ⟨Nat.le_trans HH.out.hs hk.2.1, fun e => Nat.lt_irrefl _ (Nat.lt_of_lt_of_le (Kd.R_lt HH.out.rF k e.symm) hk.2.1), fun e => Nat.lt_irrefl _ (Nat.lt_of_lt_of_le (Kd.R_lt HH.out.rP k e.symm) hk.2.1)⟩))
   case aF => exact fun k hk => ⟨Nat.le_trans HH2.out.hs hk, fun e => Nat.lt_irrefl _ (Nat.lt_of_lt_of_le (Kd.R_lt HH2.out.rF k e.symm) hk)⟩
   intro v1 w3 ho_ hb_ hg_ hat_
   obtain ⟨A1, c1, rfl⟩ := Kd.R_slice ho_
   have HO1 := Aside0.mk ho_
   have HB1 := Aside0.mk hb_
   have HG1 := Aside0.mk hg_
   have HAT1 := Aside0.mk hat_
   clear ho_ hb_ hg_ hat_
   have hk3 : w3.cell? ⟨bc, 0, none⟩ = some (.pointer (some ⟨gC, 0, none⟩)) := (blk_cell (blk_grown HH2.out.hbc HG1.out (Kd.R_ne HH2.out.rP HH2.out.hbc (by decide))) 0).trans rfl
   have hgC3 := blk_grown HH2.out.hgC HG1.out (Kd.R_ne HH2.out.rP HH2.out.hgC (by decide))
   have hk4 : w3.cell? ⟨gC, 1, none⟩ = some (.slice AP P.length cP) := (blk_cell hgC3 1).trans rfl
   have hfz : w3.frozen? ⟨gC, 1, none⟩ = false := blk_frozen hgC3 1
   refine hK.out _ _ ⟨hk3, hk4⟩ (fun hHeld => ?_)
   clear hK K
   refine norm_ (a' := ?_) ?_ ?_
   rotate_left
   ·show Act.put _ (some 38) _ = _
    simp only [Act.put, List.setIfInBounds_toArray, List.set_cons_zero, List.set_cons_succ, i64_w, i32_w]
    rfl
   refine pure_ (i := 9) (N := some 39) (v := ?_) (a' := ?_) #[true, true, true, true, true, true, true, true, true, true, false, false] rfl rfl (by kernel_rfl) (fun _ _ _ h => h) (Or.inl ⟨by rfl, ?_⟩) ?_ ?_
   rotate_left
   ·intro w'
    go_simp
    with_reducible rfl
   rotate_left
   ·simp only [Act.put, List.setIfInBounds_toArray, List.set_cons_zero, List.set_cons_succ, i64_w, i32_w]
    rfl
   refine pure_ (i := 10) (N := some 40) (v := ?_) (a' := ?_) #[true, true, true, true, true, true, true, true, true, true, true, false] rfl rfl (by kernel_rfl) (fun _ _ _ h => h) (Or.inl ⟨by rfl, ?_⟩) ?_ ?_
   rotate_left
   ·intro w'
    go_simp
    with_reducible rfl
   rotate_left
   ·simp only [Act.put, List.setIfInBounds_toArray, List.set_cons_zero, List.set_cons_succ, i64_w, i32_w]
    rfl
   refine last_ (i := 11) (N := none) #[true, true, true, true, true, true, true, true, true, true, true, true] rfl rfl (by kernel_rfl) (by decide) (fun K hK => ?_)
   refine skip_ (w1 := ?_) (by rfl) rfl ?_ ?_
   rotate_left
   ·go_simp
    rfl
   refine hK.out _ _ ?_
   clear hK K
   refine done_ (by kernel_rfl) ?_
   have HH4 := Aside0.mk (HH2.out.setP HS.out HG1.out HO1.out)
   have HL4 := Aside0.mk (((HL.out.below (below_drew (Below.refl _ _))).below HBC.out).grown HG1.out (HH2.out.neP HS.out.lt.2.2.2.2.2) |>.far HS.out.lne.2.2.2.2 (i := 1) (.slice A1 (P ++ [xs]).length c1))
   have hw4' : (w3.setCell ⟨gC, 1, none⟩ (.slice A1 (P.length + 1) c1)) = (w3.setCell ⟨gC, 1, none⟩ (.slice A1 (P ++ [xs]).length c1)) := by simp
   obtain ⟨w4, hw4⟩ : ∃ w4, w4 = w3.setCell ⟨gC, 1, none⟩ (.slice A1 (P ++ [xs]).length c1) := ⟨_, rfl⟩
   rw [hw4', ← hw4]
   rw [← hw4] at HH4 HL4
   clear hw4 hw4' hk1 hk2 hk3 hk4 hfz hgC3 HO1 HB1 HG1 HAT1 HH2 HOC HBC hcc hcP lcc lcP HH HL HLC HCL
   have hcc : w4.cell? ⟨bc, 0, none⟩ = some (.pointer (some ⟨gC, 0, none⟩)) := (blk_cell HH4.out.hbc 0).trans rfl
   have hcF : w4.cell? ⟨gC, 2, none⟩ = some (.slice AF F.length cF) := (blk_cell HH4.out.hgC 2).trans rfl
   have hcm : w4.cell? ⟨gC, 3, none⟩ = some (.int .i64 m) := (blk_cell HH4.out.hgC 3).trans rfl
   go_wp2
   refine start_ (n := 14) (S := fun w' => w'.cell? ⟨bc, 0, none⟩ = some (.pointer (some ⟨gC, 0, none⟩)) ∧ w'.cell? ⟨gC, 2, none⟩ = some (.slice AF F.length cF) ∧ w'.cell? ⟨gC, 3, none⟩ = some (.int .i64 m)) (ds := [13]) #[false, false, false, false, false, false, false, false, false, false, false, false, false, false] (by kernel_rfl) rfl rfl ⟨hcc, hcF, hcm⟩ (fun hHeld => ?_)
   refine take_ (i := 0) (N := some 41) (v := ?_) (a' := ?_) #[true, false, false, false, false, false, false, false, false, false, false, false, false, false] rfl rfl (by kernel_rfl) (fun _ _ _ h => h) (Or.inl ⟨by rfl, ?_⟩) hHeld ?_ ?_
   rotate_left
   ·rintro w' ⟨s0, s1, s2⟩
    go_simp
    with_reducible rfl
   rotate_left
   ·simp only [Act.put, List.setIfInBounds_toArray, List.set_cons_zero, List.set_cons_succ, i64_w, i32_w]
    rfl
   refine take_ (i := 1) (N := some 42) (v := ?_) (a' := ?_) #[true, true, false, false, false, false, false, false, false, false, false, false, false, false] rfl rfl (by kernel_rfl) (fun _ _ _ h => h) (Or.inl ⟨by rfl, ?_⟩) hHeld ?_ ?_
   rotate_left
   ·rintro w' ⟨s0, s1, s2⟩
    go_simp
    with_reducible rfl
   rotate_left
   ·simp only [Act.put, List.setIfInBounds_toArray, List.set_cons_zero, List.set_cons_succ, i64_w, i32_w]
    rfl
   refine pure_ (i := 2) (N := some 43) (v := ?_) (a' := ?_) #[true, true, true, false, false, false, false, false, false, false, false, false, false, false] rfl rfl (by kernel_rfl) (fun _ _ _ h => h) (Or.inl ⟨by rfl, ?_⟩) ?_ ?_
   rotate_left
   ·intro w'
    go_simp
    with_reducible rfl
   rotate_left
   ·simp only [Act.put, List.setIfInBounds_toArray, List.set_cons_zero, List.set_cons_succ, i64_w, i32_w]
    rfl
   refine pure_ (i := 3) (N := some 44) (v := ?_) (a' := ?_) #[true, true, true, true, false, false, false, false, false, false, false, false, false, false] rfl rfl (by kernel_rfl) (fun _ _ _ h => h) (Or.inl ⟨by rfl, ?_⟩) ?_ ?_
   rotate_left
   ·intro w'
    go_simp
    with_reducible rfl
   rotate_left
   ·simp only [Act.put, List.setIfInBounds_toArray, List.set_cons_zero, List.set_cons_succ, i64_w, i32_w]
    rfl
   refine take_ (i := 4) (N := some 45) (v := ?_) (a' := ?_) #[true, true, true, true, true, false, false, false, false, false, false, false, false, false] rfl rfl (by kernel_rfl) (fun _ _ _ h => h) (Or.inl ⟨by rfl, ?_⟩) hHeld ?_ ?_
   rotate_left
   ·rintro w' ⟨s0, s1, s2⟩
    go_simp
    with_reducible rfl
   rotate_left
   ·simp only [Act.put, List.setIfInBounds_toArray, List.set_cons_zero, List.set_cons_succ, i64_w, i32_w]
    rfl
   refine take_ (i := 5) (N := some 46) (v := ?_) (a' := ?_) #[true, true, true, true, true, true, false, false, false, false, false, false, false, false] rfl rfl (by kernel_rfl) (fun _ _ _ h => h) (Or.inl ⟨by rfl, ?_⟩) hHeld ?_ ?_
   rotate_left
   ·rintro w' ⟨s0, s1, s2⟩
    go_simp
    with_reducible rfl
   rotate_left
   ·simp only [Act.put, List.setIfInBounds_toArray, List.set_cons_zero, List.set_cons_succ, i64_w, i32_w]
    rfl
   refine pure_ (i := 6) (N := some 47) (v := ?_) (a' := ?_) #[true, true, true, true, true, true, true, false, false, false, false, false, false, false] rfl rfl (by kernel_rfl) (fun _ _ _ h => h) (Or.inl ⟨by rfl, ?_⟩) ?_ ?_
   rotate_left
   ·intro w'
    go_simp
    with_reducible rfl
   rotate_left
   ·simp only [Act.put, List.setIfInBounds_toArray, List.set_cons_zero, List.set_cons_succ, i64_w, i32_w]
    rfl
   refine pure_ (i := 7) (N := some 48) (v := ?_) (a' := ?_) #[true, true, true, true, true, true, true, true, false, false, false, false, false, false] rfl rfl (by kernel_rfl) (fun _ _ _ h => h) (Or.inl ⟨by rfl, ?_⟩) ?_ ?_
   rotate_left
   ·intro w'
    go_simp
    with_reducible rfl
   rotate_left
   ·simp only [Act.put, List.setIfInBounds_toArray, List.set_cons_zero, List.set_cons_succ, i64_w, i32_w]
    rfl
   refine take_ (i := 8) (N := some 49) (v := ?_) (a' := ?_) #[true, true, true, true, true, true, true, true, true, false, false, false, false, false] rfl rfl (by kernel_rfl) (fun _ _ _ h => h) (Or.inl ⟨by rfl, ?_⟩) hHeld ?_ ?_
   rotate_left
   ·rintro w' ⟨s0, s1, s2⟩
    go_simp
    with_reducible rfl
   rotate_left
   ·simp only [Act.put, List.setIfInBounds_toArray, List.set_cons_zero, List.set_cons_succ, i64_w, i32_w]
    rfl
   refine one_ (i := 9) (N := some 50) #[true, true, true, true, true, true, true, true, true, true, false, false, false, false] rfl rfl (by kernel_rfl) (by decide) (fun K hK => ?_)
   refine value_ (w1 := ?_) (v := ?_) (by rfl) rfl ?_ ?_
   rotate_left 2
   ·go_simp
    constructor
    ·rfl
    ·rfl
   refine hK.out _ _ ⟨(World.cell?_alloc_lt _ _ _ (World.block_lt_of_cell? _ _ (hcc))).trans (hcc), (World.cell?_alloc_lt _ _ _ (World.block_lt_of_cell? _ _ (hcF))).trans (hcF), (World.cell?_alloc_lt _ _ _ (World.block_lt_of_cell? _ _ (hcm))).trans (hcm)⟩ (fun hHeld => ?_)
   clear hK K
   refine norm_ (a' := ?_) ?_ ?_
   rotate_left
   ·show Act.put _ (some 50) _ = _
    simp only [Act.put, List.setIfInBounds_toArray, List.set_cons_zero, List.set_cons_succ, i64_w, i32_w]
    rfl
   refine one_ (i := 10) (N := some 51) #[true, true, true, true, true, true, true, true, true, true, true, false, false, false] rfl rfl (by kernel_rfl) (by decide) (fun K hK => ?_)
   have HH5 := Aside0.mk (HH4.out.below (below_drew (Below.refl _ _)))
   refine Kd.R_append_step (Kd.int .i64) (w0 := w0) w0.heap.size (by rfl) (.tmp 45) (.tmp 50) 22 2 (.int .i64 0) 8 rfl Try.underlying22 info2 rfl (by decide) (by omega) (.slice AF F.length cF) F m [.int .i64 m] (fun k => H0 ≤ k) (fun _ => False) (by rfl) (by rfl) ?aP (fun k hk => hk.elim) ?aF HH5.out.rF HH5.out.hB HH5.out.hB.size (by have := HFP.out; omega) ?_
   case aP => exact rfl
   case aF => exact fun k hk => Nat.le_trans HH5.out.hs hk
   intro v6 w6 ho_ hb_ hg_ hat_
   obtain ⟨A6, c6, rfl⟩ := Kd.R_slice ho_
   have HO6 := Aside0.mk ho_
   have HB6 := Aside0.mk hb_
   have HG6 := Aside0.mk hg_
   have HAT6 := Aside0.mk hat_
   clear ho_ hb_ hg_ hat_
   have hk1 : w6.cell? ⟨bc, 0, none⟩ = some (.pointer (some ⟨gC, 0, none⟩)) := (blk_cell (blk_grown HH5.out.hbc HG6.out (HH5.out.neF HS.out.lt.2.2.1)) 0).trans rfl
   have hgC6 := blk_grown HH5.out.hgC HG6.out (HH5.out.neF HS.out.lt.2.2.2.2.1)
   have hk2 : w6.cell? ⟨gC, 2, none⟩ = some (.slice AF F.length cF) := (blk_cell hgC6 2).trans rfl
   have hk3 : w6.cell? ⟨gC, 3, none⟩ = some (.int .i64 m) := (blk_cell hgC6 3).trans rfl
   have hfz : w6.frozen? ⟨gC, 2, none⟩ = false := blk_frozen hgC6 2
   refine hK.out _ _ ⟨hk1, hk2, hk3⟩ (fun hHeld => ?_)
   clear hK K
   refine norm_ (a' := ?_) ?_ ?_
   rotate_left
   ·show Act.put _ (some 51) _ = _
    simp only [Act.put, List.setIfInBounds_toArray, List.set_cons_zero, List.set_cons_succ, i64_w, i32_w]
    rfl
   refine pure_ (i := 11) (N := some 52) (v := ?_) (a' := ?_) #[true, true, true, true, true, true, true, true, true, true, true, true, false, false] rfl rfl (by kernel_rfl) (fun _ _ _ h => h) (Or.inl ⟨by rfl, ?_⟩) ?_ ?_
   rotate_left
   ·intro w'
    go_simp
    with_reducible rfl
   rotate_left
   ·simp only [Act.put, List.setIfInBounds_toArray, List.set_cons_zero, List.set_cons_succ, i64_w, i32_w]
    rfl
   refine pure_ (i := 12) (N := some 53) (v := ?_) (a' := ?_) #[true, true, true, true, true, true, true, true, true, true, true, true, true, false] rfl rfl (by kernel_rfl) (fun _ _ _ h => h) (Or.inl ⟨by rfl, ?_⟩) ?_ ?_
   rotate_left
   ·intro w'
    go_simp
    with_reducible rfl
   rotate_left
   ·simp only [Act.put, List.setIfInBounds_toArray, List.set_cons_zero, List.set_cons_succ, i64_w, i32_w]
    rfl
   refine last_ (i := 13) (N := none) #[true, true, true, true, true, true, true, true, true, true, true, true, true, true] rfl rfl (by kernel_rfl) (by decide) (fun K hK => ?_)
   refine skip_ (w1 := ?_) (by rfl) rfl ?_ ?_
   rotate_left
   ·go_simp
    rfl
   refine hK.out _ _ ?_
   clear hK K
   refine done_ (by kernel_rfl) ?_
   have HH7 := Aside0.mk (HH5.out.setF HS.out HG6.out HAT6.out HO6.out)
   have HL7 := Aside0.mk (((HL4.out.below (below_drew (Below.refl _ _)))).grown HG6.out (HH5.out.neF HS.out.lt.2.2.2.2.2) |>.far HS.out.lne.2.2.2.2 (i := 2) (.slice A6 (F ++ [m]).length c6))
   have hw7' : (w6.setCell ⟨gC, 2, none⟩ (.slice A6 (F.length + 1) c6)) = (w6.setCell ⟨gC, 2, none⟩ (.slice A6 (F ++ [m]).length c6)) := by simp
   obtain ⟨w7, hw7⟩ : ∃ w7, w7 = w6.setCell ⟨gC, 2, none⟩ (.slice A6 (F ++ [m]).length c6) := ⟨_, rfl⟩
   rw [hw7', ← hw7]
   rw [← hw7] at HH7 HL7
   clear hw7 hw7' hk1 hk2 hk3 hfz hgC6 HO6 HB6 HG6 HAT6 HH5 hcc hcF hcm HH4 HL4
   have hcc : w7.cell? ⟨bc, 0, none⟩ = some (.pointer (some ⟨gC, 0, none⟩)) := (blk_cell HH7.out.hbc 0).trans rfl
   have hcm : w7.cell? ⟨gC, 3, none⟩ = some (.int .i64 m) := (blk_cell HH7.out.hgC 3).trans rfl
   have hfz : w7.frozen? ⟨gC, 3, none⟩ = false := blk_frozen HH7.out.hgC 3
   go_wp2
   first | go_end0 | refine bodyPost_ret (results_none rfl _ _ _) rfl ?_
   exact ⟨rfl, .slice A1 (P ++ [xs]).length c1, .slice A6 (F ++ [m]).length c6, by rw [← HVV.out]; exact HH7.out.setM HS.out _, HL7.out.far HS.out.lne.2.2.2.2 _⟩
theorem LL.pop {W : World} {L : Nat} {xs : List Int} {i : Int} (h : LL W L (xs ++ [i])) : LL W L xs := by
 have := Kd.R_take (m := xs.length) h (by simp)
 rwa [List.take_left'] at this
 rfl
theorem LL.own {W : World} {L : Nat} {xs : List Int} (h : LL W L xs) : ∃ cur : Array Value, W.heap[L]? = some (.cells cur 2 (0, 0)) ∧ cur.size = 3 ∧ cur.toList.take xs.length = xs.map (Value.int .i64) := by
 have ho := Kd.own_of_R h
 obtain ⟨h1, h2⟩ := ho
 rcases h2 with ⟨h2, _⟩ | ⟨g, cap, cur, he, _, hh, _, _, hs, ht⟩
 ·cases h2
 ·injection he with e1 e2 e3
  injection e1 with e1
  injection e1 with e1
  subst e1
  subst e3
  exact ⟨cur, hh, by simpa using hs, by simpa [encs] using ht⟩
theorem LL.of {W : World} {L : Nat} {xs : List Int} (cur : Array Value) (hh : W.heap[L]? = some (.cells cur 2 (0, 0))) (hs : cur.size = 3) (hl : xs.length ≤ 3) (ht : cur.toList.take xs.length = xs.map (Value.int .i64)) : LL W L xs := by
 refine Kd.R_of_own ⟨by simp [encs], .inr ⟨L, 3, cur, rfl, Nat.zero_le _, hh, hl, by unfold maxLen; omega, by simpa using hs, by simpa [encs] using ht⟩⟩ (fun k hk => ?_)
 have : L = k := by simpa [Value.ownBlock] using hk
 exact this.symm
theorem LL.push {W : World} {L : Nat} {xs : List Int} (h : LL W L xs) (hx : xs.length < 3) (i : Int) : LL (W.setCell ⟨L, xs.length, none⟩ (.int .i64 i)) L (xs ++ [i]) ∧ W.grownBy (W.setCell ⟨L, xs.length, none⟩ (.int .i64 i)) (some L) ∧ (W.cell? ⟨L, xs.length, none⟩).isSome = true ∧ W.frozen? ⟨L, xs.length, none⟩ = false := by
 obtain ⟨cur, hh, hs, ht⟩ := h.own
 refine ⟨LL.of (cur.setIfInBounds xs.length (.int .i64 i)) (blk_set hh _ _) (by simpa using hs) (by simp; omega) ?_, ⟨rfl, rfl, rfl, by simp, fun k hk hne => Below.heap_setCell W _ _ k (fun e => hne (by rw [e]))⟩, ?_, blk_frozen hh _⟩
 ·rw [Array.toList_setIfInBounds, List.length_append, List.map_append, ← ht]
  have hcl : cur.toList.length = 3 := by simpa using hs
  apply List.ext_getElem?
  intro k
  simp only [List.length_cons, List.length_nil, List.getElem?_take, List.getElem?_set, List.getElem?_append, List.length_take, List.map_cons, List.map_nil, Nat.zero_add]
  rw [Nat.min_eq_left (by omega : xs.length ≤ cur.toList.length)]
  by_cases h1 : k < xs.length
  ·rw [if_pos (by omega), if_neg (by omega), if_pos h1, if_pos h1]
  ·by_cases h2 : k = xs.length
   ·subst h2
    rw [if_pos (by omega), if_pos rfl, if_pos (by omega), if_neg (by omega), Nat.sub_self]; rfl
   ·rw [if_neg (by omega), if_neg h1]
    have : k - xs.length ≠ 0 := by omega
    cases hk : k - xs.length with
    | zero => omega
    | succ n => rfl
 ·rw [blk_cell hh]
  have : xs.length < cur.size := by omega
  simp [this]
/-- What the search leaves behind. -/
def Found (w0 W' : World) (H0 bt bs bc bf gC L : Nat) (A0 : Option Addr) (c0 : Nat) (l : List Int) (t : Nat) (P : List (List Int)) (F : List Int) (m : Int) (new : List (List Int)) (xs : List Int) : Prop :=
 ∃ vP' vF', SS w0 W' H0 bt bs bc bf gC A0 c0 l t vP' (P ++ new) vF' (F ++ offs l m new) (tot l m new) ∧ LL W' L xs ∧ 0 ≤ tot l m new ∧ tot l m new ≤ 64 * (P ++ new).length
def Start (w0 W : World) (H0 bt bs bc bf gC L : Nat) (A0 : Option Addr) (c0 : Nat) (l : List Int) (t : Nat) (P : List (List Int)) (F : List Int) (m : Int) (xs : List Int) : Prop :=
 ∃ vP vF, SS w0 W H0 bt bs bc bf gC A0 c0 l t vP P vF F m ∧ LL W L xs

set_option maxHeartbeats 8000000 in
set_option maxRecDepth 100000 in
theorem search_calls (w0 : World) (H0 bt bs bc bf gC L : Nat) (A0 : Option Addr) (c0 : Nat) (l : List Int) (t : Nat) (s : SSt w0 H0 bt bs bc bf gC L) (hC : Kd.C (Kd.int .i64) w0 A0 l.length l) (hc0 : l.length ≤ c0) (hl : Sz l) (hn8 : l.length ≤ 8) (ht : t ≤ 3) (d : Nat) :
  ∀ (n' : Nat) (xs : List Int) (W : World) (P : List (List Int)) (F : List Int) (m : Int), n' = xs.length → xs.length + d = t → Start w0 W H0 bt bs bc bf gC L A0 c0 l t P F m xs → (∀ i ∈ xs, 0 ≤ i ∧ i < l.length) → P.length + (ext l.length d xs).length ≤ 1000 → F.length = P.length → 0 ≤ m ∧ m ≤ 64 * P.length →
  Calls Try.prog 169 #[.slice (some ⟨L, 0, none⟩) n' 3, .pointer (some ⟨bt, 0, none⟩), .pointer (some ⟨bs, 0, none⟩), .pointer (some ⟨bc, 0, none⟩), .pointer (some ⟨bf, 0, none⟩)] W fun e W' => e = .returned (.tuple #[]) ∧ Found w0 W' H0 bt bs bc bf gC L A0 c0 l t P F m (ext l.length d xs) xs := by
 induction d with
 | zero =>
  intro n' xs W P F m hn' hd hst hp hP hF hm
  subst hn'
  obtain ⟨vP, vF, hss, hll⟩ := hst
  obtain rfl : t = xs.length := by omega
  have hP1 : P.length + 1 ≤ 1000 := hP
  refine (search_end w0 W H0 bt bs bc bf gC L A0 c0 l vP P vF F m xs s hss hC hll hl ⟨by omega, hp⟩ (by omega) hF ⟨hm.1, by omega⟩).mono ?_
  rintro e W' ⟨rfl, vP', vF', h1, h2⟩
  have h3 := szp_range hl (p := xs) ⟨by omega, hp⟩ xs.length
  rw [List.take_length] at h3
  refine ⟨rfl, vP', vF', h1, h2, ?_, ?_⟩
  ·show 0 ≤ m + szp l xs; omega
  ·show m + szp l xs ≤ 64 * ((P ++ [xs]).length : Int); rw [List.length_append, List.length_singleton]; omega
 | succ d ih =>
  intro n' xs W P F m hn' hd hst hp hP hF hm
  subst hn'
  obtain ⟨vP, vF, hss, hll⟩ := hst
  have hzt : W.cell? ⟨bt, 0, none⟩ = some (.int .i64 t) := (blk_cell hss.hbt 0).trans rfl
  have hne : ((xs.length : Int) == (t : Int)) = false := by simp; omega
  have hl3 : xs.length < 3 := by omega
  have HS := Aside0.mk s
  have HC := Aside0.mk hC
  have HC0 := Aside0.mk hc0
  have HSZ := Aside0.mk hl
  have HPL := Aside0.mk hp
  have HP := Aside0.mk hP
  have HF := Aside0.mk hF
  have HM := Aside0.mk hm
  have HIH := Aside0.mk ih
  have HD := Aside0.mk hd
  have HSS := Aside0.mk hss
  have HLL := Aside0.mk hll
  have hst1 : Found w0 W H0 bt bs bc bf gC L A0 c0 l t P F m [] xs := ⟨vP, vF, by rw [List.append_nil]; show SS w0 W H0 bt bs bc bf gC A0 c0 l t vP P vF (F ++ []) m; rw [List.append_nil]; exact hss, hll, hm.1, by rw [List.append_nil]; exact hm.2⟩
  have HSS0 := hst1
  obtain ⟨i0, hi0, hz0, hz1, hz2⟩ := info_parts info2
  have hnx : next xs ≤ l.length ∧ 0 ≤ next xs := by
   unfold next
   split
   ·omega
   ·have := hp _ (at_mem xs (xs.length - 1) (by omega) (by omega)); omega
  have HNX := Aside0.mk hnx
  have hlast : Aside0 (¬ xs.length = 0 → next xs = rd xs ((xs.length : Int) - 1) + 1) := ⟨fun h => by unfold next; rw [if_neg h]; rfl⟩
  have hfirst : Aside0 (xs.length = 0 → next xs = 0) := ⟨fun h => by unfold next; rw [if_pos h]⟩
  clear hC hc0 hl hp hP hF hm ih hd hss hll s hnx
  have hu28 := Try.underlying28
  have hcellL : Aside0 (∀ j : Int, 0 ≤ j → j < xs.length → W.cell? ⟨L, j.toNat, none⟩ = some (.int .i64 (rd xs j))) := ⟨fun j h0 h1 => by
   obtain ⟨ad3, hade, hx3⟩ := Kd.at_int (Kd.R_reads' (show Kd.R (Kd.int .i64) 2 W 0 (fun k => k = L) (.slice (some ⟨L, 0, none⟩) xs.length 3) xs from HLL.out)).2.2 j h0 h1
   cases hade
   rw [← add_plain]; exact hx3⟩
  go_enter Try.func169, Try.ntmps169
  rcases Nat.eq_zero_or_pos xs.length with hx0 | hx0
  ·have hge : decide ((0:Int) < (xs.length : Int)) = false := decide_eq_false (by omega)
   have hge2 : decide (0 < xs.length) = false := decide_eq_false (by omega)
   have hst0 := hfirst.out hx0
   have HS0 := Aside0.mk hst0
   have HX0 := Aside0.mk hx0
   clear hx0 hst0
   go_wp2
   go_loopw [11] (fun v11 W' => ∃ c : Nat, v11 = .int .i64 (next xs + c) ∧ next xs + c ≤ l.length ∧ Aside0 (Found w0 W' H0 bt bs bc bf gC L A0 c0 l t P F m (run (fun i => ext l.length d (xs ++ [i])) (next xs) c) xs)) (fun v _ => (l.length - intOf v).toNat)
   case atStart => exact ⟨0, by first | (rw [HS0.out]; rfl) | (rw [HS0.out]; simp), by have := HNX.out; omega, ⟨HSS0⟩⟩
   case round =>
    obtain ⟨c, rfl, hc1, HFO⟩ := hrel
    obtain ⟨vP', vF', hss, hll, hm0, hm1⟩ := HFO.out
    have hzs : wr.cell? ⟨bs, 0, none⟩ = some (.slice A0 l.length c0) := (blk_cell hss.hbs 0).trans rfl
    have hzf := (blk_cell hss.hbf 0).trans rfl
    have HS1 := Aside0.mk hss
    have HL1 := Aside0.mk hll
    clear HFO hss hll
    have HNXo := HNX.out
    by_cases hlt : next xs + (c : Int) < (l.length : Int)
    ·go_wp2_with (go_at_call 168; (with_reducible refine (impl_places.calls A0 c0 l _ _ (Kd.C_below HC.out HS1.out.hB) HC0.out rfl).mono ?_); rintro e w1 ⟨rfl, hb1⟩; have HB1 := Aside0.mk hb1; clear hb1)
     have HS2 := Aside0.mk (HS1.out.below HB1.out)
     have HL2 := Aside0.mk (HL1.out.below HB1.out)
     have HE1 : Aside0 (xs.length + 1 = (xs ++ [next xs + (c : Int)]).length) := ⟨by simp⟩
     have HE2 : Aside0 ((xs ++ [next xs + (c : Int)]).length + d = t) := ⟨by have := HD.out; simp; omega⟩
     have HE4 : Aside0 (∀ i ∈ xs ++ [next xs + (c : Int)], 0 ≤ i ∧ i < (l.length : Int)) := ⟨fun i hi => by
      rcases List.mem_append.1 hi with h | h
      ·exact HPL.out i h
      ·rw [List.mem_singleton.1 h]; omega⟩
     have hrl := run_length_le (fun i => ext l.length d (xs ++ [i])) (c + 1) ((l.length : Int) - next xs).toNat (next xs) (by omega)
     have hre : (run (fun i => ext l.length d (xs ++ [i])) (next xs) (c + 1)).length = (run (fun i => ext l.length d (xs ++ [i])) (next xs) c).length + (ext l.length d (xs ++ [next xs + (c : Int)])).length := by rw [run_snoc, List.length_append]
     have HE5 : Aside0 ((P ++ run (fun i => ext l.length d (xs ++ [i])) (next xs) c).length + (ext l.length d (xs ++ [next xs + (c : Int)])).length ≤ 1000) := ⟨by
      have h1 := HP.out
      have h2 : (ext l.length (d + 1) xs).length = (run (fun i => ext l.length d (xs ++ [i])) (next xs) ((l.length : Int) - next xs).toNat).length := rfl
      rw [List.length_append]; omega⟩
     have HE6 : Aside0 ((F ++ offs l m (run (fun i => ext l.length d (xs ++ [i])) (next xs) c)).length = (P ++ run (fun i => ext l.length d (xs ++ [i])) (next xs) c).length) := ⟨by have := HF.out; rw [List.length_append, List.length_append, offs_length]; omega⟩
     clear hrl hre
     have hcf : w1.cell? ⟨bf, 0, none⟩ = some (.func (.func 169) #[] #[.pointer (some ⟨bt, 0, none⟩), .pointer (some ⟨bs, 0, none⟩), .pointer (some ⟨bc, 0, none⟩), .pointer (some ⟨bf, 0, none⟩)]) := (blk_cell HS2.out.hbf 0).trans rfl
     refine start_ (n := 6) (S := fun w' => w'.cell? ⟨bf, 0, none⟩ = some (.func (.func 169) #[] #[.pointer (some ⟨bt, 0, none⟩), .pointer (some ⟨bs, 0, none⟩), .pointer (some ⟨bc, 0, none⟩), .pointer (some ⟨bf, 0, none⟩)])) (ds := []) #[false, false, false, false, false, false] (by kernel_rfl) rfl rfl (hcf) (fun hHeld => ?_)
     refine pure_ (i := 1) (N := some 80) (v := ?_) (a' := ?_) #[false, true, false, false, false, false] rfl rfl (by kernel_rfl) (fun _ _ _ h => h) (Or.inl ⟨by rfl, ?_⟩) ?_ ?_
     rotate_left
     ·intro w'
      go_simp
      with_reducible rfl
     rotate_left
     ·simp only [Act.put, List.setIfInBounds_toArray, List.set_cons_zero, List.set_cons_succ, i64_w, i32_w]
      rfl
     refine pure_ (i := 2) (N := some 81) (v := ?_) (a' := ?_) #[false, true, true, false, false, false] rfl rfl (by kernel_rfl) (fun _ _ _ h => h) (Or.inl ⟨by rfl, ?_⟩) ?_ ?_
     rotate_left
     ·intro w'
      go_simp
      with_reducible rfl
     rotate_left
     ·simp only [Act.put, List.setIfInBounds_toArray, List.set_cons_zero, List.set_cons_succ, i64_w, i32_w]
      rfl
     refine take_ (i := 0) (N := some 79) (v := ?_) (a' := ?_) #[true, true, true, false, false, false] rfl rfl (by kernel_rfl) (fun _ _ _ h => h) (Or.inl ⟨by rfl, ?_⟩) hHeld ?_ ?_
     rotate_left
     ·intro w' s0
      go_simp
      with_reducible rfl
     rotate_left
     ·simp only [Act.put, List.setIfInBounds_toArray, List.set_cons_zero, List.set_cons_succ, i64_w, i32_w]
      rfl
     refine one_ (i := 3) (N := some 82) #[true, true, true, true, false, false] rfl rfl (by kernel_rfl) (by decide) (fun K hK => ?_)
     refine value_ (w1 := ?_) (v := ?_) (by rfl) rfl ?_ ?_
     rotate_left 2
     ·go_simp
      constructor
      ·rfl
      ·rfl
     refine hK.out _ _ ((World.cell?_alloc_lt _ _ _ (World.block_lt_of_cell? _ _ (hcf))).trans (hcf)) (fun hHeld => ?_)
     clear hK K
     refine norm_ (a' := ?_) ?_ ?_
     rotate_left
     ·show Act.put _ (some 82) _ = _
      simp only [Act.put, List.setIfInBounds_toArray, List.set_cons_zero, List.set_cons_succ, i64_w, i32_w]
      rfl
     refine one_ (i := 4) (N := some 83) #[true, true, true, true, true, false] rfl rfl (by kernel_rfl) (by decide) (fun K hK => ?_)
     have HS3 := Aside0.mk (HS2.out.below (below_drew (below_alloc (Below.refl _ _) (.cells #[.int .i64 (next xs + (c : Int))] 2))))
     have HL3 := Aside0.mk (HL2.out.below (below_drew (below_alloc (Below.refl _ _) (.cells #[.int .i64 (next xs + (c : Int))] 2))))
     have HPU := Aside0.mk (HL3.out.push hl3 (next xs + (c : Int)))
     refine step_append_room (by rfl) (.tmp 80) (.tmp 82) 22 (by rfl) 2 i0 1 Try.underlying22 hi0 hz1 L 0 xs.length 3 (by rfl) ⟨w1.heap.size, 0, none⟩ 1 1 [.int .i64 (next xs + (c : Int))] (by rfl) rfl (World.news_of_block (cs := #[.int .i64 (next xs + (c : Int))]) (t := 2) (fr := (0, 0)) (heap_alloc_new w1 _)) (by simp [Value.oneCell']) (by omega) (fun j hj => by have h0 : j = 0 := Nat.lt_one_iff.1 hj; subst h0; rw [show 0 + xs.length * 1 + 0 = xs.length by omega]; exact ⟨HPU.out.2.2.1, HPU.out.2.2.2⟩) ?_
     rw [show ∀ W : World, W.setCells L (0 + xs.length * 1) [.int .i64 (next xs + (c : Int))] = W.setCell ⟨L, xs.length, none⟩ (.int .i64 (next xs + (c : Int))) from fun W => by rw [show 0 + xs.length * 1 = xs.length by omega]; rfl]
     have HS5 := Aside0.mk (HS3.out.grownL HS.out HPU.out.2.1)
     have HL5 := Aside0.mk HPU.out.1
     obtain ⟨w5, hw5⟩ : ∃ w5, w5 = ((w1.alloc (.cells #[.int .i64 (next xs + (c : Int))] 2)).drew.setCell ⟨L, xs.length, none⟩ (.int .i64 (next xs + (c : Int)))) := ⟨_, rfl⟩
     rw [← hw5] at HS5 HL5 ⊢
     clear hw5 HPU HL3 HS3
     have hcf5 : w5.cell? ⟨bf, 0, none⟩ = some (.func (.func 169) #[] #[.pointer (some ⟨bt, 0, none⟩), .pointer (some ⟨bs, 0, none⟩), .pointer (some ⟨bc, 0, none⟩), .pointer (some ⟨bf, 0, none⟩)]) := (blk_cell HS5.out.hbf 0).trans rfl
     refine hK.out _ _ (hcf5) (fun hHeld => ?_)
     clear hK K
     refine norm_ (a' := ?_) ?_ ?_
     rotate_left
     ·show Act.put _ (some 83) _ = _
      simp only [Act.put, List.setIfInBounds_toArray, List.set_cons_zero, List.set_cons_succ, i64_w, i32_w]
      rfl
     refine one_ (i := 5) (N := some 84) #[true, true, true, true, true, true] rfl rfl (by kernel_rfl) (by decide) (fun K hK => ?_)
     go_simp
     go_at_call 169
     refine (HIH.out (xs.length + 1) (xs ++ [next xs + (c : Int)]) _ (P ++ run (fun i => ext l.length d (xs ++ [i])) (next xs) c) (F ++ offs l m (run (fun i => ext l.length d (xs ++ [i])) (next xs) c)) (tot l m (run (fun i => ext l.length d (xs ++ [i])) (next xs) c)) HE1.out HE2.out ⟨_, _, HS5.out, HL5.out⟩ HE4.out HE5.out HE6.out ⟨hm0, hm1⟩).mono ?_
     rintro e w6 ⟨rfl, hfo⟩
     have HFO := Aside0.mk hfo
     clear hfo
     have hcf6 : w6.cell? ⟨bf, 0, none⟩ = some (.func (.func 169) #[] #[.pointer (some ⟨bt, 0, none⟩), .pointer (some ⟨bs, 0, none⟩), .pointer (some ⟨bc, 0, none⟩), .pointer (some ⟨bf, 0, none⟩)]) := by obtain ⟨_, _, h, _⟩ := HFO.out; exact (blk_cell h.hbf 0).trans rfl
     refine hK.out _ _ (hcf6) (fun hHeld => ?_)
     clear hK K
     refine done_ (by kernel_rfl) ?_
     go_wp2
     go_roundw
     case measure => simp [intOf]; omega
     case rel =>
      obtain ⟨vP2, vF2, k1, k2, k3, k4⟩ := HFO.out
      refine ⟨c + 1, by first | rfl | (simp; omega), by omega, ⟨vP2, vF2, ?_, k2.pop, ?_, ?_⟩⟩
      ·rw [run_snoc, offs_append, tot_append, ← List.append_assoc, ← List.append_assoc]; exact k1
      ·rw [run_snoc, tot_append]; exact k3
      ·rw [run_snoc, tot_append, ← List.append_assoc]; exact k4
    ·go_wp2_with (go_at_call 168; (with_reducible refine (impl_places.calls A0 c0 l _ _ (Kd.C_below HC.out HS1.out.hB) HC0.out rfl).mono ?_); rintro e w1 ⟨rfl, hb1⟩; have HB1 := Aside0.mk hb1; clear hb1)
     first | go_end0 | refine bodyPost_ret (results_none rfl _ _ _) rfl ?_
     refine ⟨rfl, vP', vF', ?_, HL1.out.below HB1.out, ?_, ?_⟩
     all_goals
      rw [show ext l.length (d + 1) xs = run (fun i => ext l.length d (xs ++ [i])) (next xs) c from (show run _ _ _ = _ from (by rw [show ((l.length : Int) - next xs).toNat = c by omega]))]
     ·exact HS1.out.below HB1.out
     ·exact hm0
     ·exact hm1
  ·have hge : decide ((0:Int) < (xs.length : Int)) = true := decide_eq_true (by omega)
   have hge2 : decide (0 < xs.length) = true := decide_eq_true hx0
   have hx1 : (0:Int) ≤ (xs.length : Int) - 1 := by omega
   have hcl := hcellL.out ((xs.length : Int) - 1) (by omega) (by omega)
   have hcl' : W.cell? ⟨L, xs.length - 1, none⟩ = some (.int .i64 (rd xs ((xs.length : Int) - 1))) := by rw [← hcl]; congr 2; omega
   obtain ⟨y, hy⟩ : ∃ y, y = rd xs ((xs.length : Int) - 1) := ⟨_, rfl⟩
   have hyb := HPL.out _ (at_mem xs ((xs.length : Int) - 1) (by omega) (by omega))
   have hyb0 : 0 ≤ y := by rw [hy]; exact hyb.1
   have hyb1 : y < 8 := by have h1 : y < (l.length : Int) := (by rw [hy]; exact hyb.2); omega
   have hl2 := hlast.out (by omega)
   rw [← hy] at hcl hcl' hl2
   have HS0 := Aside0.mk hl2
   clear hy hyb hl2
   go_wp2
   go_loopw [11] (fun v11 W' => ∃ c : Nat, v11 = .int .i64 (next xs + c) ∧ next xs + c ≤ l.length ∧ Aside0 (Found w0 W' H0 bt bs bc bf gC L A0 c0 l t P F m (run (fun i => ext l.length d (xs ++ [i])) (next xs) c) xs)) (fun v _ => (l.length - intOf v).toNat)
   case atStart => exact ⟨0, by first | (rw [HS0.out]; rfl) | (rw [HS0.out]; simp), by have := HNX.out; omega, ⟨HSS0⟩⟩
   case round =>
    obtain ⟨c, rfl, hc1, HFO⟩ := hrel
    obtain ⟨vP', vF', hss, hll, hm0, hm1⟩ := HFO.out
    have hzs : wr.cell? ⟨bs, 0, none⟩ = some (.slice A0 l.length c0) := (blk_cell hss.hbs 0).trans rfl
    have hzf := (blk_cell hss.hbf 0).trans rfl
    have HS1 := Aside0.mk hss
    have HL1 := Aside0.mk hll
    clear HFO hss hll
    have HNXo := HNX.out
    by_cases hlt : next xs + (c : Int) < (l.length : Int)
    ·go_wp2_with (go_at_call 168; (with_reducible refine (impl_places.calls A0 c0 l _ _ (Kd.C_below HC.out HS1.out.hB) HC0.out rfl).mono ?_); rintro e w1 ⟨rfl, hb1⟩; have HB1 := Aside0.mk hb1; clear hb1)
     have HS2 := Aside0.mk (HS1.out.below HB1.out)
     have HL2 := Aside0.mk (HL1.out.below HB1.out)
     have HE1 : Aside0 (xs.length + 1 = (xs ++ [next xs + (c : Int)]).length) := ⟨by simp⟩
     have HE2 : Aside0 ((xs ++ [next xs + (c : Int)]).length + d = t) := ⟨by have := HD.out; simp; omega⟩
     have HE4 : Aside0 (∀ i ∈ xs ++ [next xs + (c : Int)], 0 ≤ i ∧ i < (l.length : Int)) := ⟨fun i hi => by
      rcases List.mem_append.1 hi with h | h
      ·exact HPL.out i h
      ·rw [List.mem_singleton.1 h]; omega⟩
     have hrl := run_length_le (fun i => ext l.length d (xs ++ [i])) (c + 1) ((l.length : Int) - next xs).toNat (next xs) (by omega)
     have hre : (run (fun i => ext l.length d (xs ++ [i])) (next xs) (c + 1)).length = (run (fun i => ext l.length d (xs ++ [i])) (next xs) c).length + (ext l.length d (xs ++ [next xs + (c : Int)])).length := by rw [run_snoc, List.length_append]
     have HE5 : Aside0 ((P ++ run (fun i => ext l.length d (xs ++ [i])) (next xs) c).length + (ext l.length d (xs ++ [next xs + (c : Int)])).length ≤ 1000) := ⟨by
      have h1 := HP.out
      have h2 : (ext l.length (d + 1) xs).length = (run (fun i => ext l.length d (xs ++ [i])) (next xs) ((l.length : Int) - next xs).toNat).length := rfl
      rw [List.length_append]; omega⟩
     have HE6 : Aside0 ((F ++ offs l m (run (fun i => ext l.length d (xs ++ [i])) (next xs) c)).length = (P ++ run (fun i => ext l.length d (xs ++ [i])) (next xs) c).length) := ⟨by have := HF.out; rw [List.length_append, List.length_append, offs_length]; omega⟩
     clear hrl hre
     have hcf : w1.cell? ⟨bf, 0, none⟩ = some (.func (.func 169) #[] #[.pointer (some ⟨bt, 0, none⟩), .pointer (some ⟨bs, 0, none⟩), .pointer (some ⟨bc, 0, none⟩), .pointer (some ⟨bf, 0, none⟩)]) := (blk_cell HS2.out.hbf 0).trans rfl
     refine start_ (n := 6) (S := fun w' => w'.cell? ⟨bf, 0, none⟩ = some (.func (.func 169) #[] #[.pointer (some ⟨bt, 0, none⟩), .pointer (some ⟨bs, 0, none⟩), .pointer (some ⟨bc, 0, none⟩), .pointer (some ⟨bf, 0, none⟩)])) (ds := []) #[false, false, false, false, false, false] (by kernel_rfl) rfl rfl (hcf) (fun hHeld => ?_)
     refine pure_ (i := 1) (N := some 80) (v := ?_) (a' := ?_) #[false, true, false, false, false, false] rfl rfl (by kernel_rfl) (fun _ _ _ h => h) (Or.inl ⟨by rfl, ?_⟩) ?_ ?_
     rotate_left
     ·intro w'
      go_simp
      with_reducible rfl
     rotate_left
     ·simp only [Act.put, List.setIfInBounds_toArray, List.set_cons_zero, List.set_cons_succ, i64_w, i32_w]
      rfl
     refine pure_ (i := 2) (N := some 81) (v := ?_) (a' := ?_) #[false, true, true, false, false, false] rfl rfl (by kernel_rfl) (fun _ _ _ h => h) (Or.inl ⟨by rfl, ?_⟩) ?_ ?_
     rotate_left
     ·intro w'
      go_simp
      with_reducible rfl
     rotate_left
     ·simp only [Act.put, List.setIfInBounds_toArray, List.set_cons_zero, List.set_cons_succ, i64_w, i32_w]
      rfl
     refine take_ (i := 0) (N := some 79) (v := ?_) (a' := ?_) #[true, true, true, false, false, false] rfl rfl (by kernel_rfl) (fun _ _ _ h => h) (Or.inl ⟨by rfl, ?_⟩) hHeld ?_ ?_
     rotate_left
     ·intro w' s0
      go_simp
      with_reducible rfl
     rotate_left
     ·simp only [Act.put, List.setIfInBounds_toArray, List.set_cons_zero, List.set_cons_succ, i64_w, i32_w]
      rfl
     refine one_ (i := 3) (N := some 82) #[true, true, true, true, false, false] rfl rfl (by kernel_rfl) (by decide) (fun K hK => ?_)
     refine value_ (w1 := ?_) (v := ?_) (by rfl) rfl ?_ ?_
     rotate_left 2
     ·go_simp
      constructor
      ·rfl
      ·rfl
     refine hK.out _ _ ((World.cell?_alloc_lt _ _ _ (World.block_lt_of_cell? _ _ (hcf))).trans (hcf)) (fun hHeld => ?_)
     clear hK K
     refine norm_ (a' := ?_) ?_ ?_
     rotate_left
     ·show Act.put _ (some 82) _ = _
      simp only [Act.put, List.setIfInBounds_toArray, List.set_cons_zero, List.set_cons_succ, i64_w, i32_w]
      rfl
     refine one_ (i := 4) (N := some 83) #[true, true, true, true, true, false] rfl rfl (by kernel_rfl) (by decide) (fun K hK => ?_)
     have HS3 := Aside0.mk (HS2.out.below (below_drew (below_alloc (Below.refl _ _) (.cells #[.int .i64 (next xs + (c : Int))] 2))))
     have HL3 := Aside0.mk (HL2.out.below (below_drew (below_alloc (Below.refl _ _) (.cells #[.int .i64 (next xs + (c : Int))] 2))))
     have HPU := Aside0.mk (HL3.out.push hl3 (next xs + (c : Int)))
     refine step_append_room (by rfl) (.tmp 80) (.tmp 82) 22 (by rfl) 2 i0 1 Try.underlying22 hi0 hz1 L 0 xs.length 3 (by rfl) ⟨w1.heap.size, 0, none⟩ 1 1 [.int .i64 (next xs + (c : Int))] (by rfl) rfl (World.news_of_block (cs := #[.int .i64 (next xs + (c : Int))]) (t := 2) (fr := (0, 0)) (heap_alloc_new w1 _)) (by simp [Value.oneCell']) (by omega) (fun j hj => by have h0 : j = 0 := Nat.lt_one_iff.1 hj; subst h0; rw [show 0 + xs.length * 1 + 0 = xs.length by omega]; exact ⟨HPU.out.2.2.1, HPU.out.2.2.2⟩) ?_
     rw [show ∀ W : World, W.setCells L (0 + xs.length * 1) [.int .i64 (next xs + (c : Int))] = W.setCell ⟨L, xs.length, none⟩ (.int .i64 (next xs + (c : Int))) from fun W => by rw [show 0 + xs.length * 1 = xs.length by omega]; rfl]
     have HS5 := Aside0.mk (HS3.out.grownL HS.out HPU.out.2.1)
     have HL5 := Aside0.mk HPU.out.1
     obtain ⟨w5, hw5⟩ : ∃ w5, w5 = ((w1.alloc (.cells #[.int .i64 (next xs + (c : Int))] 2)).drew.setCell ⟨L, xs.length, none⟩ (.int .i64 (next xs + (c : Int)))) := ⟨_, rfl⟩
     rw [← hw5] at HS5 HL5 ⊢
     clear hw5 HPU HL3 HS3
     have hcf5 : w5.cell? ⟨bf, 0, none⟩ = some (.func (.func 169) #[] #[.pointer (some ⟨bt, 0, none⟩), .pointer (some ⟨bs, 0, none⟩), .pointer (some ⟨bc, 0, none⟩), .pointer (some ⟨bf, 0, none⟩)]) := (blk_cell HS5.out.hbf 0).trans rfl
     refine hK.out _ _ (hcf5) (fun hHeld => ?_)
     clear hK K
     refine norm_ (a' := ?_) ?_ ?_
     rotate_left
     ·show Act.put _ (some 83) _ = _
      simp only [Act.put, List.setIfInBounds_toArray, List.set_cons_zero, List.set_cons_succ, i64_w, i32_w]
      rfl
     refine one_ (i := 5) (N := some 84) #[true, true, true, true, true, true] rfl rfl (by kernel_rfl) (by decide) (fun K hK => ?_)
     go_simp
     go_at_call 169
     refine (HIH.out (xs.length + 1) (xs ++ [next xs + (c : Int)]) _ (P ++ run (fun i => ext l.length d (xs ++ [i])) (next xs) c) (F ++ offs l m (run (fun i => ext l.length d (xs ++ [i])) (next xs) c)) (tot l m (run (fun i => ext l.length d (xs ++ [i])) (next xs) c)) HE1.out HE2.out ⟨_, _, HS5.out, HL5.out⟩ HE4.out HE5.out HE6.out ⟨hm0, hm1⟩).mono ?_
     rintro e w6 ⟨rfl, hfo⟩
     have HFO := Aside0.mk hfo
     clear hfo
     have hcf6 : w6.cell? ⟨bf, 0, none⟩ = some (.func (.func 169) #[] #[.pointer (some ⟨bt, 0, none⟩), .pointer (some ⟨bs, 0, none⟩), .pointer (some ⟨bc, 0, none⟩), .pointer (some ⟨bf, 0, none⟩)]) := by obtain ⟨_, _, h, _⟩ := HFO.out; exact (blk_cell h.hbf 0).trans rfl
     refine hK.out _ _ (hcf6) (fun hHeld => ?_)
     clear hK K
     refine done_ (by kernel_rfl) ?_
     go_wp2
     go_roundw
     case measure => simp [intOf]; omega
     case rel =>
      obtain ⟨vP2, vF2, k1, k2, k3, k4⟩ := HFO.out
      refine ⟨c + 1, by first | rfl | (simp; omega), by omega, ⟨vP2, vF2, ?_, k2.pop, ?_, ?_⟩⟩
      ·rw [run_snoc, offs_append, tot_append, ← List.append_assoc, ← List.append_assoc]; exact k1
      ·rw [run_snoc, tot_append]; exact k3
      ·rw [run_snoc, tot_append, ← List.append_assoc]; exact k4
    ·go_wp2_with (go_at_call 168; (with_reducible refine (impl_places.calls A0 c0 l _ _ (Kd.C_below HC.out HS1.out.hB) HC0.out rfl).mono ?_); rintro e w1 ⟨rfl, hb1⟩; have HB1 := Aside0.mk hb1; clear hb1)
     first | go_end0 | refine bodyPost_ret (results_none rfl _ _ _) rfl ?_
     refine ⟨rfl, vP', vF', ?_, HL1.out.below HB1.out, ?_, ?_⟩
     all_goals
      rw [show ext l.length (d + 1) xs = run (fun i => ext l.length d (xs ++ [i])) (next xs) c from (show run _ _ _ = _ from (by rw [show ((l.length : Int) - next xs).toNat = c by omega]))]
     ·exact HS1.out.below HB1.out
     ·exact hm0
     ·exact hm1
set_option maxHeartbeats 8000000 in
set_option maxRecDepth 100000 in
theorem newChoices_calls (A0 : Option Addr) (c0 : Nat) (l : List Int) (t : Nat) (w : World) (hC : Kd.C (Kd.int .i64) w A0 l.length l) (hc0 : l.length ≤ c0) (hl : Sz l) (hn8 : l.length ≤ 8) (ht : t ≤ 3) :
  Calls Try.prog 92 #[.agg #[.slice A0 l.length c0], .int .i64 t] w fun e w' => ∃ g, e = .returned (.pointer (some ⟨g, 0, none⟩)) ∧ ChAt w' g l (ext l.length t []) (offs l 0 (ext l.length t [])) (tot l 0 (ext l.length t [])) ∧ 0 ≤ tot l 0 (ext l.length t []) ∧ tot l 0 (ext l.length t []) ≤ 64 * (ext l.length t []).length ∧ Below w.heap.size w w' := by
 have HC := Aside0.mk hC
 have HC0 := Aside0.mk hc0
 have HSZ := Aside0.mk hl
 have HEX := Aside0.mk (ext_len512 l.length t hn8 ht)
 clear hC hc0 hl
 have hu28 := Try.underlying28
 have hu92 := Try.underlying92
 have hmk : ∀ w, (Instr.makeSlice 22 (.int .i64 0) (.int .i64 3)).run Try.prog w = .ok (.slice (some ⟨w.heap.size, 0, none⟩) 0 3) (w.alloc (.cells #[.int .i64 0, .int .i64 0, .int .i64 0] 2)) := fun _ => by kernel_rfl
 have hmf : ∀ (fn : Fn) (first cap : Array Value) (w : World), (Instr.makeFunc fn first cap).run Try.prog w = .ok (.func fn first cap) w := fun _ _ _ _ => rfl
 go_enter Try.func92, Try.ntmps92
 go_wp2_with (first | ((with_reducible refine gate_dst (N := 2) rfl ?_); refine box_event ?hg (N := 2) ?hd (cs := #[.slice A0 l.length c0]) (t := 28) ?hr ?_; (case hd => rfl); (case hg => rfl); (case hr => first | (go_simp; done) | (go_simp; rfl)); intro bs hg_ w1 hbox_ hb_; have K1 := Aside0.mk hbox_; have B1 := Aside0.mk hb_; have G1 := Aside0.mk hg_; clear hbox_ hb_ hg_; skip) | ((with_reducible refine gate_dst (N := 3) rfl ?_); refine box_event ?hg (N := 3) ?hd (cs := #[.int .i64 t]) (t := 2) ?hr ?_; (case hd => rfl); (case hg => rfl); (case hr => first | (go_simp; done) | (go_simp; rfl)); intro bt hg_ w2 hbox_ hb_; have K2 := Aside0.mk hbox_; have B2 := Aside0.mk hb_; have G2 := Aside0.mk hg_; clear hbox_ hb_ hg_; have hk1 : w2.cell? ⟨bs, 0, none⟩ = some (.slice A0 l.length c0) := (blk_cell (blk_below K1.out B2.out) 0).trans rfl) | ((with_reducible refine gate_dst (N := 9) rfl ?_); refine box_event ?hg (N := 9) ?hd (cs := #[.slice A0 l.length c0, .slice none 0 0, .slice none 0 0, .int .i64 0]) (t := 92) ?hr ?_; (case hd => rfl); (case hg => rfl); (case hr => first | (go_simp; done) | (go_simp; rfl)); intro gC hg_ w3 hbox_ hb_; have K3 := Aside0.mk hbox_; have B3 := Aside0.mk hb_; have G3 := Aside0.mk hg_; clear hbox_ hb_ hg_; skip) | ((with_reducible refine gate_dst (N := 5) rfl ?_); refine box_event ?hg (N := 5) ?hd (cs := #[.pointer none]) (t := 88) ?hr ?_; (case hd => rfl); (case hg => rfl); (case hr => first | (go_simp; done) | (go_simp; rfl)); intro bc hg_ w4 hbox_ hb_; have K4 := Aside0.mk hbox_; have B4 := Aside0.mk hb_; have G4 := Aside0.mk hg_; clear hbox_ hb_ hg_; have hk4 : w4.cell? ⟨bc, 0, none⟩ = some (.pointer none) := (blk_cell K4.out 0).trans rfl; have hf4 := blk_frozen K4.out 0) | ((with_reducible refine gate_dst (N := 6) rfl ?_); refine box_event ?hg (N := 6) ?hd (cs := #[.nilFunc]) (t := 144) ?hr ?_; (case hd => rfl); (case hg => rfl); (case hr => first | (go_simp; done) | (go_simp; rfl)); intro bf hg_ w5 hbox_ hb_; have K5 := Aside0.mk hbox_; have B5 := Aside0.mk hb_; have G5 := Aside0.mk hg_; clear hbox_ hb_ hg_; refine Here.out ?_))
 refine ⟨?_⟩
 have hk5 : w5.cell? ⟨bf, 0, none⟩ = some .nilFunc := (blk_cell K5.out 0).trans rfl
 have hf5 := blk_frozen K5.out 0
 go_wp2
 have e2 : bs < bt := by rw [G2.out]; exact blk_lt K1.out
 have e3 : bt < gC := by rw [G3.out]; exact blk_lt K2.out
 have e4 : gC < bc := by rw [G4.out]; exact blk_lt K3.out
 have e5 : bc < bf := by rw [G5.out]; have := blk_lt K4.out; simpa using this
 have e6 : bf < w5.heap.size := blk_lt K5.out
 have e1 : w.heap.size ≤ bs := by rw [G1.out]; exact Nat.le_refl _
 obtain ⟨w6, hw6⟩ : ∃ w6, w6 = w5.setCell ⟨bf, 0, none⟩ (.func (.func 169) #[] #[.pointer (some ⟨bt, 0, none⟩), .pointer (some ⟨bs, 0, none⟩), .pointer (some ⟨bc, 0, none⟩), .pointer (some ⟨bf, 0, none⟩)]) := ⟨_, rfl⟩
 rw [← hw6]
 have e7 : w6.heap.size = w5.heap.size := by rw [hw6]; simp
 have X1 : w6.heap[bs]? = some (.cells #[.slice A0 l.length c0] 28 (0, 0)) := by
  rw [hw6]; exact blk_far (blk_below (blk_far (blk_below (blk_below (blk_below K1.out B2.out) B3.out) B4.out) (by show bs ≠ bc; omega) _) B5.out) (by show bs ≠ bf; omega) _
 have X2 : w6.heap[bt]? = some (.cells #[.int .i64 t] 2 (0, 0)) := by
  rw [hw6]; exact blk_far (blk_below (blk_far (blk_below (blk_below K2.out B3.out) B4.out) (by show bt ≠ bc; omega) _) B5.out) (by show bt ≠ bf; omega) _
 have X3 : w6.heap[gC]? = some (.cells #[.slice A0 l.length c0, .slice none 0 0, .slice none 0 0, .int .i64 0] 92 (0, 0)) := by
  rw [hw6]; exact blk_far (blk_below (blk_far (blk_below K3.out B4.out) (by show gC ≠ bc; omega) _) B5.out) (by show gC ≠ bf; omega) _
 have X4 : w6.heap[bc]? = some (.cells #[.pointer (some ⟨gC, 0, none⟩)] 88 (0, 0)) := by
  rw [hw6]; exact blk_far (blk_below (blk_put K4.out 0 _ rfl) B5.out) (by show bc ≠ bf; omega) _
 have X5 : w6.heap[bf]? = some (.cells #[(.func (.func 169) #[] #[.pointer (some ⟨bt, 0, none⟩), .pointer (some ⟨bs, 0, none⟩), .pointer (some ⟨bc, 0, none⟩), .pointer (some ⟨bf, 0, none⟩)])] 144 (0, 0)) := by
  rw [hw6]; exact blk_put K5.out 0 _ rfl
 have X6 : Below w.heap.size w w6 := by
  rw [hw6]; exact below_set (below_step (below_set (below_step (below_step (below_step B1.out B2.out) B3.out) B4.out) (by omega)) B5.out) (by omega)
 have SST : Aside0 (SSt w (w6.heap.size + 1) bt bs bc bf gC w6.heap.size) := ⟨⟨⟨by omega, by omega, by omega, by omega, by omega, by omega⟩, ⟨by omega, by omega⟩, ⟨by omega, by omega, by omega, by omega⟩, ⟨by omega, by omega, by omega, by omega, by omega⟩⟩⟩
 have hlen : Aside0 ((([] : List (List Int)).length + (ext l.length t []).length) ≤ 1000) := ⟨by have := HEX.out; simp; omega⟩
 have hcf : w6.cell? ⟨bf, 0, none⟩ = some (.func (.func 169) #[] #[.pointer (some ⟨bt, 0, none⟩), .pointer (some ⟨bs, 0, none⟩), .pointer (some ⟨bc, 0, none⟩), .pointer (some ⟨bf, 0, none⟩)]) := (blk_cell X5 0).trans rfl
 have hcb : w6.cell? ⟨bc, 0, none⟩ = some (.pointer (some ⟨gC, 0, none⟩)) := (blk_cell X4 0).trans rfl
 have STA : Aside0 (Start w ((w6.alloc (.cells #[.int .i64 0, .int .i64 0, .int .i64 0] 2)).drew) (w6.heap.size + 1) bt bs bc bf gC w6.heap.size A0 c0 l t [] [] 0 []) := ⟨.slice none 0 0, .slice none 0 0,
  ⟨blk_alloc X2 _, blk_alloc X1 _, blk_alloc X4 _, blk_alloc X5 _, blk_alloc X3 _, Kd.R_nil _ _ _ _ _, Kd.R_nil _ _ _ _ _, below_drew (below_alloc X6 _), by show _ ≤ (w6.alloc _).heap.size; rw [World.size_alloc]; exact Nat.le_refl _⟩,
  LL.of (W := (w6.alloc (.cells #[.int .i64 0, .int .i64 0, .int .i64 0] 2)).drew) #[.int .i64 0, .int .i64 0, .int .i64 0] (blk_new w6 _) rfl (by decide) rfl⟩
 clear hw6 hk4 hf4 hk5 hf5 hk1 K1 K2 K3 K4 K5 B1 B2 B3 B4 B5 G1 G2 G3 G4 G5 e1 e2 e3 e4 e5 e6 e7 hmf
 have Y1 := Aside0.mk X1
 have Y2 := Aside0.mk X2
 have Y3 := Aside0.mk X3
 have Y4 := Aside0.mk X4
 have Y5 := Aside0.mk X5
 have Y6 := Aside0.mk X6
 clear X1 X2 X3 X4 X5 X6
 refine start_ (n := 3) (S := fun w' => w'.cell? ⟨bf, 0, none⟩ = some (.func (.func 169) #[] #[.pointer (some ⟨bt, 0, none⟩), .pointer (some ⟨bs, 0, none⟩), .pointer (some ⟨bc, 0, none⟩), .pointer (some ⟨bf, 0, none⟩)])) (ds := []) #[false, false, false] (by kernel_rfl) rfl rfl (hcf) (fun hHeld => ?_)
 refine take_ (i := 0) (N := some 11) (v := ?_) (a' := ?_) #[true, false, false] rfl rfl (by kernel_rfl) (fun _ _ _ h => h) (Or.inl ⟨by rfl, ?_⟩) hHeld ?_ ?_
 rotate_left
 ·intro w' s0
  go_simp
  with_reducible rfl
 rotate_left
 ·simp only [Act.put, List.setIfInBounds_toArray, List.set_cons_zero, List.set_cons_succ, i64_w, i32_w]
  rfl
 refine one_ (i := 1) (N := some 12) #[true, true, false] rfl rfl (by kernel_rfl) (by decide) (fun K hK => ?_)
 refine value_ (w1 := ?_) (v := ?_) (by rfl) rfl ?_ ?_
 rotate_left 2
 ·go_simp
  constructor
  ·rfl
  ·rfl
 refine hK.out _ _ ((World.cell?_alloc_lt _ _ _ (World.block_lt_of_cell? _ _ (hcf))).trans (hcf)) (fun hHeld => ?_)
 clear hK K
 refine norm_ (a' := ?_) ?_ ?_
 rotate_left
 ·show Act.put _ (some 12) _ = _
  simp only [Act.put, List.setIfInBounds_toArray, List.set_cons_zero, List.set_cons_succ, i64_w, i32_w]
  rfl
 refine one_ (i := 2) (N := some 13) #[true, true, true] rfl rfl (by kernel_rfl) (by decide) (fun K hK => ?_)
 go_simp
 go_at_call 169
 refine (search_calls w (w6.heap.size + 1) bt bs bc bf gC w6.heap.size A0 c0 l t SST.out HC.out HC0.out HSZ.out hn8 ht t 0 [] _ [] [] 0 rfl (by simp) STA.out (by simp) hlen.out rfl ⟨by omega, by simp⟩).mono ?_
 rintro e w7 ⟨rfl, hfo⟩
 have HFO := Aside0.mk hfo
 clear hfo
 have hcf7 : w7.cell? ⟨bf, 0, none⟩ = some (.func (.func 169) #[] #[.pointer (some ⟨bt, 0, none⟩), .pointer (some ⟨bs, 0, none⟩), .pointer (some ⟨bc, 0, none⟩), .pointer (some ⟨bf, 0, none⟩)]) := by obtain ⟨_, _, h, _⟩ := HFO.out; exact (blk_cell h.hbf 0).trans rfl
 have hcb7 : w7.cell? ⟨bc, 0, none⟩ = some (.pointer (some ⟨gC, 0, none⟩)) := by obtain ⟨_, _, h, _⟩ := HFO.out; exact (blk_cell h.hbc 0).trans rfl
 refine hK.out _ _ (hcf7) (fun hHeld => ?_)
 clear hK K
 refine done_ (by kernel_rfl) ?_
 go_wp2
 go_ret
 obtain ⟨vP, vF, h1, h2, h3, h4⟩ := HFO.out
 rw [List.nil_append] at h1 h4
 rw [List.nil_append] at h1
 obtain ⟨AP, cP, rfl⟩ := Kd.R_slice h1.rP
 obtain ⟨AF, cF, rfl⟩ := Kd.R_slice h1.rF
 exact ⟨gC, rfl, ⟨A0, c0, AP, cP, AF, cF, h1.hgC, HC0.out, Kd.C_below HC.out h1.hB, (Kd.R_reads' h1.rP).2.2, (Kd.R_reads' h1.rF).2.2⟩, h3, h4, h1.hB⟩
def impl_isStrength.f (l0_0 : List Int) (a1 : Int) : Option (Bool) := if a1 ≥ 1 then ((impl_places.f l0_0).bind fun t102 => (some (decide (a1 ≤ (mn 3 t102))))) else (some false)
set_option maxHeartbeats 8000000 in
set_option maxRecDepth 100000 in
theorem impl_isStrength.calls (A0_0 : Option Addr) (c0_0 : Nat) (l0_0 : List Int) (a1 : Int) (r : Bool) (w : World) (hr0_0 : Kd.C (Kd.int .i64) w A0_0 l0_0.length l0_0) (hc0_0 : l0_0.length ≤ c0_0) (h : impl_isStrength.f l0_0 a1 = some r) :
  Calls Try.prog 90 #[.agg #[.slice A0_0 l0_0.length c0_0], .int .i64 a1] w fun e w' => e = .returned (.bool r) ∧ Below w.heap.size w w' := by
 have hu28 := Try.underlying28
 have HR0_0 := Aside0.mk hr0_0
 have HC0_0 := Aside0.mk hc0_0
 clear hr0_0 hc0_0
 have HB := Aside0.mk (Below.refl w.heap.size w)
 have H : (if a1 ≥ 1 then ((impl_places.f l0_0).bind fun t102 => (some (decide (a1 ≤ (mn 3 t102))))) else (some false)) = some r := h
 clear h
 by_cases c3 : a1 ≥ 1
 ·rw [if_pos c3] at H
  have c3b0 : decide (1 ≤ a1) = true := decide_eq_true c3
  clear c3
  replace H := Option.bind_eq_some_iff.mp H
  obtain ⟨t102, A40, H⟩ := H
  replace H : (some (decide (a1 ≤ (mn 3 t102)))) = some r := H
  have A4 := Aside0.mk A40
  clear A40
  obtain ⟨ji5, hji5⟩ : ∃ j_ : Int, (mn 3 t102) = j_ := ⟨_, rfl⟩
  replace H : (some (decide (a1 ≤ (ji5)))) = some r := by first | (rw [hji5] at H; exact H) | (simp only [hji5] at H ⊢; exact H)
  (try rw [hji5] at A4)
  (try (have hji5h : ji5 ≤ 3 := by (rw [← hji5]; unfold mn; (repeat' split) <;> omega)))
  (try (have hji5g : ji5 ≤ 64 := by omega))
  have hji5_ : (if t102 < 3 then t102 else 3) = ji5 := hji5
  obtain rfl := Option.some.inj H
  go_enter Try.func90, Try.ntmps90
  go_wp2_with (first | ((with_reducible refine gate_dst (N := 2) rfl ?_); (try (refine gate_guard (by rfl) ?_; dsimp only)); refine box_event ?hg (N := 2) ?hd (cs := #[.slice A0_0 l0_0.length c0_0]) (t := 28) ?hr ?_; (case hd => rfl); (case hg => rfl); (case hr => first | (go_simp; done) | (go_simp; rfl)); intro gb101 hg w6 hbox hb; have n0_ := Aside0.mk (below_step (by repeat (first | (with_reducible first | exact HB.out | apply below_alloc | apply pw_below_drewN | apply below_drew1) | exact HB.out)) hb); have n1_ := Aside0.mk (hbox); have n2_ := Aside0.mk ((by rw [hg]; exact (below_size (by repeat (first | (with_reducible first | exact HB.out | apply below_alloc | apply pw_below_drewN | apply below_drew1) | exact HB.out))) : w.heap.size ≤ gb101)); have n3_ := Aside0.mk ((by rw [hg]; exact (below_size (by repeat (first | (with_reducible first | exact HB.out | apply below_alloc | apply pw_below_drewN | apply below_drew1) | exact HB.out))) : w.heap.size ≤ gb101)); clear HB; have HB := n0_; have BK101 := n1_; have GW101 := n2_; have GE101 := n3_; clear n0_ n1_ n2_ n3_; clear hb hbox hg; have hcz7_0 : w6.cell? ⟨gb101, 0, none⟩ = some (.slice A0_0 l0_0.length c0_0) := (blk_cell BK101.out 0).trans rfl; have hfz7_0 := blk_frozen BK101.out 0) | (go_at_call 168; (with_reducible refine (impl_places.calls _ _ l0_0 t102 _ ?side1 ?side2 A4.out).mono ?_); (case side1 => repeat (first | exact (Kd.C_below HR0_0.out HB.out) | (with_reducible refine Kd.C_alloc ?_ _) | (with_reducible refine Kd.C_drewN ?_ _) | (with_reducible refine Kd.C_drew ?_))); (case side2 => exact HC0_0.out); rintro e w8 ⟨rfl, hb⟩; have n0_ := Aside0.mk (blk_below (g := gb101) (o := .cells #[.slice A0_0 l0_0.length c0_0] 28 (0, 0)) (by (with_reducible repeat (first | refine blk_drewN ?_ _ | refine blk_drew ?_ | refine blk_alloc ?_ _)); exact BK101.out) hb); have n1_ := Aside0.mk (below_step (by repeat (first | (with_reducible first | exact HB.out | apply below_alloc | apply pw_below_drewN | apply below_drew1 | refine below_set ?_ GE101.out) | exact HB.out)) hb); clear BK101; clear HB; have BK101 := n0_; have HB := n1_; clear n0_ n1_; (try clear hb); (try clear hb2); (try clear hk); (try clear hi)))
  go_ret
  exact ⟨by first | rfl | (simp [errW_none, errW_some] <;> rfl) | (simp only [← hji5]; first | rfl | (simp [errW_none, errW_some] <;> rfl)) | (simp [*, errW_none, errW_some] <;> rfl), by repeat (first | (with_reducible first | exact HB.out | apply below_alloc | apply pw_below_drewN | apply below_drew1 | refine below_set ?_ GE101.out) | exact HB.out)⟩
 ·rw [if_neg c3] at H
  have c3b0 : decide (1 ≤ a1) = false := decide_eq_false c3
  clear c3
  obtain rfl := Option.some.inj H
  go_enter Try.func90, Try.ntmps90
  go_wp2_with (first | ((with_reducible refine gate_dst (N := 2) rfl ?_); (try (refine gate_guard (by rfl) ?_; dsimp only)); refine box_event ?hg (N := 2) ?hd (cs := #[.slice A0_0 l0_0.length c0_0]) (t := 28) ?hr ?_; (case hd => rfl); (case hg => rfl); (case hr => first | (go_simp; done) | (go_simp; rfl)); intro gb101 hg w9 hbox hb; have n0_ := Aside0.mk (below_step (by repeat (first | (with_reducible first | exact HB.out | apply below_alloc | apply pw_below_drewN | apply below_drew1) | exact HB.out)) hb); have n1_ := Aside0.mk (hbox); have n2_ := Aside0.mk ((by rw [hg]; exact (below_size (by repeat (first | (with_reducible first | exact HB.out | apply below_alloc | apply pw_below_drewN | apply below_drew1) | exact HB.out))) : w.heap.size ≤ gb101)); have n3_ := Aside0.mk ((by rw [hg]; exact (below_size (by repeat (first | (with_reducible first | exact HB.out | apply below_alloc | apply pw_below_drewN | apply below_drew1) | exact HB.out))) : w.heap.size ≤ gb101)); clear HB; have HB := n0_; have BK101 := n1_; have GW101 := n2_; have GE101 := n3_; clear n0_ n1_ n2_ n3_; clear hb hbox hg))
  go_ret
  exact ⟨by first | rfl | (simp [errW_none, errW_some] <;> rfl) | (simp [*, errW_none, errW_some] <;> rfl), by repeat (first | (with_reducible first | exact HB.out | apply below_alloc | apply pw_below_drewN | apply below_drew1 | refine below_set ?_ GE101.out) | exact HB.out)⟩
mutual
def impl_IsSpace.j0 : Nat → Bool → List Int → Option (Bool)
 | 0, _, _ => none
 | k + 1, x15, x102000 => if x15 = true then (some false) else (impl_IsSpace.l0 k 1 x102000 (x102000.length : Int) 0)
def impl_IsSpace.l0 : Nat → Int → List Int → Int → Int → Option (Bool)
 | 0, _, _, _, _ => none
 | k + 1, x3, x17, x18, x19 => if x19 < x18 then (if 0 ≤ x19 then (if x19 < (x17.length : Int) then (if (rd x17 x19) < 2 then (some false) else (if (rd x17 x19) > 4 then (some false) else (impl_IsSpace.l0 k (wrap64 (x3 * (rd x17 x19))) x17 x18 (wrap64 (x19 + 1))))) else (none)) else (none)) else (some (decide (x3 ≤ 1024)))
end
def impl_IsSpace.f (k : Nat) (l0_0 : List Int) : Option (Bool) := if (l0_0.length : Int) < 1 then (impl_IsSpace.j0 k true l0_0) else (impl_IsSpace.j0 k (decide ((l0_0.length : Int) > 8)) l0_0)
set_option maxHeartbeats 8000000 in
set_option maxRecDepth 100000 in
theorem impl_IsSpace.calls (k : Nat) (A0_0 : Option Addr) (c0_0 : Nat) (l0_0 : List Int) (r : Bool) (w : World) (hr0_0 : Kd.C (Kd.int .i64) w A0_0 l0_0.length l0_0) (hc0_0 : l0_0.length ≤ c0_0) (h : impl_IsSpace.f k l0_0 = some r) :
  Calls Try.prog 161 #[.agg #[.slice A0_0 l0_0.length c0_0]] w fun e w' => e = .returned (.bool r) ∧ Below w.heap.size w w' := by
 have hu28 := Try.underlying28
 have HR0_0 := Aside0.mk hr0_0
 have HC0_0 := Aside0.mk hc0_0
 clear hr0_0 hc0_0
 have HB := Aside0.mk (Below.refl w.heap.size w)
 have H : (if (l0_0.length : Int) < 1 then (impl_IsSpace.j0 k true l0_0) else (impl_IsSpace.j0 k (decide ((l0_0.length : Int) > 8)) l0_0)) = some r := h
 clear h
 have HC2 := Aside0.mk H
 clear H
 go_enter Try.func161, Try.ntmps161
 go_upto_region 1 with (first | ((with_reducible refine gate_dst (N := 1) rfl ?_); (try (refine gate_guard (by rfl) ?_; dsimp only)); refine box_event ?hg (N := 1) ?hd (cs := #[.slice A0_0 l0_0.length c0_0]) (t := 28) ?hr ?_; (case hd => rfl); (case hg => rfl); (case hr => first | (go_simp; done) | (go_simp; rfl)); intro gb101 hg w3 hbox hb; have n0_ := Aside0.mk (below_step (by repeat (first | (with_reducible first | exact HB.out | apply below_alloc | apply pw_below_drewN | apply below_drew1) | exact HB.out)) hb); have n1_ := Aside0.mk (hbox); have n2_ := Aside0.mk ((by rw [hg]; exact (below_size (by repeat (first | (with_reducible first | exact HB.out | apply below_alloc | apply pw_below_drewN | apply below_drew1) | exact HB.out))) : w.heap.size ≤ gb101)); have n3_ := Aside0.mk ((by rw [hg]; exact (below_size (by repeat (first | (with_reducible first | exact HB.out | apply below_alloc | apply pw_below_drewN | apply below_drew1) | exact HB.out))) : w.heap.size ≤ gb101)); clear HB; have HB := n0_; have BK101 := n1_; have GW101 := n2_; have GE101 := n3_; clear n0_ n1_ n2_ n3_; clear hb hbox hg))
 (try simp only [Act.put, List.setIfInBounds_toArray, List.set_cons_zero, List.set_cons_succ])
 go_cut [15] (fun v15 wc => ∃ (kq : Nat) (x15_1 : Bool), v15 = .bool x15_1 ∧ Aside0 (impl_IsSpace.j0 kq x15_1 l0_0 = some r) ∧ Aside0 (kq ≤ k) ∧ Aside0 (wc.heap[gb101]? = some (.cells #[(.slice A0_0 l0_0.length c0_0)] 28 (0, 0))) ∧ Aside0 (Below w.heap.size w wc))
 case first =>
  have H := HC2.out
  clear HC2
  by_cases c4 : (l0_0.length : Int) < 1
  ·rw [if_pos c4] at H
   have c4b0 : decide ((l0_0.length : Int) < 1) = true := decide_eq_true c4
   have c4b1 : decide (l0_0.length < 1) = true := decide_eq_true (by omega)
   clear c4
   (first | rw [c4b0] | (simp only [i64_w, i32_w]; rw [c4b0]) | skip)
   have H' := Aside0.mk H
   clear H
   have hcz5_0 : w3.cell? ⟨gb101, 0, none⟩ = some (.slice A0_0 l0_0.length c0_0) := (blk_cell BK101.out 0).trans rfl
   have hfz5_0 := blk_frozen BK101.out 0
   go_wp2
   go_meet
   case rel => exact ⟨_, (true), (by first | rfl | (simp; done) | (simp [*]; done)), H', ⟨by first | omega | exact Nat.le_refl _⟩, ⟨by (with_reducible repeat (first | refine blk_drewN ?_ _ | refine blk_drew ?_ | refine blk_alloc ?_ _)); exact BK101.out⟩, ⟨by repeat (first | (with_reducible first | exact HB.out | apply below_alloc | apply pw_below_drewN | apply below_drew1 | refine below_set ?_ GE101.out) | exact HB.out)⟩⟩
  ·rw [if_neg c4] at H
   have c4b0 : decide ((l0_0.length : Int) < 1) = false := decide_eq_false c4
   have c4b1 : decide (l0_0.length < 1) = false := decide_eq_false (by omega)
   clear c4
   (first | rw [c4b0] | (simp only [i64_w, i32_w]; rw [c4b0]) | skip)
   have H' := Aside0.mk H
   clear H
   have hcz6_0 : w3.cell? ⟨gb101, 0, none⟩ = some (.slice A0_0 l0_0.length c0_0) := (blk_cell BK101.out 0).trans rfl
   have hfz6_0 := blk_frozen BK101.out 0
   go_wp2
   go_meet
   case rel => exact ⟨_, (decide ((l0_0.length : Int) > 8)), (by first | rfl | (simp; done) | (simp [*]; done)), H', ⟨by first | omega | exact Nat.le_refl _⟩, ⟨by (with_reducible repeat (first | refine blk_drewN ?_ _ | refine blk_drew ?_ | refine blk_alloc ?_ _)); exact BK101.out⟩, ⟨by repeat (first | (with_reducible first | exact HB.out | apply below_alloc | apply pw_below_drewN | apply below_drew1 | refine below_set ?_ GE101.out) | exact HB.out)⟩⟩
 case rest =>
  clear HC2
  try clear c1
  try clear p2
  try clear c4
  try clear c4b0
  try clear c4b1
  try clear hcz5_0
  try clear hcz6_0
  try clear hfz5_0
  try clear hfz6_0
  obtain ⟨kq, x15_1, rfl, HA, HJ1, BK101, HB⟩ := hcut
  cases kq with
  | zero => exact absurd HA.out (by simp [impl_IsSpace.j0])
  | succ kj1 =>
   have H := HA.out
   clear HA
   simp only [impl_IsSpace.j0] at H
   by_cases c7 : x15_1 = true
   ·subst c7
    have H1 : (some false) = some r := by rw [if_pos rfl] at H; exact H
    clear H
    have H := H1
    clear H1
    obtain rfl := Option.some.inj H
    go_wp2
    go_ret
    exact ⟨by first | rfl | (simp [errW_none, errW_some] <;> rfl) | (simp [*, errW_none, errW_some] <;> rfl), by repeat (first | (with_reducible first | exact HB.out | apply below_alloc | apply pw_below_drewN | apply below_drew1 | refine below_set ?_ GE101.out) | exact HB.out)⟩
   ·replace c7 := Bool.eq_false_iff.mpr c7
    subst c7
    have H1 : (impl_IsSpace.l0 kj1 1 l0_0 (l0_0.length : Int) 0) = some r := by rw [if_neg (show ¬ (false = true) by decide)] at H; exact H
    clear H
    have H := H1
    clear H1
    have H' := Aside0.mk H
    clear H
    have hcz8_0 : wc.cell? ⟨gb101, 0, none⟩ = some (.slice A0_0 l0_0.length c0_0) := (blk_cell BK101.out 0).trans rfl
    have hfz8_0 := blk_frozen BK101.out 0
    go_wp2
    go_loopg [3, 19] kj1 (fun kq v3 v19 w' => ∃ (x3_2 : Int) (x19_2 : Int), v3 = .int .i64 x3_2 ∧ v19 = .int .i64 x19_2 ∧ Aside0 (impl_IsSpace.l0 kq x3_2 l0_0 (l0_0.length : Int) x19_2 = some r) ∧ Aside0 (kq ≤ kj1) ∧ Aside0 (w'.heap[gb101]? = some (.cells #[(.slice A0_0 l0_0.length c0_0)] 28 (0, 0))) ∧ Aside0 (Below w.heap.size w w'))
    case atStart => exact ⟨(1), (0), (by first | rfl | (simp; done) | (simp [*]; done)), (by first | rfl | (simp; done) | (simp [*]; done)), H', ⟨Nat.le_refl _⟩, ⟨by (with_reducible repeat (first | refine blk_drewN ?_ _ | refine blk_drew ?_ | refine blk_alloc ?_ _)); exact BK101.out⟩, ⟨by repeat (first | (with_reducible first | exact HB.out | apply below_alloc | apply pw_below_drewN | apply below_drew1 | refine below_set ?_ GE101.out) | exact HB.out)⟩⟩
    case round =>
     clear H'
     try clear c1
     try clear p2
     try clear c4
     try clear c4b0
     try clear c4b1
     try clear c7
     try clear hcz5_0
     try clear hcz6_0
     try clear hcz8_0
     try clear hfz5_0
     try clear hfz6_0
     try clear hfz8_0
     try clear p2
     obtain ⟨x3_2, x19_2, rfl, rfl, HA, HK2, BK101, HB⟩ := hrel
     cases gk with
     | zero => exact absurd HA.out (by simp [impl_IsSpace.l0])
     | succ k2 =>
      have H := HA.out
      clear HA
      simp only [impl_IsSpace.l0] at H
      by_cases c9 : x19_2 < (l0_0.length : Int)
      ·rw [if_pos c9] at H
       have c9b0 : decide (x19_2 < (l0_0.length : Int)) = true := decide_eq_true c9
       clear c9
       by_cases c10 : 0 ≤ x19_2
       ·rw [if_pos c10] at H
        have c10b0 : decide (0 ≤ x19_2) = true := decide_eq_true c10
        clear c10
        by_cases c11 : x19_2 < (l0_0.length : Int)
        ·rw [if_pos c11] at H
         have c11b0 : decide (x19_2 < (l0_0.length : Int)) = true := decide_eq_true c11
         clear c11
         by_cases c12 : (rd l0_0 x19_2) < 2
         ·rw [if_pos c12] at H
          have c12b0 : decide ((rd l0_0 x19_2) < 2) = true := decide_eq_true c12
          clear c12
          obtain rfl := Option.some.inj H
          have p102 : 0 ≤ (x19_2 : Int) := of_decide_eq_true (by first | (with_reducible assumption) | assumption)
          have q102 : x19_2 < (l0_0.length : Int) := of_decide_eq_true (by first | (with_reducible assumption) | assumption)
          obtain ⟨ad102, e102, hx102_0⟩ := Kd.at_int HR0_0.out x19_2 p102 q102
          cases e102
          replace hx102_0 := (HB.out.cell (World.block_lt_of_cell? w _ hx102_0)).trans hx102_0
          replace p102 := eq_true p102
          replace q102 := eq_true q102
          go_wp2
          go_ret
          exact ⟨by first | rfl | (simp [errW_none, errW_some] <;> rfl) | (simp [*, errW_none, errW_some] <;> rfl), by repeat (first | (with_reducible first | exact HB.out | apply below_alloc | apply pw_below_drewN | apply below_drew1 | refine below_set ?_ GE101.out) | exact HB.out)⟩
         ·rw [if_neg c12] at H
          have c12b0 : decide ((rd l0_0 x19_2) < 2) = false := decide_eq_false c12
          clear c12
          by_cases c13 : (rd l0_0 x19_2) > 4
          ·rw [if_pos c13] at H
           have c13b0 : decide (4 < (rd l0_0 x19_2)) = true := decide_eq_true c13
           clear c13
           obtain rfl := Option.some.inj H
           have p102 : 0 ≤ (x19_2 : Int) := of_decide_eq_true (by first | (with_reducible assumption) | assumption)
           have q102 : x19_2 < (l0_0.length : Int) := of_decide_eq_true (by first | (with_reducible assumption) | assumption)
           obtain ⟨ad102, e102, hx102_0⟩ := Kd.at_int HR0_0.out x19_2 p102 q102
           cases e102
           replace hx102_0 := (HB.out.cell (World.block_lt_of_cell? w _ hx102_0)).trans hx102_0
           replace p102 := eq_true p102
           replace q102 := eq_true q102
           go_wp2
           go_ret
           exact ⟨by first | rfl | (simp [errW_none, errW_some] <;> rfl) | (simp [*, errW_none, errW_some] <;> rfl), by repeat (first | (with_reducible first | exact HB.out | apply below_alloc | apply pw_below_drewN | apply below_drew1 | refine below_set ?_ GE101.out) | exact HB.out)⟩
          ·rw [if_neg c13] at H
           have c13b0 : decide (4 < (rd l0_0 x19_2)) = false := decide_eq_false c13
           clear c13
           have H' := Aside0.mk H
           clear H
           have p102 : 0 ≤ (x19_2 : Int) := of_decide_eq_true (by first | (with_reducible assumption) | assumption)
           have q102 : x19_2 < (l0_0.length : Int) := of_decide_eq_true (by first | (with_reducible assumption) | assumption)
           obtain ⟨ad102, e102, hx102_0⟩ := Kd.at_int HR0_0.out x19_2 p102 q102
           cases e102
           replace hx102_0 := (HB.out.cell (World.block_lt_of_cell? w _ hx102_0)).trans hx102_0
           replace p102 := eq_true p102
           replace q102 := eq_true q102
           go_wp2
           go_roundg k2
           case measure => have := HJ1.out; have := HK2.out; omega
           case rel => exact ⟨(wrap64 (x3_2 * (rd l0_0 x19_2))), (wrap64 (x19_2 + 1)), (by first | rfl | (simp; done) | (simp [*]; done)), (by first | rfl | (simp; done) | (simp [*]; done)), H', ⟨by have := HJ1.out; have := HK2.out; omega⟩, ⟨by (with_reducible repeat (first | refine blk_drewN ?_ _ | refine blk_drew ?_ | refine blk_alloc ?_ _)); exact BK101.out⟩, ⟨by repeat (first | (with_reducible first | exact HB.out | apply below_alloc | apply pw_below_drewN | apply below_drew1 | refine below_set ?_ GE101.out) | exact HB.out)⟩⟩
        ·rw [if_neg c11] at H
         exact absurd H (by simp)
       ·rw [if_neg c10] at H
        exact absurd H (by simp)
      ·rw [if_neg c9] at H
       have c9b0 : decide (x19_2 < (l0_0.length : Int)) = false := decide_eq_false c9
       clear c9
       obtain rfl := Option.some.inj H
       go_wp2
       go_ret
       exact ⟨by first | rfl | (simp [errW_none, errW_some] <;> rfl) | (simp [*, errW_none, errW_some] <;> rfl), by repeat (first | (with_reducible first | exact HB.out | apply below_alloc | apply pw_below_drewN | apply below_drew1 | refine below_set ?_ GE101.out) | exact HB.out)⟩
def impl_count.l0 : Nat → Int → List Int → Int → Int → Option (Int)
 | 0, _, _, _, _ => none
 | k + 1, x3, x7, x8, x9 => if x9 < x8 then (if 0 ≤ x9 then (if x9 < (x7.length : Int) then (impl_count.l0 k (wrap64 (x3 * (rd x7 x9))) x7 x8 (wrap64 (x9 + 1))) else (none)) else (none)) else (some x3)
def impl_count.f (k : Nat) (l0_0 : List Int) : Option (Int) := impl_count.l0 k 1 l0_0 (l0_0.length : Int) 0
set_option maxHeartbeats 8000000 in
set_option maxRecDepth 100000 in
theorem impl_count.calls (k : Nat) (A0_0 : Option Addr) (c0_0 : Nat) (l0_0 : List Int) (r : Int) (w : World) (hr0_0 : Kd.C (Kd.int .i64) w A0_0 l0_0.length l0_0) (hc0_0 : l0_0.length ≤ c0_0) (h : impl_count.f k l0_0 = some r) :
  Calls Try.prog 99 #[.agg #[.slice A0_0 l0_0.length c0_0]] w fun e w' => e = .returned (.int .i64 r) ∧ Below w.heap.size w w' := by
 have hu28 := Try.underlying28
 have HR0_0 := Aside0.mk hr0_0
 have HC0_0 := Aside0.mk hc0_0
 clear hr0_0 hc0_0
 have HB := Aside0.mk (Below.refl w.heap.size w)
 have H : (impl_count.l0 k 1 l0_0 (l0_0.length : Int) 0) = some r := h
 clear h
 have H' := Aside0.mk H
 clear H
 go_enter Try.func99, Try.ntmps99
 go_wp2_with (first | ((with_reducible refine gate_dst (N := 1) rfl ?_); refine box_event ?hg (N := 1) ?hd (cs := #[.slice A0_0 l0_0.length c0_0]) (t := 28) ?hr ?_; (case hd => rfl); (case hg => rfl); (case hr => first | (go_simp; done) | (go_simp; rfl)); intro gb101 hg w2 hbox hb; have n0_ := Aside0.mk (below_step (by repeat (first | (with_reducible first | exact HB.out | apply below_alloc | apply pw_below_drewN | apply below_drew1) | exact HB.out)) hb); have n1_ := Aside0.mk (hbox); have n2_ := Aside0.mk ((by rw [hg]; exact (below_size (by repeat (first | (with_reducible first | exact HB.out | apply below_alloc | apply pw_below_drewN | apply below_drew1) | exact HB.out))) : w.heap.size ≤ gb101)); have n3_ := Aside0.mk ((by rw [hg]; exact (below_size (by repeat (first | (with_reducible first | exact HB.out | apply below_alloc | apply pw_below_drewN | apply below_drew1) | exact HB.out))) : w.heap.size ≤ gb101)); clear HB; have HB := n0_; have BK101 := n1_; have GW101 := n2_; have GE101 := n3_; clear n0_ n1_ n2_ n3_; clear hb hbox hg; have hcz3_0 : w2.cell? ⟨gb101, 0, none⟩ = some (.slice A0_0 l0_0.length c0_0) := (blk_cell BK101.out 0).trans rfl; have hfz3_0 := blk_frozen BK101.out 0))
 go_loopg [3, 9] k (fun kq v3 v9 w' => ∃ (x3_1 : Int) (x9_1 : Int), v3 = .int .i64 x3_1 ∧ v9 = .int .i64 x9_1 ∧ Aside0 (impl_count.l0 kq x3_1 l0_0 (l0_0.length : Int) x9_1 = some r) ∧ Aside0 (kq ≤ k) ∧ Aside0 (w'.heap[gb101]? = some (.cells #[(.slice A0_0 l0_0.length c0_0)] 28 (0, 0))) ∧ Aside0 (Below w.heap.size w w'))
 case atStart => exact ⟨(1), (0), (by first | rfl | (simp; done) | (simp [*]; done)), (by first | rfl | (simp; done) | (simp [*]; done)), H', ⟨Nat.le_refl _⟩, ⟨by (with_reducible repeat (first | refine blk_drewN ?_ _ | refine blk_drew ?_ | refine blk_alloc ?_ _)); exact BK101.out⟩, ⟨by repeat (first | (with_reducible first | exact HB.out | apply below_alloc | apply pw_below_drewN | apply below_drew1 | refine below_set ?_ GE101.out) | exact HB.out)⟩⟩
 case round =>
  clear H'
  try clear p2
  try clear hcz3_0
  try clear hfz3_0
  obtain ⟨x3_1, x9_1, rfl, rfl, HA, HK1, BK101, HB⟩ := hrel
  cases gk with
  | zero => exact absurd HA.out (by simp [impl_count.l0])
  | succ k1 =>
   have H := HA.out
   clear HA
   simp only [impl_count.l0] at H
   by_cases c4 : x9_1 < (l0_0.length : Int)
   ·rw [if_pos c4] at H
    have c4b0 : decide (x9_1 < (l0_0.length : Int)) = true := decide_eq_true c4
    clear c4
    by_cases c5 : 0 ≤ x9_1
    ·rw [if_pos c5] at H
     have c5b0 : decide (0 ≤ x9_1) = true := decide_eq_true c5
     clear c5
     by_cases c6 : x9_1 < (l0_0.length : Int)
     ·rw [if_pos c6] at H
      have c6b0 : decide (x9_1 < (l0_0.length : Int)) = true := decide_eq_true c6
      clear c6
      have H' := Aside0.mk H
      clear H
      have p102 : 0 ≤ (x9_1 : Int) := of_decide_eq_true (by first | (with_reducible assumption) | assumption)
      have q102 : x9_1 < (l0_0.length : Int) := of_decide_eq_true (by first | (with_reducible assumption) | assumption)
      obtain ⟨ad102, e102, hx102_0⟩ := Kd.at_int HR0_0.out x9_1 p102 q102
      cases e102
      replace hx102_0 := (HB.out.cell (World.block_lt_of_cell? w _ hx102_0)).trans hx102_0
      replace p102 := eq_true p102
      replace q102 := eq_true q102
      go_wp2
      go_roundg k1
      case measure => have := HK1.out; omega
      case rel => exact ⟨(wrap64 (x3_1 * (rd l0_0 x9_1))), (wrap64 (x9_1 + 1)), (by first | rfl | (simp; done) | (simp [*]; done)), (by first | rfl | (simp; done) | (simp [*]; done)), H', ⟨by have := HK1.out; omega⟩, ⟨by (with_reducible repeat (first | refine blk_drewN ?_ _ | refine blk_drew ?_ | refine blk_alloc ?_ _)); exact BK101.out⟩, ⟨by repeat (first | (with_reducible first | exact HB.out | apply below_alloc | apply pw_below_drewN | apply below_drew1 | refine below_set ?_ GE101.out) | exact HB.out)⟩⟩
     ·rw [if_neg c6] at H
      exact absurd H (by simp)
    ·rw [if_neg c5] at H
     exact absurd H (by simp)
   ·rw [if_neg c4] at H
    have c4b0 : decide (x9_1 < (l0_0.length : Int)) = false := decide_eq_false c4
    clear c4
    obtain rfl := Option.some.inj H
    go_wp2
    go_ret
    exact ⟨by first | rfl | (simp [errW_none, errW_some] <;> rfl) | (simp [*, errW_none, errW_some] <;> rfl), by repeat (first | (with_reducible first | exact HB.out | apply below_alloc | apply pw_below_drewN | apply below_drew1 | refine below_set ?_ GE101.out) | exact HB.out)⟩
def impl_areWords.l0 : Nat → Int → List Int → Int → Int → Option (Bool)
 | 0, _, _, _, _ => none
 | k + 1, x5, x10, x11, x12 => if x12 < x11 then (if 0 ≤ x12 then (if x12 < (x10.length : Int) then (if (rd x10 x12) < 0 then (some false) else (if (rd x10 x12) ≥ x5 then (some false) else (impl_areWords.l0 k x5 x10 x11 (wrap64 (x12 + 1))))) else (none)) else (none)) else (some true)
def impl_areWords.f (k : Nat) (l0_0 : List Int) (l1 : List Int) : Option (Bool) := (impl_count.f k l0_0).bind fun t102 => (impl_areWords.l0 k t102 l1 (l1.length : Int) 0)
set_option maxHeartbeats 8000000 in
set_option maxRecDepth 100000 in
theorem impl_areWords.calls (k : Nat) (A0_0 : Option Addr) (c0_0 : Nat) (l0_0 : List Int) (A1 : Option Addr) (c1 : Nat) (l1 : List Int) (r : Bool) (w : World) (hr0_0 : Kd.C (Kd.int .i64) w A0_0 l0_0.length l0_0) (hc0_0 : l0_0.length ≤ c0_0) (hr1 : Kd.C (Kd.int .i64) w A1 l1.length l1) (hc1 : l1.length ≤ c1) (h : impl_areWords.f k l0_0 l1 = some r) :
  Calls Try.prog 167 #[.agg #[.slice A0_0 l0_0.length c0_0], .slice A1 l1.length c1] w fun e w' => e = .returned (.bool r) ∧ Below w.heap.size w w' := by
 have hu28 := Try.underlying28
 have HR0_0 := Aside0.mk hr0_0
 have HC0_0 := Aside0.mk hc0_0
 clear hr0_0 hc0_0
 have HR1 := Aside0.mk hr1
 have HC1 := Aside0.mk hc1
 clear hr1 hc1
 have HB := Aside0.mk (Below.refl w.heap.size w)
 have H : ((impl_count.f k l0_0).bind fun t102 => (impl_areWords.l0 k t102 l1 (l1.length : Int) 0)) = some r := h
 clear h
 replace H := Option.bind_eq_some_iff.mp H
 obtain ⟨t102, A30, H⟩ := H
 replace H : (impl_areWords.l0 k t102 l1 (l1.length : Int) 0) = some r := H
 have A3 := Aside0.mk A30
 clear A30
 have H' := Aside0.mk H
 clear H
 go_enter Try.func167, Try.ntmps167
 go_wp2_with (first | ((with_reducible refine gate_dst (N := 2) rfl ?_); refine box_event ?hg (N := 2) ?hd (cs := #[.slice A0_0 l0_0.length c0_0]) (t := 28) ?hr ?_; (case hd => rfl); (case hg => rfl); (case hr => first | (go_simp; done) | (go_simp; rfl)); intro gb101 hg w4 hbox hb; have n0_ := Aside0.mk (below_step (by repeat (first | (with_reducible first | exact HB.out | apply below_alloc | apply pw_below_drewN | apply below_drew1) | exact HB.out)) hb); have n1_ := Aside0.mk (hbox); have n2_ := Aside0.mk ((by rw [hg]; exact (below_size (by repeat (first | (with_reducible first | exact HB.out | apply below_alloc | apply pw_below_drewN | apply below_drew1) | exact HB.out))) : w.heap.size ≤ gb101)); have n3_ := Aside0.mk ((by rw [hg]; exact (below_size (by repeat (first | (with_reducible first | exact HB.out | apply below_alloc | apply pw_below_drewN | apply below_drew1) | exact HB.out))) : w.heap.size ≤ gb101)); clear HB; have HB := n0_; have BK101 := n1_; have GW101 := n2_; have GE101 := n3_; clear n0_ n1_ n2_ n3_; clear hb hbox hg; have hcz5_0 : w4.cell? ⟨gb101, 0, none⟩ = some (.slice A0_0 l0_0.length c0_0) := (blk_cell BK101.out 0).trans rfl; have hfz5_0 := blk_frozen BK101.out 0) | ((with_reducible refine gate_callee (f := 99) rfl ?_); refine goesL_ (some 9) rfl rfl Try.func99 (by kernel_rfl) rfl #[.agg #[.slice A0_0 l0_0.length c0_0]] rfl (by (try simp only [List.map_toArray, List.map_cons, List.map_nil]); first | done | rfl | (simp only [List.length_drop, List.length_take]; rfl)) ?_; (with_reducible refine (impl_count.calls k _ _ l0_0 t102 _ ?side1 ?side2 A3.out).mono ?_); (case side1 => repeat (first | exact (Kd.C_below HR0_0.out HB.out) | (with_reducible refine Kd.C_alloc ?_ _) | (with_reducible refine Kd.C_drewN ?_ _) | (with_reducible refine Kd.C_drew ?_))); (case side2 => exact HC0_0.out); rintro e w6 ⟨rfl, hb⟩; refine ⟨_, rfl, ?_⟩; have n0_ := Aside0.mk (blk_below (g := gb101) (o := .cells #[.slice A0_0 l0_0.length c0_0] 28 (0, 0)) (by (with_reducible repeat (first | refine blk_drewN ?_ _ | refine blk_drew ?_ | refine blk_alloc ?_ _)); exact BK101.out) hb); have n1_ := Aside0.mk (below_step (by repeat (first | (with_reducible first | exact HB.out | apply below_alloc | apply pw_below_drewN | apply below_drew1 | refine below_set ?_ GE101.out) | exact HB.out)) hb); clear BK101; clear HB; have BK101 := n0_; have HB := n1_; clear n0_ n1_; (try clear hb); (try clear hb2); (try clear hk); (try clear hi)))
 go_loopg [12] k (fun kq v12 w' => ∃ (x12_1 : Int), v12 = .int .i64 x12_1 ∧ Aside0 (impl_areWords.l0 kq t102 l1 (l1.length : Int) x12_1 = some r) ∧ Aside0 (kq ≤ k) ∧ Aside0 (w'.heap[gb101]? = some (.cells #[(.slice A0_0 l0_0.length c0_0)] 28 (0, 0))) ∧ Aside0 (Below w.heap.size w w'))
 case atStart => exact ⟨(0), (by first | rfl | (simp; done) | (simp [*]; done)), H', ⟨Nat.le_refl _⟩, ⟨by (with_reducible repeat (first | refine blk_drewN ?_ _ | refine blk_drew ?_ | refine blk_alloc ?_ _)); exact BK101.out⟩, ⟨by repeat (first | (with_reducible first | exact HB.out | apply below_alloc | apply pw_below_drewN | apply below_drew1 | refine below_set ?_ GE101.out) | exact HB.out)⟩⟩
 case round =>
  clear H'
  try clear c1
  try clear p2
  try clear hcz5_0
  try clear hfz5_0
  obtain ⟨x12_1, rfl, HA, HK1, BK101, HB⟩ := hrel
  cases gk with
  | zero => exact absurd HA.out (by simp [impl_areWords.l0])
  | succ k1 =>
   have H := HA.out
   clear HA
   simp only [impl_areWords.l0] at H
   by_cases c7 : x12_1 < (l1.length : Int)
   ·rw [if_pos c7] at H
    have c7b0 : decide (x12_1 < (l1.length : Int)) = true := decide_eq_true c7
    clear c7
    by_cases c8 : 0 ≤ x12_1
    ·rw [if_pos c8] at H
     have c8b0 : decide (0 ≤ x12_1) = true := decide_eq_true c8
     clear c8
     by_cases c9 : x12_1 < (l1.length : Int)
     ·rw [if_pos c9] at H
      have c9b0 : decide (x12_1 < (l1.length : Int)) = true := decide_eq_true c9
      clear c9
      by_cases c10 : (rd l1 x12_1) < 0
      ·rw [if_pos c10] at H
       have c10b0 : decide ((rd l1 x12_1) < 0) = true := decide_eq_true c10
       clear c10
       obtain rfl := Option.some.inj H
       have p103 : 0 ≤ (x12_1 : Int) := of_decide_eq_true (by first | (with_reducible assumption) | assumption)
       have q103 : x12_1 < (l1.length : Int) := of_decide_eq_true (by first | (with_reducible assumption) | assumption)
       obtain ⟨ad103, e103, hx103_0⟩ := Kd.at_int HR1.out x12_1 p103 q103
       cases e103
       replace hx103_0 := (HB.out.cell (World.block_lt_of_cell? w _ hx103_0)).trans hx103_0
       replace p103 := eq_true p103
       replace q103 := eq_true q103
       go_wp2
       go_ret
       exact ⟨by first | rfl | (simp [errW_none, errW_some] <;> rfl) | (simp [*, errW_none, errW_some] <;> rfl), by repeat (first | (with_reducible first | exact HB.out | apply below_alloc | apply pw_below_drewN | apply below_drew1 | refine below_set ?_ GE101.out) | exact HB.out)⟩
      ·rw [if_neg c10] at H
       have c10b0 : decide ((rd l1 x12_1) < 0) = false := decide_eq_false c10
       clear c10
       by_cases c11 : (rd l1 x12_1) ≥ t102
       ·rw [if_pos c11] at H
        have c11b0 : decide (t102 ≤ (rd l1 x12_1)) = true := decide_eq_true c11
        clear c11
        obtain rfl := Option.some.inj H
        have p103 : 0 ≤ (x12_1 : Int) := of_decide_eq_true (by first | (with_reducible assumption) | assumption)
        have q103 : x12_1 < (l1.length : Int) := of_decide_eq_true (by first | (with_reducible assumption) | assumption)
        obtain ⟨ad103, e103, hx103_0⟩ := Kd.at_int HR1.out x12_1 p103 q103
        cases e103
        replace hx103_0 := (HB.out.cell (World.block_lt_of_cell? w _ hx103_0)).trans hx103_0
        replace p103 := eq_true p103
        replace q103 := eq_true q103
        go_wp2
        go_ret
        exact ⟨by first | rfl | (simp [errW_none, errW_some] <;> rfl) | (simp [*, errW_none, errW_some] <;> rfl), by repeat (first | (with_reducible first | exact HB.out | apply below_alloc | apply pw_below_drewN | apply below_drew1 | refine below_set ?_ GE101.out) | exact HB.out)⟩
       ·rw [if_neg c11] at H
        have c11b0 : decide (t102 ≤ (rd l1 x12_1)) = false := decide_eq_false c11
        clear c11
        have H' := Aside0.mk H
        clear H
        have p103 : 0 ≤ (x12_1 : Int) := of_decide_eq_true (by first | (with_reducible assumption) | assumption)
        have q103 : x12_1 < (l1.length : Int) := of_decide_eq_true (by first | (with_reducible assumption) | assumption)
        obtain ⟨ad103, e103, hx103_0⟩ := Kd.at_int HR1.out x12_1 p103 q103
        cases e103
        replace hx103_0 := (HB.out.cell (World.block_lt_of_cell? w _ hx103_0)).trans hx103_0
        replace p103 := eq_true p103
        replace q103 := eq_true q103
        go_wp2
        go_roundg k1
        case measure => have := HK1.out; omega
        case rel => exact ⟨(wrap64 (x12_1 + 1)), (by first | rfl | (simp; done) | (simp [*]; done)), H', ⟨by have := HK1.out; omega⟩, ⟨by (with_reducible repeat (first | refine blk_drewN ?_ _ | refine blk_drew ?_ | refine blk_alloc ?_ _)); exact BK101.out⟩, ⟨by repeat (first | (with_reducible first | exact HB.out | apply below_alloc | apply pw_below_drewN | apply below_drew1 | refine below_set ?_ GE101.out) | exact HB.out)⟩⟩
     ·rw [if_neg c9] at H
      exact absurd H (by simp)
    ·rw [if_neg c8] at H
     exact absurd H (by simp)
   ·rw [if_neg c7] at H
    have c7b0 : decide (x12_1 < (l1.length : Int)) = false := decide_eq_false c7
    clear c7
    obtain rfl := Option.some.inj H
    go_wp2
    go_ret
    exact ⟨by first | rfl | (simp [errW_none, errW_some] <;> rfl) | (simp [*, errW_none, errW_some] <;> rfl), by repeat (first | (with_reducible first | exact HB.out | apply below_alloc | apply pw_below_drewN | apply below_drew1 | refine below_set ?_ GE101.out) | exact HB.out)⟩
end Go.Proofs.Ytionaakahhgdjaa.P
