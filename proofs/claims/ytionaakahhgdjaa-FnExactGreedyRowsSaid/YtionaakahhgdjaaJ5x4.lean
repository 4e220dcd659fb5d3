/- What some functions of the program return, and plain facts on it; conditions: those that each theorem names. Part 4 of the proof. -/
import Derived.Test.YtionaakahhgdjaaJ5x1
import Derived.Test.YtionaakahhgdjaaJ5x3
import Derived.Test.YtionaakahhgdjaaJ5x2
namespace Go.Proofs.Ytionaakahhgdjaa.P
open Go.RowKit Go.Proofs.YtionaakahhgdjaaW.PrintWords Go.Proofs.YtionaakahhgdjaaW.PrintLast Go.Proofs.YtionaakahhgdjaaW.PrintMore
attribute [local go_sem] max2_int min2_int max_two min_two max_three min_three max_four min_four
set_option linter.unusedVariables false
set_option linter.unusedSimpArgs false
def impl_rowsCode.f (k : Nat) (l0_0 : List Int) (l1 : List Int) (a2 : Int) : Option (Int) := (impl_IsSpace.f k l0_0).bind fun t102 => (if t102 = true then (if (l1.length : Int) > 200 then (some 2) else ((impl_areWords.f k l0_0 l1).bind fun t103 => (if t103 = true then ((impl_isStrength.f l0_0 a2).bind fun t104 => (if t104 = true then (some 0) else (some 2))) else (some 2)))) else (some 1))
set_option maxHeartbeats 8000000 in
set_option maxRecDepth 100000 in
theorem impl_rowsCode.calls (k : Nat) (A0_0 : Option Addr) (c0_0 : Nat) (l0_0 : List Int) (A1 : Option Addr) (c1 : Nat) (l1 : List Int) (a2 : Int) (r : Int) (w : World) (hr0_0 : Kd.C (Kd.int .i64) w A0_0 l0_0.length l0_0) (hc0_0 : l0_0.length ≤ c0_0) (hr1 : Kd.C (Kd.int .i64) w A1 l1.length l1) (hc1 : l1.length ≤ c1) (h : impl_rowsCode.f k l0_0 l1 a2 = some r) :
  Calls Try.prog 89 #[.agg #[.slice A0_0 l0_0.length c0_0], .slice A1 l1.length c1, .int .i64 a2] w fun e w' => e = .returned (.int .i64 r) ∧ Below w.heap.size w w' := by
 have hu28 := Try.underlying28
 have HR0_0 := Aside0.mk hr0_0
 have HC0_0 := Aside0.mk hc0_0
 clear hr0_0 hc0_0
 have HR1 := Aside0.mk hr1
 have HC1 := Aside0.mk hc1
 clear hr1 hc1
 have HB := Aside0.mk (Below.refl w.heap.size w)
 have H : ((impl_IsSpace.f k l0_0).bind fun t102 => (if t102 = true then (if (l1.length : Int) > 200 then (some 2) else ((impl_areWords.f k l0_0 l1).bind fun t103 => (if t103 = true then ((impl_isStrength.f l0_0 a2).bind fun t104 => (if t104 = true then (some 0) else (some 2))) else (some 2)))) else (some 1))) = some r := h
 clear h
 replace H := Option.bind_eq_some_iff.mp H
 obtain ⟨t102, A40, H⟩ := H
 replace H : (if t102 = true then (if (l1.length : Int) > 200 then (some 2) else ((impl_areWords.f k l0_0 l1).bind fun t103 => (if t103 = true then ((impl_isStrength.f l0_0 a2).bind fun t104 => (if t104 = true then (some 0) else (some 2))) else (some 2)))) else (some 1)) = some r := H
 have A4 := Aside0.mk A40
 clear A40
 by_cases c5 : t102 = true
 ·subst c5
  have H1 : (if (l1.length : Int) > 200 then (some 2) else ((impl_areWords.f k l0_0 l1).bind fun t103 => (if t103 = true then ((impl_isStrength.f l0_0 a2).bind fun t104 => (if t104 = true then (some 0) else (some 2))) else (some 2)))) = some r := by rw [if_pos rfl] at H; exact H
  clear H
  have H := H1
  clear H1
  by_cases c6 : (l1.length : Int) > 200
  ·rw [if_pos c6] at H
   have c6b0 : decide (200 < (l1.length : Int)) = true := decide_eq_true c6
   have c6b1 : decide (200 < l1.length) = true := decide_eq_true (by omega)
   clear c6
   obtain rfl := Option.some.inj H
   go_enter Try.func89, Try.ntmps89
   go_wp2_with (first | ((with_reducible refine gate_dst (N := 3) rfl ?_); refine box_event ?hg (N := 3) ?hd (cs := #[.slice A0_0 l0_0.length c0_0]) (t := 28) ?hr ?_; (case hd => rfl); (case hg => rfl); (case hr => first | (go_simp; done) | (go_simp; rfl)); intro gb101 hg w7 hbox hb; have n0_ := Aside0.mk (below_step (by repeat (first | (with_reducible first | exact HB.out | apply below_alloc | apply pw_below_drewN | apply below_drew1) | exact HB.out)) hb); have n1_ := Aside0.mk (hbox); have n2_ := Aside0.mk ((by rw [hg]; exact (below_size (by repeat (first | (with_reducible first | exact HB.out | apply below_alloc | apply pw_below_drewN | apply below_drew1) | exact HB.out))) : w.heap.size ≤ gb101)); have n3_ := Aside0.mk ((by rw [hg]; exact (below_size (by repeat (first | (with_reducible first | exact HB.out | apply below_alloc | apply pw_below_drewN | apply below_drew1) | exact HB.out))) : w.heap.size ≤ gb101)); clear HB; have HB := n0_; have BK101 := n1_; have GW101 := n2_; have GE101 := n3_; clear n0_ n1_ n2_ n3_; clear hb hbox hg; have hcz8_0 : w7.cell? ⟨gb101, 0, none⟩ = some (.slice A0_0 l0_0.length c0_0) := (blk_cell BK101.out 0).trans rfl; have hfz8_0 := blk_frozen BK101.out 0) | ((with_reducible refine gate_callee (f := 161) rfl ?_); refine goesL_ (some 9) rfl rfl Try.func161 (by kernel_rfl) rfl #[.agg #[.slice A0_0 l0_0.length c0_0]] rfl (by (try simp only [List.map_toArray, List.map_cons, List.map_nil]); first | done | rfl | (simp only [List.length_drop, List.length_take]; rfl)) ?_; (with_reducible refine (impl_IsSpace.calls k _ _ l0_0 true _ ?side1 ?side2 A4.out).mono ?_); (case side1 => repeat (first | exact (Kd.C_below HR0_0.out HB.out) | (with_reducible refine Kd.C_alloc ?_ _) | (with_reducible refine Kd.C_drewN ?_ _) | (with_reducible refine Kd.C_drew ?_))); (case side2 => exact HC0_0.out); rintro e w9 ⟨rfl, hb⟩; refine ⟨_, rfl, ?_⟩; have n0_ := Aside0.mk (blk_below (g := gb101) (o := .cells #[.slice A0_0 l0_0.length c0_0] 28 (0, 0)) (by (with_reducible repeat (first | refine blk_drewN ?_ _ | refine blk_drew ?_ | refine blk_alloc ?_ _)); exact BK101.out) hb); have n1_ := Aside0.mk (below_step (by repeat (first | (with_reducible first | exact HB.out | apply below_alloc | apply pw_below_drewN | apply below_drew1 | refine below_set ?_ GE101.out) | exact HB.out)) hb); clear BK101; clear HB; have BK101 := n0_; have HB := n1_; clear n0_ n1_; (try clear hb); (try clear hb2); (try clear hk); (try clear hi)))
   go_ret
   exact ⟨by first | rfl | (simp [errW_none, errW_some] <;> rfl) | (simp [*, errW_none, errW_some] <;> rfl), by repeat (first | (with_reducible first | exact HB.out | apply below_alloc | apply pw_below_drewN | apply below_drew1 | refine below_set ?_ GE101.out) | exact HB.out)⟩
  ·rw [if_neg c6] at H
   have c6b0 : decide (200 < (l1.length : Int)) = false := decide_eq_false c6
   have c6b1 : decide (200 < l1.length) = false := decide_eq_false (by omega)
   clear c6
   replace H := Option.bind_eq_some_iff.mp H
   obtain ⟨t103, A100, H⟩ := H
   replace H : (if t103 = true then ((impl_isStrength.f l0_0 a2).bind fun t104 => (if t104 = true then (some 0) else (some 2))) else (some 2)) = some r := H
   have A10 := Aside0.mk A100
   clear A100
   by_cases c11 : t103 = true
   ·subst c11
    have H1 : ((impl_isStrength.f l0_0 a2).bind fun t104 => (if t104 = true then (some 0) else (some 2))) = some r := by rw [if_pos rfl] at H; exact H
    clear H
    have H := H1
    clear H1
    replace H := Option.bind_eq_some_iff.mp H
    obtain ⟨t104, A120, H⟩ := H
    replace H : (if t104 = true then (some 0) else (some 2)) = some r := H
    have A12 := Aside0.mk A120
    clear A120
    by_cases c13 : t104 = true
    ·subst c13
     have H1 : (some 0) = some r := by rw [if_pos rfl] at H; exact H
     clear H
     have H := H1
     clear H1
     obtain rfl := Option.some.inj H
     go_enter Try.func89, Try.ntmps89
     go_wp2_with (first | ((with_reducible refine gate_dst (N := 3) rfl ?_); refine box_event ?hg (N := 3) ?hd (cs := #[.slice A0_0 l0_0.length c0_0]) (t := 28) ?hr ?_; (case hd => rfl); (case hg => rfl); (case hr => first | (go_simp; done) | (go_simp; rfl)); intro gb101 hg w14 hbox hb; have n0_ := Aside0.mk (below_step (by repeat (first | (with_reducible first | exact HB.out | apply below_alloc | apply pw_below_drewN | apply below_drew1) | exact HB.out)) hb); have n1_ := Aside0.mk (hbox); have n2_ := Aside0.mk ((by rw [hg]; exact (below_size (by repeat (first | (with_reducible first | exact HB.out | apply below_alloc | apply pw_below_drewN | apply below_drew1) | exact HB.out))) : w.heap.size ≤ gb101)); have n3_ := Aside0.mk ((by rw [hg]; exact (below_size (by repeat (first | (with_reducible first | exact HB.out | apply below_alloc | apply pw_below_drewN | apply below_drew1) | exact HB.out))) : w.heap.size ≤ gb101)); clear HB; have HB := n0_; have BK101 := n1_; have GW101 := n2_; have GE101 := n3_; clear n0_ n1_ n2_ n3_; clear hb hbox hg; have hcz15_0 : w14.cell? ⟨gb101, 0, none⟩ = some (.slice A0_0 l0_0.length c0_0) := (blk_cell BK101.out 0).trans rfl; have hfz15_0 := blk_frozen BK101.out 0) | ((with_reducible refine gate_callee (f := 161) rfl ?_); refine goesL_ (some 9) rfl rfl Try.func161 (by kernel_rfl) rfl #[.agg #[.slice A0_0 l0_0.length c0_0]] rfl (by (try simp only [List.map_toArray, List.map_cons, List.map_nil]); first | done | rfl | (simp only [List.length_drop, List.length_take]; rfl)) ?_; (with_reducible refine (impl_IsSpace.calls k _ _ l0_0 true _ ?side1 ?side2 A4.out).mono ?_); (case side1 => repeat (first | exact (Kd.C_below HR0_0.out HB.out) | (with_reducible refine Kd.C_alloc ?_ _) | (with_reducible refine Kd.C_drewN ?_ _) | (with_reducible refine Kd.C_drew ?_))); (case side2 => exact HC0_0.out); rintro e w16 ⟨rfl, hb⟩; refine ⟨_, rfl, ?_⟩; have n0_ := Aside0.mk (blk_below (g := gb101) (o := .cells #[.slice A0_0 l0_0.length c0_0] 28 (0, 0)) (by (with_reducible repeat (first | refine blk_drewN ?_ _ | refine blk_drew ?_ | refine blk_alloc ?_ _)); exact BK101.out) hb); have n1_ := Aside0.mk (below_step (by repeat (first | (with_reducible first | exact HB.out | apply below_alloc | apply pw_below_drewN | apply below_drew1 | refine below_set ?_ GE101.out) | exact HB.out)) hb); clear BK101; clear HB; have BK101 := n0_; have HB := n1_; clear n0_ n1_; (try clear hb); (try clear hb2); (try clear hk); (try clear hi); have hcz17_0 : w16.cell? ⟨gb101, 0, none⟩ = some (.slice A0_0 l0_0.length c0_0) := (blk_cell BK101.out 0).trans rfl; have hfz17_0 := blk_frozen BK101.out 0) | (go_at_call 167; (with_reducible refine (impl_areWords.calls k _ _ l0_0 _ _ l1 true _ ?side1 ?side2 ?side3 ?side4 A10.out).mono ?_); (case side1 => repeat (first | exact (Kd.C_below HR0_0.out HB.out) | (with_reducible refine Kd.C_alloc ?_ _) | (with_reducible refine Kd.C_drewN ?_ _) | (with_reducible refine Kd.C_drew ?_))); (case side2 => exact HC0_0.out); (case side3 => repeat (first | exact (Kd.C_below HR1.out HB.out) | (with_reducible refine Kd.C_alloc ?_ _) | (with_reducible refine Kd.C_drewN ?_ _) | (with_reducible refine Kd.C_drew ?_))); (case side4 => exact HC1.out); rintro e w18 ⟨rfl, hb⟩; have n0_ := Aside0.mk (blk_below (g := gb101) (o := .cells #[.slice A0_0 l0_0.length c0_0] 28 (0, 0)) (by (with_reducible repeat (first | refine blk_drewN ?_ _ | refine blk_drew ?_ | refine blk_alloc ?_ _)); exact BK101.out) hb); have n1_ := Aside0.mk (below_step (by repeat (first | (with_reducible first | exact HB.out | apply below_alloc | apply pw_below_drewN | apply below_drew1 | refine below_set ?_ GE101.out) | exact HB.out)) hb); clear BK101; clear HB; have BK101 := n0_; have HB := n1_; clear n0_ n1_; (try clear hb); (try clear hb2); (try clear hk); (try clear hi); have hcz19_0 : w18.cell? ⟨gb101, 0, none⟩ = some (.slice A0_0 l0_0.length c0_0) := (blk_cell BK101.out 0).trans rfl; have hfz19_0 := blk_frozen BK101.out 0) | (go_at_call 90; (with_reducible refine (impl_isStrength.calls _ _ l0_0 a2 true _ ?side1 ?side2 A12.out).mono ?_); (case side1 => repeat (first | exact (Kd.C_below HR0_0.out HB.out) | (with_reducible refine Kd.C_alloc ?_ _) | (with_reducible refine Kd.C_drewN ?_ _) | (with_reducible refine Kd.C_drew ?_))); (case side2 => exact HC0_0.out); rintro e w20 ⟨rfl, hb⟩; have n0_ := Aside0.mk (blk_below (g := gb101) (o := .cells #[.slice A0_0 l0_0.length c0_0] 28 (0, 0)) (by (with_reducible repeat (first | refine blk_drewN ?_ _ | refine blk_drew ?_ | refine blk_alloc ?_ _)); exact BK101.out) hb); have n1_ := Aside0.mk (below_step (by repeat (first | (with_reducible first | exact HB.out | apply below_alloc | apply pw_below_drewN | apply below_drew1 | refine below_set ?_ GE101.out) | exact HB.out)) hb); clear BK101; clear HB; have BK101 := n0_; have HB := n1_; clear n0_ n1_; (try clear hb); (try clear hb2); (try clear hk); (try clear hi)))
     go_ret
     exact ⟨by first | rfl | (simp [errW_none, errW_some] <;> rfl) | (simp [*, errW_none, errW_some] <;> rfl), by repeat (first | (with_reducible first | exact HB.out | apply below_alloc | apply pw_below_drewN | apply below_drew1 | refine below_set ?_ GE101.out) | exact HB.out)⟩
    ·replace c13 := Bool.eq_false_iff.mpr c13
     subst c13
     have H1 : (some 2) = some r := by rw [if_neg (show ¬ (false = true) by decide)] at H; exact H
     clear H
     have H := H1
     clear H1
     obtain rfl := Option.some.inj H
     go_enter Try.func89, Try.ntmps89
     go_wp2_with (first | ((with_reducible refine gate_dst (N := 3) rfl ?_); refine box_event ?hg (N := 3) ?hd (cs := #[.slice A0_0 l0_0.length c0_0]) (t := 28) ?hr ?_; (case hd => rfl); (case hg => rfl); (case hr => first | (go_simp; done) | (go_simp; rfl)); intro gb101 hg w21 hbox hb; have n0_ := Aside0.mk (below_step (by repeat (first | (with_reducible first | exact HB.out | apply below_alloc | apply pw_below_drewN | apply below_drew1) | exact HB.out)) hb); have n1_ := Aside0.mk (hbox); have n2_ := Aside0.mk ((by rw [hg]; exact (below_size (by repeat (first | (with_reducible first | exact HB.out | apply below_alloc | apply pw_below_drewN | apply below_drew1) | exact HB.out))) : w.heap.size ≤ gb101)); have n3_ := Aside0.mk ((by rw [hg]; exact (below_size (by repeat (first | (with_reducible first | exact HB.out | apply below_alloc | apply pw_below_drewN | apply below_drew1) | exact HB.out))) : w.heap.size ≤ gb101)); clear HB; have HB := n0_; have BK101 := n1_; have GW101 := n2_; have GE101 := n3_; clear n0_ n1_ n2_ n3_; clear hb hbox hg; have hcz22_0 : w21.cell? ⟨gb101, 0, none⟩ = some (.slice A0_0 l0_0.length c0_0) := (blk_cell BK101.out 0).trans rfl; have hfz22_0 := blk_frozen BK101.out 0) | ((with_reducible refine gate_callee (f := 161) rfl ?_); refine goesL_ (some 9) rfl rfl Try.func161 (by kernel_rfl) rfl #[.agg #[.slice A0_0 l0_0.length c0_0]] rfl (by (try simp only [List.map_toArray, List.map_cons, List.map_nil]); first | done | rfl | (simp only [List.length_drop, List.length_take]; rfl)) ?_; (with_reducible refine (impl_IsSpace.calls k _ _ l0_0 true _ ?side1 ?side2 A4.out).mono ?_); (case side1 => repeat (first | exact (Kd.C_below HR0_0.out HB.out) | (with_reducible refine Kd.C_alloc ?_ _) | (with_reducible refine Kd.C_drewN ?_ _) | (with_reducible refine Kd.C_drew ?_))); (case side2 => exact HC0_0.out); rintro e w23 ⟨rfl, hb⟩; refine ⟨_, rfl, ?_⟩; have n0_ := Aside0.mk (blk_below (g := gb101) (o := .cells #[.slice A0_0 l0_0.length c0_0] 28 (0, 0)) (by (with_reducible repeat (first | refine blk_drewN ?_ _ | refine blk_drew ?_ | refine blk_alloc ?_ _)); exact BK101.out) hb); have n1_ := Aside0.mk (below_step (by repeat (first | (with_reducible first | exact HB.out | apply below_alloc | apply pw_below_drewN | apply below_drew1 | refine below_set ?_ GE101.out) | exact HB.out)) hb); clear BK101; clear HB; have BK101 := n0_; have HB := n1_; clear n0_ n1_; (try clear hb); (try clear hb2); (try clear hk); (try clear hi); have hcz24_0 : w23.cell? ⟨gb101, 0, none⟩ = some (.slice A0_0 l0_0.length c0_0) := (blk_cell BK101.out 0).trans rfl; have hfz24_0 := blk_frozen BK101.out 0) | (go_at_call 167; (with_reducible refine (impl_areWords.calls k _ _ l0_0 _ _ l1 true _ ?side1 ?side2 ?side3 ?side4 A10.out).mono ?_); (case side1 => repeat (first | exact (Kd.C_below HR0_0.out HB.out) | (with_reducible refine Kd.C_alloc ?_ _) | (with_reducible refine Kd.C_drewN ?_ _) | (with_reducible refine Kd.C_drew ?_))); (case side2 => exact HC0_0.out); (case side3 => repeat (first | exact (Kd.C_below HR1.out HB.out) | (with_reducible refine Kd.C_alloc ?_ _) | (with_reducible refine Kd.C_drewN ?_ _) | (with_reducible refine Kd.C_drew ?_))); (case side4 => exact HC1.out); rintro e w25 ⟨rfl, hb⟩; have n0_ := Aside0.mk (blk_below (g := gb101) (o := .cells #[.slice A0_0 l0_0.length c0_0] 28 (0, 0)) (by (with_reducible repeat (first | refine blk_drewN ?_ _ | refine blk_drew ?_ | refine blk_alloc ?_ _)); exact BK101.out) hb); have n1_ := Aside0.mk (below_step (by repeat (first | (with_reducible first | exact HB.out | apply below_alloc | apply pw_below_drewN | apply below_drew1 | refine below_set ?_ GE101.out) | exact HB.out)) hb); clear BK101; clear HB; have BK101 := n0_; have HB := n1_; clear n0_ n1_; (try clear hb); (try clear hb2); (try clear hk); (try clear hi); have hcz26_0 : w25.cell? ⟨gb101, 0, none⟩ = some (.slice A0_0 l0_0.length c0_0) := (blk_cell BK101.out 0).trans rfl; have hfz26_0 := blk_frozen BK101.out 0) | (go_at_call 90; (with_reducible refine (impl_isStrength.calls _ _ l0_0 a2 false _ ?side1 ?side2 A12.out).mono ?_); (case side1 => repeat (first | exact (Kd.C_below HR0_0.out HB.out) | (with_reducible refine Kd.C_alloc ?_ _) | (with_reducible refine Kd.C_drewN ?_ _) | (with_reducible refine Kd.C_drew ?_))); (case side2 => exact HC0_0.out); rintro e w27 ⟨rfl, hb⟩; have n0_ := Aside0.mk (blk_below (g := gb101) (o := .cells #[.slice A0_0 l0_0.length c0_0] 28 (0, 0)) (by (with_reducible repeat (first | refine blk_drewN ?_ _ | refine blk_drew ?_ | refine blk_alloc ?_ _)); exact BK101.out) hb); have n1_ := Aside0.mk (below_step (by repeat (first | (with_reducible first | exact HB.out | apply below_alloc | apply pw_below_drewN | apply below_drew1 | refine below_set ?_ GE101.out) | exact HB.out)) hb); clear BK101; clear HB; have BK101 := n0_; have HB := n1_; clear n0_ n1_; (try clear hb); (try clear hb2); (try clear hk); (try clear hi)))
     go_ret
     exact ⟨by first | rfl | (simp [errW_none, errW_some] <;> rfl) | (simp [*, errW_none, errW_some] <;> rfl), by repeat (first | (with_reducible first | exact HB.out | apply below_alloc | apply pw_below_drewN | apply below_drew1 | refine below_set ?_ GE101.out) | exact HB.out)⟩
   ·replace c11 := Bool.eq_false_iff.mpr c11
    subst c11
    have H1 : (some 2) = some r := by rw [if_neg (show ¬ (false = true) by decide)] at H; exact H
    clear H
    have H := H1
    clear H1
    obtain rfl := Option.some.inj H
    go_enter Try.func89, Try.ntmps89
    go_wp2_with (first | ((with_reducible refine gate_dst (N := 3) rfl ?_); refine box_event ?hg (N := 3) ?hd (cs := #[.slice A0_0 l0_0.length c0_0]) (t := 28) ?hr ?_; (case hd => rfl); (case hg => rfl); (case hr => first | (go_simp; done) | (go_simp; rfl)); intro gb101 hg w28 hbox hb; have n0_ := Aside0.mk (below_step (by repeat (first | (with_reducible first | exact HB.out | apply below_alloc | apply pw_below_drewN | apply below_drew1) | exact HB.out)) hb); have n1_ := Aside0.mk (hbox); have n2_ := Aside0.mk ((by rw [hg]; exact (below_size (by repeat (first | (with_reducible first | exact HB.out | apply below_alloc | apply pw_below_drewN | apply below_drew1) | exact HB.out))) : w.heap.size ≤ gb101)); have n3_ := Aside0.mk ((by rw [hg]; exact (below_size (by repeat (first | (with_reducible first | exact HB.out | apply below_alloc | apply pw_below_drewN | apply below_drew1) | exact HB.out))) : w.heap.size ≤ gb101)); clear HB; have HB := n0_; have BK101 := n1_; have GW101 := n2_; have GE101 := n3_; clear n0_ n1_ n2_ n3_; clear hb hbox hg; have hcz29_0 : w28.cell? ⟨gb101, 0, none⟩ = some (.slice A0_0 l0_0.length c0_0) := (blk_cell BK101.out 0).trans rfl; have hfz29_0 := blk_frozen BK101.out 0) | ((with_reducible refine gate_callee (f := 161) rfl ?_); refine goesL_ (some 9) rfl rfl Try.func161 (by kernel_rfl) rfl #[.agg #[.slice A0_0 l0_0.length c0_0]] rfl (by (try simp only [List.map_toArray, List.map_cons, List.map_nil]); first | done | rfl | (simp only [List.length_drop, List.length_take]; rfl)) ?_; (with_reducible refine (impl_IsSpace.calls k _ _ l0_0 true _ ?side1 ?side2 A4.out).mono ?_); (case side1 => repeat (first | exact (Kd.C_below HR0_0.out HB.out) | (with_reducible refine Kd.C_alloc ?_ _) | (with_reducible refine Kd.C_drewN ?_ _) | (with_reducible refine Kd.C_drew ?_))); (case side2 => exact HC0_0.out); rintro e w30 ⟨rfl, hb⟩; refine ⟨_, rfl, ?_⟩; have n0_ := Aside0.mk (blk_below (g := gb101) (o := .cells #[.slice A0_0 l0_0.length c0_0] 28 (0, 0)) (by (with_reducible repeat (first | refine blk_drewN ?_ _ | refine blk_drew ?_ | refine blk_alloc ?_ _)); exact BK101.out) hb); have n1_ := Aside0.mk (below_step (by repeat (first | (with_reducible first | exact HB.out | apply below_alloc | apply pw_below_drewN | apply below_drew1 | refine below_set ?_ GE101.out) | exact HB.out)) hb); clear BK101; clear HB; have BK101 := n0_; have HB := n1_; clear n0_ n1_; (try clear hb); (try clear hb2); (try clear hk); (try clear hi); have hcz31_0 : w30.cell? ⟨gb101, 0, none⟩ = some (.slice A0_0 l0_0.length c0_0) := (blk_cell BK101.out 0).trans rfl; have hfz31_0 := blk_frozen BK101.out 0) | (go_at_call 167; (with_reducible refine (impl_areWords.calls k _ _ l0_0 _ _ l1 false _ ?side1 ?side2 ?side3 ?side4 A10.out).mono ?_); (case side1 => repeat (first | exact (Kd.C_below HR0_0.out HB.out) | (with_reducible refine Kd.C_alloc ?_ _) | (with_reducible refine Kd.C_drewN ?_ _) | (with_reducible refine Kd.C_drew ?_))); (case side2 => exact HC0_0.out); (case side3 => repeat (first | exact (Kd.C_below HR1.out HB.out) | (with_reducible refine Kd.C_alloc ?_ _) | (with_reducible refine Kd.C_drewN ?_ _) | (with_reducible refine Kd.C_drew ?_))); (case side4 => exact HC1.out); rintro e w32 ⟨rfl, hb⟩; have n0_ := Aside0.mk (blk_below (g := gb101) (o := .cells #[.slice A0_0 l0_0.length c0_0] 28 (0, 0)) (by (with_reducible repeat (first | refine blk_drewN ?_ _ | refine blk_drew ?_ | refine blk_alloc ?_ _)); exact BK101.out) hb); have n1_ := Aside0.mk (below_step (by repeat (first | (with_reducible first | exact HB.out | apply below_alloc | apply pw_below_drewN | apply below_drew1 | refine below_set ?_ GE101.out) | exact HB.out)) hb); clear BK101; clear HB; have BK101 := n0_; have HB := n1_; clear n0_ n1_; (try clear hb); (try clear hb2); (try clear hk); (try clear hi)))
    go_ret
    exact ⟨by first | rfl | (simp [errW_none, errW_some] <;> rfl) | (simp [*, errW_none, errW_some] <;> rfl), by repeat (first | (with_reducible first | exact HB.out | apply below_alloc | apply pw_below_drewN | apply below_drew1 | refine below_set ?_ GE101.out) | exact HB.out)⟩
 ·replace c5 := Bool.eq_false_iff.mpr c5
  subst c5
  have H1 : (some 1) = some r := by rw [if_neg (show ¬ (false = true) by decide)] at H; exact H
  clear H
  have H := H1
  clear H1
  obtain rfl := Option.some.inj H
  go_enter Try.func89, Try.ntmps89
  go_wp2_with (first | ((with_reducible refine gate_dst (N := 3) rfl ?_); refine box_event ?hg (N := 3) ?hd (cs := #[.slice A0_0 l0_0.length c0_0]) (t := 28) ?hr ?_; (case hd => rfl); (case hg => rfl); (case hr => first | (go_simp; done) | (go_simp; rfl)); intro gb101 hg w33 hbox hb; have n0_ := Aside0.mk (below_step (by repeat (first | (with_reducible first | exact HB.out | apply below_alloc | apply pw_below_drewN | apply below_drew1) | exact HB.out)) hb); have n1_ := Aside0.mk (hbox); have n2_ := Aside0.mk ((by rw [hg]; exact (below_size (by repeat (first | (with_reducible first | exact HB.out | apply below_alloc | apply pw_below_drewN | apply below_drew1) | exact HB.out))) : w.heap.size ≤ gb101)); have n3_ := Aside0.mk ((by rw [hg]; exact (below_size (by repeat (first | (with_reducible first | exact HB.out | apply below_alloc | apply pw_below_drewN | apply below_drew1) | exact HB.out))) : w.heap.size ≤ gb101)); clear HB; have HB := n0_; have BK101 := n1_; have GW101 := n2_; have GE101 := n3_; clear n0_ n1_ n2_ n3_; clear hb hbox hg; have hcz34_0 : w33.cell? ⟨gb101, 0, none⟩ = some (.slice A0_0 l0_0.length c0_0) := (blk_cell BK101.out 0).trans rfl; have hfz34_0 := blk_frozen BK101.out 0) | ((with_reducible refine gate_callee (f := 161) rfl ?_); refine goesL_ (some 9) rfl rfl Try.func161 (by kernel_rfl) rfl #[.agg #[.slice A0_0 l0_0.length c0_0]] rfl (by (try simp only [List.map_toArray, List.map_cons, List.map_nil]); first | done | rfl | (simp only [List.length_drop, List.length_take]; rfl)) ?_; (with_reducible refine (impl_IsSpace.calls k _ _ l0_0 false _ ?side1 ?side2 A4.out).mono ?_); (case side1 => repeat (first | exact (Kd.C_below HR0_0.out HB.out) | (with_reducible refine Kd.C_alloc ?_ _) | (with_reducible refine Kd.C_drewN ?_ _) | (with_reducible refine Kd.C_drew ?_))); (case side2 => exact HC0_0.out); rintro e w35 ⟨rfl, hb⟩; refine ⟨_, rfl, ?_⟩; have n0_ := Aside0.mk (blk_below (g := gb101) (o := .cells #[.slice A0_0 l0_0.length c0_0] 28 (0, 0)) (by (with_reducible repeat (first | refine blk_drewN ?_ _ | refine blk_drew ?_ | refine blk_alloc ?_ _)); exact BK101.out) hb); have n1_ := Aside0.mk (below_step (by repeat (first | (with_reducible first | exact HB.out | apply below_alloc | apply pw_below_drewN | apply below_drew1 | refine below_set ?_ GE101.out) | exact HB.out)) hb); clear BK101; clear HB; have BK101 := n0_; have HB := n1_; clear n0_ n1_; (try clear hb); (try clear hb2); (try clear hk); (try clear hi)))
  go_ret
  exact ⟨by first | rfl | (simp [errW_none, errW_some] <;> rfl) | (simp [*, errW_none, errW_some] <;> rfl), by repeat (first | (with_reducible first | exact HB.out | apply below_alloc | apply pw_below_drewN | apply below_drew1 | refine below_set ?_ GE101.out) | exact HB.out)⟩
open Go.Proofs.Ytionaakahhgdjaa.M
theorem wrap_id {x : Int} (h0 : -9223372036854775808 ≤ x) (h1 : x ≤ 9223372036854775807) : wrap64 x = x := by
 unfold wrap64
 omega
theorem rd_nat (l : List Int) (i : Nat) : rd l (i : Int) = l.getD i 0 := rfl
theorem drop_get (l : List Int) (i : Nat) (h : i < l.length) : l.drop i = l.getD i 0 :: l.drop (i + 1) := drop_at l i h 0
/-- A space's sizes. -/
def isSp (l : List Int) : Bool := decide (1 ≤ l.length ∧ l.length ≤ 8 ∧ (∀ q ∈ l, 2 ≤ q ∧ q ≤ 4) ∧ pr l ≤ 1024)
theorem pow4 (n : Nat) : (1 : Int) ≤ 4 ^ n := by
 induction n with
 | zero => exact Int.le_refl 1
 | succ n ih => rw [Int.pow_succ]; omega
theorem IsSpace_l0 (l : List Int) (hl : l.length ≤ 8) : ∀ (d k i : Nat) (x : Int), i + d = l.length → d < k → 1 ≤ x → x * 4 ^ d ≤ 65536 →
  impl_IsSpace.l0 k x l (l.length : Int) (i : Int) = some (decide ((∀ q ∈ l.drop i, 2 ≤ q ∧ q ≤ 4) ∧ x * pr (l.drop i) ≤ 1024)) := by
 intro d
 induction d with
 | zero =>
  intro k i x hi hk h0 h1
  obtain ⟨k, rfl⟩ : ∃ m, k = m + 1 := ⟨k - 1, by omega⟩
  simp only [impl_IsSpace.l0]
  rw [if_neg (by omega), List.drop_of_length_le (by omega), pr_nil, Int.mul_one]
  simp
 | succ d ih =>
  intro k i x hi hk h0 h1
  obtain ⟨k, rfl⟩ : ∃ m, k = m + 1 := ⟨k - 1, by omega⟩
  simp only [impl_IsSpace.l0]
  rw [if_pos (by omega), if_pos (by omega), if_pos (by omega), rd_nat, drop_get l i (by omega), pr_cons]
  obtain ⟨q, hq⟩ : ∃ q, q = l.getD i 0 := ⟨_, rfl⟩
  rw [← hq]
  have h4 := pow4 d
  by_cases c1 : q < 2
  ·rw [if_pos c1]
   refine congrArg some (Eq.symm (decide_eq_false (fun h => ?_)))
   have := h.1 q List.mem_cons_self
   omega
  ·rw [if_neg c1]
   by_cases c2 : q > 4
   ·rw [if_pos c2]
    refine congrArg some (Eq.symm (decide_eq_false (fun h => ?_)))
    have := h.1 q List.mem_cons_self
    omega
   ·rw [if_neg c2]
    rw [Int.pow_succ, Int.mul_comm (4 ^ d) 4, ← Int.mul_assoc] at h1
    have hx4 : x * q ≤ x * 4 := Int.mul_le_mul_of_nonneg_left (by omega) (by omega)
    have hx1 : x * 1 ≤ x * q := Int.mul_le_mul_of_nonneg_left (by omega) (by omega)
    have hb : x * q * 4 ^ d ≤ x * 4 * 4 ^ d := Int.mul_le_mul_of_nonneg_right hx4 (by omega)
    have hb2 : x * q * 1 ≤ x * q * 4 ^ d := Int.mul_le_mul_of_nonneg_left h4 (by omega)
    rw [wrap_id (by omega) (by omega), wrap_id (by omega) (by omega), show (i : Int) + 1 = ((i + 1 : Nat) : Int) by omega, ih k (i + 1) (x * q) (by omega) (by omega) (by omega) (by omega), Int.mul_assoc]
    refine congrArg some (decide_eq_decide.2 ⟨fun h => ⟨fun p hp => ?_, h.2⟩, fun h => ⟨fun p hp => h.1 p (List.mem_cons_of_mem _ hp), h.2⟩⟩)
    rcases List.mem_cons.1 hp with rfl | hp
    ·omega
    ·exact h.1 p hp
theorem IsSpace_ev (l : List Int) : Ev (fun k => impl_IsSpace.f k l) (isSp l) := by
 refine ⟨11, fun k hk => ?_⟩
 obtain ⟨k, rfl⟩ : ∃ m, k = m + 1 := ⟨k - 1, by omega⟩
 show impl_IsSpace.f (k + 1) l = some (isSp l)
 unfold impl_IsSpace.f isSp
 by_cases c1 : (l.length : Int) < 1
 ·rw [if_pos c1]
  simp only [impl_IsSpace.j0, if_true]
  exact congrArg some (Eq.symm (decide_eq_false (fun h => by omega)))
 ·rw [if_neg c1]
  simp only [impl_IsSpace.j0]
  by_cases c2 : (l.length : Int) > 8
  ·rw [if_pos (by simpa using c2)]
   exact congrArg some (Eq.symm (decide_eq_false (fun h => by omega)))
  ·rw [if_neg (by simpa using c2)]
   have h4 : (1 : Int) * 4 ^ l.length ≤ 65536 := by
    rw [Int.one_mul]
    have h8 : l.length ≤ 8 := by omega
    generalize l.length = n at h8
    rcases n with _|_|_|_|_|_|_|_|_|n <;> first | decide | omega
   have := IsSpace_l0 l (by omega) l.length k 0 1 (by omega) (by omega) (by omega) h4
   rw [List.drop_zero, Int.one_mul] at this
   rw [show (0 : Int) = ((0 : Nat) : Int) from rfl, this]
   exact congrArg some (decide_eq_decide.2 ⟨fun h => ⟨by omega, by omega, h⟩, fun h => h.2.2⟩)
theorem isSp_sz {l : List Int} (h : isSp l = true) : 1 ≤ l.length ∧ l.length ≤ 8 ∧ Sz l ∧ pr l ≤ 1024 := by
 unfold isSp at h
 have h2 := of_decide_eq_true h
 exact ⟨h2.1, h2.2.1, h2.2.2.1, h2.2.2.2⟩
theorem count_l0 (l : List Int) (hl : l.length ≤ 8) (hz : Sz l) : ∀ (d k i : Nat) (x : Int), i + d = l.length → d < k → 1 ≤ x → x * 4 ^ d ≤ 65536 →
  impl_count.l0 k x l (l.length : Int) (i : Int) = some (x * pr (l.drop i)) := by
 intro d
 induction d with
 | zero =>
  intro k i x hi hk h0 h1
  obtain ⟨k, rfl⟩ : ∃ m, k = m + 1 := ⟨k - 1, by omega⟩
  simp only [impl_count.l0]
  rw [if_neg (by omega), List.drop_of_length_le (by omega), pr_nil, Int.mul_one]
 | succ d ih =>
  intro k i x hi hk h0 h1
  obtain ⟨k, rfl⟩ : ∃ m, k = m + 1 := ⟨k - 1, by omega⟩
  simp only [impl_count.l0]
  have hq0 : 2 ≤ l.getD i 0 ∧ l.getD i 0 ≤ 4 := hz _ (by rw [List.getD_eq_getElem?_getD, List.getElem?_eq_getElem (show i < l.length by omega)]; exact List.getElem_mem _)
  rw [if_pos (by omega), if_pos (by omega), if_pos (by omega), rd_nat, drop_get l i (by omega), pr_cons]
  obtain ⟨q, hq⟩ : ∃ q, q = l.getD i 0 := ⟨_, rfl⟩
  have hq1 : 2 ≤ q ∧ q ≤ 4 := by rw [hq]; exact hq0
  rw [← hq]
  have h4 := pow4 d
  rw [Int.pow_succ, Int.mul_comm (4 ^ d) 4, ← Int.mul_assoc] at h1
  have hx4 : x * q ≤ x * 4 := Int.mul_le_mul_of_nonneg_left (by omega) (by omega)
  have hx1 : x * 1 ≤ x * q := Int.mul_le_mul_of_nonneg_left (by omega) (by omega)
  have hb : x * q * 4 ^ d ≤ x * 4 * 4 ^ d := Int.mul_le_mul_of_nonneg_right hx4 (by omega)
  have hb2 : x * q * 1 ≤ x * q * 4 ^ d := Int.mul_le_mul_of_nonneg_left h4 (by omega)
  rw [wrap_id (by omega) (by omega), wrap_id (by omega) (by omega), show (i : Int) + 1 = ((i + 1 : Nat) : Int) by omega, ih k (i + 1) (x * q) (by omega) (by omega) (by omega) (by omega), Int.mul_assoc]
theorem pow4_8 (n : Nat) (h8 : n ≤ 8) : (1 : Int) * 4 ^ n ≤ 65536 := by
 rw [Int.one_mul]
 rcases n with _|_|_|_|_|_|_|_|_|n <;> first | decide | omega
theorem count_ev (l : List Int) (hl : l.length ≤ 8) (hz : Sz l) : Ev (fun k => impl_count.f k l) (pr l) := by
 refine ⟨11, fun k hk => ?_⟩
 have := count_l0 l hl hz l.length k 0 1 (by omega) (by omega) (by omega) (pow4_8 _ hl)
 rw [List.drop_zero, Int.one_mul] at this
 exact this
theorem areWords_l0 (n : Int) (rows : List Int) (hr : rows.length ≤ 140737488351232) : ∀ (d k i : Nat), i + d = rows.length → d < k →
  impl_areWords.l0 k n rows (rows.length : Int) (i : Int) = some (decide (∀ r ∈ rows.drop i, 0 ≤ r ∧ r < n)) := by
 intro d
 induction d with
 | zero =>
  intro k i hi hk
  obtain ⟨k, rfl⟩ : ∃ m, k = m + 1 := ⟨k - 1, by omega⟩
  simp only [impl_areWords.l0]
  rw [if_neg (by omega), List.drop_of_length_le (by omega)]
  simp
 | succ d ih =>
  intro k i hi hk
  obtain ⟨k, rfl⟩ : ∃ m, k = m + 1 := ⟨k - 1, by omega⟩
  simp only [impl_areWords.l0]
  rw [if_pos (by omega), if_pos (by omega), if_pos (by omega), rd_nat, drop_get rows i (by omega)]
  obtain ⟨q, hq⟩ : ∃ q, q = rows.getD i 0 := ⟨_, rfl⟩
  rw [← hq]
  by_cases c1 : q < 0
  ·rw [if_pos c1]
   refine congrArg some (Eq.symm (decide_eq_false (fun h => ?_)))
   have := h q List.mem_cons_self
   omega
  ·rw [if_neg c1]
   by_cases c2 : q ≥ n
   ·rw [if_pos c2]
    refine congrArg some (Eq.symm (decide_eq_false (fun h => ?_)))
    have := h q List.mem_cons_self
    omega
   ·rw [if_neg c2, wrap_id (by omega) (by omega), show (i : Int) + 1 = ((i + 1 : Nat) : Int) by omega, ih k (i + 1) (by omega) (by omega)]
    refine congrArg some (decide_eq_decide.2 ⟨fun h p hp => ?_, fun h p hp => h p (List.mem_cons_of_mem _ hp)⟩)
    rcases List.mem_cons.1 hp with rfl | hp
    ·omega
    ·exact h p hp
theorem areWords_ev (l rows : List Int) (hl : l.length ≤ 8) (hz : Sz l) (hr : rows.length ≤ 140737488351232) : Ev (fun k => impl_areWords.f k l rows) (decide (∀ r ∈ rows, 0 ≤ r ∧ r < pr l)) := by
 unfold impl_areWords.f
 refine Ev.bind (count_ev l hl hz) ⟨rows.length + 1, fun k hk => ?_⟩
 have := areWords_l0 (pr l) rows hr rows.length k 0 (by omega) (by omega)
 rw [List.drop_zero] at this
 exact this
theorem isStrength_val (l : List Int) (t : Int) : impl_isStrength.f l t = some (decide (1 ≤ t ∧ t ≤ 3 ∧ t ≤ l.length)) := by
 unfold impl_isStrength.f impl_places.f
 by_cases c : t ≥ 1
 ·rw [if_pos c, Option.bind_some]
  refine congrArg some (decide_eq_decide.2 ?_)
  unfold mn
  constructor
  ·intro h; split at h <;> omega
  ·intro h; split <;> omega
 ·rw [if_neg c]
  exact congrArg some (Eq.symm (decide_eq_false (fun h => c h.1)))
/-- The code of a space, rows and a number of places. -/
def rowsCode (l rows : List Int) (t : Int) : Int := if isSp l = true then (if rows.length > 200 ∨ ¬ (∀ r ∈ rows, 0 ≤ r ∧ r < pr l) ∨ ¬ (1 ≤ t ∧ t ≤ 3 ∧ t ≤ l.length) then 2 else 0) else 1
theorem rowsCode_ev (l rows : List Int) (t : Int) (hr : rows.length ≤ 140737488351232) : Ev (fun k => impl_rowsCode.f k l rows t) (rowsCode l rows t) := by
 unfold impl_rowsCode.f rowsCode
 refine Ev.bind (IsSpace_ev l) ?_
 by_cases c : isSp l = true
 ·rw [c]
  obtain ⟨h1, h2, h3, h4⟩ := isSp_sz c
  simp only [if_true]
  by_cases c2 : (rows.length : Int) > 200
  ·simp only [if_pos c2]
   rw [if_pos (Or.inl (by omega))]
   exact Ev.now _
  ·simp only [if_neg c2]
   refine Ev.bind (areWords_ev l rows h2 h3 hr) ?_
   by_cases c3 : ∀ r ∈ rows, 0 ≤ r ∧ r < pr l
   ·simp only [decide_eq_true c3, if_true, isStrength_val, Option.bind_some]
    by_cases c4 : 1 ≤ t ∧ t ≤ 3 ∧ t ≤ l.length
    ·rw [decide_eq_true c4]
     simp only [if_true]
     rw [if_neg (fun h => by rcases h with h | h | h; (· omega); (· exact h c3); (· exact h c4))]
     exact Ev.now _
    ·rw [decide_eq_false c4]
     simp only [Bool.false_eq_true, if_false]
     rw [if_pos (Or.inr (Or.inr c4))]
     exact Ev.now _
   ·simp only [decide_eq_false c3, Bool.false_eq_true, if_false]
    rw [if_pos (Or.inr (Or.inl c3))]
    exact Ev.now _
 ·rw [Bool.not_eq_true] at c
  rw [c]
  simp only [Bool.false_eq_true, if_false]
  exact Ev.now _
theorem rowsCode_zero {l rows : List Int} {t : Int} (h : rowsCode l rows t = 0) : Sz l ∧ l.length ≤ 8 ∧ 1 ≤ l.length ∧ pr l ≤ 1024 ∧ rows.length ≤ 200 ∧ (∀ r ∈ rows, 0 ≤ r ∧ r < pr l) ∧ 1 ≤ t ∧ t ≤ 3 ∧ t ≤ l.length := by
 unfold rowsCode at h
 by_cases c : isSp l = true
 ·rw [if_pos c] at h
  obtain ⟨h1, h2, h3, h4⟩ := isSp_sz c
  by_cases c1 : rows.length > 200 ∨ ¬ (∀ r ∈ rows, 0 ≤ r ∧ r < pr l) ∨ ¬ (1 ≤ t ∧ t ≤ 3 ∧ t ≤ l.length)
  ·rw [if_pos c1] at h; exact absurd h (by decide)
  ·rw [not_or, not_or] at c1
   obtain ⟨c2, c3, c4⟩ := c1
   refine ⟨h3, h2, h1, h4, by omega, Classical.not_not.1 c3, ?_⟩
   exact Classical.not_not.1 c4
 ·rw [if_neg c] at h; exact absurd h (by decide)
def greedyOf (l : List Int) (t : Int) : List Int × Int := if rowsCode l [] t = 0 then greedyB (allOf l (ext l.length t.toNat []) (offs l 0 (ext l.length t.toNat [])) (pr l).toNat) 201 (List.replicate (tot l 0 (ext l.length t.toNat [])).toNat false) (tot l 0 (ext l.length t.toNat [])) [] else ([], rowsCode l [] t)
def impl_GreedyRows.f (l : List Int) (t : Int) : Option (List Int × Int) := some (greedyOf l t)
theorem rowsCode_nil (K : Nat) (A0 : Option Addr) (c0 : Nat) (l : List Int) (t r : Int) (w : World) (hC : Kd.C (Kd.int .i64) w A0 l.length l) (hc0 : l.length ≤ c0) (h : impl_rowsCode.f K l [] t = some r) :
  Calls Try.prog 89 #[.agg #[.slice A0 l.length c0], .slice none 0 0, .int .i64 t] w fun e w' => e = .returned (.int .i64 r) ∧ Below w.heap.size w w' :=
 impl_rowsCode.calls K A0 c0 l none 0 [] t r w hC hc0 (Kd.C_nil _ _) (Nat.le_refl _) h
def slLen : Value → Nat
 | .slice _ n _ => n
 | _ => 0
set_option maxHeartbeats 16000000 in
set_option maxRecDepth 100000 in
theorem impl_GreedyRows.calls (A0 : Option Addr) (c0 : Nat) (l : List Int) (t : Int) (r1 : List Int) (r2 : Int) (w : World) (hC : Kd.C (Kd.int .i64) w A0 l.length l) (hc0 : l.length ≤ c0) (h : impl_GreedyRows.f l t = some (r1, r2)) :
  Calls Try.prog 28 #[.agg #[.slice A0 l.length c0], .int .i64 t] w fun e w' => ∃ v0_ : Value, e = .returned (.tuple #[v0_, .int .i64 r2]) ∧ Kd.R (Kd.int .i64) 2 w' w.heap.size (fun _ => True) v0_ r1 ∧ Below w.heap.size w w' := by
 have hu28 := Try.underlying28
 have hu92 := Try.underlying92
 have HC := Aside0.mk hC
 have HC0 := Aside0.mk hc0
 have HR0 : Aside0 (0 ≤ 0) := ⟨Nat.le_refl 0⟩
 clear hC hc0
 replace h := Option.some.inj h
 obtain ⟨K0, hK0⟩ := rowsCode_ev l [] t (by simp)
 have hk := hK0 K0 (Nat.le_refl _)
 have HK := Aside0.mk hk
 clear hk hK0
 obtain ⟨code, hcode⟩ : ∃ c, rowsCode l [] t = c := ⟨_, rfl⟩
 have HZ := Aside0.mk hcode
 rw [hcode] at HK
 unfold greedyOf at h
 rw [hcode] at h
 clear hcode
 have HB := Aside0.mk (Below.refl w.heap.size w)
 by_cases cz : code = 0
 case neg =>
  rw [if_neg cz] at h
  have czb : (code != 0) = true := bne_iff_ne.mpr cz
  clear cz
  obtain ⟨rfl, rfl⟩ := Prod.mk.inj h
  clear h
  go_enter Try.func28, Try.ntmps28
  go_wp2_with (first | ((with_reducible refine gate_dst (N := 2) rfl ?_); refine box_event ?hg (N := 2) ?hd (cs := #[.slice A0 l.length c0]) (t := 28) ?hr ?_; (case hd => rfl); (case hg => rfl); (case hr => first | (go_simp; done) | (go_simp; rfl)); intro gb hg_ w1 hbox_ hb_; have BK := Aside0.mk hbox_; have B1 := Aside0.mk hb_; have GB := Aside0.mk hg_; clear hbox_ hb_ hg_; have HB := Aside0.mk (below_step HB.out B1.out); have hk1 : w1.cell? ⟨gb, 0, none⟩ = some (.slice A0 l.length c0) := (blk_cell BK.out 0).trans rfl) | (go_at_call 89; (with_reducible refine (rowsCode_nil K0 _ _ l _ code _ ?s1 HC0.out HK.out).mono ?_); (case s1 => exact Kd.C_below HC.out (by repeat (first | (with_reducible first | exact HB.out | apply below_alloc | apply pw_below_drewN | apply below_drew1) | exact HB.out))); rintro e w2 ⟨rfl, hb2⟩; have BK := Aside0.mk (blk_below (by (with_reducible repeat (first | refine blk_drewN ?_ _ | refine blk_drew ?_ | refine blk_alloc ?_ _)); exact BK.out) hb2); have HB := Aside0.mk (below_step (by repeat (first | (with_reducible first | exact HB.out | apply below_alloc | apply pw_below_drewN | apply below_drew1) | exact HB.out)) hb2); clear hb2; have hk2 : w2.cell? ⟨gb, 0, none⟩ = some (.slice A0 l.length c0) := (blk_cell BK.out 0).trans rfl))
  go_ret2
  exact ⟨_, rfl, Kd.R_nil _ _ _ _ _, (by repeat (first | (with_reducible first | exact HB.out | apply below_alloc | apply pw_below_drewN | apply below_drew1) | exact HB.out))⟩
 case pos =>
 subst cz
 rw [if_pos rfl] at h
 have HH := Aside0.mk h
 clear h
 obtain ⟨hsz, hl8, hl1, hpr, _, _, ht1, ht3, ht4⟩ := rowsCode_zero HZ.out
 obtain ⟨tn, rfl⟩ : ∃ tn : Nat, t = tn := ⟨t.toNat, by omega⟩
 have hpp := pr_pos hsz
 have HSZ := Aside0.mk hsz
 have hlt3 : tn ≤ 3 := by omega
 have HPL := Aside0.mk (ext_pl l.length tn l rfl (by omega))
 have HOK : Aside0 (ChOk l (ext l.length tn []) (offs l 0 (ext l.length tn []))) := ⟨hl8, HSZ.out, HPL.out, offs_length _ _ _, ext_len512 l.length tn hl8 (by omega), fun f hf => by have h1 := offs_range HSZ.out _ HPL.out f hf; have h2 := tot_le_max HSZ.out HPL.out (ext_len512 l.length tn hl8 (by omega)); omega⟩
 have HFT := Aside0.mk (fits_of HSZ.out _ HPL.out)
 obtain ⟨KC, hKC⟩ := count_ev l hl8 hsz
 have HCT := Aside0.mk (hKC KC (Nat.le_refl _))
 clear hsz hKC
 rw [show ((tn : Int)).toNat = tn by omega] at HH
 obtain ⟨P, hP⟩ : ∃ P, ext l.length tn [] = P := ⟨_, rfl⟩
 obtain ⟨F, hF⟩ : ∃ F, offs l 0 P = F := ⟨_, rfl⟩
 obtain ⟨m, hm⟩ : ∃ m, tot l 0 P = m := ⟨_, rfl⟩
 obtain ⟨N, hN⟩ : ∃ N : Nat, pr l = N := ⟨(pr l).toNat, by omega⟩
 rw [hP, hF, hm, hN] at HH
 rw [show ((N : Int)).toNat = N by omega] at HH
 rw [hP, hF, hm] at HFT
 rw [hP, hF] at HOK
 rw [hN] at HCT
 have hN1 : 1 ≤ N := by omega
 have hN2 : N ≤ 1024 := by omega
 have HPF : Aside0 (ext l.length tn [] = P ∧ offs l 0 P = F ∧ tot l 0 P = m) := ⟨⟨hP, hF, hm⟩⟩
 have hm2 : 1 ≤ m := by
  have h1 : 0 < P.length := by rw [← hP]; exact ext_ne l.length tn (by omega)
  obtain ⟨n, hn⟩ := List.exists_mem_of_length_pos (l := ofTo l P F 0 P.length) (by rw [ofTo_length]; exact h1)
  have := HFT.out 0 (by omega) n hn
  omega
 clear hP hF hm hN hpr hpp
 go_enter Try.func28, Try.ntmps28
 go_wp2_with (first | ((with_reducible refine gate_dst (N := 2) rfl ?_); refine box_event ?hg (N := 2) ?hd (cs := #[.slice A0 l.length c0]) (t := 28) ?hr ?_; (case hd => rfl); (case hg => rfl); (case hr => first | (go_simp; done) | (go_simp; rfl)); intro gb hg_ w1 hbox_ hb_; have BK := Aside0.mk hbox_; have B1 := Aside0.mk hb_; have GB := Aside0.mk hg_; clear hbox_ hb_ hg_; have HB := Aside0.mk (below_step HB.out B1.out); have hk1 : w1.cell? ⟨gb, 0, none⟩ = some (.slice A0 l.length c0) := (blk_cell BK.out 0).trans rfl) | (go_at_call 89; (with_reducible refine (rowsCode_nil K0 _ _ l _ 0 _ ?s1 HC0.out HK.out).mono ?_); (case s1 => exact Kd.C_below HC.out (by repeat (first | (with_reducible first | exact HB.out | apply below_alloc | apply pw_below_drewN | apply below_drew1) | exact HB.out))); rintro e w2 ⟨rfl, hb2⟩; have BK := Aside0.mk (blk_below (by (with_reducible repeat (first | refine blk_drewN ?_ _ | refine blk_drew ?_ | refine blk_alloc ?_ _)); exact BK.out) hb2); have HB := Aside0.mk (below_step (by repeat (first | (with_reducible first | exact HB.out | apply below_alloc | apply pw_below_drewN | apply below_drew1) | exact HB.out)) hb2); clear hb2; have hk2 : w2.cell? ⟨gb, 0, none⟩ = some (.slice A0 l.length c0) := (blk_cell BK.out 0).trans rfl) | (go_at_call 92; (with_reducible refine (newChoices_calls A0 c0 l tn _ ?s1 HC0.out HSZ.out hl8 hlt3).mono ?_); (case s1 => exact Kd.C_below HC.out (by repeat (first | (with_reducible first | exact HB.out | apply below_alloc | apply pw_below_drewN | apply below_drew1) | exact HB.out))); rintro e w4 ⟨g, rfl, hch, ht0, ht64, hb2⟩; rw [HPF.out.1, HPF.out.2.1, HPF.out.2.2] at hch; rw [HPF.out.1, HPF.out.2.2] at ht0 ht64; have hm0 : 0 ≤ m := ht0; have hm1 : m ≤ 32768 := (by have := HOK.out.most; omega); have HCH := Aside0.mk hch; have hz3 : w4.cell? ⟨g, 3, none⟩ = some (.int .i64 m) := (by obtain ⟨A0, c0, A1, c1, A2, c2, hg, _⟩ := hch; exact (blk_cell hg 3).trans rfl); clear hch ht0 ht64; have BK := Aside0.mk (blk_below (by (with_reducible repeat (first | refine blk_drewN ?_ _ | refine blk_drew ?_ | refine blk_alloc ?_ _)); exact BK.out) hb2); have HW := Aside0.mk (below_step (by repeat (first | (with_reducible first | exact HB.out | apply below_alloc | apply pw_below_drewN | apply below_drew1) | exact HB.out)) hb2); clear hb2 hk2 HB; have HB4 := Aside0.mk (Below.refl w4.heap.size w4)))
 refine start_ (n := 13) (S := fun w' => w'.cell? ⟨g, 3, none⟩ = some (.int .i64 m)) (ds := []) #[false, false, false, false, false, false, false, false, false, false, false, false, false] (by kernel_rfl) rfl rfl (hz3) (fun hHeld => ?_)
 refine pure_ (i := 0) (N := some 31) (v := ?_) (a' := ?_) #[true, false, false, false, false, false, false, false, false, false, false, false, false] rfl rfl (by kernel_rfl) (fun _ _ _ h => h) (Or.inl ⟨by rfl, ?_⟩) ?_ ?_
 rotate_left
 ·intro w'
  go_simp
  with_reducible rfl
 rotate_left
 ·simp only [Act.put, List.setIfInBounds_toArray, List.set_cons_zero, List.set_cons_succ, i64_w, i32_w]
  rfl
 refine pure_ (i := 1) (N := some 32) (v := ?_) (a' := ?_) #[true, true, false, false, false, false, false, false, false, false, false, false, false] rfl rfl (by kernel_rfl) (fun _ _ _ h => h) (Or.inl ⟨by rfl, ?_⟩) ?_ ?_
 rotate_left
 ·intro w'
  go_simp
  with_reducible rfl
 rotate_left
 ·simp only [Act.put, List.setIfInBounds_toArray, List.set_cons_zero, List.set_cons_succ, i64_w, i32_w]
  rfl
 refine pure_ (i := 2) (N := some 33) (v := ?_) (a' := ?_) #[true, true, true, false, false, false, false, false, false, false, false, false, false] rfl rfl (by kernel_rfl) (fun _ _ _ h => h) (Or.inl ⟨by rfl, ?_⟩) ?_ ?_
 rotate_left
 ·intro w'
  go_simp
  with_reducible rfl
 rotate_left
 ·simp only [Act.put, List.setIfInBounds_toArray, List.set_cons_zero, List.set_cons_succ, i64_w, i32_w]
  rfl
 refine pure_ (i := 5) (N := some 36) (v := ?_) (a' := ?_) #[true, true, true, false, false, true, false, false, false, false, false, false, false] rfl rfl (by kernel_rfl) (fun _ _ _ h => h) (Or.inl ⟨by rfl, ?_⟩) ?_ ?_
 rotate_left
 ·intro w'
  go_simp
  with_reducible rfl
 rotate_left
 ·simp only [Act.put, List.setIfInBounds_toArray, List.set_cons_zero, List.set_cons_succ, i64_w, i32_w]
  rfl
 refine pure_ (i := 6) (N := some 37) (v := ?_) (a' := ?_) #[true, true, true, false, false, true, true, false, false, false, false, false, false] rfl rfl (by kernel_rfl) (fun _ _ _ h => h) (Or.inl ⟨by rfl, ?_⟩) ?_ ?_
 rotate_left
 ·intro w'
  go_simp
  with_reducible rfl
 rotate_left
 ·simp only [Act.put, List.setIfInBounds_toArray, List.set_cons_zero, List.set_cons_succ, i64_w, i32_w]
  rfl
 refine pure_ (i := 7) (N := some 38) (v := ?_) (a' := ?_) #[true, true, true, false, false, true, true, true, false, false, false, false, false] rfl rfl (by kernel_rfl) (fun _ _ _ h => h) (Or.inl ⟨by rfl, ?_⟩) ?_ ?_
 rotate_left
 ·intro w'
  go_simp
  with_reducible rfl
 rotate_left
 ·simp only [Act.put, List.setIfInBounds_toArray, List.set_cons_zero, List.set_cons_succ, i64_w, i32_w]
  rfl
 refine take_ (i := 3) (N := some 34) (v := ?_) (a' := ?_) #[true, true, true, true, false, true, true, true, false, false, false, false, false] rfl rfl (by kernel_rfl) (fun _ _ _ h => h) (Or.inl ⟨by rfl, ?_⟩) hHeld ?_ ?_
 rotate_left
 ·intro w' s0
  go_simp
  with_reducible rfl
 rotate_left
 ·simp only [Act.put, List.setIfInBounds_toArray, List.set_cons_zero, List.set_cons_succ, i64_w, i32_w]
  rfl
 refine take_ (i := 8) (N := some 39) (v := ?_) (a' := ?_) #[true, true, true, true, false, true, true, true, true, false, false, false, false] rfl rfl (by kernel_rfl) (fun _ _ _ h => h) (Or.inl ⟨by rfl, ?_⟩) hHeld ?_ ?_
 rotate_left
 ·intro w' s0
  go_simp
  with_reducible rfl
 rotate_left
 ·simp only [Act.put, List.setIfInBounds_toArray, List.set_cons_zero, List.set_cons_succ, i64_w, i32_w]
  rfl
 refine join_ (σ := Value × Value) 1 #[true, true, true, true, true, true, true, true, true, true, true, true, false] (fun s_ => [(35, s_.1), (40, s_.2), (8, s_.1), (9, .int .i64 m)]) (fun s_ w' => w'.cell? ⟨g, 3, none⟩ = some (.int .i64 m) ∧ Aside0 (Kd.R Kd.bool 4 w' w4.heap.size (fun _ => True) s_.1 (List.replicate m.toNat false)) ∧ Aside0 (Kd.R (Kd.int .i64) 2 w' w4.heap.size (fun _ => True) s_.2 []) ∧ Aside0 (Below w4.heap.size w4 w')) ?_ ?_
 rotate_left
 ·intro hCont
  refine two_ (i := 4) (j := 9) (Ni := some 35) (Nj := some 40) #[true, true, true, true, true, true, true, true, true, false, false, false, false] #[true, true, true, true, false, true, true, true, true, true, false, false, false] rfl rfl rfl rfl (by kernel_rfl) (by decide) (by decide) (fun K hK => ?_) (fun K hK => ?_)
  ·skip
   refine Kd.R_make_step Kd.bool w4.heap.size 4 (by rfl) (N := 35) rfl 90 _ _ rfl m rfl rfl Try.underlying90 (.bool false) 1 info4 rfl (by decide) (by omega) false (ok := fun _ => True) (okp := fun _ => True) rfl (fun _ hk => hk) trivial hm0 (by omega) (by repeat (first | (with_reducible first | exact HB4.out | apply below_alloc | apply pw_below_drewN | apply below_drew1) | exact HB4.out)) (below_size (by repeat (first | (with_reducible first | exact HB4.out | apply below_alloc | apply pw_below_drewN | apply below_drew1) | exact HB4.out))) ?_
   intro v8 w5 ho_ hb_ hg_ hnew_
   have HO8 := Aside0.mk ho_
   have HB4 := Aside0.mk hb_
   have hz3 : w5.cell? ⟨g, 3, none⟩ = some (.int .i64 m) := hg_.cell (by first | exact hz3 | exact (World.cell?_drew _ _).trans hz3) (by simp)
   clear ho_ hb_ hg_ hnew_
   refine hK.out _ _ (hz3) (fun hHeld => ?_)
   clear hK K
   refine norm_ (a' := ?_) ?_ ?_
   rotate_left
   ·show Act.put _ (some 35) _ = _
    simp only [Act.put, List.setIfInBounds_toArray, List.set_cons_zero, List.set_cons_succ, i64_w, i32_w]
    rfl
   refine pure_ (i := 10) (N := some 8) (v := ?_) (a' := ?_) #[true, true, true, true, true, true, true, true, true, false, true, false, false] rfl rfl (by kernel_rfl) (fun _ _ _ h => h) (Or.inl ⟨by rfl, ?_⟩) ?_ ?_
   rotate_left
   ·intro w'
    go_simp
    with_reducible rfl
   rotate_left
   ·simp only [Act.put, List.setIfInBounds_toArray, List.set_cons_zero, List.set_cons_succ, i64_w, i32_w]
    rfl
   refine pure_ (i := 11) (N := some 9) (v := ?_) (a' := ?_) #[true, true, true, true, true, true, true, true, true, false, true, true, false] rfl rfl (by kernel_rfl) (fun _ _ _ h => h) (Or.inl ⟨by rfl, ?_⟩) ?_ ?_
   rotate_left
   ·intro w'
    go_simp
    with_reducible rfl
   rotate_left
   ·simp only [Act.put, List.setIfInBounds_toArray, List.set_cons_zero, List.set_cons_succ, i64_w, i32_w]
    rfl
   refine one_ (i := 9) (N := some 40) #[true, true, true, true, true, true, true, true, true, true, true, true, false] rfl rfl (by kernel_rfl) (by decide) (fun K hK => ?_)
   refine Kd.R_lit_step (Kd.int .i64) w4.heap.size 2 (by rfl) (N := 40) rfl (xs := ([] : List Int)) (inner := []) (ok := fun _ => True) (okp := fun _ => True) ?hr (Reps.none _ _) (fun _ hk => hk) trivial (by repeat (first | (with_reducible first | exact HB4.out | apply below_alloc | apply pw_below_drewN | apply below_drew1) | exact HB4.out)) (below_size (by repeat (first | (with_reducible first | exact HB4.out | apply below_alloc | apply pw_below_drewN | apply below_drew1) | exact HB4.out))) (by simp) ?_
   (case hr => first | (go_simp; done) | (go_simp; rfl))
   intro v10 w6 ho_ hb_ hg_ hnew_
   have HO10 := Aside0.mk ho_
   have HO8 := Aside0.mk (Kd.R_grown (by (with_reducible repeat (first | apply Kd.R_alloc | apply Kd.R_drewN | apply Kd.R_drew)); exact HO8.out) hg_ (fun k hk => by simp))
   have HB4 := Aside0.mk hb_
   have hz3 : w6.cell? ⟨g, 3, none⟩ = some (.int .i64 m) := hg_.cell (by first | exact hz3 | exact (World.cell?_drew _ _).trans hz3) (by simp)
   clear ho_ hb_ hg_ hnew_
   refine hK.out _ _ (hz3) (fun hHeld => ?_)
   clear hK K
   refine norm_ (a' := ?_) ?_ ?_
   rotate_left
   ·show Act.put _ (some 40) _ = _
    simp only [Act.put, List.setIfInBounds_toArray, List.set_cons_zero, List.set_cons_succ, i64_w, i32_w]
    rfl
   exact norm_ (by simp only [putAll, Act.put, List.setIfInBounds_toArray, List.set_cons_zero, List.set_cons_succ]) (hCont (v8, v10) _ ⟨hz3, HO8, HO10, HB4⟩)
  ·skip
   refine Kd.R_lit_step (Kd.int .i64) w4.heap.size 2 (by rfl) (N := 40) rfl (xs := ([] : List Int)) (inner := []) (ok := fun _ => True) (okp := fun _ => True) ?hr (Reps.none _ _) (fun _ hk => hk) trivial (by repeat (first | (with_reducible first | exact HB4.out | apply below_alloc | apply pw_below_drewN | apply below_drew1) | exact HB4.out)) (below_size (by repeat (first | (with_reducible first | exact HB4.out | apply below_alloc | apply pw_below_drewN | apply below_drew1) | exact HB4.out))) (by simp) ?_
   (case hr => first | (go_simp; done) | (go_simp; rfl))
   intro v10 w5 ho_ hb_ hg_ hnew_
   have HO10 := Aside0.mk ho_
   have HB4 := Aside0.mk hb_
   have hz3 : w5.cell? ⟨g, 3, none⟩ = some (.int .i64 m) := hg_.cell (by first | exact hz3 | exact (World.cell?_drew _ _).trans hz3) (by simp)
   clear ho_ hb_ hg_ hnew_
   refine hK.out _ _ (hz3) (fun hHeld => ?_)
   clear hK K
   refine norm_ (a' := ?_) ?_ ?_
   rotate_left
   ·show Act.put _ (some 40) _ = _
    simp only [Act.put, List.setIfInBounds_toArray, List.set_cons_zero, List.set_cons_succ, i64_w, i32_w]
    rfl
   refine one_ (i := 4) (N := some 35) #[true, true, true, true, true, true, true, true, true, true, false, false, false] rfl rfl (by kernel_rfl) (by decide) (fun K hK => ?_)
   refine Kd.R_make_step Kd.bool w4.heap.size 4 (by rfl) (N := 35) rfl 90 _ _ rfl m rfl rfl Try.underlying90 (.bool false) 1 info4 rfl (by decide) (by omega) false (ok := fun _ => True) (okp := fun _ => True) rfl (fun _ hk => hk) trivial hm0 (by omega) (by repeat (first | (with_reducible first | exact HB4.out | apply below_alloc | apply pw_below_drewN | apply below_drew1) | exact HB4.out)) (below_size (by repeat (first | (with_reducible first | exact HB4.out | apply below_alloc | apply pw_below_drewN | apply below_drew1) | exact HB4.out))) ?_
   intro v8 w6 ho_ hb_ hg_ hnew_
   have HO8 := Aside0.mk ho_
   have HO10 := Aside0.mk (Kd.R_grown (by (with_reducible repeat (first | apply Kd.R_alloc | apply Kd.R_drewN | apply Kd.R_drew)); exact HO10.out) hg_ (fun k hk => by simp))
   have HB4 := Aside0.mk hb_
   have hz3 : w6.cell? ⟨g, 3, none⟩ = some (.int .i64 m) := hg_.cell (by first | exact hz3 | exact (World.cell?_drew _ _).trans hz3) (by simp)
   clear ho_ hb_ hg_ hnew_
   refine hK.out _ _ (hz3) (fun hHeld => ?_)
   clear hK K
   refine norm_ (a' := ?_) ?_ ?_
   rotate_left
   ·show Act.put _ (some 35) _ = _
    simp only [Act.put, List.setIfInBounds_toArray, List.set_cons_zero, List.set_cons_succ, i64_w, i32_w]
    rfl
   refine pure_ (i := 10) (N := some 8) (v := ?_) (a' := ?_) #[true, true, true, true, true, true, true, true, true, true, true, false, false] rfl rfl (by kernel_rfl) (fun _ _ _ h => h) (Or.inl ⟨by rfl, ?_⟩) ?_ ?_
   rotate_left
   ·intro w'
    go_simp
    with_reducible rfl
   rotate_left
   ·simp only [Act.put, List.setIfInBounds_toArray, List.set_cons_zero, List.set_cons_succ, i64_w, i32_w]
    rfl
   refine pure_ (i := 11) (N := some 9) (v := ?_) (a' := ?_) #[true, true, true, true, true, true, true, true, true, true, true, true, false] rfl rfl (by kernel_rfl) (fun _ _ _ h => h) (Or.inl ⟨by rfl, ?_⟩) ?_ ?_
   rotate_left
   ·intro w'
    go_simp
    with_reducible rfl
   rotate_left
   ·simp only [Act.put, List.setIfInBounds_toArray, List.set_cons_zero, List.set_cons_succ, i64_w, i32_w]
    rfl
   exact norm_ (by simp only [putAll, Act.put, List.setIfInBounds_toArray, List.set_cons_zero, List.set_cons_succ]) (hCont (v8, v10) _ ⟨hz3, HO8, HO10, HB4⟩)
 rintro ⟨v8, v10⟩ w6 ⟨hz3, HO8, HO10, HB4⟩
 have hHeld : w6.cell? ⟨g, 3, none⟩ = some (.int .i64 m) := hz3
 refine norm_ (a' := ?_) ?_ ?_
 rotate_left
 ·simp only [putAll, Act.put, List.setIfInBounds_toArray, List.set_cons_zero, List.set_cons_succ]
  rfl
 refine pure_ (i := 12) (N := some 10) (v := ?_) (a' := ?_) #[true, true, true, true, true, true, true, true, true, true, true, true, true] rfl rfl (by kernel_rfl) (fun _ _ _ h => h) (Or.inl ⟨by rfl, ?_⟩) ?_ ?_
 rotate_left
 ·intro w'
  go_simp
  with_reducible rfl
 rotate_left
 ·simp only [Act.put, List.setIfInBounds_toArray, List.set_cons_zero, List.set_cons_succ, i64_w, i32_w]
  rfl
 refine done_ (by kernel_rfl) ?_
 go_wp2_with (first | ((with_reducible refine gate_dst (N := 41) rfl ?_); refine Kd.R_lit (Kd.slice 2 (Kd.int .i64)) w4.heap.size 22 ?hg (N := 41) ?hd (xs := ([] : List (List Int))) (inner := []) (ok := fun k => True ∧ some k ≠ v10.ownBlock) (okp := fun _ => False) ?hr ?hp (fun _ hk => hk.elim) ⟨trivial, fun e_ => absurd (Kd.R_lt (by (with_reducible repeat (first | apply Kd.R_alloc | apply Kd.R_drewN | apply Kd.R_drew)); exact HO10.out) _ e_.symm) (Nat.lt_irrefl _)⟩ (by repeat (first | (with_reducible first | exact HB4.out | apply below_alloc | apply pw_below_drewN | apply below_drew1) | exact HB4.out)) (below_size (by repeat (first | (with_reducible first | exact HB4.out | apply below_alloc | apply pw_below_drewN | apply below_drew1) | exact HB4.out))) (by simp) ?_; (case hd => rfl); (case hg => rfl); (case hr => first | (go_simp; done) | (go_simp; rfl)); (case hp => exact (Reps.none _ _)); intro v11 w7 ho_ hb_ hg_ hnew_; have HN11 := Aside0.mk hnew_; have HO11 := Aside0.mk ho_; have HO8 := Aside0.mk (Kd.R_grown (by (with_reducible repeat (first | apply Kd.R_alloc | apply Kd.R_drewN | apply Kd.R_drew)); exact HO8.out) hg_ (fun k hk => by simp)); have HO10 := Aside0.mk (Kd.R_grown (by (with_reducible repeat (first | apply Kd.R_alloc | apply Kd.R_drewN | apply Kd.R_drew)); exact HO10.out) hg_ (fun k hk => by simp)); have HB4 := Aside0.mk hb_; clear ho_ hb_ hg_ hnew_; have hk2 : w7.cell? ⟨gb, 0, none⟩ = some (.slice A0 l.length c0) := (blk_cell (blk_below BK.out HB4.out) 0).trans rfl) | (go_at_call 99; (with_reducible refine (impl_count.calls KC _ _ l N _ ?s1 HC0.out HCT.out).mono ?_); (case s1 => exact Kd.C_below HC.out (below_step HW.out (by repeat (first | (with_reducible first | exact HB4.out | apply below_alloc | apply pw_below_drewN | apply below_drew1) | exact HB4.out)))); rintro e w8 ⟨rfl, hb2⟩; have HO11 := Aside0.mk (Kd.R_below (by (with_reducible repeat (first | apply Kd.R_alloc | apply Kd.R_drewN | apply Kd.R_drew)); exact HO11.out) hb2); have HO8 := Aside0.mk (Kd.R_below (by (with_reducible repeat (first | apply Kd.R_alloc | apply Kd.R_drewN | apply Kd.R_drew)); exact HO8.out) hb2); have HO10 := Aside0.mk (Kd.R_below (by (with_reducible repeat (first | apply Kd.R_alloc | apply Kd.R_drewN | apply Kd.R_drew)); exact HO10.out) hb2); have HB4 := Aside0.mk (below_step (by repeat (first | (with_reducible first | exact HB4.out | apply below_alloc | apply pw_below_drewN | apply below_drew1) | exact HB4.out)) hb2); clear hb2 hk2))
 go_loopw [11, 44] (fun v11 v44 W => ∃ x : Nat, x ≤ N ∧ v44 = .int .i64 x ∧ Aside0 (Kd.R (Kd.slice 2 (Kd.int .i64)) 22 W w4.heap.size (fun k => True ∧ some k ≠ v10.ownBlock) v11 (allOf l P F x)) ∧ Aside0 (Kd.R (Kd.int .i64) 2 W w4.heap.size (fun _ => True) v10 []) ∧ Aside0 (Kd.R Kd.bool 4 W w4.heap.size (fun _ => True) v8 (List.replicate m.toNat false)) ∧ Aside0 (Below w4.heap.size w4 W)) (fun _ v _ => (N - intOf v).toNat)
 case atStart => exact ⟨0, by omega, rfl, HO11, HO10, HO8, HB4⟩
 case round =>
  clear HO11 HO10 HO8 HB4
  obtain ⟨x, hx, rfl, HA, HO, HD, HB⟩ := hrel
  by_cases hlt : (x : Int) < (N : Int)
  ·have hs := allOf_succ l P F x
   have hlen := allOf_len l P F x
   obtain ⟨aa, haa⟩ : ∃ aa : List (List Int), aa = allOf l P F x := ⟨_, rfl⟩
   obtain ⟨ns, hns⟩ : ∃ ns : List Int, ns = ofTo l P F x P.length := ⟨_, rfl⟩
   rw [← haa, ← hns] at hs
   rw [← haa] at hlen HA
   have HS := Aside0.mk hs
   have HNS := Aside0.mk hns
   have HLA := Aside0.mk hlen
   clear hs hns haa hlen
   go_wp2_with (first | (go_at_call 94; (with_reducible refine (of_calls g l P F m x _ (HCH.out.below (by repeat (first | (with_reducible first | exact HB.out | apply below_alloc | apply pw_below_drewN | apply below_drew1) | exact HB.out))) HOK.out ⟨by omega, by omega⟩).mono ?_); rintro e w6 ⟨v50, rfl, ho50, hb2⟩; rw [← HNS.out] at ho50; obtain ⟨A50, c50, rfl⟩ := Kd.R_slice ho50; have HLT : Aside0 (∀ k, u11.ownBlock = some k → k < wr.heap.size) := ⟨Kd.R_lt HA.out⟩; have HLO : Aside0 (∀ k, v10.ownBlock = some k → k < wr.heap.size) := ⟨Kd.R_lt HO.out⟩; have HA2 := Aside0.mk (Kd.R_below HA.out hb2); have HO2 := Aside0.mk (Kd.R_below HO.out hb2); have HD2 := Aside0.mk (Kd.R_below HD.out hb2); have HN2 := Aside0.mk (Kd.R_lower (Kd.R_mono (ok' := fun k => wr.heap.size ≤ k) (Kd.R_bound ho50) (fun k hk => hk.2.1)) (below_size HB.out)); have HB2 := Aside0.mk (below_step HB.out hb2); have HS6 : Aside0 (wr.heap.size ≤ w6.heap.size) := ⟨by have h1 := hb2.size; simpa using h1⟩; clear ho50 hb2) | ((with_reducible refine gate_builtin (b := .append) (xs := #[.tmp 47, .tmp 51]) rfl ?_); at_builtin; refine Here.out ?_))
   refine ⟨?_⟩
   refine Kd.R_append (Kd.slice 2 (Kd.int .i64)) (w0 := w4) w4.heap.size rfl (.tmp 47) (.tmp 51) 42 22 (.slice none 0 0) 24 rfl Try.underlying42 info22 rfl (by decide) (by omega) u11 aa ns [.slice A50 ns.length c50] (fun k => True ∧ some k ≠ v10.ownBlock) (fun k => wr.heap.size ≤ k) rfl rfl ?aP (fun k hk => ⟨⟨trivial, fun e_ => absurd (HLO.out k e_.symm) (Nat.not_lt.2 hk)⟩, fun e_ => absurd (HLT.out k e_.symm) (Nat.not_lt.2 hk)⟩) ?aF ?aO ?aB ?aS ?aL ?_
   case aP => exact ⟨_, rfl, HN2.out⟩
   case aB => exact (by repeat (first | (with_reducible first | exact HB2.out | apply below_alloc | apply pw_below_drewN | apply below_drew1) | exact HB2.out))
   case aF => exact (fun k hk => ⟨trivial, fun e_ => absurd (HLO.out k e_.symm) (by have h1 := HS6.out; (try simp at hk); omega)⟩)
   case aO => exact (by (with_reducible repeat (first | apply Kd.R_alloc | apply Kd.R_drewN | apply Kd.R_drew)); exact HA2.out)
   case aS => exact (below_size (by repeat (first | (with_reducible first | exact HB2.out | apply below_alloc | apply pw_below_drewN | apply below_drew1) | exact HB2.out)))
   case aL => have := HLA.out; omega
   intro v7 w7 ho_ hb_ hg_ hat_
   have HO7 := Aside0.mk ho_
   have HB7 := Aside0.mk hb_
   have HG7 := Aside0.mk hg_
   have HAT7 := Aside0.mk hat_
   clear ho_ hb_ hg_ hat_
   go_wp2
   go_roundw
   case measure => simp [intOf]; omega
   case rel => exact ⟨x + 1, by omega, by first | rfl | (simp; done), ⟨by rw [HS.out]; exact HO7.out⟩, ⟨Kd.R_over HO2.out HA2.out (by decide) HG7.out⟩, ⟨Kd.R_over HD2.out HA2.out (by decide) HG7.out⟩, HB7⟩
  ·have hxN : x = N := by omega
   subst hxN
   have hal := allOf_len l P F x
   have hrow : ∀ i : Nat, i < x → (allOf l P F x).getD i [] = ofTo l P F i P.length := fun i hi => allOf_at l P F x i hi
   obtain ⟨all, hall⟩ : ∃ all : List (List Int), all = allOf l P F x := ⟨_, rfl⟩
   rw [← hall] at HA HH hal hrow
   have HAL := Aside0.mk hal
   clear hall
   have HROW : Aside0 (∀ i : Nat, (∀ n ∈ all.getD i [], 0 ≤ n ∧ n < m) ∧ (all.getD i []).length ≤ 512) := ⟨fun i => by by_cases hi : i < x; (· rw [hrow i hi]; exact ⟨HFT.out _ (by omega), by rw [ofTo_length]; exact HOK.out.most⟩); (· rw [List.getD_eq_getElem?_getD, List.getElem?_eq_none (by have := HAL.out; omega)]; exact ⟨fun n hn => (by cases hn), Nat.zero_le _⟩)⟩
   clear hrow hal
   go_wp2
   go_loopw [9, 10] (fun v9 v10 W => ∃ (k : Nat) (h : List Bool) (left : Int) (out : List Int), v9 = .int .i64 left ∧ k + out.length = 201 ∧ out.length ≤ 200 ∧ -1000 ≤ left ∧ left ≤ 32768 ∧ (h.length : Int) = m ∧ Aside0 (greedyB all k h left out = (r1, r2)) ∧ Aside0 (Kd.R (Kd.slice 2 (Kd.int .i64)) 22 W w4.heap.size (fun k => True ∧ some k ≠ v10.ownBlock) u11 all) ∧ Aside0 (Kd.R (Kd.int .i64) 2 W w4.heap.size (fun _ => True) v10 out) ∧ Aside0 (Kd.R Kd.bool 4 W w4.heap.size (fun _ => True) v8 h) ∧ Aside0 (Below w4.heap.size w4 W)) (fun _ v _ => 201 - slLen v)
   case atStart => exact ⟨201, _, m, [], rfl, by simp, by simp, by omega, hm1, by rw [List.length_replicate]; omega, HH, HA, HO, HD, HB⟩
   case round =>
    clear HA HO HD HB HH
    obtain ⟨k, h, left, out, rfl, hk, hol, hl0, hl1, hhl, HH, HA, HO, HD, HB⟩ := hrel
    obtain ⟨k, rfl⟩ : ∃ j, k = j + 1 := ⟨k - 1, by omega⟩
    have HHL := Aside0.mk hhl
    have HKO := Aside0.mk hk
    clear hhl hk
    have hg := HH.out
    unfold greedyB at hg
    by_cases hlp : 0 < left
    ·rw [if_pos hlp] at hg
     have HG := Aside0.mk hg
     clear hg HH
     obtain ⟨A10, c10, rfl⟩ := Kd.R_slice HO.out
     obtain ⟨go, co, eo, gbo, gol, clo, HGO⟩ := Kd.R_form HD.out (by have := HHL.out; omega)
     subst eo
     obtain ⟨ga, ca, ea, gba, gal, cla, HGA⟩ := Kd.R_form HA.out (by have := HAL.out; omega)
     subst ea
     clear HGO HGA clo cla
     obtain ⟨f, hf⟩ : ∃ f : Nat → Int, f = fun i => cntB h (all.getD i []) := ⟨_, rfl⟩
     have HF := Aside0.mk hf
     have hfr : ∀ i, 0 ≤ f i ∧ f i ≤ 512 := fun i => by rw [hf]; have h1 := cntB_range h (all.getD i []); have h2 := (HROW.out i).2; show 0 ≤ cntB h (all.getD i []) ∧ cntB h (all.getD i []) ≤ 512; omega
     rw [← hf] at HG
     have HFR := Aside0.mk hfr
     clear hf hfr
     go_wp2
     go_loopw [13, 14, 58] (fun v13 v14 v58 W => ∃ y : Nat, y ≤ all.length ∧ v58 = .int .i64 y ∧ v13 = .int .i64 (bestTo f y).1 ∧ v14 = .int .i64 (bestTo f y).2 ∧ Aside0 (W = wr)) (fun _ _ v _ => (all.length - intOf v).toNat)
     case atStart => exact ⟨0, by omega, rfl, rfl, rfl, (by first | exact ⟨rfl⟩ | exact ⟨trivial⟩)⟩
     case round =>
      obtain ⟨y, hy, rfl, rfl, rfl, hW⟩ := hrel
      have hww := hW.out
      subst hww
      have hbr := bestTo_range f 512 (by omega) (fun n => (HFR.out n).2) y
      by_cases hly : (y : Int) < (all.length : Int)
      ·have hyN : y < x := by have := HAL.out; omega
       obtain ⟨cs, hcl, hM, hcc, hfz⟩ := Kd.R_elem HA.out [] (y : Int) (by omega) hly
       obtain ⟨vr, rfl, hR⟩ := hM
       obtain ⟨A16, c16, rfl⟩ := Kd.R_slice hR
       obtain ⟨ns, hns⟩ : ∃ ns : List Int, ns = all.getD y [] := ⟨_, rfl⟩
       rw [show ((y : Int)).toNat = y by omega, ← hns] at hR
       have hx0 := hcc 0 _ rfl
       rw [show (all.getD ((y : Int)).toNat []) = all.getD y [] by rw [show ((y : Int)).toNat = y by omega]] at hx0
       have e1 : ((y : Int).toNat) * (Kd.slice 2 (Kd.int .i64)).sz + 0 = y := by show ((y : Int).toNat) * 1 + 0 = y; omega
       rw [e1] at hx0
       have hrow := HROW.out y
       have hfy : f y = cntB h ns := by rw [HF.out, hns]
       rw [← hns] at hrow hx0
       obtain ⟨hrn, hrl⟩ := hrow
       have HRN := Aside0.mk hrn
       have HX := Aside0.mk hx0
       have HR2 := Aside0.mk hR
       have HFY := Aside0.mk hfy
       have hst : bestTo f (y + 1) = if (bestTo f y).2 < f y then ((y : Int), f y) else bestTo f y := rfl
       obtain ⟨b1, b2, hb⟩ : ∃ b1 b2, bestTo f y = (b1, b2) := ⟨_, _, rfl⟩
       rw [hb] at hst hbr ⊢
       rw [hfy] at hst
       have HST := Aside0.mk hst
       simp only at hbr
       obtain ⟨hb0, hb1, hb2, hb3⟩ := hbr
       clear hcc hcl hfz hR hns hx0 e1 hrn hfy hst hb
       have hxc : wr.cell? ⟨ga, y, none⟩ = some (.slice A16 ns.length c16) := HX.out
       go_wp2
       clear hxc
       go_loopw [17, 65] (fun v17 v65 W => ∃ j : Nat, j ≤ ns.length ∧ v65 = .int .i64 j ∧ v17 = .int .i64 (cntB h (ns.take j)) ∧ Aside0 (W = wr)) (fun _ v _ => (ns.length - intOf v).toNat)
       case atStart => exact ⟨0, by omega, rfl, rfl, (by first | exact ⟨rfl⟩ | exact ⟨trivial⟩)⟩
       case round =>
        obtain ⟨j, hj, rfl, rfl, hW⟩ := hrel
        have hww := hW.out
        subst hww
        have hcr := cntB_range h (ns.take j)
        have hctl : (ns.take j).length ≤ j := List.length_take_le _ _
        by_cases hjl : (j : Int) < (ns.length : Int)
        ·obtain ⟨ad3, rfl, hx3⟩ := Kd.at_int (Kd.R_reads' HR2.out).2.2 j (by omega) hjl
         obtain ⟨hn0, hn1⟩ := HRN.out _ (at_mem ns j (by omega) hjl)
         have hn0' : 0 ≤ rd ns j := hn0
         have hn1' : rd ns j < m := hn1
         have hsn : cntB h (ns.take (j + 1)) = cntB h (ns.take j) + if h.getD (rd ns j).toNat false = true then 0 else 1 := by rw [show j + 1 = ((j : Int) + 1).toNat by omega, take_snoc ns j (by omega) hjl, cntB_snoc, show ((j : Int)).toNat = j by omega]; rfl
         obtain ⟨n, hn⟩ : ∃ n : Int, n = rd ns j := ⟨_, rfl⟩
         rw [← hn, show ((j : Int)).toNat = j by omega] at hx3
         rw [← hn] at hn0' hn1' hsn
         obtain ⟨cn, hcn⟩ : ∃ cn : Int, cn = cntB h (ns.take j) := ⟨_, rfl⟩
         rw [← hcn] at hsn hcr ⊢
         have HSN := Aside0.mk hsn
         clear hsn hn hn0 hn1 hcn hW
         have hnl : n < (h.length : Int) := by have := HHL.out; omega
         obtain ⟨hx9, hf9⟩ := Kd.R_celln false HD.out n hn0' hnl
         by_cases hbn : rdOf false h n = true
         ·have HSN2 := Aside0.mk (HSN.out.trans (by rw [if_pos (show h.getD n.toNat false = true from hbn), Int.add_zero]))
          rw [hbn] at hx9
          go_wp2
          go_roundw
          case measure => simp [intOf]; omega
          case rel => exact ⟨j + 1, by omega, by first | rfl | (simp; done), by rw [HSN2.out], (by first | exact ⟨rfl⟩ | exact ⟨trivial⟩)⟩
         ·have HSN2 := Aside0.mk (HSN.out.trans (by rw [if_neg (show ¬ h.getD n.toNat false = true from hbn)]))
          rw [Bool.not_eq_true] at hbn
          rw [hbn] at hx9
          go_wp2
          go_roundw
          case measure => simp [intOf]; omega
          case rel => exact ⟨j + 1, by omega, by first | rfl | (simp; done), by rw [HSN2.out], (by first | exact ⟨rfl⟩ | exact ⟨trivial⟩)⟩
        ·have hje : j = ns.length := by omega
         subst hje
         rw [List.take_length] at hcr ⊢
         obtain ⟨cn, hcn⟩ : ∃ cn : Int, cn = cntB h ns := ⟨_, rfl⟩
         have hst := HST.out
         rw [← hcn] at hst hcr ⊢
         clear hcn hctl hW
         by_cases hbc : b2 < cn
         ·rw [if_pos hbc] at hst
          have HST2 := Aside0.mk hst
          clear hst
          go_wp2
          go_roundw
          case measure => simp [intOf]; omega
          case rel => exact ⟨y + 1, by omega, by first | rfl | (simp; done), by rw [HST2.out], by rw [HST2.out], (by first | exact ⟨rfl⟩ | exact ⟨trivial⟩)⟩
         ·rw [if_neg hbc] at hst
          have HST2 := Aside0.mk hst
          clear hst
          go_wp2
          go_roundw
          case measure => simp [intOf]; omega
          case rel => exact ⟨y + 1, by omega, by first | rfl | (simp; done), by rw [HST2.out], by rw [HST2.out], (by first | exact ⟨rfl⟩ | exact ⟨trivial⟩)⟩
      ·have hye : y = all.length := by omega
       subst hye
       obtain ⟨b1, b2, hb⟩ : ∃ b1 b2, bestTo f all.length = (b1, b2) := ⟨_, _, rfl⟩
       have hg := HG.out
       rw [hb] at hbr hg ⊢
       simp only at hbr
       obtain ⟨hb0, hb1, hb2, hb3⟩ := hbr
       clear hb hW
       by_cases hout : out.length = 200
       ·rw [if_pos hout] at hg
        obtain ⟨rfl, rfl⟩ := Prod.mk.inj hg
        have ho2 : ((out.length : Int) == 200) = true := by simp [hout]
        clear hout
        go_wp2
        go_ret2
        exact ⟨_, rfl, Kd.R_nil _ _ _ _ _, below_step HW.out HB.out⟩
       ·rw [if_neg hout] at hg
        have HG2 := Aside0.mk hg
        have ho2 : ((out.length : Int) == 200) = false := by simp; omega
        clear hg
        go_wp2_with (first | ((with_reducible refine gate_builtin (b := .append) (xs := #[.tmp 86, .tmp 88]) rfl ?_); at_builtin; refine Here.out ?_))
        refine ⟨?_⟩
        refine Kd.R_append (Kd.int .i64) (w0 := w4) w4.heap.size rfl (.tmp 86) (.tmp 88) 22 2 (.int .i64 0) 8 rfl Try.underlying22 info2 rfl (by decide) (by omega) (.slice A10 out.length c10) out b1 [.int .i64 b1] (fun _ => True) (fun _ => False) rfl rfl ?aP (fun _ hk => hk.elim) ?aF ?aO ?aB ?aS ?aL ?_
        case aP => exact rfl
        case aB => exact (by repeat (first | (with_reducible first | exact HB.out | apply below_alloc | apply pw_below_drewN | apply below_drew1) | exact HB.out))
        case aF => exact (fun _ _ => trivial)
        case aO => exact (by (with_reducible repeat (first | apply Kd.R_alloc | apply Kd.R_drewN | apply Kd.R_drew)); exact HO.out)
        case aS => exact (below_size (by repeat (first | (with_reducible first | exact HB.out | apply below_alloc | apply pw_below_drewN | apply below_drew1) | exact HB.out)))
        case aL => omega
        intro v17 w17 ho_ hb_ hg_ hat_
        have HO7 := Aside0.mk ho_
        have HB7 := Aside0.mk hb_
        have HG7 := Aside0.mk hg_
        have HAT7 := Aside0.mk hat_
        clear ho_ hb_ hg_ hat_
        have HA7 := Aside0.mk (Kd.R_after HA.out HG7.out HAT7.out)
        have HD7 := Aside0.mk (Kd.R_over HD.out HO.out (by decide) HG7.out)
        obtain ⟨A17, c17, rfl⟩ := Kd.R_slice HO7.out
        have hbN : b1 < (all.length : Int) := by have := HAL.out; omega
        obtain ⟨cs, hcl, hM, hcc, hfz⟩ := Kd.R_elem HA7.out [] b1 (by omega) hbN
        obtain ⟨vr, rfl, hR⟩ := hM
        obtain ⟨A16, c16, rfl⟩ := Kd.R_slice hR
        obtain ⟨ns, hns⟩ : ∃ ns : List Int, ns = all.getD b1.toNat [] := ⟨_, rfl⟩
        have hx0 := hcc 0 _ rfl
        have e1 : b1.toNat * (Kd.slice 2 (Kd.int .i64)).sz + 0 = b1.toNat := by show b1.toNat * 1 + 0 = b1.toNat; omega
        rw [e1, ← hns] at hx0
        rw [← hns] at hR
        have hrow := HROW.out b1.toNat
        have hg := HG2.out
        rw [← hns] at hrow hg
        obtain ⟨hrn, hrl⟩ := hrow
        have HG3 := Aside0.mk hg
        have HRN := Aside0.mk hrn
        have HX := Aside0.mk hx0
        have HR7 := Aside0.mk (Kd.R_mono (ok' := fun _ => True) hR (fun _ _ => trivial))
        obtain ⟨ou, hou⟩ : ∃ ou : List Int, ou = out ++ [b1] := ⟨_, rfl⟩
        have hol2 : ou.length = out.length + 1 := by rw [hou]; simp
        rw [← hou] at HO7 HG3 ⊢
        rw [← hou] at HA7
        have HOL2 := Aside0.mk hol2
        clear hcc hcl hfz hR hns hx0 e1 hrn hg hou hol2 HAT7 HG7 HG2 HG
        have hxc : w17.cell? ⟨ga, b1.toNat, none⟩ = some (.slice A16 ns.length c16) := HX.out
        go_wp2
        clear hxc
        go_loopw [95] (fun v95 W => ∃ j : Nat, j ≤ ns.length ∧ v95 = .int .i64 j ∧ Aside0 (Kd.R Kd.bool 4 W w4.heap.size (fun _ => True) (.slice (some ⟨go, 0, none⟩) h.length co) (setB h (ns.take j))) ∧ Aside0 (Kd.R (Kd.slice 2 (Kd.int .i64)) 22 W w4.heap.size (fun k => True ∧ some k ≠ (Value.slice A17 ou.length c17).ownBlock) (.slice (some ⟨ga, 0, none⟩) all.length ca) all) ∧ Aside0 (Kd.R (Kd.int .i64) 2 W w4.heap.size (fun _ => True) (.slice A17 ou.length c17) ou) ∧ Aside0 (Kd.R (Kd.int .i64) 2 W w4.heap.size (fun _ => True) (.slice A16 ns.length c16) ns) ∧ Aside0 (Below w4.heap.size w4 W)) (fun v _ => (ns.length - intOf v).toNat)
        case atStart => exact ⟨0, by omega, rfl, HD7, HA7, HO7, HR7, HB7⟩
        case round =>
         clear HA HO HD HB HA7 HO7 HD7 HB7 HR7
         obtain ⟨j, hj, rfl, HDj, HAj, HOj, HNj, HBj⟩ := hrel
         by_cases hjl : (j : Int) < (ns.length : Int)
         ·obtain ⟨ad3, rfl, hx3⟩ := Kd.at_int (Kd.R_reads' HNj.out).2.2 j (by omega) hjl
          obtain ⟨hn0, hn1⟩ := HRN.out _ (at_mem ns j (by omega) hjl)
          have hn0' : 0 ≤ rd ns j := hn0
          have hn1' : rd ns j < m := hn1
          have hsn : setB h (ns.take (j + 1)) = (setB h (ns.take j)).set (rd ns j).toNat true := by rw [show j + 1 = ((j : Int) + 1).toNat by omega, take_snoc ns j (by omega) hjl, setB_snoc, show ((j : Int)).toNat = j by omega]; rfl
          obtain ⟨n, hn⟩ : ∃ n : Int, n = rd ns j := ⟨_, rfl⟩
          rw [← hn, show ((j : Int)).toNat = j by omega] at hx3
          rw [← hn] at hn0' hn1' hsn
          obtain ⟨hv, hhv⟩ : ∃ hv : List Bool, hv = setB h (ns.take j) := ⟨_, rfl⟩
          rw [← hhv] at hsn HDj
          have HSN := Aside0.mk hsn
          have hnl : n < (h.length : Int) := by have := HHL.out; omega
          obtain ⟨hx9, hf9⟩ := Kd.R_celln false HDj.out n hn0' hnl
          have HPUT := Aside0.mk (Kd.R_putg HDj.out n true)
          have HFA := Aside0.mk (Kd.R_over HAj.out HDj.out (by decide) HPUT.out.2)
          have HFO := Aside0.mk (Kd.R_over HOj.out HDj.out (by decide) HPUT.out.2)
          have HFN := Aside0.mk (Kd.R_over HNj.out HDj.out (by decide) HPUT.out.2)
          clear hsn hn hn0 hn1 hhv
          go_wp2
          go_roundw
          case measure => simp [intOf]; omega
          case rel => exact ⟨j + 1, by omega, by first | rfl | (simp; done), ⟨by rw [HSN.out]; exact HPUT.out.1⟩, HFA, HFO, HFN, ⟨below_set HBj.out gbo⟩⟩
         ·have hje : j = ns.length := by omega
          subst hje
          rw [List.take_length] at HDj
          go_wp2
          go_roundw
          case measure => have := HOL2.out; simp [slLen]; omega
          case rel =>
           have e9 := HOL2.out
           have e8 := HKO.out
           exact ⟨k, setB h ns, left - b2, ou, rfl, by omega, by omega, by omega, by omega, by rw [setB_length]; exact HHL.out, HG3, HAj, HOj, HDj, HBj⟩
    ·rw [if_neg hlp] at hg
     obtain ⟨rfl, rfl⟩ := Prod.mk.inj hg
     go_wp2
     go_ret2
     exact ⟨_, rfl, Kd.R_lower HO.out (below_size HW.out), below_step HW.out HB.out⟩
mutual
def laws_FnExactGreedyRows.j0 : Nat → Int → List Int → Int → List Int → Int → Bool → List Int → List Int → Option (Bool)
 | 0, _, _, _, _, _, _, _, _ => none
 | k + 1, x1, x6, x7, x9, x10, x44, x102000, x114000 => if x44 = true then (some false) else ((laws_toSpace.f k x102000).bind fun t119 => ((laws_eqSpace.f k x114000 t119).bind fun t122 => (if t122 = true then ((laws_markSpace.f k x114000 1).bind fun bt123 => (if bt123.1 < 0 then (laws_FnExactGreedyRows.j1 k x1 x6 x7 x9 true x102000) else ((laws_eqInt64S.f k x9 x6).bind fun t125 => (if t125 = true then (laws_FnExactGreedyRows.j1 k x1 x6 x7 x9 (x10 != x7) x102000) else (laws_FnExactGreedyRows.j1 k x1 x6 x7 x9 true x102000))))) else (some false))))
def laws_FnExactGreedyRows.j1 : Nat → Int → List Int → Int → List Int → Bool → List Int → Option (Bool)
 | 0, _, _, _, _, _, _ => none
 | k + 1, x1, x6, x7, x9, x65, x102000 => if x65 = true then (some false) else ((laws_markInt64S.f k x9 1).bind fun bt126 => ((laws_heldInt64S.f k bt126.2 1).bind fun t128 => (if t128 < 0 then (some false) else (if t128 = bt126.1 then ((laws_toSpace.f k x102000).bind fun t129 => ((impl_GreedyRows.f t129 x1).bind fun bt132 => ((laws_eqInt64S.f k bt132.1 x6).bind fun t136 => (if t136 = true then (laws_FnExactGreedyRows.j2 k bt126.2 bt126.1 (bt132.2 != x7)) else (laws_FnExactGreedyRows.j2 k bt126.2 bt126.1 true))))) else (some false)))))
def laws_FnExactGreedyRows.j2 : Nat → List Int → Int → Bool → Option (Bool)
 | 0, _, _, _ => none
 | k + 1, x9, x12, x92 => if x92 = true then (some false) else ((laws_heldInt64S.f k x9 1).bind fun t137 => (if t137 < 0 then (some false) else (if t137 = x12 then (some true) else (some false))))
end
def laws_FnExactGreedyRows.f (k : Nat) (l0_0 : List Int) (a1 : Int) : Option (Bool) := (laws_szSpace.f l0_0 1048576).bind fun t102 => (if t102 < 0 then (some true) else ((laws_toSpace.f k l0_0).bind fun t103 => ((spec_GreedyRows.f k t103 a1).bind fun bt106 => ((laws_toSpace.f k l0_0).bind fun t110 => ((impl_GreedyRows.f t110 a1).bind fun bt114 => ((laws_eqInt64S.f k bt114.1 bt106.1).bind fun t118 => (if t118 = true then (laws_FnExactGreedyRows.j0 k a1 bt106.1 bt106.2 bt114.1 bt114.2 (bt114.2 != bt106.2) l0_0 t110) else (laws_FnExactGreedyRows.j0 k a1 bt106.1 bt106.2 bt114.1 bt114.2 true l0_0 t110))))))))
set_option maxHeartbeats 8000000 in
set_option maxRecDepth 100000 in
theorem laws_FnExactGreedyRows.calls (k : Nat) (A0_0 : Option Addr) (c0_0 : Nat) (l0_0 : List Int) (a1 : Int) (r : Bool) (w : World) (hr0_0 : Kd.C (Kd.int .i64) w A0_0 l0_0.length l0_0) (hc0_0 : l0_0.length ≤ c0_0) (h : laws_FnExactGreedyRows.f k l0_0 a1 = some r) :
  Calls Try.prog 5 #[.agg #[.slice A0_0 l0_0.length c0_0], .int .i64 a1] w fun e w' => e = .returned (.bool r) ∧ Below w.heap.size w w' := by
 have hu24 := Try.underlying24
 have hu28 := Try.underlying28
 have HR0_0 := Aside0.mk hr0_0
 have HC0_0 := Aside0.mk hc0_0
 clear hr0_0 hc0_0
 have HB := Aside0.mk (Below.refl w.heap.size w)
 have H : ((laws_szSpace.f l0_0 1048576).bind fun t102 => (if t102 < 0 then (some true) else ((laws_toSpace.f k l0_0).bind fun t103 => ((spec_GreedyRows.f k t103 a1).bind fun bt106 => ((laws_toSpace.f k l0_0).bind fun t110 => ((impl_GreedyRows.f t110 a1).bind fun bt114 => ((laws_eqInt64S.f k bt114.1 bt106.1).bind fun t118 => (if t118 = true then (laws_FnExactGreedyRows.j0 k a1 bt106.1 bt106.2 bt114.1 bt114.2 (bt114.2 != bt106.2) l0_0 t110) else (laws_FnExactGreedyRows.j0 k a1 bt106.1 bt106.2 bt114.1 bt114.2 true l0_0 t110))))))))) = some r := h
 clear h
 replace H := Option.bind_eq_some_iff.mp H
 obtain ⟨t102, A30, H⟩ := H
 replace H : (if t102 < 0 then (some true) else ((laws_toSpace.f k l0_0).bind fun t103 => ((spec_GreedyRows.f k t103 a1).bind fun bt106 => ((laws_toSpace.f k l0_0).bind fun t110 => ((impl_GreedyRows.f t110 a1).bind fun bt114 => ((laws_eqInt64S.f k bt114.1 bt106.1).bind fun t118 => (if t118 = true then (laws_FnExactGreedyRows.j0 k a1 bt106.1 bt106.2 bt114.1 bt114.2 (bt114.2 != bt106.2) l0_0 t110) else (laws_FnExactGreedyRows.j0 k a1 bt106.1 bt106.2 bt114.1 bt114.2 true l0_0 t110)))))))) = some r := H
 have A3 := Aside0.mk A30
 clear A30
 by_cases c4 : t102 < 0
 ·rw [if_pos c4] at H
  have c4b0 : decide (t102 < 0) = true := decide_eq_true c4
  clear c4
  obtain rfl := Option.some.inj H
  go_enter Try.func5, Try.ntmps5
  go_wp2_with (first | ((with_reducible refine gate_dst (N := 2) rfl ?_); refine box_event ?hg (N := 2) ?hd (cs := #[.slice A0_0 l0_0.length c0_0]) (t := 24) ?hr ?_; (case hd => rfl); (case hg => rfl); (case hr => first | (go_simp; done) | (go_simp; rfl)); intro gb101 hg w5 hbox hb; have n0_ := Aside0.mk (below_step (by repeat (first | (with_reducible first | exact HB.out | apply below_alloc | apply pw_below_drewN | apply below_drew1) | exact HB.out)) hb); have n1_ := Aside0.mk (hbox); have n2_ := Aside0.mk ((by rw [hg]; exact (below_size (by repeat (first | (with_reducible first | exact HB.out | apply below_alloc | apply pw_below_drewN | apply below_drew1) | exact HB.out))) : w.heap.size ≤ gb101)); have n3_ := Aside0.mk ((by rw [hg]; exact (below_size (by repeat (first | (with_reducible first | exact HB.out | apply below_alloc | apply pw_below_drewN | apply below_drew1) | exact HB.out))) : w.heap.size ≤ gb101)); clear HB; have HB := n0_; have BK101 := n1_; have GW101 := n2_; have GE101 := n3_; clear n0_ n1_ n2_ n3_; clear hb hbox hg; have hcz6_0 : w5.cell? ⟨gb101, 0, none⟩ = some (.slice A0_0 l0_0.length c0_0) := (blk_cell BK101.out 0).trans rfl; have hfz6_0 := blk_frozen BK101.out 0) | ((with_reducible refine gate_callee (f := 15) rfl ?_); refine goesL_ (some 18) rfl rfl Try.func15 (by kernel_rfl) rfl #[.agg #[.slice A0_0 l0_0.length c0_0], .int .i64 1048576] rfl (by (try simp only [List.map_toArray, List.map_cons, List.map_nil]); first | done | rfl | (simp only [List.length_drop, List.length_take]; rfl)) ?_; (with_reducible refine (laws_szSpace.calls _ _ l0_0 1048576 t102 _ ?side1 ?side2 A3.out).mono ?_); (case side1 => repeat (first | exact (Kd.C_below HR0_0.out HB.out) | (with_reducible refine Kd.C_alloc ?_ _) | (with_reducible refine Kd.C_drewN ?_ _) | (with_reducible refine Kd.C_drew ?_))); (case side2 => exact HC0_0.out); rintro e w7 ⟨rfl, hb⟩; refine ⟨_, rfl, ?_⟩; have n0_ := Aside0.mk (blk_below (g := gb101) (o := .cells #[.slice A0_0 l0_0.length c0_0] 24 (0, 0)) (by (with_reducible repeat (first | refine blk_drewN ?_ _ | refine blk_drew ?_ | refine blk_alloc ?_ _)); exact BK101.out) hb); have n1_ := Aside0.mk (below_step (by repeat (first | (with_reducible first | exact HB.out | apply below_alloc | apply pw_below_drewN | apply below_drew1 | refine below_set ?_ GE101.out) | exact HB.out)) hb); clear BK101; clear HB; have BK101 := n0_; have HB := n1_; clear n0_ n1_; (try clear hb); (try clear hb2); (try clear hk); (try clear hi)))
  go_ret
  exact ⟨by first | rfl | (simp [errW_none, errW_some] <;> rfl) | (simp [*, errW_none, errW_some] <;> rfl), by repeat (first | (with_reducible first | exact HB.out | apply below_alloc | apply pw_below_drewN | apply below_drew1 | refine below_set ?_ GE101.out) | exact HB.out)⟩
 ·rw [if_neg c4] at H
  have c4b0 : decide (t102 < 0) = false := decide_eq_false c4
  clear c4
  replace H := Option.bind_eq_some_iff.mp H
  obtain ⟨t103, A80, H⟩ := H
  replace H : ((spec_GreedyRows.f k t103 a1).bind fun bt106 => ((laws_toSpace.f k l0_0).bind fun t110 => ((impl_GreedyRows.f t110 a1).bind fun bt114 => ((laws_eqInt64S.f k bt114.1 bt106.1).bind fun t118 => (if t118 = true then (laws_FnExactGreedyRows.j0 k a1 bt106.1 bt106.2 bt114.1 bt114.2 (bt114.2 != bt106.2) l0_0 t110) else (laws_FnExactGreedyRows.j0 k a1 bt106.1 bt106.2 bt114.1 bt114.2 true l0_0 t110)))))) = some r := H
  have A8 := Aside0.mk A80
  clear A80
  replace H := Option.bind_eq_some_iff.mp H
  obtain ⟨⟨t106, t109⟩, A90, H⟩ := H
  replace H : ((laws_toSpace.f k l0_0).bind fun t110 => ((impl_GreedyRows.f t110 a1).bind fun bt114 => ((laws_eqInt64S.f k bt114.1 t106).bind fun t118 => (if t118 = true then (laws_FnExactGreedyRows.j0 k a1 t106 t109 bt114.1 bt114.2 (bt114.2 != t109) l0_0 t110) else (laws_FnExactGreedyRows.j0 k a1 t106 t109 bt114.1 bt114.2 true l0_0 t110))))) = some r := H
  have A9 := Aside0.mk A90
  clear A90
  replace H := Option.bind_eq_some_iff.mp H
  obtain ⟨t110, A100, H⟩ := H
  replace H : ((impl_GreedyRows.f t110 a1).bind fun bt114 => ((laws_eqInt64S.f k bt114.1 t106).bind fun t118 => (if t118 = true then (laws_FnExactGreedyRows.j0 k a1 t106 t109 bt114.1 bt114.2 (bt114.2 != t109) l0_0 t110) else (laws_FnExactGreedyRows.j0 k a1 t106 t109 bt114.1 bt114.2 true l0_0 t110)))) = some r := H
  have A10 := Aside0.mk A100
  clear A100
  replace H := Option.bind_eq_some_iff.mp H
  obtain ⟨⟨t114, t117⟩, A110, H⟩ := H
  replace H : ((laws_eqInt64S.f k t114 t106).bind fun t118 => (if t118 = true then (laws_FnExactGreedyRows.j0 k a1 t106 t109 t114 t117 (t117 != t109) l0_0 t110) else (laws_FnExactGreedyRows.j0 k a1 t106 t109 t114 t117 true l0_0 t110))) = some r := H
  have A11 := Aside0.mk A110
  clear A110
  have HC12 := Aside0.mk H
  clear H
  go_enter Try.func5, Try.ntmps5
  go_upto_region 8 with (first | ((with_reducible refine gate_dst (N := 2) rfl ?_); refine box_event ?hg (N := 2) ?hd (cs := #[.slice A0_0 l0_0.length c0_0]) (t := 24) ?hr ?_; (case hd => rfl); (case hg => rfl); (case hr => first | (go_simp; done) | (go_simp; rfl)); intro gb101 hg w13 hbox hb; have n0_ := Aside0.mk (below_step (by repeat (first | (with_reducible first | exact HB.out | apply below_alloc | apply pw_below_drewN | apply below_drew1) | exact HB.out)) hb); have n1_ := Aside0.mk (hbox); have n2_ := Aside0.mk ((by rw [hg]; exact (below_size (by repeat (first | (with_reducible first | exact HB.out | apply below_alloc | apply pw_below_drewN | apply below_drew1) | exact HB.out))) : w.heap.size ≤ gb101)); have n3_ := Aside0.mk ((by rw [hg]; exact (below_size (by repeat (first | (with_reducible first | exact HB.out | apply below_alloc | apply pw_below_drewN | apply below_drew1) | exact HB.out))) : w.heap.size ≤ gb101)); clear HB; have HB := n0_; have BK101 := n1_; have GW101 := n2_; have GE101 := n3_; clear n0_ n1_ n2_ n3_; clear hb hbox hg; have hcz14_0 : w13.cell? ⟨gb101, 0, none⟩ = some (.slice A0_0 l0_0.length c0_0) := (blk_cell BK101.out 0).trans rfl; have hfz14_0 := blk_frozen BK101.out 0) | ((with_reducible refine gate_callee (f := 15) rfl ?_); refine goesL_ (some 18) rfl rfl Try.func15 (by kernel_rfl) rfl #[.agg #[.slice A0_0 l0_0.length c0_0], .int .i64 1048576] rfl (by (try simp only [List.map_toArray, List.map_cons, List.map_nil]); first | done | rfl | (simp only [List.length_drop, List.length_take]; rfl)) ?_; (with_reducible refine (laws_szSpace.calls _ _ l0_0 1048576 t102 _ ?side1 ?side2 A3.out).mono ?_); (case side1 => repeat (first | exact (Kd.C_below HR0_0.out HB.out) | (with_reducible refine Kd.C_alloc ?_ _) | (with_reducible refine Kd.C_drewN ?_ _) | (with_reducible refine Kd.C_drew ?_))); (case side2 => exact HC0_0.out); rintro e w15 ⟨rfl, hb⟩; refine ⟨_, rfl, ?_⟩; have n0_ := Aside0.mk (blk_below (g := gb101) (o := .cells #[.slice A0_0 l0_0.length c0_0] 24 (0, 0)) (by (with_reducible repeat (first | refine blk_drewN ?_ _ | refine blk_drew ?_ | refine blk_alloc ?_ _)); exact BK101.out) hb); have n1_ := Aside0.mk (below_step (by repeat (first | (with_reducible first | exact HB.out | apply below_alloc | apply pw_below_drewN | apply below_drew1 | refine below_set ?_ GE101.out) | exact HB.out)) hb); clear BK101; clear HB; have BK101 := n0_; have HB := n1_; clear n0_ n1_; (try clear hb); (try clear hb2); (try clear hk); (try clear hi); have hcz16_0 : w15.cell? ⟨gb101, 0, none⟩ = some (.slice A0_0 l0_0.length c0_0) := (blk_cell BK101.out 0).trans rfl; have hfz16_0 := blk_frozen BK101.out 0) | ((with_reducible refine gate_callee (f := 17) rfl ?_); refine goesL_ (some 23) rfl rfl Try.func17 (by kernel_rfl) rfl #[.agg #[.slice A0_0 l0_0.length c0_0]] rfl (by (try simp only [List.map_toArray, List.map_cons, List.map_nil]); first | done | rfl | (simp only [List.length_drop, List.length_take]; rfl)) ?_; (with_reducible refine (laws_toSpace.calls k _ _ l0_0 t103 _ ?side1 ?side2 A8.out).mono ?_); (case side1 => repeat (first | exact (Kd.C_below HR0_0.out HB.out) | (with_reducible refine Kd.C_alloc ?_ _) | (with_reducible refine Kd.C_drewN ?_ _) | (with_reducible refine Kd.C_drew ?_))); (case side2 => exact HC0_0.out); rintro e w17 ⟨v104, rfl, ho0, hb⟩; refine ⟨_, rfl, ?_⟩; have n0_ := Aside0.mk (Kd.R_lower ho0 (below_size (by repeat (first | (with_reducible first | exact HB.out | apply below_alloc | apply pw_below_drewN | apply below_drew1 | refine below_set ?_ GE101.out) | exact HB.out)))); have n1_ := Aside0.mk (blk_below (g := gb101) (o := .cells #[.slice A0_0 l0_0.length c0_0] 24 (0, 0)) (by (with_reducible repeat (first | refine blk_drewN ?_ _ | refine blk_drew ?_ | refine blk_alloc ?_ _)); exact BK101.out) hb); have n2_ := Aside0.mk (below_step (by repeat (first | (with_reducible first | exact HB.out | apply below_alloc | apply pw_below_drewN | apply below_drew1 | refine below_set ?_ GE101.out) | exact HB.out)) hb); clear BK101; clear HB; have HO105 := n0_; have BK101 := n1_; have HB := n2_; clear n0_ n1_ n2_; (try clear hb); (try clear hb2); (try clear hk); (try clear hi); (try clear ho0); obtain ⟨Ao18, co18, eo18⟩ := Kd.R_slice HO105.out; subst eo18) | ((with_reducible refine gate_callee (f := 27) rfl ?_); refine goesL_ (some 25) rfl rfl Try.func27 (by kernel_rfl) rfl #[.agg #[.slice Ao18 t103.length co18], .int .i64 a1] rfl (by (try simp only [List.map_toArray, List.map_cons, List.map_nil]); first | done | rfl | (simp only [List.length_drop, List.length_take]; rfl)) ?_; (with_reducible refine (spec_GreedyRows.calls k _ _ t103 a1 t106 t109 _ ?side1 ?side2 A9.out).mono ?_); (case side1 => repeat (first | exact (Kd.R_reads' HO105.out).2.2 | (with_reducible refine Kd.C_alloc ?_ _) | (with_reducible refine Kd.C_drewN ?_ _) | (with_reducible refine Kd.C_drew ?_))); (case side2 => exact (Kd.R_reads' HO105.out).2.1); rintro e w19 ⟨v107, rfl, ho0, hb⟩; refine ⟨_, rfl, ?_⟩; have n0_ := Aside0.mk (Kd.R_elder' (by (with_reducible repeat (first | apply Kd.R_alloc | apply Kd.R_drewN | apply Kd.R_drew)); exact HO105.out) (Kd.R_base ho0) hb); have n1_ := Aside0.mk (Kd.R_lower (Kd.R_new' ho0 (Kd.R_lt (by (with_reducible repeat (first | apply Kd.R_alloc | apply Kd.R_drewN | apply Kd.R_drew)); exact HO105.out))) (below_size (by repeat (first | (with_reducible first | exact HB.out | apply below_alloc | apply pw_below_drewN | apply below_drew1 | refine below_set ?_ GE101.out) | exact HB.out)))); have n2_ := Aside0.mk (blk_below (g := gb101) (o := .cells #[.slice A0_0 l0_0.length c0_0] 24 (0, 0)) (by (with_reducible repeat (first | refine blk_drewN ?_ _ | refine blk_drew ?_ | refine blk_alloc ?_ _)); exact BK101.out) hb); have n3_ := Aside0.mk (below_step (by repeat (first | (with_reducible first | exact HB.out | apply below_alloc | apply pw_below_drewN | apply below_drew1 | refine below_set ?_ GE101.out) | exact HB.out)) hb); clear HO105; clear BK101; clear HB; have HO105 := n0_; have HO108 := n1_; have BK101 := n2_; have HB := n3_; clear n0_ n1_ n2_ n3_; (try clear hb); (try clear hb2); (try clear hk); (try clear hi); (try clear ho0); have hcz20_0 : w19.cell? ⟨gb101, 0, none⟩ = some (.slice A0_0 l0_0.length c0_0) := (blk_cell BK101.out 0).trans rfl; have hfz20_0 := blk_frozen BK101.out 0) | ((with_reducible refine gate_callee (f := 17) rfl ?_); refine goesL_ (some 29) rfl rfl Try.func17 (by kernel_rfl) rfl #[.agg #[.slice A0_0 l0_0.length c0_0]] rfl (by (try simp only [List.map_toArray, List.map_cons, List.map_nil]); first | done | rfl | (simp only [List.length_drop, List.length_take]; rfl)) ?_; (with_reducible refine (laws_toSpace.calls k _ _ l0_0 t110 _ ?side1 ?side2 A10.out).mono ?_); (case side1 => repeat (first | exact (Kd.C_below HR0_0.out HB.out) | (with_reducible refine Kd.C_alloc ?_ _) | (with_reducible refine Kd.C_drewN ?_ _) | (with_reducible refine Kd.C_drew ?_))); (case side2 => exact HC0_0.out); rintro e w21 ⟨v111, rfl, ho0, hb⟩; refine ⟨_, rfl, ?_⟩; have n0_ := Aside0.mk (Kd.R_elder' (by (with_reducible repeat (first | apply Kd.R_alloc | apply Kd.R_drewN | apply Kd.R_drew)); exact HO105.out) (Kd.R_base ho0) hb); have n1_ := Aside0.mk (Kd.R_elder' (by (with_reducible repeat (first | apply Kd.R_alloc | apply Kd.R_drewN | apply Kd.R_drew)); exact HO108.out) (Kd.R_base ho0) hb); have n2_ := Aside0.mk (Kd.R_lower (Kd.R_new' (Kd.R_new' ho0 (Kd.R_lt (by (with_reducible repeat (first | apply Kd.R_alloc | apply Kd.R_drewN | apply Kd.R_drew)); exact HO105.out))) (Kd.R_lt (by (with_reducible repeat (first | apply Kd.R_alloc | apply Kd.R_drewN | apply Kd.R_drew)); exact HO108.out))) (below_size (by repeat (first | (with_reducible first | exact HB.out | apply below_alloc | apply pw_below_drewN | apply below_drew1 | refine below_set ?_ GE101.out) | exact HB.out)))); have n3_ := Aside0.mk (blk_below (g := gb101) (o := .cells #[.slice A0_0 l0_0.length c0_0] 24 (0, 0)) (by (with_reducible repeat (first | refine blk_drewN ?_ _ | refine blk_drew ?_ | refine blk_alloc ?_ _)); exact BK101.out) hb); have n4_ := Aside0.mk (below_step (by repeat (first | (with_reducible first | exact HB.out | apply below_alloc | apply pw_below_drewN | apply below_drew1 | refine below_set ?_ GE101.out) | exact HB.out)) hb); clear HO105; clear HO108; clear BK101; clear HB; have HO105 := n0_; have HO108 := n1_; have HO112 := n2_; have BK101 := n3_; have HB := n4_; clear n0_ n1_ n2_ n3_ n4_; (try clear hb); (try clear hb2); (try clear hk); (try clear hi); (try clear ho0)) | ((with_reducible refine gate_dst (N := 8) rfl ?_); refine box_event ?hg (N := 8) ?hd (cs := #[.slice none 0 0]) (t := 28) ?hr ?_; (case hd => rfl); (case hg => rfl); (case hr => first | (go_simp; done) | (go_simp; rfl)); intro gb113 hg w22 hbox hb; have n0_ := Aside0.mk (Kd.R_below (by (with_reducible repeat (first | apply Kd.R_alloc | apply Kd.R_drewN | apply Kd.R_drew)); exact HO105.out) hb); have n1_ := Aside0.mk (Kd.R_below (by (with_reducible repeat (first | apply Kd.R_alloc | apply Kd.R_drewN | apply Kd.R_drew)); exact HO108.out) hb); have n2_ := Aside0.mk (Kd.R_below (by (with_reducible repeat (first | apply Kd.R_alloc | apply Kd.R_drewN | apply Kd.R_drew)); exact HO112.out) hb); have n3_ := Aside0.mk (blk_below (g := gb101) (o := .cells #[.slice A0_0 l0_0.length c0_0] 24 (0, 0)) (by (with_reducible repeat (first | refine blk_drewN ?_ _ | refine blk_drew ?_ | refine blk_alloc ?_ _)); exact BK101.out) hb); have n4_ := Aside0.mk (below_step (by repeat (first | (with_reducible first | exact HB.out | apply below_alloc | apply pw_below_drewN | apply below_drew1 | refine below_set ?_ GE101.out) | exact HB.out)) hb); have n5_ := Aside0.mk (hbox); have n6_ := Aside0.mk ((by rw [hg]; exact (below_size (by repeat (first | (with_reducible first | exact HB.out | apply below_alloc | apply pw_below_drewN | apply below_drew1 | refine below_set ?_ GE101.out) | exact HB.out))) : w.heap.size ≤ gb113)); have n7_ := Aside0.mk ((by rw [hg]; exact (below_size (by repeat (first | (with_reducible first | exact HB.out | apply below_alloc | apply pw_below_drewN | apply below_drew1 | refine below_set ?_ GE101.out) | exact HB.out))) : w.heap.size ≤ gb113)); have n8_ := Aside0.mk ((by rw [hg]; exact Nat.ne_of_lt (blk_lt (g := gb101) (o := .cells #[.slice A0_0 l0_0.length c0_0] 24 (0, 0)) (by (with_reducible repeat (first | refine blk_drewN ?_ _ | refine blk_drew ?_ | refine blk_alloc ?_ _)); exact BK101.out)) : gb101 ≠ gb113)); have n9_ := Aside0.mk ((by rw [hg]; exact Nat.ne_of_gt (blk_lt (g := gb101) (o := .cells #[.slice A0_0 l0_0.length c0_0] 24 (0, 0)) (by (with_reducible repeat (first | refine blk_drewN ?_ _ | refine blk_drew ?_ | refine blk_alloc ?_ _)); exact BK101.out)) : gb113 ≠ gb101)); clear HO105; clear HO108; clear HO112; clear BK101; clear HB; have HO105 := n0_; have HO108 := n1_; have HO112 := n2_; have BK101 := n3_; have HB := n4_; have BK113 := n5_; have GW113 := n6_; have GE113 := n7_; have NB101_113 := n8_; have NB113_101 := n9_; clear n0_ n1_ n2_ n3_ n4_ n5_ n6_ n7_ n8_ n9_; clear hb hbox hg; obtain ⟨Ao23, co23, eo23⟩ := Kd.R_slice HO112.out; subst eo23; have hnb24 := NB113_101.out; have hnc24 := NB101_113.out; have hcz25_0 : w22.cell? ⟨gb113, 0, none⟩ = some (.slice none 0 0) := (blk_cell BK113.out 0).trans rfl; have hfz25_0 := blk_frozen BK113.out 0) | ((with_reducible refine gate_callee (f := 28) rfl ?_); refine goesL_ (some 33) rfl rfl Try.func28 (by kernel_rfl) rfl #[.agg #[.slice Ao23 t110.length co23], .int .i64 a1] rfl (by (try simp only [List.map_toArray, List.map_cons, List.map_nil]); first | done | rfl | (simp only [List.length_drop, List.length_take]; rfl)) ?_; (with_reducible refine (impl_GreedyRows.calls _ _ t110 a1 t114 t117 _ ?side1 ?side2 A11.out).mono ?_); (case side1 => refine (Kd.R_reads' (e := 2) (base := w.heap.size) (ok := fun k_ => ((True ∧ some k_ ≠ (.slice Ao18 t103.length co18 : Value).ownBlock) ∧ some k_ ≠ (v107 : Value).ownBlock)) (n := t110.length) (c := co23) ?_).2.2; exact (by (with_reducible repeat (first | apply Kd.R_alloc | apply Kd.R_drewN | apply Kd.R_drew)); exact (Kd.R_mono (Kd.R_far (p := ⟨gb113, 0, none⟩) (Kd.R_types HO112.out BK113.out (by decide)) (fun _ hk => hk.2) (.slice Ao23 t110.length co23)) (fun _ h_ => h_.1)))); (case side2 => exact (Kd.R_reads' HO112.out).2.1); rintro e w26 ⟨v115, rfl, ho0, hb⟩; refine ⟨_, rfl, ?_⟩; have n0_ := Aside0.mk (Kd.R_elder' (by (with_reducible repeat (first | apply Kd.R_alloc | apply Kd.R_drewN | apply Kd.R_drew)); exact (Kd.R_mono (Kd.R_far (p := ⟨gb113, 0, none⟩) (Kd.R_types HO105.out BK113.out (by decide)) (fun _ hk => hk.2) (.slice Ao23 t110.length co23)) (fun _ h_ => h_.1))) (Kd.R_base ho0) hb); have n1_ := Aside0.mk (Kd.R_elder' (by (with_reducible repeat (first | apply Kd.R_alloc | apply Kd.R_drewN | apply Kd.R_drew)); exact (Kd.R_mono (Kd.R_far (p := ⟨gb113, 0, none⟩) (Kd.R_types HO108.out BK113.out (by decide)) (fun _ hk => hk.2) (.slice Ao23 t110.length co23)) (fun _ h_ => h_.1))) (Kd.R_base ho0) hb); have n2_ := Aside0.mk (Kd.R_elder' (by (with_reducible repeat (first | apply Kd.R_alloc | apply Kd.R_drewN | apply Kd.R_drew)); exact (Kd.R_mono (Kd.R_far (p := ⟨gb113, 0, none⟩) (Kd.R_types HO112.out BK113.out (by decide)) (fun _ hk => hk.2) (.slice Ao23 t110.length co23)) (fun _ h_ => h_.1))) (Kd.R_base ho0) hb); have n3_ := Aside0.mk (Kd.R_lower (Kd.R_new' (Kd.R_new' (Kd.R_new' ho0 (Kd.R_lt (by (with_reducible repeat (first | apply Kd.R_alloc | apply Kd.R_drewN | apply Kd.R_drew)); exact (Kd.R_mono (Kd.R_far (p := ⟨gb113, 0, none⟩) (Kd.R_types HO105.out BK113.out (by decide)) (fun _ hk => hk.2) (.slice Ao23 t110.length co23)) (fun _ h_ => h_.1))))) (Kd.R_lt (by (with_reducible repeat (first | apply Kd.R_alloc | apply Kd.R_drewN | apply Kd.R_drew)); exact (Kd.R_mono (Kd.R_far (p := ⟨gb113, 0, none⟩) (Kd.R_types HO108.out BK113.out (by decide)) (fun _ hk => hk.2) (.slice Ao23 t110.length co23)) (fun _ h_ => h_.1))))) (Kd.R_lt (by (with_reducible repeat (first | apply Kd.R_alloc | apply Kd.R_drewN | apply Kd.R_drew)); exact (Kd.R_mono (Kd.R_far (p := ⟨gb113, 0, none⟩) (Kd.R_types HO112.out BK113.out (by decide)) (fun _ hk => hk.2) (.slice Ao23 t110.length co23)) (fun _ h_ => h_.1))))) (below_size (by repeat (first | (with_reducible first | exact HB.out | apply below_alloc | apply pw_below_drewN | apply below_drew1 | refine below_set ?_ GE101.out | refine below_set ?_ GE113.out) | exact HB.out)))); have n4_ := Aside0.mk (blk_below (g := gb101) (o := .cells #[.slice A0_0 l0_0.length c0_0] 24 (0, 0)) (by (with_reducible repeat (first | refine blk_drewN ?_ _ | refine blk_drew ?_ | refine blk_alloc ?_ _)); refine blk_far ?_ NB101_113.out _; (with_reducible repeat (first | refine blk_drewN ?_ _ | refine blk_drew ?_ | refine blk_alloc ?_ _)); exact BK101.out) hb); have n5_ := Aside0.mk (blk_below (g := gb113) (o := .cells #[.slice Ao23 t110.length co23] 28 (0, 0)) (by (with_reducible repeat (first | refine blk_drewN ?_ _ | refine blk_drew ?_ | refine blk_alloc ?_ _)); refine blk_put (cs := #[.slice none 0 0]) ?_ 0 _ rfl; (with_reducible repeat (first | refine blk_drewN ?_ _ | refine blk_drew ?_ | refine blk_alloc ?_ _)); exact BK113.out) hb); have n6_ := Aside0.mk (below_step (by repeat (first | (with_reducible first | exact HB.out | apply below_alloc | apply pw_below_drewN | apply below_drew1 | refine below_set ?_ GE101.out | refine below_set ?_ GE113.out) | exact HB.out)) hb); clear HO105; clear HO108; clear HO112; clear BK101; clear BK113; clear HB; have HO105 := n0_; have HO108 := n1_; have HO112 := n2_; have HO116 := n3_; have BK101 := n4_; have BK113 := n5_; have HB := n6_; clear n0_ n1_ n2_ n3_ n4_ n5_ n6_; (try clear hb); (try clear hb2); (try clear hk); (try clear hi); (try clear ho0)))
  (try simp only [Act.put, List.setIfInBounds_toArray, List.set_cons_zero, List.set_cons_succ])
  go_cut [44] (fun v44 wc => ∃ (kq : Nat) (x44_11 : Bool), v44 = .bool x44_11 ∧ Aside0 (laws_FnExactGreedyRows.j0 kq a1 t106 t109 t114 t117 x44_11 l0_0 t110 = some r) ∧ Aside0 (kq ≤ k) ∧ Aside0 (Kd.R (Kd.int .i64) 2 wc w.heap.size (fun k_ => some k_ ≠ (v115 : Value).ownBlock ∧ some k_ ≠ ((.slice Ao23 t110.length co23) : Value).ownBlock) v107 t106) ∧ Aside0 (Kd.R (Kd.int .i64) 2 wc w.heap.size (fun k_ => some k_ ≠ (v107 : Value).ownBlock ∧ some k_ ≠ ((.slice Ao23 t110.length co23) : Value).ownBlock) v115 t114) ∧ Aside0 (Kd.R (Kd.int .i64) 2 wc w.heap.size (fun k_ => some k_ ≠ (v107 : Value).ownBlock ∧ some k_ ≠ (v115 : Value).ownBlock) (.slice Ao23 t110.length co23) t110) ∧ Aside0 (wc.heap[gb101]? = some (.cells #[(.slice A0_0 l0_0.length c0_0)] 24 (0, 0))) ∧ Aside0 (wc.heap[gb113]? = some (.cells #[(.slice Ao23 t110.length co23)] 28 (0, 0))) ∧ Aside0 (Below w.heap.size w wc))
  case first =>
   have H := HC12.out
   clear HC12
   replace H := Option.bind_eq_some_iff.mp H
   obtain ⟨t118, A270, H⟩ := H
   replace H : (if t118 = true then (laws_FnExactGreedyRows.j0 k a1 t106 t109 t114 t117 (t117 != t109) l0_0 t110) else (laws_FnExactGreedyRows.j0 k a1 t106 t109 t114 t117 true l0_0 t110)) = some r := H
   have A27 := Aside0.mk A270
   clear A270
   by_cases c28 : t118 = true
   ·subst c28
    have H1 : (laws_FnExactGreedyRows.j0 k a1 t106 t109 t114 t117 (t117 != t109) l0_0 t110) = some r := by rw [if_pos rfl] at H; exact H
    clear H
    have H := H1
    clear H1
    have H' := Aside0.mk H
    clear H
    obtain ⟨Ao29, co29, eo29⟩ := Kd.R_slice HO116.out
    subst eo29
    obtain ⟨Ao30, co30, eo30⟩ := Kd.R_slice HO108.out
    subst eo30
    go_wp2_with (first | ((with_reducible refine gate_callee (f := 21) rfl ?_); refine goesL_ (some 38) rfl rfl Try.func21 (by kernel_rfl) rfl #[.slice Ao29 t114.length co29, .slice Ao30 t106.length co30] rfl (by (try simp only [List.map_toArray, List.map_cons, List.map_nil]); first | done | rfl | (simp only [List.length_drop, List.length_take]; rfl)) ?_; (with_reducible refine (laws_eqInt64S.calls k _ _ t114 _ _ t106 true _ ?side1 ?side2 ?side3 ?side4 A27.out).mono ?_); (case side1 => repeat (first | exact (Kd.R_reads' HO116.out).2.2 | (with_reducible refine Kd.C_alloc ?_ _) | (with_reducible refine Kd.C_drewN ?_ _) | (with_reducible refine Kd.C_drew ?_))); (case side2 => exact (Kd.R_reads' HO116.out).2.1); (case side3 => repeat (first | exact (Kd.R_reads' HO108.out).2.2 | (with_reducible refine Kd.C_alloc ?_ _) | (with_reducible refine Kd.C_drewN ?_ _) | (with_reducible refine Kd.C_drew ?_))); (case side4 => exact (Kd.R_reads' HO108.out).2.1); rintro e w' ⟨rfl, ⟨nd, rfl⟩⟩; refine ⟨_, rfl, ?_⟩))
    go_meet
    case rel => exact ⟨_, ((t117 != t109)), (by first | rfl | (simp; done) | (simp [*]; done)), H', ⟨by first | omega | exact Nat.le_refl _⟩, ⟨by (with_reducible repeat (first | apply Kd.R_alloc | apply Kd.R_drewN | apply Kd.R_drew)); exact Kd.R_mono HO108.out (fun _ hk => ⟨hk.2, hk.1.2⟩)⟩, ⟨by (with_reducible repeat (first | apply Kd.R_alloc | apply Kd.R_drewN | apply Kd.R_drew)); exact Kd.R_mono HO116.out (fun _ hk => ⟨hk.1.2, hk.2⟩)⟩, ⟨by (with_reducible repeat (first | apply Kd.R_alloc | apply Kd.R_drewN | apply Kd.R_drew)); exact Kd.R_mono HO112.out (fun _ hk => ⟨hk.1.2, hk.2⟩)⟩, ⟨by (with_reducible repeat (first | refine blk_drewN ?_ _ | refine blk_drew ?_ | refine blk_alloc ?_ _)); exact BK101.out⟩, ⟨by (with_reducible repeat (first | refine blk_drewN ?_ _ | refine blk_drew ?_ | refine blk_alloc ?_ _)); exact BK113.out⟩, ⟨by repeat (first | (with_reducible first | exact HB.out | apply below_alloc | apply pw_below_drewN | apply below_drew1 | refine below_set ?_ GE101.out | refine below_set ?_ GE113.out) | exact HB.out)⟩⟩
   ·replace c28 := Bool.eq_false_iff.mpr c28
    subst c28
    have H1 : (laws_FnExactGreedyRows.j0 k a1 t106 t109 t114 t117 true l0_0 t110) = some r := by rw [if_neg (show ¬ (false = true) by decide)] at H; exact H
    clear H
    have H := H1
    clear H1
    have H' := Aside0.mk H
    clear H
    obtain ⟨Ao31, co31, eo31⟩ := Kd.R_slice HO116.out
    subst eo31
    obtain ⟨Ao32, co32, eo32⟩ := Kd.R_slice HO108.out
    subst eo32
    go_wp2_with (first | ((with_reducible refine gate_callee (f := 21) rfl ?_); refine goesL_ (some 38) rfl rfl Try.func21 (by kernel_rfl) rfl #[.slice Ao31 t114.length co31, .slice Ao32 t106.length co32] rfl (by (try simp only [List.map_toArray, List.map_cons, List.map_nil]); first | done | rfl | (simp only [List.length_drop, List.length_take]; rfl)) ?_; (with_reducible refine (laws_eqInt64S.calls k _ _ t114 _ _ t106 false _ ?side1 ?side2 ?side3 ?side4 A27.out).mono ?_); (case side1 => repeat (first | exact (Kd.R_reads' HO116.out).2.2 | (with_reducible refine Kd.C_alloc ?_ _) | (with_reducible refine Kd.C_drewN ?_ _) | (with_reducible refine Kd.C_drew ?_))); (case side2 => exact (Kd.R_reads' HO116.out).2.1); (case side3 => repeat (first | exact (Kd.R_reads' HO108.out).2.2 | (with_reducible refine Kd.C_alloc ?_ _) | (with_reducible refine Kd.C_drewN ?_ _) | (with_reducible refine Kd.C_drew ?_))); (case side4 => exact (Kd.R_reads' HO108.out).2.1); rintro e w' ⟨rfl, ⟨nd, rfl⟩⟩; refine ⟨_, rfl, ?_⟩))
    go_meet
    case rel => exact ⟨_, (true), (by first | rfl | (simp; done) | (simp [*]; done)), H', ⟨by first | omega | exact Nat.le_refl _⟩, ⟨by (with_reducible repeat (first | apply Kd.R_alloc | apply Kd.R_drewN | apply Kd.R_drew)); exact Kd.R_mono HO108.out (fun _ hk => ⟨hk.2, hk.1.2⟩)⟩, ⟨by (with_reducible repeat (first | apply Kd.R_alloc | apply Kd.R_drewN | apply Kd.R_drew)); exact Kd.R_mono HO116.out (fun _ hk => ⟨hk.1.2, hk.2⟩)⟩, ⟨by (with_reducible repeat (first | apply Kd.R_alloc | apply Kd.R_drewN | apply Kd.R_drew)); exact Kd.R_mono HO112.out (fun _ hk => ⟨hk.1.2, hk.2⟩)⟩, ⟨by (with_reducible repeat (first | refine blk_drewN ?_ _ | refine blk_drew ?_ | refine blk_alloc ?_ _)); exact BK101.out⟩, ⟨by (with_reducible repeat (first | refine blk_drewN ?_ _ | refine blk_drew ?_ | refine blk_alloc ?_ _)); exact BK113.out⟩, ⟨by repeat (first | (with_reducible first | exact HB.out | apply below_alloc | apply pw_below_drewN | apply below_drew1 | refine below_set ?_ GE101.out | refine below_set ?_ GE113.out) | exact HB.out)⟩⟩
  case rest =>
   clear HC12
   try clear c1
   try clear c2
   try clear p2
   try clear c4
   try clear c4b0
   try clear c5
   try clear c15
   try clear c17
   try clear c21
   try clear c24
   try clear c27
   try clear c28
   try clear hcz14_0
   try clear hcz16_0
   try clear hcz20_0
   try clear hcz25_0
   try clear hcz6_0
   try clear hfz14_0
   try clear hfz16_0
   try clear hfz20_0
   try clear hfz25_0
   try clear hfz6_0
   obtain ⟨kq, x44_11, rfl, HA, HJ11, HO_6, HO_9, HO_114000, BK101, BK113, HB⟩ := hcut
   cases kq with
   | zero => exact absurd HA.out (by simp [laws_FnExactGreedyRows.j0])
   | succ kj11 =>
    have H := HA.out
    clear HA
    simp only [laws_FnExactGreedyRows.j0] at H
    by_cases c33 : x44_11 = true
    ·subst c33
     have H1 : (some false) = some r := by rw [if_pos rfl] at H; exact H
     clear H
     have H := H1
     clear H1
     obtain rfl := Option.some.inj H
     go_wp2
     go_ret
     exact ⟨by first | rfl | (simp [errW_none, errW_some] <;> rfl) | (simp [*, errW_none, errW_some] <;> rfl), by repeat (first | (with_reducible first | exact HB.out | apply below_alloc | apply pw_below_drewN | apply below_drew1 | refine below_set ?_ GE101.out | refine below_set ?_ GE113.out) | exact HB.out)⟩
    ·replace c33 := Bool.eq_false_iff.mpr c33
     subst c33
     have H1 : ((laws_toSpace.f kj11 l0_0).bind fun t119 => ((laws_eqSpace.f kj11 t110 t119).bind fun t122 => (if t122 = true then ((laws_markSpace.f kj11 t110 1).bind fun bt123 => (if bt123.1 < 0 then (laws_FnExactGreedyRows.j1 kj11 a1 t106 t109 t114 true l0_0) else ((laws_eqInt64S.f kj11 t114 t106).bind fun t125 => (if t125 = true then (laws_FnExactGreedyRows.j1 kj11 a1 t106 t109 t114 (t117 != t109) l0_0) else (laws_FnExactGreedyRows.j1 kj11 a1 t106 t109 t114 true l0_0))))) else (some false)))) = some r := by rw [if_neg (show ¬ (false = true) by decide)] at H; exact H
     clear H
     have H := H1
     clear H1
     replace H := Option.bind_eq_some_iff.mp H
     obtain ⟨t119, A340, H⟩ := H
     replace H : ((laws_eqSpace.f kj11 t110 t119).bind fun t122 => (if t122 = true then ((laws_markSpace.f kj11 t110 1).bind fun bt123 => (if bt123.1 < 0 then (laws_FnExactGreedyRows.j1 kj11 a1 t106 t109 t114 true l0_0) else ((laws_eqInt64S.f kj11 t114 t106).bind fun t125 => (if t125 = true then (laws_FnExactGreedyRows.j1 kj11 a1 t106 t109 t114 (t117 != t109) l0_0) else (laws_FnExactGreedyRows.j1 kj11 a1 t106 t109 t114 true l0_0))))) else (some false))) = some r := H
     have A34 := Aside0.mk A340
     clear A340
     replace H := Option.bind_eq_some_iff.mp H
     obtain ⟨t122, A350, H⟩ := H
     replace H : (if t122 = true then ((laws_markSpace.f kj11 t110 1).bind fun bt123 => (if bt123.1 < 0 then (laws_FnExactGreedyRows.j1 kj11 a1 t106 t109 t114 true l0_0) else ((laws_eqInt64S.f kj11 t114 t106).bind fun t125 => (if t125 = true then (laws_FnExactGreedyRows.j1 kj11 a1 t106 t109 t114 (t117 != t109) l0_0) else (laws_FnExactGreedyRows.j1 kj11 a1 t106 t109 t114 true l0_0))))) else (some false)) = some r := H
     have A35 := Aside0.mk A350
     clear A350
     by_cases c36 : t122 = true
     ·subst c36
      have H1 : ((laws_markSpace.f kj11 t110 1).bind fun bt123 => (if bt123.1 < 0 then (laws_FnExactGreedyRows.j1 kj11 a1 t106 t109 t114 true l0_0) else ((laws_eqInt64S.f kj11 t114 t106).bind fun t125 => (if t125 = true then (laws_FnExactGreedyRows.j1 kj11 a1 t106 t109 t114 (t117 != t109) l0_0) else (laws_FnExactGreedyRows.j1 kj11 a1 t106 t109 t114 true l0_0))))) = some r := by rw [if_pos rfl] at H; exact H
      clear H
      have H := H1
      clear H1
      replace H := Option.bind_eq_some_iff.mp H
      obtain ⟨⟨t123, t124⟩, A370, H⟩ := H
      replace H : (if t123 < 0 then (laws_FnExactGreedyRows.j1 kj11 a1 t106 t109 t114 true l0_0) else ((laws_eqInt64S.f kj11 t114 t106).bind fun t125 => (if t125 = true then (laws_FnExactGreedyRows.j1 kj11 a1 t106 t109 t114 (t117 != t109) l0_0) else (laws_FnExactGreedyRows.j1 kj11 a1 t106 t109 t114 true l0_0)))) = some r := H
      have A37 := Aside0.mk A370
      clear A370
      have HC38 := Aside0.mk H
      clear H
      try go_wp2
      have n0_ := Aside0.mk (Kd.R_drew HO_6.out)
      have n1_ := Aside0.mk (Kd.R_drew HO_9.out)
      have n2_ := Aside0.mk (Kd.R_drew HO_114000.out)
      have n3_ := Aside0.mk (blk_drew BK101.out)
      have n4_ := Aside0.mk (blk_drew BK113.out)
      have n5_ := Aside0.mk (below_drew1 HB.out)
      clear HO_6
      clear HO_9
      clear HO_114000
      clear BK101
      clear BK113
      clear HB
      have HO_6 := n0_
      have HO_9 := n1_
      have HO_114000 := n2_
      have BK101 := n3_
      have BK113 := n4_
      have HB := n5_
      clear n0_ n1_ n2_ n3_ n4_ n5_
      refine start_ (n := 5) (S := fun w' => w'.cell? ⟨gb113, 0, none⟩ = some (.slice Ao23 t110.length co23) ∧ w'.cell? ⟨gb101, 0, none⟩ = some (.slice A0_0 l0_0.length c0_0)) (ds := []) #[false, false, false, false, false] (by kernel_rfl) rfl rfl ⟨(blk_cell BK113.out 0).trans rfl, (blk_cell BK101.out 0).trans rfl⟩ (fun hHeld => ?_)
      generalize wc.drew = w39 at HO_6 HO_9 HO_114000 BK101 BK113 HB hHeld ⊢
      refine take_ (i := 0) (N := some 45) (v := ?_) (a' := ?_) #[true, false, false, false, false] rfl rfl (by kernel_rfl) (fun _ _ _ h => h) (Or.inl ⟨by rfl, ?_⟩) hHeld ?_ ?_
      rotate_left
      ·rintro w' ⟨s0, s1⟩
       go_simp
       with_reducible rfl
      rotate_left
      ·simp only [Act.put, List.setIfInBounds_toArray, List.set_cons_zero, List.set_cons_succ, i64_w, i32_w]
       rfl
      refine take_ (i := 1) (N := some 46) (v := ?_) (a' := ?_) #[true, true, false, false, false] rfl rfl (by kernel_rfl) (fun _ _ _ h => h) (Or.inl ⟨by rfl, ?_⟩) hHeld ?_ ?_
      rotate_left
      ·rintro w' ⟨s0, s1⟩
       go_simp
       with_reducible rfl
      rotate_left
      ·simp only [Act.put, List.setIfInBounds_toArray, List.set_cons_zero, List.set_cons_succ, i64_w, i32_w]
       rfl
      refine one_ (i := 2) (N := some 47) #[true, true, true, false, false] rfl rfl (by kernel_rfl) (by decide) (fun K hK => ?_)
      refine goes_ Try.func17 (by kernel_rfl) rfl #[.agg #[.slice A0_0 l0_0.length c0_0]] (by rfl) rfl rfl (by (try simp only [List.map_toArray, List.map_cons, List.map_nil]); first | done | rfl | (simp only [List.length_drop, List.length_take]; rfl)) ?_
      with_reducible refine (laws_toSpace.calls kj11 _ _ l0_0 t119 _ ?side1 ?side2 A34.out).mono ?_
      (case side1 => repeat (first | exact (Kd.C_below HR0_0.out HB.out) | (with_reducible refine Kd.C_alloc ?_ _) | (with_reducible refine Kd.C_drewN ?_ _) | (with_reducible refine Kd.C_drew ?_)))
      (case side2 => exact HC0_0.out)
      rintro e w40 ⟨v120, rfl, ho0, hb⟩
      refine ⟨_, rfl, ?_⟩
      have n0_ := Aside0.mk (Kd.R_elder' (by (with_reducible repeat (first | apply Kd.R_alloc | apply Kd.R_drewN | apply Kd.R_drew)); exact HO_6.out) (Kd.R_base ho0) hb)
      have n1_ := Aside0.mk (Kd.R_elder' (by (with_reducible repeat (first | apply Kd.R_alloc | apply Kd.R_drewN | apply Kd.R_drew)); exact HO_9.out) (Kd.R_base ho0) hb)
      have n2_ := Aside0.mk (Kd.R_elder' (by (with_reducible repeat (first | apply Kd.R_alloc | apply Kd.R_drewN | apply Kd.R_drew)); exact HO_114000.out) (Kd.R_base ho0) hb)
      have n3_ := Aside0.mk (Kd.R_lower (Kd.R_new' (Kd.R_new' (Kd.R_new' ho0 (Kd.R_lt (by (with_reducible repeat (first | apply Kd.R_alloc | apply Kd.R_drewN | apply Kd.R_drew)); exact HO_6.out))) (Kd.R_lt (by (with_reducible repeat (first | apply Kd.R_alloc | apply Kd.R_drewN | apply Kd.R_drew)); exact HO_9.out))) (Kd.R_lt (by (with_reducible repeat (first | apply Kd.R_alloc | apply Kd.R_drewN | apply Kd.R_drew)); exact HO_114000.out))) (below_size (by repeat (first | (with_reducible first | exact HB.out | apply below_alloc | apply pw_below_drewN | apply below_drew1 | refine below_set ?_ GE101.out | refine below_set ?_ GE113.out) | exact HB.out))))
      have n4_ := Aside0.mk (blk_below (g := gb101) (o := .cells #[.slice A0_0 l0_0.length c0_0] 24 (0, 0)) (by (with_reducible repeat (first | refine blk_drewN ?_ _ | refine blk_drew ?_ | refine blk_alloc ?_ _)); exact BK101.out) hb)
      have n5_ := Aside0.mk (blk_below (g := gb113) (o := .cells #[.slice Ao23 t110.length co23] 28 (0, 0)) (by (with_reducible repeat (first | refine blk_drewN ?_ _ | refine blk_drew ?_ | refine blk_alloc ?_ _)); exact BK113.out) hb)
      have n6_ := Aside0.mk (below_step (by repeat (first | (with_reducible first | exact HB.out | apply below_alloc | apply pw_below_drewN | apply below_drew1 | refine below_set ?_ GE101.out | refine below_set ?_ GE113.out) | exact HB.out)) hb)
      clear HO_6
      clear HO_9
      clear HO_114000
      clear BK101
      clear BK113
      clear HB
      have HO_6 := n0_
      have HO_9 := n1_
      have HO_114000 := n2_
      have HO121 := n3_
      have BK101 := n4_
      have BK113 := n5_
      have HB := n6_
      clear n0_ n1_ n2_ n3_ n4_ n5_ n6_
      (try clear hb)
      (try clear hb2)
      (try clear hk)
      (try clear hi)
      (try clear ho0)
      obtain ⟨Ao41, co41, eo41⟩ := Kd.R_slice HO121.out
      (first | subst eo41 | (injection eo41 with f1_ f2_ f3_; have f4_ := f1_.symm; have f5_ := f3_.symm; clear f1_ f2_ f3_; subst f4_; subst f5_))
      refine hK.out _ _ ⟨(blk_cell BK113.out 0).trans rfl, (blk_cell BK101.out 0).trans rfl⟩ (fun hHeld => ?_)
      clear hK K
      refine norm_ (a' := ?_) ?_ ?_
      rotate_left
      ·show Act.put _ (some 47) _ = _
       simp only [Act.put, List.setIfInBounds_toArray, List.set_cons_zero, List.set_cons_succ, i64_w, i32_w]
       rfl
      refine one_ (i := 3) (N := some 48) #[true, true, true, true, false] rfl rfl (by kernel_rfl) (by decide) (fun K hK => ?_)
      refine goes_ Try.func20 (by kernel_rfl) rfl #[.agg #[.slice Ao23 t110.length co23], .agg #[.slice Ao41 t119.length co41]] (by rfl) rfl rfl (by (try simp only [List.map_toArray, List.map_cons, List.map_nil]); first | done | rfl | (simp only [List.length_drop, List.length_take]; rfl)) ?_
      with_reducible refine (laws_eqSpace.calls kj11 _ _ t110 _ _ t119 true _ ?side1 ?side2 ?side3 ?side4 A35.out).mono ?_
      (case side1 => repeat (first | exact (Kd.R_reads' HO_114000.out).2.2 | (with_reducible refine Kd.C_alloc ?_ _) | (with_reducible refine Kd.C_drewN ?_ _) | (with_reducible refine Kd.C_drew ?_)))
      (case side2 => exact (Kd.R_reads' HO_114000.out).2.1)
      (case side3 => repeat (first | exact (Kd.R_reads' HO121.out).2.2 | (with_reducible refine Kd.C_alloc ?_ _) | (with_reducible refine Kd.C_drewN ?_ _) | (with_reducible refine Kd.C_drew ?_)))
      (case side4 => exact (Kd.R_reads' HO121.out).2.1)
      rintro e w42 ⟨rfl, hb⟩
      refine ⟨_, rfl, ?_⟩
      have n0_ := Aside0.mk (Kd.R_below (by (with_reducible repeat (first | apply Kd.R_alloc | apply Kd.R_drewN | apply Kd.R_drew)); exact HO_6.out) hb)
      have n1_ := Aside0.mk (Kd.R_below (by (with_reducible repeat (first | apply Kd.R_alloc | apply Kd.R_drewN | apply Kd.R_drew)); exact HO_9.out) hb)
      have n2_ := Aside0.mk (Kd.R_below (by (with_reducible repeat (first | apply Kd.R_alloc | apply Kd.R_drewN | apply Kd.R_drew)); exact HO_114000.out) hb)
      have n3_ := Aside0.mk (Kd.R_below (by (with_reducible repeat (first | apply Kd.R_alloc | apply Kd.R_drewN | apply Kd.R_drew)); exact HO121.out) hb)
      have n4_ := Aside0.mk (blk_below (g := gb101) (o := .cells #[.slice A0_0 l0_0.length c0_0] 24 (0, 0)) (by (with_reducible repeat (first | refine blk_drewN ?_ _ | refine blk_drew ?_ | refine blk_alloc ?_ _)); exact BK101.out) hb)
      have n5_ := Aside0.mk (blk_below (g := gb113) (o := .cells #[.slice Ao23 t110.length co23] 28 (0, 0)) (by (with_reducible repeat (first | refine blk_drewN ?_ _ | refine blk_drew ?_ | refine blk_alloc ?_ _)); exact BK113.out) hb)
      have n6_ := Aside0.mk (below_step (by repeat (first | (with_reducible first | exact HB.out | apply below_alloc | apply pw_below_drewN | apply below_drew1 | refine below_set ?_ GE101.out | refine below_set ?_ GE113.out) | exact HB.out)) hb)
      clear HO_6
      clear HO_9
      clear HO_114000
      clear HO121
      clear BK101
      clear BK113
      clear HB
      have HO_6 := n0_
      have HO_9 := n1_
      have HO_114000 := n2_
      have HO121 := n3_
      have BK101 := n4_
      have BK113 := n5_
      have HB := n6_
      clear n0_ n1_ n2_ n3_ n4_ n5_ n6_
      (try clear hb)
      (try clear hb2)
      (try clear hk)
      (try clear hi)
      refine hK.out _ _ ⟨(blk_cell BK113.out 0).trans rfl, (blk_cell BK101.out 0).trans rfl⟩ (fun hHeld => ?_)
      clear hK K
      refine norm_ (a' := ?_) ?_ ?_
      rotate_left
      ·show Act.put _ (some 48) _ = _
       simp only [Act.put, List.setIfInBounds_toArray, List.set_cons_zero, List.set_cons_succ, i64_w, i32_w]
       rfl
      refine pure_ (i := 4) (N := some 49) (v := ?_) (a' := ?_) #[true, true, true, true, true] rfl rfl (by kernel_rfl) (fun _ _ _ h => h) (Or.inl ⟨by rfl, ?_⟩) ?_ ?_
      rotate_left
      ·intro w'
       go_simp
       with_reducible rfl
      rotate_left
      ·simp only [Act.put, List.setIfInBounds_toArray, List.set_cons_zero, List.set_cons_succ, i64_w, i32_w]
       rfl
      refine done_ (by kernel_rfl) ?_
      have hnb43 := NB113_101.out
      have hnc43 := NB101_113.out
      have hcz44_0 : w42.cell? ⟨gb113, 0, none⟩ = some (.slice Ao23 t110.length co23) := (blk_cell BK113.out 0).trans rfl
      have hfz44_0 := blk_frozen BK113.out 0
      go_upto_region 14 with (first | ((with_reducible refine gate_callee (f := 24) rfl ?_); refine goesL_ (some 52) rfl rfl Try.func24 (by kernel_rfl) rfl #[.agg #[.slice Ao23 t110.length co23], .int .i64 1] rfl (by (try simp only [List.map_toArray, List.map_cons, List.map_nil]); first | done | rfl | (simp only [List.length_drop, List.length_take]; rfl)) ?_; (with_reducible refine (laws_markSpace.calls kj11 (fun k_ => some k_ = (.slice Ao23 t110.length co23 : Value).ownBlock) (.slice Ao23 t110.length co23) t110 1 t123 t124 w _ ?side1 ?side2 A37.out).mono ?_); (case side1 => repeat (first | (with_reducible first | exact HB.out | apply below_alloc | apply pw_below_drewN | apply below_drew1 | refine below_set ?_ GE101.out | refine below_set ?_ GE113.out) | exact HB.out)); (case side2 => exact Kd.R_tight rfl HO_114000.out); rintro e w45 ⟨rfl, hy0, hb, hkp⟩; refine ⟨_, rfl, ?_⟩; have n0_ := Aside0.mk (Kd.R_mono (ok' := fun k_ => some k_ ≠ (v115 : Value).ownBlock ∧ some k_ ≠ (.slice Ao23 t110.length co23 : Value).ownBlock ∧ some k_ ≠ (.slice Ao41 t119.length co41 : Value).ownBlock) (Kd.R_keptB (HO_6.out) hkp (fun k_ hk_ hs_ => (hk_.1.2) hs_)) (fun k_ hk_ => ⟨hk_.1.1.1, hk_.1.1.2, hk_.1.2⟩)); have n1_ := Aside0.mk (Kd.R_mono (ok' := fun k_ => some k_ ≠ (v107 : Value).ownBlock ∧ some k_ ≠ (.slice Ao23 t110.length co23 : Value).ownBlock ∧ some k_ ≠ (.slice Ao41 t119.length co41 : Value).ownBlock) (Kd.R_keptB (HO_9.out) hkp (fun k_ hk_ hs_ => (hk_.1.2) hs_)) (fun k_ hk_ => ⟨hk_.1.1.1, hk_.1.1.2, hk_.1.2⟩)); have n2_ := Aside0.mk (Kd.R_reok rfl hy0 (fun k_ e_ => HO_114000.out.1 k_ e_)); have n3_ := Aside0.mk (blk_kept (by (with_reducible repeat (first | refine blk_drewN ?_ _ | refine blk_drew ?_ | refine blk_alloc ?_ _)); exact BK101.out) hkp (fun hs_ => (fun e_ => (Kd.R_ne HO_114000.out BK101.out (by decide)) e_) hs_)); have n4_ := Aside0.mk (blk_kept (by (with_reducible repeat (first | refine blk_drewN ?_ _ | refine blk_drew ?_ | refine blk_alloc ?_ _)); exact BK113.out) hkp (fun hs_ => (fun e_ => (Kd.R_ne HO_114000.out BK113.out (by decide)) e_) hs_)); have n5_ := Aside0.mk (Kd.R_mono (ok' := fun k_ => some k_ ≠ (v107 : Value).ownBlock ∧ some k_ ≠ (v115 : Value).ownBlock ∧ some k_ ≠ (.slice Ao23 t110.length co23 : Value).ownBlock) (Kd.R_keptB (HO121.out) hkp (fun k_ hk_ hs_ => (hk_.2) hs_)) (fun k_ hk_ => ⟨hk_.1.1.1.2, hk_.1.1.2, hk_.1.2⟩)); have n6_ := Aside0.mk (hb); clear HO_6; clear HO_9; clear HO_114000; clear BK101; clear BK113; clear HO121; clear HB; have HO_6 := n0_; have HO_9 := n1_; have HO_114000 := n2_; have BK101 := n3_; have BK113 := n4_; have HO121 := n5_; have HB := n6_; clear n0_ n1_ n2_ n3_ n4_ n5_ n6_; (try clear hb); (try clear hkp); (try clear hy0)))
      (try simp only [Act.put, List.setIfInBounds_toArray, List.set_cons_zero, List.set_cons_succ])
      go_cut [65] (fun v65 wc => ∃ (kq : Nat) (x65_37 : Bool), v65 = .bool x65_37 ∧ Aside0 (laws_FnExactGreedyRows.j1 kq a1 t106 t109 t114 x65_37 l0_0 = some r) ∧ Aside0 (kq ≤ kj11) ∧ Aside0 (Kd.R (Kd.int .i64) 2 wc w.heap.size (fun k_ => some k_ ≠ (v115 : Value).ownBlock ∧ some k_ ≠ ((.slice Ao23 t110.length co23) : Value).ownBlock) v107 t106) ∧ Aside0 (Kd.R (Kd.int .i64) 2 wc w.heap.size (fun k_ => some k_ ≠ (v107 : Value).ownBlock ∧ some k_ ≠ ((.slice Ao23 t110.length co23) : Value).ownBlock) v115 t114) ∧ Aside0 (Kd.R (Kd.int .i64) 2 wc w.heap.size (fun k_ => some k_ ≠ (v107 : Value).ownBlock ∧ some k_ ≠ (v115 : Value).ownBlock) (.slice Ao23 t110.length co23) t124) ∧ Aside0 (wc.heap[gb101]? = some (.cells #[(.slice A0_0 l0_0.length c0_0)] 24 (0, 0))) ∧ Aside0 (wc.heap[gb113]? = some (.cells #[(.slice Ao23 t110.length co23)] 28 (0, 0))) ∧ Aside0 (Below w.heap.size w wc))
      case first =>
       have H := HC38.out
       clear HC38
       by_cases c46 : t123 < 0
       ·rw [if_pos c46] at H
        have c46b0 : decide (t123 < 0) = true := decide_eq_true c46
        clear c46
        (first | rw [c46b0] | (simp only [i64_w, i32_w]; rw [c46b0]) | skip)
        have H' := Aside0.mk H
        clear H
        go_wp2
        go_meet
        case rel => exact ⟨_, (true), (by first | rfl | (simp; done) | (simp [*]; done)), H', ⟨by have := HJ11.out; first | omega | exact Nat.le_refl _⟩, ⟨by (with_reducible repeat (first | apply Kd.R_alloc | apply Kd.R_drewN | apply Kd.R_drew)); exact Kd.R_mono HO_6.out (fun _ hk => ⟨hk.1, hk.2.1⟩)⟩, ⟨by (with_reducible repeat (first | apply Kd.R_alloc | apply Kd.R_drewN | apply Kd.R_drew)); exact Kd.R_mono HO_9.out (fun _ hk => ⟨hk.1, hk.2.1⟩)⟩, ⟨by (with_reducible repeat (first | apply Kd.R_alloc | apply Kd.R_drewN | apply Kd.R_drew)); exact Kd.R_mono HO_114000.out (fun _ hk => ⟨hk.1.1, hk.1.2⟩)⟩, ⟨by (with_reducible repeat (first | refine blk_drewN ?_ _ | refine blk_drew ?_ | refine blk_alloc ?_ _)); exact BK101.out⟩, ⟨by (with_reducible repeat (first | refine blk_drewN ?_ _ | refine blk_drew ?_ | refine blk_alloc ?_ _)); exact BK113.out⟩, ⟨by repeat (first | (with_reducible first | exact HB.out | apply below_alloc | apply pw_below_drewN | apply below_drew1 | refine below_set ?_ GE101.out | refine below_set ?_ GE113.out) | exact HB.out)⟩⟩
       ·rw [if_neg c46] at H
        have c46b0 : decide (t123 < 0) = false := decide_eq_false c46
        clear c46
        (first | rw [c46b0] | (simp only [i64_w, i32_w]; rw [c46b0]) | skip)
        replace H := Option.bind_eq_some_iff.mp H
        obtain ⟨t125, A470, H⟩ := H
        replace H : (if t125 = true then (laws_FnExactGreedyRows.j1 kj11 a1 t106 t109 t114 (t117 != t109) l0_0) else (laws_FnExactGreedyRows.j1 kj11 a1 t106 t109 t114 true l0_0)) = some r := H
        have A47 := Aside0.mk A470
        clear A470
        by_cases c48 : t125 = true
        ·subst c48
         have H1 : (laws_FnExactGreedyRows.j1 kj11 a1 t106 t109 t114 (t117 != t109) l0_0) = some r := by rw [if_pos rfl] at H; exact H
         clear H
         have H := H1
         clear H1
         have H' := Aside0.mk H
         clear H
         obtain ⟨Ao49, co49, eo49⟩ := Kd.R_slice HO_9.out
         subst eo49
         obtain ⟨Ao50, co50, eo50⟩ := Kd.R_slice HO_6.out
         subst eo50
         go_wp2_with (first | (go_at_call 21; (with_reducible refine (laws_eqInt64S.calls kj11 _ _ t114 _ _ t106 true _ ?side1 ?side2 ?side3 ?side4 A47.out).mono ?_); (case side1 => repeat (first | exact (Kd.R_reads' HO_9.out).2.2 | (with_reducible refine Kd.C_alloc ?_ _) | (with_reducible refine Kd.C_drewN ?_ _) | (with_reducible refine Kd.C_drew ?_))); (case side2 => exact (Kd.R_reads' HO_9.out).2.1); (case side3 => repeat (first | exact (Kd.R_reads' HO_6.out).2.2 | (with_reducible refine Kd.C_alloc ?_ _) | (with_reducible refine Kd.C_drewN ?_ _) | (with_reducible refine Kd.C_drew ?_))); (case side4 => exact (Kd.R_reads' HO_6.out).2.1); rintro e w' ⟨rfl, ⟨nd, rfl⟩⟩))
         go_meet
         case rel => exact ⟨_, ((t117 != t109)), (by first | rfl | (simp; done) | (simp [*]; done)), H', ⟨by have := HJ11.out; first | omega | exact Nat.le_refl _⟩, ⟨by (with_reducible repeat (first | apply Kd.R_alloc | apply Kd.R_drewN | apply Kd.R_drew)); exact Kd.R_mono HO_6.out (fun _ hk => ⟨hk.1, hk.2.1⟩)⟩, ⟨by (with_reducible repeat (first | apply Kd.R_alloc | apply Kd.R_drewN | apply Kd.R_drew)); exact Kd.R_mono HO_9.out (fun _ hk => ⟨hk.1, hk.2.1⟩)⟩, ⟨by (with_reducible repeat (first | apply Kd.R_alloc | apply Kd.R_drewN | apply Kd.R_drew)); exact Kd.R_mono HO_114000.out (fun _ hk => ⟨hk.1.1, hk.1.2⟩)⟩, ⟨by (with_reducible repeat (first | refine blk_drewN ?_ _ | refine blk_drew ?_ | refine blk_alloc ?_ _)); exact BK101.out⟩, ⟨by (with_reducible repeat (first | refine blk_drewN ?_ _ | refine blk_drew ?_ | refine blk_alloc ?_ _)); exact BK113.out⟩, ⟨by repeat (first | (with_reducible first | exact HB.out | apply below_alloc | apply pw_below_drewN | apply below_drew1 | refine below_set ?_ GE101.out | refine below_set ?_ GE113.out) | exact HB.out)⟩⟩
        ·replace c48 := Bool.eq_false_iff.mpr c48
         subst c48
         have H1 : (laws_FnExactGreedyRows.j1 kj11 a1 t106 t109 t114 true l0_0) = some r := by rw [if_neg (show ¬ (false = true) by decide)] at H; exact H
         clear H
         have H := H1
         clear H1
         have H' := Aside0.mk H
         clear H
         obtain ⟨Ao51, co51, eo51⟩ := Kd.R_slice HO_9.out
         subst eo51
         obtain ⟨Ao52, co52, eo52⟩ := Kd.R_slice HO_6.out
         subst eo52
         go_wp2_with (first | (go_at_call 21; (with_reducible refine (laws_eqInt64S.calls kj11 _ _ t114 _ _ t106 false _ ?side1 ?side2 ?side3 ?side4 A47.out).mono ?_); (case side1 => repeat (first | exact (Kd.R_reads' HO_9.out).2.2 | (with_reducible refine Kd.C_alloc ?_ _) | (with_reducible refine Kd.C_drewN ?_ _) | (with_reducible refine Kd.C_drew ?_))); (case side2 => exact (Kd.R_reads' HO_9.out).2.1); (case side3 => repeat (first | exact (Kd.R_reads' HO_6.out).2.2 | (with_reducible refine Kd.C_alloc ?_ _) | (with_reducible refine Kd.C_drewN ?_ _) | (with_reducible refine Kd.C_drew ?_))); (case side4 => exact (Kd.R_reads' HO_6.out).2.1); rintro e w' ⟨rfl, ⟨nd, rfl⟩⟩))
         go_meet
         case rel => exact ⟨_, (true), (by first | rfl | (simp; done) | (simp [*]; done)), H', ⟨by have := HJ11.out; first | omega | exact Nat.le_refl _⟩, ⟨by (with_reducible repeat (first | apply Kd.R_alloc | apply Kd.R_drewN | apply Kd.R_drew)); exact Kd.R_mono HO_6.out (fun _ hk => ⟨hk.1, hk.2.1⟩)⟩, ⟨by (with_reducible repeat (first | apply Kd.R_alloc | apply Kd.R_drewN | apply Kd.R_drew)); exact Kd.R_mono HO_9.out (fun _ hk => ⟨hk.1, hk.2.1⟩)⟩, ⟨by (with_reducible repeat (first | apply Kd.R_alloc | apply Kd.R_drewN | apply Kd.R_drew)); exact Kd.R_mono HO_114000.out (fun _ hk => ⟨hk.1.1, hk.1.2⟩)⟩, ⟨by (with_reducible repeat (first | refine blk_drewN ?_ _ | refine blk_drew ?_ | refine blk_alloc ?_ _)); exact BK101.out⟩, ⟨by (with_reducible repeat (first | refine blk_drewN ?_ _ | refine blk_drew ?_ | refine blk_alloc ?_ _)); exact BK113.out⟩, ⟨by repeat (first | (with_reducible first | exact HB.out | apply below_alloc | apply pw_below_drewN | apply below_drew1 | refine below_set ?_ GE101.out | refine below_set ?_ GE113.out) | exact HB.out)⟩⟩
      case rest =>
       clear HC38
       try clear c1
       try clear c2
       try clear p2
       try clear c3
       try clear c4
       try clear c4b0
       try clear c5
       try clear c15
       try clear c17
       try clear c20
       try clear c21
       try clear c24
       try clear c27
       try clear c28
       try clear c33
       try clear c36
       try clear c43
       try clear c46
       try clear c46b0
       try clear c48
       try clear hcz14_0
       try clear hcz16_0
       try clear hcz20_0
       try clear hcz25_0
       try clear hcz44_0
       try clear hcz6_0
       try clear hfz14_0
       try clear hfz16_0
       try clear hfz20_0
       try clear hfz25_0
       try clear hfz44_0
       try clear hfz6_0
       try clear p2
       obtain ⟨kq, x65_37, rfl, HA, HJ37, HO_6, HO_9, HO_114000, BK101, BK113, HB⟩ := hcut
       have hl114000_37 := (Kd.R_reads' HO_114000.out).1
       rw [hl114000_37] at HO_114000
       (try simp only [hl114000_37])
       (try simp only [hl114000_37] at BK101)
       (try simp only [hl114000_37] at BK113)
       (try simp only [hl114000_37] at HO_6)
       (try simp only [hl114000_37] at HO_9)
       cases kq with
       | zero => exact absurd HA.out (by simp [laws_FnExactGreedyRows.j1])
       | succ kj37 =>
        have H := HA.out
        clear HA
        simp only [laws_FnExactGreedyRows.j1] at H
        by_cases c53 : x65_37 = true
        ·subst c53
         have H1 : (some false) = some r := by rw [if_pos rfl] at H; exact H
         clear H
         have H := H1
         clear H1
         obtain rfl := Option.some.inj H
         go_wp2
         go_ret
         exact ⟨by first | rfl | (simp [errW_none, errW_some] <;> rfl) | (simp [*, errW_none, errW_some] <;> rfl), by repeat (first | (with_reducible first | exact HB.out | apply below_alloc | apply pw_below_drewN | apply below_drew1 | refine below_set ?_ GE101.out | refine below_set ?_ GE113.out) | exact HB.out)⟩
        ·replace c53 := Bool.eq_false_iff.mpr c53
         subst c53
         have H1 : ((laws_markInt64S.f kj37 t114 1).bind fun bt126 => ((laws_heldInt64S.f kj37 bt126.2 1).bind fun t128 => (if t128 < 0 then (some false) else (if t128 = bt126.1 then ((laws_toSpace.f kj37 l0_0).bind fun t129 => ((impl_GreedyRows.f t129 a1).bind fun bt132 => ((laws_eqInt64S.f kj37 bt132.1 t106).bind fun t136 => (if t136 = true then (laws_FnExactGreedyRows.j2 kj37 bt126.2 bt126.1 (bt132.2 != t109)) else (laws_FnExactGreedyRows.j2 kj37 bt126.2 bt126.1 true))))) else (some false))))) = some r := by rw [if_neg (show ¬ (false = true) by decide)] at H; exact H
         clear H
         have H := H1
         clear H1
         replace H := Option.bind_eq_some_iff.mp H
         obtain ⟨⟨t126, t127⟩, A540, H⟩ := H
         replace H : ((laws_heldInt64S.f kj37 t127 1).bind fun t128 => (if t128 < 0 then (some false) else (if t128 = t126 then ((laws_toSpace.f kj37 l0_0).bind fun t129 => ((impl_GreedyRows.f t129 a1).bind fun bt132 => ((laws_eqInt64S.f kj37 bt132.1 t106).bind fun t136 => (if t136 = true then (laws_FnExactGreedyRows.j2 kj37 t127 t126 (bt132.2 != t109)) else (laws_FnExactGreedyRows.j2 kj37 t127 t126 true))))) else (some false)))) = some r := H
         have A54 := Aside0.mk A540
         clear A540
         replace H := Option.bind_eq_some_iff.mp H
         obtain ⟨t128, A550, H⟩ := H
         replace H : (if t128 < 0 then (some false) else (if t128 = t126 then ((laws_toSpace.f kj37 l0_0).bind fun t129 => ((impl_GreedyRows.f t129 a1).bind fun bt132 => ((laws_eqInt64S.f kj37 bt132.1 t106).bind fun t136 => (if t136 = true then (laws_FnExactGreedyRows.j2 kj37 t127 t126 (bt132.2 != t109)) else (laws_FnExactGreedyRows.j2 kj37 t127 t126 true))))) else (some false))) = some r := H
         have A55 := Aside0.mk A550
         clear A550
         by_cases c56 : t128 < 0
         ·rw [if_pos c56] at H
          have c56b0 : decide (t128 < 0) = true := decide_eq_true c56
          clear c56
          obtain rfl := Option.some.inj H
          obtain ⟨Ao57, co57, eo57⟩ := Kd.R_slice HO_9.out
          subst eo57
          go_wp2_with (first | ((with_reducible refine gate_callee (f := 25) rfl ?_); refine goesL_ (some 68) rfl rfl Try.func25 (by kernel_rfl) rfl #[.slice Ao57 t114.length co57, .int .i64 1] rfl (by (try simp only [List.map_toArray, List.map_cons, List.map_nil]); first | done | rfl | (simp only [List.length_drop, List.length_take]; rfl)) ?_; (with_reducible refine (laws_markInt64S.calls kj37 (fun k_ => some k_ = (.slice Ao57 t114.length co57 : Value).ownBlock) (.slice Ao57 t114.length co57) t114 1 t126 t127 w _ ?side1 ?side2 A54.out).mono ?_); (case side1 => repeat (first | (with_reducible first | exact HB.out | apply below_alloc | apply pw_below_drewN | apply below_drew1 | refine below_set ?_ GE101.out | refine below_set ?_ GE113.out) | exact HB.out)); (case side2 => exact Kd.R_tight rfl HO_9.out); rintro e w58 ⟨rfl, hy0, hb, hkp⟩; refine ⟨_, rfl, ?_⟩; have n0_ := Aside0.mk (Kd.R_mono (ok' := fun k_ => some k_ ≠ (.slice Ao57 t114.length co57 : Value).ownBlock ∧ some k_ ≠ (.slice Ao23 t124.length co23 : Value).ownBlock) (Kd.R_keptB (HO_6.out) hkp (fun k_ hk_ hs_ => (hk_.1) hs_)) (fun k_ hk_ => ⟨hk_.1.1, hk_.1.2⟩)); have n1_ := Aside0.mk (Kd.R_reok rfl hy0 (fun k_ e_ => HO_9.out.1 k_ e_)); have n2_ := Aside0.mk (Kd.R_mono (ok' := fun k_ => some k_ ≠ (v107 : Value).ownBlock ∧ some k_ ≠ (.slice Ao57 t114.length co57 : Value).ownBlock) (Kd.R_keptB (HO_114000.out) hkp (fun k_ hk_ hs_ => (hk_.2) hs_)) (fun k_ hk_ => ⟨hk_.1.1, hk_.1.2⟩)); have n3_ := Aside0.mk (blk_kept (by (with_reducible repeat (first | refine blk_drewN ?_ _ | refine blk_drew ?_ | refine blk_alloc ?_ _)); exact BK101.out) hkp (fun hs_ => (fun e_ => (Kd.R_ne HO_9.out BK101.out (by decide)) e_) hs_)); have n4_ := Aside0.mk (blk_kept (by (with_reducible repeat (first | refine blk_drewN ?_ _ | refine blk_drew ?_ | refine blk_alloc ?_ _)); exact BK113.out) hkp (fun hs_ => (fun e_ => (Kd.R_ne HO_9.out BK113.out (by decide)) e_) hs_)); have n5_ := Aside0.mk (hb); clear HO_6; clear HO_9; clear HO_114000; clear BK101; clear BK113; clear HB; have HO_6 := n0_; have HO_9 := n1_; have HO_114000 := n2_; have BK101 := n3_; have BK113 := n4_; have HB := n5_; clear n0_ n1_ n2_ n3_ n4_ n5_; (try clear hb); (try clear hkp); (try clear hy0)) | ((with_reducible refine gate_callee (f := 26) rfl ?_); refine goesL_ (some 71) rfl rfl Try.func26 (by kernel_rfl) rfl #[.slice Ao57 t127.length co57, .int .i64 1] rfl (by (try simp only [List.map_toArray, List.map_cons, List.map_nil]); first | done | (rw [show t127.length = t114.length from (Kd.R_reads' HO_9.out).1.symm] <;> rfl) | rfl | (simp only [List.length_drop, List.length_take]; rfl)) ?_; (with_reducible refine (laws_heldInt64S.calls kj37 _ _ t127 1 t128 _ ?side1 ?side2 A55.out).mono ?_); (case side1 => repeat (first | exact (Kd.R_reads' HO_9.out).2.2 | (with_reducible refine Kd.C_alloc ?_ _) | (with_reducible refine Kd.C_drewN ?_ _) | (with_reducible refine Kd.C_drew ?_))); (case side2 => rw [show t127.length = t114.length from (Kd.R_reads' HO_9.out).1.symm]; exact (Kd.R_reads' HO_9.out).2.1); rintro e w' ⟨rfl, ⟨nd, rfl⟩⟩; refine ⟨_, rfl, ?_⟩))
          go_ret
          exact ⟨by first | rfl | (simp [errW_none, errW_some] <;> rfl) | (simp [*, errW_none, errW_some] <;> rfl), by repeat (first | (with_reducible first | exact HB.out | apply below_alloc | apply pw_below_drewN | apply below_drew1 | refine below_set ?_ GE101.out | refine below_set ?_ GE113.out) | exact HB.out)⟩
         ·rw [if_neg c56] at H
          have c56b0 : decide (t128 < 0) = false := decide_eq_false c56
          clear c56
          by_cases c59 : t128 = t126
          ·rw [if_pos c59] at H
           have c59b0 : (t128 == t126) = true := beq_iff_eq.mpr c59
           have c59b1 : (t128 != t126) = false := bne_eq_false_iff_eq.mpr c59
           clear c59
           replace H := Option.bind_eq_some_iff.mp H
           obtain ⟨t129, A600, H⟩ := H
           replace H : ((impl_GreedyRows.f t129 a1).bind fun bt132 => ((laws_eqInt64S.f kj37 bt132.1 t106).bind fun t136 => (if t136 = true then (laws_FnExactGreedyRows.j2 kj37 t127 t126 (bt132.2 != t109)) else (laws_FnExactGreedyRows.j2 kj37 t127 t126 true)))) = some r := H
           have A60 := Aside0.mk A600
           clear A600
           replace H := Option.bind_eq_some_iff.mp H
           obtain ⟨⟨t132, t135⟩, A610, H⟩ := H
           replace H : ((laws_eqInt64S.f kj37 t132 t106).bind fun t136 => (if t136 = true then (laws_FnExactGreedyRows.j2 kj37 t127 t126 (t135 != t109)) else (laws_FnExactGreedyRows.j2 kj37 t127 t126 true))) = some r := H
           have A61 := Aside0.mk A610
           clear A610
           have HC62 := Aside0.mk H
           clear H
           obtain ⟨Ao63, co63, eo63⟩ := Kd.R_slice HO_9.out
           subst eo63
           go_upto_region 25 with (first | ((with_reducible refine gate_callee (f := 25) rfl ?_); refine goesL_ (some 68) rfl rfl Try.func25 (by kernel_rfl) rfl #[.slice Ao63 t114.length co63, .int .i64 1] rfl (by (try simp only [List.map_toArray, List.map_cons, List.map_nil]); first | done | rfl | (simp only [List.length_drop, List.length_take]; rfl)) ?_; (with_reducible refine (laws_markInt64S.calls kj37 (fun k_ => some k_ = (.slice Ao63 t114.length co63 : Value).ownBlock) (.slice Ao63 t114.length co63) t114 1 t126 t127 w _ ?side1 ?side2 A54.out).mono ?_); (case side1 => repeat (first | (with_reducible first | exact HB.out | apply below_alloc | apply pw_below_drewN | apply below_drew1 | refine below_set ?_ GE101.out | refine below_set ?_ GE113.out) | exact HB.out)); (case side2 => exact Kd.R_tight rfl HO_9.out); rintro e w64 ⟨rfl, hy0, hb, hkp⟩; refine ⟨_, rfl, ?_⟩; have n0_ := Aside0.mk (Kd.R_mono (ok' := fun k_ => some k_ ≠ (.slice Ao63 t114.length co63 : Value).ownBlock ∧ some k_ ≠ (.slice Ao23 t124.length co23 : Value).ownBlock) (Kd.R_keptB (HO_6.out) hkp (fun k_ hk_ hs_ => (hk_.1) hs_)) (fun k_ hk_ => ⟨hk_.1.1, hk_.1.2⟩)); have n1_ := Aside0.mk (Kd.R_reok rfl hy0 (fun k_ e_ => HO_9.out.1 k_ e_)); have n2_ := Aside0.mk (Kd.R_mono (ok' := fun k_ => some k_ ≠ (v107 : Value).ownBlock ∧ some k_ ≠ (.slice Ao63 t114.length co63 : Value).ownBlock) (Kd.R_keptB (HO_114000.out) hkp (fun k_ hk_ hs_ => (hk_.2) hs_)) (fun k_ hk_ => ⟨hk_.1.1, hk_.1.2⟩)); have n3_ := Aside0.mk (blk_kept (by (with_reducible repeat (first | refine blk_drewN ?_ _ | refine blk_drew ?_ | refine blk_alloc ?_ _)); exact BK101.out) hkp (fun hs_ => (fun e_ => (Kd.R_ne HO_9.out BK101.out (by decide)) e_) hs_)); have n4_ := Aside0.mk (blk_kept (by (with_reducible repeat (first | refine blk_drewN ?_ _ | refine blk_drew ?_ | refine blk_alloc ?_ _)); exact BK113.out) hkp (fun hs_ => (fun e_ => (Kd.R_ne HO_9.out BK113.out (by decide)) e_) hs_)); have n5_ := Aside0.mk (hb); clear HO_6; clear HO_9; clear HO_114000; clear BK101; clear BK113; clear HB; have HO_6 := n0_; have HO_9 := n1_; have HO_114000 := n2_; have BK101 := n3_; have BK113 := n4_; have HB := n5_; clear n0_ n1_ n2_ n3_ n4_ n5_; (try clear hb); (try clear hkp); (try clear hy0)) | ((with_reducible refine gate_callee (f := 26) rfl ?_); refine goesL_ (some 71) rfl rfl Try.func26 (by kernel_rfl) rfl #[.slice Ao63 t127.length co63, .int .i64 1] rfl (by (try simp only [List.map_toArray, List.map_cons, List.map_nil]); first | done | (rw [show t127.length = t114.length from (Kd.R_reads' HO_9.out).1.symm] <;> rfl) | rfl | (simp only [List.length_drop, List.length_take]; rfl)) ?_; (with_reducible refine (laws_heldInt64S.calls kj37 _ _ t127 1 t128 _ ?side1 ?side2 A55.out).mono ?_); (case side1 => repeat (first | exact (Kd.R_reads' HO_9.out).2.2 | (with_reducible refine Kd.C_alloc ?_ _) | (with_reducible refine Kd.C_drewN ?_ _) | (with_reducible refine Kd.C_drew ?_))); (case side2 => rw [show t127.length = t114.length from (Kd.R_reads' HO_9.out).1.symm]; exact (Kd.R_reads' HO_9.out).2.1); rintro e w' ⟨rfl, ⟨nd, rfl⟩⟩; refine ⟨_, rfl, ?_⟩; have hnb65 := NB101_113.out; have hnc65 := NB113_101.out; have hcz66_0 : w64.cell? ⟨gb101, 0, none⟩ = some (.slice A0_0 l0_0.length c0_0) := (blk_cell BK101.out 0).trans rfl; have hfz66_0 := blk_frozen BK101.out 0) | ((with_reducible refine gate_callee (f := 17) rfl ?_); refine goesL_ (some 79) rfl rfl Try.func17 (by kernel_rfl) rfl #[.agg #[.slice A0_0 l0_0.length c0_0]] rfl (by (try simp only [List.map_toArray, List.map_cons, List.map_nil]); first | done | rfl | (simp only [List.length_drop, List.length_take]; rfl)) ?_; (with_reducible refine (laws_toSpace.calls kj37 _ _ l0_0 t129 _ ?side1 ?side2 A60.out).mono ?_); (case side1 => repeat (first | exact (Kd.C_below HR0_0.out (by repeat (first | (with_reducible first | exact HB.out | apply below_alloc | apply pw_below_drewN | apply below_drew1 | refine below_set ?_ GE101.out | refine below_set ?_ GE113.out) | exact HB.out))) | (with_reducible refine Kd.C_alloc ?_ _) | (with_reducible refine Kd.C_drewN ?_ _) | (with_reducible refine Kd.C_drew ?_))); (case side2 => exact HC0_0.out); rintro e w67 ⟨v130, rfl, ho0, hb⟩; refine ⟨_, rfl, ?_⟩; have n0_ := Aside0.mk (Kd.R_elder' (by (with_reducible repeat (first | apply Kd.R_alloc | apply Kd.R_drewN | apply Kd.R_drew)); exact HO_6.out) (Kd.R_base ho0) hb); have n1_ := Aside0.mk (Kd.R_elder' (by (with_reducible repeat (first | apply Kd.R_alloc | apply Kd.R_drewN | apply Kd.R_drew)); exact HO_9.out) (Kd.R_base ho0) hb); have n2_ := Aside0.mk (Kd.R_elder' (by (with_reducible repeat (first | apply Kd.R_alloc | apply Kd.R_drewN | apply Kd.R_drew)); exact HO_114000.out) (Kd.R_base ho0) hb); have n3_ := Aside0.mk (Kd.R_lower (Kd.R_new' (Kd.R_new' (Kd.R_new' ho0 (Kd.R_lt (by (with_reducible repeat (first | apply Kd.R_alloc | apply Kd.R_drewN | apply Kd.R_drew)); exact HO_6.out))) (Kd.R_lt (by (with_reducible repeat (first | apply Kd.R_alloc | apply Kd.R_drewN | apply Kd.R_drew)); exact HO_9.out))) (Kd.R_lt (by (with_reducible repeat (first | apply Kd.R_alloc | apply Kd.R_drewN | apply Kd.R_drew)); exact HO_114000.out))) (below_size (by repeat (first | (with_reducible first | exact HB.out | apply below_alloc | apply pw_below_drewN | apply below_drew1 | refine below_set ?_ GE101.out | refine below_set ?_ GE113.out) | exact HB.out)))); have n4_ := Aside0.mk (blk_below (g := gb101) (o := .cells #[.slice A0_0 l0_0.length c0_0] 24 (0, 0)) (by (with_reducible repeat (first | refine blk_drewN ?_ _ | refine blk_drew ?_ | refine blk_alloc ?_ _)); exact BK101.out) hb); have n5_ := Aside0.mk (blk_below (g := gb113) (o := .cells #[.slice Ao23 t124.length co23] 28 (0, 0)) (by (with_reducible repeat (first | refine blk_drewN ?_ _ | refine blk_drew ?_ | refine blk_alloc ?_ _)); exact BK113.out) hb); have n6_ := Aside0.mk (below_step (by repeat (first | (with_reducible first | exact HB.out | apply below_alloc | apply pw_below_drewN | apply below_drew1 | refine below_set ?_ GE101.out | refine below_set ?_ GE113.out) | exact HB.out)) hb); clear HO_6; clear HO_9; clear HO_114000; clear BK101; clear BK113; clear HB; have HO_6 := n0_; have HO_9 := n1_; have HO_114000 := n2_; have HO131 := n3_; have BK101 := n4_; have BK113 := n5_; have HB := n6_; clear n0_ n1_ n2_ n3_ n4_ n5_ n6_; (try clear hb); (try clear hb2); (try clear hk); (try clear hi); (try clear ho0); obtain ⟨Ao68, co68, eo68⟩ := Kd.R_slice HO131.out; subst eo68) | ((with_reducible refine gate_callee (f := 28) rfl ?_); refine goesL_ (some 81) rfl rfl Try.func28 (by kernel_rfl) rfl #[.agg #[.slice Ao68 t129.length co68], .int .i64 a1] rfl (by (try simp only [List.map_toArray, List.map_cons, List.map_nil]); first | done | rfl | (simp only [List.length_drop, List.length_take]; rfl)) ?_; (with_reducible refine (impl_GreedyRows.calls _ _ t129 a1 t132 t135 _ ?side1 ?side2 A61.out).mono ?_); (case side1 => repeat (first | exact (Kd.R_reads' HO131.out).2.2 | (with_reducible refine Kd.C_alloc ?_ _) | (with_reducible refine Kd.C_drewN ?_ _) | (with_reducible refine Kd.C_drew ?_))); (case side2 => exact (Kd.R_reads' HO131.out).2.1); rintro e w69 ⟨v133, rfl, ho0, hb⟩; refine ⟨_, rfl, ?_⟩; have n0_ := Aside0.mk (Kd.R_elder' (by (with_reducible repeat (first | apply Kd.R_alloc | apply Kd.R_drewN | apply Kd.R_drew)); exact HO_6.out) (Kd.R_base ho0) hb); have n1_ := Aside0.mk (Kd.R_elder' (by (with_reducible repeat (first | apply Kd.R_alloc | apply Kd.R_drewN | apply Kd.R_drew)); exact HO_9.out) (Kd.R_base ho0) hb); have n2_ := Aside0.mk (Kd.R_elder' (by (with_reducible repeat (first | apply Kd.R_alloc | apply Kd.R_drewN | apply Kd.R_drew)); exact HO_114000.out) (Kd.R_base ho0) hb); have n3_ := Aside0.mk (Kd.R_elder' (by (with_reducible repeat (first | apply Kd.R_alloc | apply Kd.R_drewN | apply Kd.R_drew)); exact HO131.out) (Kd.R_base ho0) hb); have n4_ := Aside0.mk (Kd.R_lower (Kd.R_new' (Kd.R_new' (Kd.R_new' (Kd.R_new' ho0 (Kd.R_lt (by (with_reducible repeat (first | apply Kd.R_alloc | apply Kd.R_drewN | apply Kd.R_drew)); exact HO_6.out))) (Kd.R_lt (by (with_reducible repeat (first | apply Kd.R_alloc | apply Kd.R_drewN | apply Kd.R_drew)); exact HO_9.out))) (Kd.R_lt (by (with_reducible repeat (first | apply Kd.R_alloc | apply Kd.R_drewN | apply Kd.R_drew)); exact HO_114000.out))) (Kd.R_lt (by (with_reducible repeat (first | apply Kd.R_alloc | apply Kd.R_drewN | apply Kd.R_drew)); exact HO131.out))) (below_size (by repeat (first | (with_reducible first | exact HB.out | apply below_alloc | apply pw_below_drewN | apply below_drew1 | refine below_set ?_ GE101.out | refine below_set ?_ GE113.out) | exact HB.out)))); have n5_ := Aside0.mk (blk_below (g := gb101) (o := .cells #[.slice A0_0 l0_0.length c0_0] 24 (0, 0)) (by (with_reducible repeat (first | refine blk_drewN ?_ _ | refine blk_drew ?_ | refine blk_alloc ?_ _)); exact BK101.out) hb); have n6_ := Aside0.mk (blk_below (g := gb113) (o := .cells #[.slice Ao23 t124.length co23] 28 (0, 0)) (by (with_reducible repeat (first | refine blk_drewN ?_ _ | refine blk_drew ?_ | refine blk_alloc ?_ _)); exact BK113.out) hb); have n7_ := Aside0.mk (below_step (by repeat (first | (with_reducible first | exact HB.out | apply below_alloc | apply pw_below_drewN | apply below_drew1 | refine below_set ?_ GE101.out | refine below_set ?_ GE113.out) | exact HB.out)) hb); clear HO_6; clear HO_9; clear HO_114000; clear HO131; clear BK101; clear BK113; clear HB; have HO_6 := n0_; have HO_9 := n1_; have HO_114000 := n2_; have HO131 := n3_; have HO134 := n4_; have BK101 := n5_; have BK113 := n6_; have HB := n7_; clear n0_ n1_ n2_ n3_ n4_ n5_ n6_ n7_; (try clear hb); (try clear hb2); (try clear hk); (try clear hi); (try clear ho0)))
           (try simp only [Act.put, List.setIfInBounds_toArray, List.set_cons_zero, List.set_cons_succ])
           go_cut [92] (fun v92 wc => ∃ (kq : Nat) (x92_61 : Bool), v92 = .bool x92_61 ∧ Aside0 (laws_FnExactGreedyRows.j2 kq t127 t126 x92_61 = some r) ∧ Aside0 (kq ≤ kj37) ∧ Aside0 (Kd.R (Kd.int .i64) 2 wc w.heap.size (fun k_ => some k_ ≠ ((.slice Ao23 t124.length co23) : Value).ownBlock) (.slice Ao63 t114.length co63) t127) ∧ Aside0 (Kd.R (Kd.int .i64) 2 wc w.heap.size (fun k_ => some k_ ≠ ((.slice Ao63 t114.length co63) : Value).ownBlock) (.slice Ao23 t124.length co23) t124) ∧ Aside0 (wc.heap[gb101]? = some (.cells #[(.slice A0_0 l0_0.length c0_0)] 24 (0, 0))) ∧ Aside0 (wc.heap[gb113]? = some (.cells #[(.slice Ao23 t124.length co23)] 28 (0, 0))) ∧ Aside0 (Below w.heap.size w wc))
           case first =>
            have H := HC62.out
            clear HC62
            replace H := Option.bind_eq_some_iff.mp H
            obtain ⟨t136, A700, H⟩ := H
            replace H : (if t136 = true then (laws_FnExactGreedyRows.j2 kj37 t127 t126 (t135 != t109)) else (laws_FnExactGreedyRows.j2 kj37 t127 t126 true)) = some r := H
            have A70 := Aside0.mk A700
            clear A700
            by_cases c71 : t136 = true
            ·subst c71
             have H1 : (laws_FnExactGreedyRows.j2 kj37 t127 t126 (t135 != t109)) = some r := by rw [if_pos rfl] at H; exact H
             clear H
             have H := H1
             clear H1
             have H' := Aside0.mk H
             clear H
             obtain ⟨Ao72, co72, eo72⟩ := Kd.R_slice HO134.out
             subst eo72
             obtain ⟨Ao73, co73, eo73⟩ := Kd.R_slice HO_6.out
             subst eo73
             go_wp2_with (first | ((with_reducible refine gate_callee (f := 21) rfl ?_); refine goesL_ (some 86) rfl rfl Try.func21 (by kernel_rfl) rfl #[.slice Ao72 t132.length co72, .slice Ao73 t106.length co73] rfl (by (try simp only [List.map_toArray, List.map_cons, List.map_nil]); first | done | rfl | (simp only [List.length_drop, List.length_take]; rfl)) ?_; (with_reducible refine (laws_eqInt64S.calls kj37 _ _ t132 _ _ t106 true _ ?side1 ?side2 ?side3 ?side4 A70.out).mono ?_); (case side1 => repeat (first | exact (Kd.R_reads' HO134.out).2.2 | (with_reducible refine Kd.C_alloc ?_ _) | (with_reducible refine Kd.C_drewN ?_ _) | (with_reducible refine Kd.C_drew ?_))); (case side2 => exact (Kd.R_reads' HO134.out).2.1); (case side3 => repeat (first | exact (Kd.R_reads' HO_6.out).2.2 | (with_reducible refine Kd.C_alloc ?_ _) | (with_reducible refine Kd.C_drewN ?_ _) | (with_reducible refine Kd.C_drew ?_))); (case side4 => exact (Kd.R_reads' HO_6.out).2.1); rintro e w' ⟨rfl, ⟨nd, rfl⟩⟩; refine ⟨_, rfl, ?_⟩))
             go_meet
             case rel => exact ⟨_, ((t135 != t109)), (by first | rfl | (simp; done) | (simp [*]; done)), H', ⟨by have := HJ11.out; have := HJ37.out; first | omega | exact Nat.le_refl _⟩, ⟨by (try simp only [hl114000_37]); (with_reducible repeat (first | apply Kd.R_alloc | apply Kd.R_drewN | apply Kd.R_drew)); exact Kd.R_mono HO_9.out (fun _ hk => hk.1.1.2)⟩, ⟨by (try simp only [hl114000_37]); (with_reducible repeat (first | apply Kd.R_alloc | apply Kd.R_drewN | apply Kd.R_drew)); exact Kd.R_mono HO_114000.out (fun _ hk => hk.1.1.2)⟩, ⟨by (try simp only [hl114000_37]); (with_reducible repeat (first | refine blk_drewN ?_ _ | refine blk_drew ?_ | refine blk_alloc ?_ _)); exact BK101.out⟩, ⟨by (try simp only [hl114000_37]); (with_reducible repeat (first | refine blk_drewN ?_ _ | refine blk_drew ?_ | refine blk_alloc ?_ _)); exact BK113.out⟩, ⟨by repeat (first | (with_reducible first | exact HB.out | apply below_alloc | apply pw_below_drewN | apply below_drew1 | refine below_set ?_ GE101.out | refine below_set ?_ GE113.out) | exact HB.out)⟩⟩
            ·replace c71 := Bool.eq_false_iff.mpr c71
             subst c71
             have H1 : (laws_FnExactGreedyRows.j2 kj37 t127 t126 true) = some r := by rw [if_neg (show ¬ (false = true) by decide)] at H; exact H
             clear H
             have H := H1
             clear H1
             have H' := Aside0.mk H
             clear H
             obtain ⟨Ao74, co74, eo74⟩ := Kd.R_slice HO134.out
             subst eo74
             obtain ⟨Ao75, co75, eo75⟩ := Kd.R_slice HO_6.out
             subst eo75
             go_wp2_with (first | ((with_reducible refine gate_callee (f := 21) rfl ?_); refine goesL_ (some 86) rfl rfl Try.func21 (by kernel_rfl) rfl #[.slice Ao74 t132.length co74, .slice Ao75 t106.length co75] rfl (by (try simp only [List.map_toArray, List.map_cons, List.map_nil]); first | done | rfl | (simp only [List.length_drop, List.length_take]; rfl)) ?_; (with_reducible refine (laws_eqInt64S.calls kj37 _ _ t132 _ _ t106 false _ ?side1 ?side2 ?side3 ?side4 A70.out).mono ?_); (case side1 => repeat (first | exact (Kd.R_reads' HO134.out).2.2 | (with_reducible refine Kd.C_alloc ?_ _) | (with_reducible refine Kd.C_drewN ?_ _) | (with_reducible refine Kd.C_drew ?_))); (case side2 => exact (Kd.R_reads' HO134.out).2.1); (case side3 => repeat (first | exact (Kd.R_reads' HO_6.out).2.2 | (with_reducible refine Kd.C_alloc ?_ _) | (with_reducible refine Kd.C_drewN ?_ _) | (with_reducible refine Kd.C_drew ?_))); (case side4 => exact (Kd.R_reads' HO_6.out).2.1); rintro e w' ⟨rfl, ⟨nd, rfl⟩⟩; refine ⟨_, rfl, ?_⟩))
             go_meet
             case rel => exact ⟨_, (true), (by first | rfl | (simp; done) | (simp [*]; done)), H', ⟨by have := HJ11.out; have := HJ37.out; first | omega | exact Nat.le_refl _⟩, ⟨by (try simp only [hl114000_37]); (with_reducible repeat (first | apply Kd.R_alloc | apply Kd.R_drewN | apply Kd.R_drew)); exact Kd.R_mono HO_9.out (fun _ hk => hk.1.1.2)⟩, ⟨by (try simp only [hl114000_37]); (with_reducible repeat (first | apply Kd.R_alloc | apply Kd.R_drewN | apply Kd.R_drew)); exact Kd.R_mono HO_114000.out (fun _ hk => hk.1.1.2)⟩, ⟨by (try simp only [hl114000_37]); (with_reducible repeat (first | refine blk_drewN ?_ _ | refine blk_drew ?_ | refine blk_alloc ?_ _)); exact BK101.out⟩, ⟨by (try simp only [hl114000_37]); (with_reducible repeat (first | refine blk_drewN ?_ _ | refine blk_drew ?_ | refine blk_alloc ?_ _)); exact BK113.out⟩, ⟨by repeat (first | (with_reducible first | exact HB.out | apply below_alloc | apply pw_below_drewN | apply below_drew1 | refine below_set ?_ GE101.out | refine below_set ?_ GE113.out) | exact HB.out)⟩⟩
           case rest =>
            clear HC62
            try clear c1
            try clear c2
            try clear p2
            try clear c3
            try clear c4
            try clear c4b0
            try clear c5
            try clear c6
            try clear c7
            try clear c15
            try clear c17
            try clear c20
            try clear c21
            try clear c24
            try clear c25
            try clear c26
            try clear c27
            try clear c28
            try clear c33
            try clear c36
            try clear c43
            try clear c46
            try clear c46b0
            try clear c48
            try clear c53
            try clear c56
            try clear c56b0
            try clear c59
            try clear c59b0
            try clear c59b1
            try clear c65
            try clear c71
            try clear hcz14_0
            try clear hcz16_0
            try clear hcz20_0
            try clear hcz25_0
            try clear hcz44_0
            try clear hcz66_0
            try clear hcz6_0
            try clear hfz14_0
            try clear hfz16_0
            try clear hfz20_0
            try clear hfz25_0
            try clear hfz44_0
            try clear hfz66_0
            try clear hfz6_0
            try clear p2
            obtain ⟨kq, x92_61, rfl, HA, HJ61, HO_9, HO_114000, BK101, BK113, HB⟩ := hcut
            have hl9_61 := (Kd.R_reads' HO_9.out).1
            rw [hl9_61] at HO_9
            (try simp only [hl9_61])
            (try simp only [hl9_61] at BK101)
            (try simp only [hl9_61] at BK113)
            (try simp only [hl9_61] at HO_114000)
            cases kq with
            | zero => exact absurd HA.out (by simp [laws_FnExactGreedyRows.j2])
            | succ kj61 =>
             have H := HA.out
             clear HA
             simp only [laws_FnExactGreedyRows.j2] at H
             by_cases c76 : x92_61 = true
             ·subst c76
              have H1 : (some false) = some r := by rw [if_pos rfl] at H; exact H
              clear H
              have H := H1
              clear H1
              obtain rfl := Option.some.inj H
              go_wp2
              go_ret
              exact ⟨by first | rfl | (simp [errW_none, errW_some] <;> rfl) | (simp [*, errW_none, errW_some] <;> rfl), by repeat (first | (with_reducible first | exact HB.out | apply below_alloc | apply pw_below_drewN | apply below_drew1 | refine below_set ?_ GE101.out | refine below_set ?_ GE113.out) | exact HB.out)⟩
             ·replace c76 := Bool.eq_false_iff.mpr c76
              subst c76
              have H1 : ((laws_heldInt64S.f kj61 t127 1).bind fun t137 => (if t137 < 0 then (some false) else (if t137 = t126 then (some true) else (some false)))) = some r := by rw [if_neg (show ¬ (false = true) by decide)] at H; exact H
              clear H
              have H := H1
              clear H1
              replace H := Option.bind_eq_some_iff.mp H
              obtain ⟨t137, A770, H⟩ := H
              replace H : (if t137 < 0 then (some false) else (if t137 = t126 then (some true) else (some false))) = some r := H
              have A77 := Aside0.mk A770
              clear A770
              by_cases c78 : t137 < 0
              ·rw [if_pos c78] at H
               have c78b0 : decide (t137 < 0) = true := decide_eq_true c78
               clear c78
               obtain rfl := Option.some.inj H
               go_wp2_with (first | ((with_reducible refine gate_callee (f := 26) rfl ?_); refine goesL_ (some 95) rfl rfl Try.func26 (by kernel_rfl) rfl #[.slice Ao63 t127.length co63, .int .i64 1] rfl (by (try simp only [List.map_toArray, List.map_cons, List.map_nil]); first | done | rfl | (simp only [List.length_drop, List.length_take]; rfl)) ?_; (with_reducible refine (laws_heldInt64S.calls kj61 _ _ t127 1 t137 _ ?side1 ?side2 A77.out).mono ?_); (case side1 => repeat (first | exact (Kd.R_reads' HO_9.out).2.2 | (with_reducible refine Kd.C_alloc ?_ _) | (with_reducible refine Kd.C_drewN ?_ _) | (with_reducible refine Kd.C_drew ?_))); (case side2 => exact (Kd.R_reads' HO_9.out).2.1); rintro e w' ⟨rfl, ⟨nd, rfl⟩⟩; refine ⟨_, rfl, ?_⟩))
               go_ret
               exact ⟨by first | rfl | (simp [errW_none, errW_some] <;> rfl) | (simp [*, errW_none, errW_some] <;> rfl), by repeat (first | (with_reducible first | exact HB.out | apply below_alloc | apply pw_below_drewN | apply below_drew1 | refine below_set ?_ GE101.out | refine below_set ?_ GE113.out) | exact HB.out)⟩
              ·rw [if_neg c78] at H
               have c78b0 : decide (t137 < 0) = false := decide_eq_false c78
               clear c78
               by_cases c79 : t137 = t126
               ·rw [if_pos c79] at H
                have c79b0 : (t137 == t126) = true := beq_iff_eq.mpr c79
                have c79b1 : (t137 != t126) = false := bne_eq_false_iff_eq.mpr c79
                clear c79
                obtain rfl := Option.some.inj H
                go_wp2_with (first | ((with_reducible refine gate_callee (f := 26) rfl ?_); refine goesL_ (some 95) rfl rfl Try.func26 (by kernel_rfl) rfl #[.slice Ao63 t127.length co63, .int .i64 1] rfl (by (try simp only [List.map_toArray, List.map_cons, List.map_nil]); first | done | rfl | (simp only [List.length_drop, List.length_take]; rfl)) ?_; (with_reducible refine (laws_heldInt64S.calls kj61 _ _ t127 1 t137 _ ?side1 ?side2 A77.out).mono ?_); (case side1 => repeat (first | exact (Kd.R_reads' HO_9.out).2.2 | (with_reducible refine Kd.C_alloc ?_ _) | (with_reducible refine Kd.C_drewN ?_ _) | (with_reducible refine Kd.C_drew ?_))); (case side2 => exact (Kd.R_reads' HO_9.out).2.1); rintro e w' ⟨rfl, ⟨nd, rfl⟩⟩; refine ⟨_, rfl, ?_⟩))
                go_ret
                exact ⟨by first | rfl | (simp [errW_none, errW_some] <;> rfl) | (simp [*, errW_none, errW_some] <;> rfl), by repeat (first | (with_reducible first | exact HB.out | apply below_alloc | apply pw_below_drewN | apply below_drew1 | refine below_set ?_ GE101.out | refine below_set ?_ GE113.out) | exact HB.out)⟩
               ·rw [if_neg c79] at H
                have c79b0 : (t137 == t126) = false := beq_eq_false_iff_ne.mpr c79
                have c79b1 : (t137 != t126) = true := bne_iff_ne.mpr c79
                obtain rfl := Option.some.inj H
                go_wp2_with (first | ((with_reducible refine gate_callee (f := 26) rfl ?_); refine goesL_ (some 95) rfl rfl Try.func26 (by kernel_rfl) rfl #[.slice Ao63 t127.length co63, .int .i64 1] rfl (by (try simp only [List.map_toArray, List.map_cons, List.map_nil]); first | done | rfl | (simp only [List.length_drop, List.length_take]; rfl)) ?_; (with_reducible refine (laws_heldInt64S.calls kj61 _ _ t127 1 t137 _ ?side1 ?side2 A77.out).mono ?_); (case side1 => repeat (first | exact (Kd.R_reads' HO_9.out).2.2 | (with_reducible refine Kd.C_alloc ?_ _) | (with_reducible refine Kd.C_drewN ?_ _) | (with_reducible refine Kd.C_drew ?_))); (case side2 => exact (Kd.R_reads' HO_9.out).2.1); rintro e w' ⟨rfl, ⟨nd, rfl⟩⟩; refine ⟨_, rfl, ?_⟩))
                go_ret
                exact ⟨by first | rfl | (simp [errW_none, errW_some] <;> rfl) | (simp [*, errW_none, errW_some] <;> rfl), by repeat (first | (with_reducible first | exact HB.out | apply below_alloc | apply pw_below_drewN | apply below_drew1 | refine below_set ?_ GE101.out | refine below_set ?_ GE113.out) | exact HB.out)⟩
          ·rw [if_neg c59] at H
           have c59b0 : (t128 == t126) = false := beq_eq_false_iff_ne.mpr c59
           have c59b1 : (t128 != t126) = true := bne_iff_ne.mpr c59
           obtain rfl := Option.some.inj H
           obtain ⟨Ao80, co80, eo80⟩ := Kd.R_slice HO_9.out
           subst eo80
           go_wp2_with (first | ((with_reducible refine gate_callee (f := 25) rfl ?_); refine goesL_ (some 68) rfl rfl Try.func25 (by kernel_rfl) rfl #[.slice Ao80 t114.length co80, .int .i64 1] rfl (by (try simp only [List.map_toArray, List.map_cons, List.map_nil]); first | done | rfl | (simp only [List.length_drop, List.length_take]; rfl)) ?_; (with_reducible refine (laws_markInt64S.calls kj37 (fun k_ => some k_ = (.slice Ao80 t114.length co80 : Value).ownBlock) (.slice Ao80 t114.length co80) t114 1 t126 t127 w _ ?side1 ?side2 A54.out).mono ?_); (case side1 => repeat (first | (with_reducible first | exact HB.out | apply below_alloc | apply pw_below_drewN | apply below_drew1 | refine below_set ?_ GE101.out | refine below_set ?_ GE113.out) | exact HB.out)); (case side2 => exact Kd.R_tight rfl HO_9.out); rintro e w81 ⟨rfl, hy0, hb, hkp⟩; refine ⟨_, rfl, ?_⟩; have n0_ := Aside0.mk (Kd.R_mono (ok' := fun k_ => some k_ ≠ (.slice Ao80 t114.length co80 : Value).ownBlock ∧ some k_ ≠ (.slice Ao23 t124.length co23 : Value).ownBlock) (Kd.R_keptB (HO_6.out) hkp (fun k_ hk_ hs_ => (hk_.1) hs_)) (fun k_ hk_ => ⟨hk_.1.1, hk_.1.2⟩)); have n1_ := Aside0.mk (Kd.R_reok rfl hy0 (fun k_ e_ => HO_9.out.1 k_ e_)); have n2_ := Aside0.mk (Kd.R_mono (ok' := fun k_ => some k_ ≠ (v107 : Value).ownBlock ∧ some k_ ≠ (.slice Ao80 t114.length co80 : Value).ownBlock) (Kd.R_keptB (HO_114000.out) hkp (fun k_ hk_ hs_ => (hk_.2) hs_)) (fun k_ hk_ => ⟨hk_.1.1, hk_.1.2⟩)); have n3_ := Aside0.mk (blk_kept (by (with_reducible repeat (first | refine blk_drewN ?_ _ | refine blk_drew ?_ | refine blk_alloc ?_ _)); exact BK101.out) hkp (fun hs_ => (fun e_ => (Kd.R_ne HO_9.out BK101.out (by decide)) e_) hs_)); have n4_ := Aside0.mk (blk_kept (by (with_reducible repeat (first | refine blk_drewN ?_ _ | refine blk_drew ?_ | refine blk_alloc ?_ _)); exact BK113.out) hkp (fun hs_ => (fun e_ => (Kd.R_ne HO_9.out BK113.out (by decide)) e_) hs_)); have n5_ := Aside0.mk (hb); clear HO_6; clear HO_9; clear HO_114000; clear BK101; clear BK113; clear HB; have HO_6 := n0_; have HO_9 := n1_; have HO_114000 := n2_; have BK101 := n3_; have BK113 := n4_; have HB := n5_; clear n0_ n1_ n2_ n3_ n4_ n5_; (try clear hb); (try clear hkp); (try clear hy0)) | ((with_reducible refine gate_callee (f := 26) rfl ?_); refine goesL_ (some 71) rfl rfl Try.func26 (by kernel_rfl) rfl #[.slice Ao80 t127.length co80, .int .i64 1] rfl (by (try simp only [List.map_toArray, List.map_cons, List.map_nil]); first | done | (rw [show t127.length = t114.length from (Kd.R_reads' HO_9.out).1.symm] <;> rfl) | rfl | (simp only [List.length_drop, List.length_take]; rfl)) ?_; (with_reducible refine (laws_heldInt64S.calls kj37 _ _ t127 1 t128 _ ?side1 ?side2 A55.out).mono ?_); (case side1 => repeat (first | exact (Kd.R_reads' HO_9.out).2.2 | (with_reducible refine Kd.C_alloc ?_ _) | (with_reducible refine Kd.C_drewN ?_ _) | (with_reducible refine Kd.C_drew ?_))); (case side2 => rw [show t127.length = t114.length from (Kd.R_reads' HO_9.out).1.symm]; exact (Kd.R_reads' HO_9.out).2.1); rintro e w' ⟨rfl, ⟨nd, rfl⟩⟩; refine ⟨_, rfl, ?_⟩))
           go_ret
           exact ⟨by first | rfl | (simp [errW_none, errW_some] <;> rfl) | (simp [*, errW_none, errW_some] <;> rfl), by repeat (first | (with_reducible first | exact HB.out | apply below_alloc | apply pw_below_drewN | apply below_drew1 | refine below_set ?_ GE101.out | refine below_set ?_ GE113.out) | exact HB.out)⟩
     ·replace c36 := Bool.eq_false_iff.mpr c36
      subst c36
      have H1 : (some false) = some r := by rw [if_neg (show ¬ (false = true) by decide)] at H; exact H
      clear H
      have H := H1
      clear H1
      obtain rfl := Option.some.inj H
      try go_wp2
      have n0_ := Aside0.mk (Kd.R_drew HO_6.out)
      have n1_ := Aside0.mk (Kd.R_drew HO_9.out)
      have n2_ := Aside0.mk (Kd.R_drew HO_114000.out)
      have n3_ := Aside0.mk (blk_drew BK101.out)
      have n4_ := Aside0.mk (blk_drew BK113.out)
      have n5_ := Aside0.mk (below_drew1 HB.out)
      clear HO_6
      clear HO_9
      clear HO_114000
      clear BK101
      clear BK113
      clear HB
      have HO_6 := n0_
      have HO_9 := n1_
      have HO_114000 := n2_
      have BK101 := n3_
      have BK113 := n4_
      have HB := n5_
      clear n0_ n1_ n2_ n3_ n4_ n5_
      refine start_ (n := 5) (S := fun w' => w'.cell? ⟨gb113, 0, none⟩ = some (.slice Ao23 t110.length co23) ∧ w'.cell? ⟨gb101, 0, none⟩ = some (.slice A0_0 l0_0.length c0_0)) (ds := []) #[false, false, false, false, false] (by kernel_rfl) rfl rfl ⟨(blk_cell BK113.out 0).trans rfl, (blk_cell BK101.out 0).trans rfl⟩ (fun hHeld => ?_)
      generalize wc.drew = w82 at HO_6 HO_9 HO_114000 BK101 BK113 HB hHeld ⊢
      refine take_ (i := 0) (N := some 45) (v := ?_) (a' := ?_) #[true, false, false, false, false] rfl rfl (by kernel_rfl) (fun _ _ _ h => h) (Or.inl ⟨by rfl, ?_⟩) hHeld ?_ ?_
      rotate_left
      ·rintro w' ⟨s0, s1⟩
       go_simp
       with_reducible rfl
      rotate_left
      ·simp only [Act.put, List.setIfInBounds_toArray, List.set_cons_zero, List.set_cons_succ, i64_w, i32_w]
       rfl
      refine take_ (i := 1) (N := some 46) (v := ?_) (a' := ?_) #[true, true, false, false, false] rfl rfl (by kernel_rfl) (fun _ _ _ h => h) (Or.inl ⟨by rfl, ?_⟩) hHeld ?_ ?_
      rotate_left
      ·rintro w' ⟨s0, s1⟩
       go_simp
       with_reducible rfl
      rotate_left
      ·simp only [Act.put, List.setIfInBounds_toArray, List.set_cons_zero, List.set_cons_succ, i64_w, i32_w]
       rfl
      refine one_ (i := 2) (N := some 47) #[true, true, true, false, false] rfl rfl (by kernel_rfl) (by decide) (fun K hK => ?_)
      refine goes_ Try.func17 (by kernel_rfl) rfl #[.agg #[.slice A0_0 l0_0.length c0_0]] (by rfl) rfl rfl (by (try simp only [List.map_toArray, List.map_cons, List.map_nil]); first | done | rfl | (simp only [List.length_drop, List.length_take]; rfl)) ?_
      with_reducible refine (laws_toSpace.calls kj11 _ _ l0_0 t119 _ ?side1 ?side2 A34.out).mono ?_
      (case side1 => repeat (first | exact (Kd.C_below HR0_0.out HB.out) | (with_reducible refine Kd.C_alloc ?_ _) | (with_reducible refine Kd.C_drewN ?_ _) | (with_reducible refine Kd.C_drew ?_)))
      (case side2 => exact HC0_0.out)
      rintro e w83 ⟨v120, rfl, ho0, hb⟩
      refine ⟨_, rfl, ?_⟩
      have n0_ := Aside0.mk (Kd.R_elder' (by (with_reducible repeat (first | apply Kd.R_alloc | apply Kd.R_drewN | apply Kd.R_drew)); exact HO_6.out) (Kd.R_base ho0) hb)
      have n1_ := Aside0.mk (Kd.R_elder' (by (with_reducible repeat (first | apply Kd.R_alloc | apply Kd.R_drewN | apply Kd.R_drew)); exact HO_9.out) (Kd.R_base ho0) hb)
      have n2_ := Aside0.mk (Kd.R_elder' (by (with_reducible repeat (first | apply Kd.R_alloc | apply Kd.R_drewN | apply Kd.R_drew)); exact HO_114000.out) (Kd.R_base ho0) hb)
      have n3_ := Aside0.mk (Kd.R_lower (Kd.R_new' (Kd.R_new' (Kd.R_new' ho0 (Kd.R_lt (by (with_reducible repeat (first | apply Kd.R_alloc | apply Kd.R_drewN | apply Kd.R_drew)); exact HO_6.out))) (Kd.R_lt (by (with_reducible repeat (first | apply Kd.R_alloc | apply Kd.R_drewN | apply Kd.R_drew)); exact HO_9.out))) (Kd.R_lt (by (with_reducible repeat (first | apply Kd.R_alloc | apply Kd.R_drewN | apply Kd.R_drew)); exact HO_114000.out))) (below_size (by repeat (first | (with_reducible first | exact HB.out | apply below_alloc | apply pw_below_drewN | apply below_drew1 | refine below_set ?_ GE101.out | refine below_set ?_ GE113.out) | exact HB.out))))
      have n4_ := Aside0.mk (blk_below (g := gb101) (o := .cells #[.slice A0_0 l0_0.length c0_0] 24 (0, 0)) (by (with_reducible repeat (first | refine blk_drewN ?_ _ | refine blk_drew ?_ | refine blk_alloc ?_ _)); exact BK101.out) hb)
      have n5_ := Aside0.mk (blk_below (g := gb113) (o := .cells #[.slice Ao23 t110.length co23] 28 (0, 0)) (by (with_reducible repeat (first | refine blk_drewN ?_ _ | refine blk_drew ?_ | refine blk_alloc ?_ _)); exact BK113.out) hb)
      have n6_ := Aside0.mk (below_step (by repeat (first | (with_reducible first | exact HB.out | apply below_alloc | apply pw_below_drewN | apply below_drew1 | refine below_set ?_ GE101.out | refine below_set ?_ GE113.out) | exact HB.out)) hb)
      clear HO_6
      clear HO_9
      clear HO_114000
      clear BK101
      clear BK113
      clear HB
      have HO_6 := n0_
      have HO_9 := n1_
      have HO_114000 := n2_
      have HO121 := n3_
      have BK101 := n4_
      have BK113 := n5_
      have HB := n6_
      clear n0_ n1_ n2_ n3_ n4_ n5_ n6_
      (try clear hb)
      (try clear hb2)
      (try clear hk)
      (try clear hi)
      (try clear ho0)
      obtain ⟨Ao84, co84, eo84⟩ := Kd.R_slice HO121.out
      (first | subst eo84 | (injection eo84 with f1_ f2_ f3_; have f4_ := f1_.symm; have f5_ := f3_.symm; clear f1_ f2_ f3_; subst f4_; subst f5_))
      refine hK.out _ _ ⟨(blk_cell BK113.out 0).trans rfl, (blk_cell BK101.out 0).trans rfl⟩ (fun hHeld => ?_)
      clear hK K
      refine norm_ (a' := ?_) ?_ ?_
      rotate_left
      ·show Act.put _ (some 47) _ = _
       simp only [Act.put, List.setIfInBounds_toArray, List.set_cons_zero, List.set_cons_succ, i64_w, i32_w]
       rfl
      refine one_ (i := 3) (N := some 48) #[true, true, true, true, false] rfl rfl (by kernel_rfl) (by decide) (fun K hK => ?_)
      refine goes_ Try.func20 (by kernel_rfl) rfl #[.agg #[.slice Ao23 t110.length co23], .agg #[.slice Ao84 t119.length co84]] (by rfl) rfl rfl (by (try simp only [List.map_toArray, List.map_cons, List.map_nil]); first | done | rfl | (simp only [List.length_drop, List.length_take]; rfl)) ?_
      with_reducible refine (laws_eqSpace.calls kj11 _ _ t110 _ _ t119 false _ ?side1 ?side2 ?side3 ?side4 A35.out).mono ?_
      (case side1 => repeat (first | exact (Kd.R_reads' HO_114000.out).2.2 | (with_reducible refine Kd.C_alloc ?_ _) | (with_reducible refine Kd.C_drewN ?_ _) | (with_reducible refine Kd.C_drew ?_)))
      (case side2 => exact (Kd.R_reads' HO_114000.out).2.1)
      (case side3 => repeat (first | exact (Kd.R_reads' HO121.out).2.2 | (with_reducible refine Kd.C_alloc ?_ _) | (with_reducible refine Kd.C_drewN ?_ _) | (with_reducible refine Kd.C_drew ?_)))
      (case side4 => exact (Kd.R_reads' HO121.out).2.1)
      rintro e w85 ⟨rfl, hb⟩
      refine ⟨_, rfl, ?_⟩
      have n0_ := Aside0.mk (Kd.R_below (by (with_reducible repeat (first | apply Kd.R_alloc | apply Kd.R_drewN | apply Kd.R_drew)); exact HO_6.out) hb)
      have n1_ := Aside0.mk (Kd.R_below (by (with_reducible repeat (first | apply Kd.R_alloc | apply Kd.R_drewN | apply Kd.R_drew)); exact HO_9.out) hb)
      have n2_ := Aside0.mk (Kd.R_below (by (with_reducible repeat (first | apply Kd.R_alloc | apply Kd.R_drewN | apply Kd.R_drew)); exact HO_114000.out) hb)
      have n3_ := Aside0.mk (Kd.R_below (by (with_reducible repeat (first | apply Kd.R_alloc | apply Kd.R_drewN | apply Kd.R_drew)); exact HO121.out) hb)
      have n4_ := Aside0.mk (blk_below (g := gb101) (o := .cells #[.slice A0_0 l0_0.length c0_0] 24 (0, 0)) (by (with_reducible repeat (first | refine blk_drewN ?_ _ | refine blk_drew ?_ | refine blk_alloc ?_ _)); exact BK101.out) hb)
      have n5_ := Aside0.mk (blk_below (g := gb113) (o := .cells #[.slice Ao23 t110.length co23] 28 (0, 0)) (by (with_reducible repeat (first | refine blk_drewN ?_ _ | refine blk_drew ?_ | refine blk_alloc ?_ _)); exact BK113.out) hb)
      have n6_ := Aside0.mk (below_step (by repeat (first | (with_reducible first | exact HB.out | apply below_alloc | apply pw_below_drewN | apply below_drew1 | refine below_set ?_ GE101.out | refine below_set ?_ GE113.out) | exact HB.out)) hb)
      clear HO_6
      clear HO_9
      clear HO_114000
      clear HO121
      clear BK101
      clear BK113
      clear HB
      have HO_6 := n0_
      have HO_9 := n1_
      have HO_114000 := n2_
      have HO121 := n3_
      have BK101 := n4_
      have BK113 := n5_
      have HB := n6_
      clear n0_ n1_ n2_ n3_ n4_ n5_ n6_
      (try clear hb)
      (try clear hb2)
      (try clear hk)
      (try clear hi)
      refine hK.out _ _ ⟨(blk_cell BK113.out 0).trans rfl, (blk_cell BK101.out 0).trans rfl⟩ (fun hHeld => ?_)
      clear hK K
      refine norm_ (a' := ?_) ?_ ?_
      rotate_left
      ·show Act.put _ (some 48) _ = _
       simp only [Act.put, List.setIfInBounds_toArray, List.set_cons_zero, List.set_cons_succ, i64_w, i32_w]
       rfl
      refine pure_ (i := 4) (N := some 49) (v := ?_) (a' := ?_) #[true, true, true, true, true] rfl rfl (by kernel_rfl) (fun _ _ _ h => h) (Or.inl ⟨by rfl, ?_⟩) ?_ ?_
      rotate_left
      ·intro w'
       go_simp
       with_reducible rfl
      rotate_left
      ·simp only [Act.put, List.setIfInBounds_toArray, List.set_cons_zero, List.set_cons_succ, i64_w, i32_w]
       rfl
      refine done_ (by kernel_rfl) ?_
      try go_wp2
      go_ret
      exact ⟨by first | rfl | (simp [errW_none, errW_some] <;> rfl) | (simp [*, errW_none, errW_some] <;> rfl), by repeat (first | (with_reducible first | exact HB.out | apply below_alloc | apply pw_below_drewN | apply below_drew1 | refine below_set ?_ GE101.out | refine below_set ?_ GE113.out) | exact HB.out)⟩
theorem mul_steps {x q d4 : Int} (h0 : 1 ≤ x) (h4 : 1 ≤ d4) (hq : 2 ≤ q ∧ q ≤ 4) (h1 : x * 4 * d4 ≤ 65536) : 1 ≤ x * q ∧ x * q ≤ 65536 ∧ x * q * d4 ≤ 65536 := by
 have hx4 : x * q ≤ x * 4 := Int.mul_le_mul_of_nonneg_left (by omega) (by omega)
 have hx1 : x * 1 ≤ x * q := Int.mul_le_mul_of_nonneg_left (by omega) (by omega)
 have hb : x * q * d4 ≤ x * 4 * d4 := Int.mul_le_mul_of_nonneg_right hx4 (by omega)
 have hb2 : x * q * 1 ≤ x * q * d4 := Int.mul_le_mul_of_nonneg_left h4 (by omega)
 omega
theorem sz_getD {l : List Int} (hz : Sz l) {i : Nat} (h : i < l.length) : 2 ≤ l.getD i 0 ∧ l.getD i 0 ≤ 4 := hz _ (by rw [List.getD_eq_getElem?_getD, List.getElem?_eq_getElem h]; exact List.getElem_mem _)
theorem l01N_l0 (l : List Int) (hl : l.length ≤ 8) (hz : Sz l) : ∀ (d i : Nat) (x : Int), i + d = l.length → 1 ≤ x → x * 4 ^ d ≤ 65536 → Ev (fun k => spec_l01N.l0 k x (i : Int) l) (x * pr (l.drop i)) := by
 intro d
 induction d with
 | zero =>
  intro i x hi h0 h1
  refine Ev.step (fun k => by simp only [spec_l01N.l0]; rw [if_neg (by omega)]) ?_
  rw [List.drop_of_length_le (by omega), pr_nil, Int.mul_one]
  exact Ev.now x
 | succ d ih =>
  intro i x hi h0 h1
  have hq := sz_getD hz (show i < l.length by omega)
  rw [Int.pow_succ, Int.mul_comm (4 ^ d) 4, ← Int.mul_assoc] at h1
  obtain ⟨a, b, c⟩ := mul_steps h0 (pow4 d) hq h1
  refine Ev.step (fun k => by simp only [spec_l01N.l0]; rw [if_pos (by omega), if_pos (by omega), rd_nat, wrap_id (by omega) (by omega), wrap_id (by omega) (by omega), show (i : Int) + 1 = ((i + 1 : Nat) : Int) by omega]) ?_
  rw [drop_get l i (by omega), pr_cons, ← Int.mul_assoc]
  exact ih (i + 1) _ (by omega) a c
theorem l01N_ev (l : List Int) (hl : l.length ≤ 8) (hz : Sz l) : Ev (fun k => spec_l01N.f k l) (pr l) := by
 have h := l01N_l0 l hl hz l.length 0 1 (by omega) (by omega) (pow4_8 _ hl)
 rw [List.drop_zero, Int.one_mul] at h
 exact h
theorem l01In_val (a b c : Int) : spec_l01In.f a b c = some (decide (b ≤ a ∧ a ≤ c)) := by
 unfold spec_l01In.f
 by_cases h : a ≥ b
 ·rw [if_pos h]
  exact congrArg some (decide_eq_decide.2 ⟨fun x => ⟨h, x⟩, fun x => x.2⟩)
 ·rw [if_neg h]
  exact congrArg some (Eq.symm (decide_eq_false (fun x => h x.1)))
theorem l01Is_l0 (l : List Int) (hl : l.length ≤ 8) : ∀ (d i : Nat), i + d = l.length → (∀ q ∈ l.take i, 2 ≤ q ∧ q ≤ 4) → Ev (fun k => spec_l01Is.l0 k (i : Int) l) (decide ((∀ q ∈ l.drop i, 2 ≤ q ∧ q ≤ 4) ∧ pr l ≤ 1024)) := by
 intro d
 induction d with
 | zero =>
  intro i hi hs
  refine Ev.step (fun k => by simp only [spec_l01Is.l0]; rw [if_neg (by omega)]) ?_
  have hz : Sz l := by rw [List.take_of_length_le (by omega)] at hs; exact hs
  refine Ev.bind (l01N_ev l hl hz) ?_
  rw [List.drop_of_length_le (by omega), show decide ((∀ q ∈ ([] : List Int), 2 ≤ q ∧ q ≤ 4) ∧ pr l ≤ 1024) = decide (pr l ≤ 1024) from decide_eq_decide.2 ⟨fun h => h.2, fun h => ⟨fun q hq => absurd hq List.not_mem_nil, h⟩⟩]
  exact Ev.now _
 | succ d ih =>
  intro i hi hs
  have hdrop := drop_get l i (show i < l.length by omega)
  by_cases c : 2 ≤ l.getD i 0 ∧ l.getD i 0 ≤ 4
  ·refine Ev.step (fun k => by simp only [spec_l01Is.l0]; rw [if_pos (by omega), if_pos (by omega), rd_nat, l01In_val, decide_eq_true c, Option.bind_some, if_pos rfl, wrap_id (by omega) (by omega), show (i : Int) + 1 = ((i + 1 : Nat) : Int) by omega]) ?_
   have h := ih (i + 1) (by omega) (fun q hq => by
    rw [List.take_succ_eq_append_getElem (show i < l.length by omega)] at hq
    rcases List.mem_append.1 hq with hq | hq
    ·exact hs q hq
    ·rw [List.mem_singleton.1 hq]
     rw [List.getD_eq_getElem?_getD, List.getElem?_eq_getElem (show i < l.length by omega)] at c
     exact c)
   have e : ((∀ q ∈ l.drop (i + 1), 2 ≤ q ∧ q ≤ 4) ∧ pr l ≤ 1024) ↔ ((∀ q ∈ l.drop i, 2 ≤ q ∧ q ≤ 4) ∧ pr l ≤ 1024) := by
    rw [hdrop]
    refine ⟨fun h => ⟨fun q hq => ?_, h.2⟩, fun h => ⟨fun q hq => h.1 q (List.mem_cons_of_mem _ hq), h.2⟩⟩
    rcases List.mem_cons.1 hq with rfl | hq
    ·exact c
    ·exact h.1 q hq
   rw [← decide_eq_decide.2 e]
   exact h
  ·refine Ev.step (fun k => by simp only [spec_l01Is.l0]; rw [if_pos (by omega), if_pos (by omega), rd_nat, l01In_val, decide_eq_false c, Option.bind_some, if_neg (by decide)]) ?_
   rw [decide_eq_false (fun h => c (h.1 _ (by rw [hdrop]; exact List.mem_cons_self)))]
   exact Ev.now _
theorem l01Is_ev (l : List Int) : Ev (fun k => spec_l01Is.f k l) (isSp l) := by
 unfold spec_l01Is.f isSp
 rw [l01In_val]
 by_cases c : (1 : Int) ≤ l.length ∧ (l.length : Int) ≤ 8
 ·refine Ev.congr (fun k => by rw [decide_eq_true c, Option.bind_some, if_pos rfl]) ?_
  have h := l01Is_l0 l (by omega) l.length 0 (by omega) (fun q hq => absurd hq List.not_mem_nil)
  rw [List.drop_zero] at h
  rw [show decide (1 ≤ l.length ∧ l.length ≤ 8 ∧ (∀ q ∈ l, 2 ≤ q ∧ q ≤ 4) ∧ pr l ≤ 1024) = decide ((∀ q ∈ l, 2 ≤ q ∧ q ≤ 4) ∧ pr l ≤ 1024) from decide_eq_decide.2 ⟨fun h => h.2.2, fun h => ⟨by omega, by omega, h⟩⟩]
  exact h
 ·refine Ev.congr (fun k => by rw [decide_eq_false c, Option.bind_some, if_neg (by decide)]) ?_
  rw [decide_eq_false (fun h => c ⟨by omega, by omega⟩)]
  exact Ev.now _
theorem l10Code_ev (l : List Int) (t : Int) : Ev (fun k => spec_l10Code.f k l t) (if isSp l = true then (if 1 ≤ t ∧ t ≤ 3 ∧ t ≤ l.length then 0 else 2) else 1) := by
 unfold spec_l10Code.f
 refine Ev.bind (l01Is_ev l) ?_
 by_cases c : isSp l = true
 ·simp only [if_pos c]
  rw [l01In_val]
  by_cases c2 : 1 ≤ t ∧ t ≤ 3 ∧ t ≤ l.length
  ·rw [if_pos c2, decide_eq_true (by unfold mn; split <;> omega), Option.bind_some, if_pos rfl]
   exact Ev.now _
  ·rw [if_neg c2, decide_eq_false (by unfold mn; split <;> omega), Option.bind_some, if_neg (by decide)]
   exact Ev.now _
 ·simp only [if_neg c]
  exact Ev.now _
theorem getD_01 (l : List Int) (i : Nat) (h : i < l.length) : l.getD i 0 = l.getD i 1 := by
 rw [List.getD_eq_getElem?_getD, List.getD_eq_getElem?_getD, List.getElem?_eq_getElem h]; rfl
theorem l01Digits_l0 (l : List Int) (hl : l.length ≤ 8) (hz : Sz l) (row : Int) (h0 : 0 ≤ row) (h1 : row ≤ 1000000000) : ∀ (j : Nat) (x5 : List Int), j ≤ l.length → x5.length = l.length → (∀ i, j ≤ i → i < l.length → x5.getD i 0 = dgAt l row i) →
  Ev (fun k => spec_l01Digits.l0 k (row / pr (l.drop j)) x5 ((j : Int) - 1) l) (dgs l row) := by
 intro j
 induction j with
 | zero =>
  intro x5 _ hlen hx
  refine Ev.step (fun k => by simp only [spec_l01Digits.l0]; rw [if_neg (by omega)]) ?_
  have e : x5 = dgs l row := by
   refine List.ext_getElem (by rw [hlen, dgs_length]) (fun i h2 h3 => ?_)
   have h4 := hx i (by omega) (by omega)
   rw [List.getD_eq_getElem?_getD, List.getElem?_eq_getElem h2] at h4
   have h5 : (dgs l row)[i] = dgAt l row i := by simp [dgs]
   rw [h5]
   exact h4
  rw [e]
  exact Ev.now _
 | succ j ih =>
  intro x5 hj hlen hx
  have hq := sz_getD hz (show j < l.length by omega)
  have hd := div_range hz row h0 (j + 1)
  have hm1 := Int.emod_nonneg (row / pr (l.drop (j + 1))) (show l.getD j 0 ≠ 0 by omega)
  have hdd := div_range hz row h0 j
  have hst := div_step hz row j (by omega)
  rw [← getD_01 l j (by omega)] at hst
  refine Ev.step (fun k => by
   simp only [spec_l01Digits.l0]
   rw [if_pos (by omega), if_pos (by omega), if_pos (by omega), show ((j + 1 : Nat) : Int) - 1 = (j : Int) by omega, rd_nat, if_neg (by omega), if_pos (by omega), Int.tdiv_eq_ediv_of_nonneg hd.1, Int.tmod_eq_emod_of_nonneg hd.1, hst, wrap_id (by omega) (by omega), wrap_id (by omega) (by omega)]) ?_
  refine ih _ (by omega) (by rw [List.length_set]; exact hlen) (fun i h2 h3 => ?_)
  rw [List.getD_eq_getElem?_getD, List.getElem?_set, show ((j : Int)).toNat = j by omega]
  by_cases c : j = i
  ·rw [if_pos c, if_pos (by omega), ← c]
   unfold dgAt
   rw [if_pos (by omega), ← getD_01 l j (by omega)]; rfl
  ·rw [if_neg c, ← List.getD_eq_getElem?_getD]
   exact hx i (by omega) h3
theorem l01Digits_ev (l : List Int) (hl : l.length ≤ 8) (hz : Sz l) (row : Int) (h0 : 0 ≤ row) (h1 : row ≤ 1000000000) : Ev (fun k => spec_l01Digits.f k l row) (dgs l row) := by
 unfold spec_l01Digits.f
 refine Ev.congr (fun k => by rw [if_pos (by omega), if_pos (by omega), wrap_id (by omega) (by omega)]) ?_
 have h := l01Digits_l0 l hl hz row h0 h1 l.length (List.replicate ((l.length : Int)).toNat 0) (by omega) (by rw [List.length_replicate]; omega) (fun i h2 h3 => by omega)
 rw [List.drop_of_length_le (Nat.le_refl _), pr_nil, Int.ediv_one] at h
 exact h
/-- A choice whose places are places of so many digits. -/
def Ch (n : Nat) (c : List Int) : Prop := c.length ≤ 1000 ∧ ∀ i : Nat, i < c.length / 2 → 0 ≤ at' c i ∧ at' c i < n
theorem l10Has_l0 (dg c : List Int) (hc : Ch dg.length c) : ∀ (d i : Nat) (b : Bool), i + d = c.length / 2 → (b = true ↔ ∀ j : Nat, i ≤ j → j < c.length / 2 → at' dg (at' c j) = at' c ((c.length / 2 + j : Nat) : Int)) →
  Ev (fun k => spec_l10Has.l0 k dg c ((c.length / 2 : Nat) : Int) (i : Int)) b := by
 obtain ⟨hc1, hc2⟩ := hc
 intro d
 induction d with
 | zero =>
  intro i b hi hb
  refine Ev.step (fun k => by simp only [spec_l10Has.l0]; rw [if_neg (by omega)]) ?_
  rw [hb.2 (fun j h1 h2 => by omega)]
  exact Ev.now _
 | succ d ih =>
  intro i b hi hb
  have h1 := hc2 i (by omega)
  have h2 : 0 ≤ rd c (i : Int) ∧ rd c (i : Int) < dg.length := h1
  by_cases e : rd dg (rd c (i : Int)) = rd c ((c.length / 2 + i : Nat) : Int)
  ·refine Ev.step (fun k => by
    simp only [spec_l10Has.l0]
    rw [if_pos (by omega), if_pos (by omega), if_pos (by omega), if_pos (by omega), if_pos (by omega), wrap_id (by omega) (by omega), if_pos (by omega), if_pos (by omega), show ((c.length / 2 : Nat) : Int) + (i : Int) = ((c.length / 2 + i : Nat) : Int) by omega, if_pos e, wrap_id (by omega) (by omega), show (i : Int) + 1 = ((i + 1 : Nat) : Int) by omega]) ?_
   refine ih (i + 1) b (by omega) (hb.trans ⟨fun H j h3 h4 => H j (by omega) h4, fun H j h3 h4 => ?_⟩)
   by_cases hj : j = i
   ·rw [hj]; exact e
   ·exact H j (by omega) h4
  ·refine Ev.step (fun k => by
    simp only [spec_l10Has.l0]
    rw [if_pos (by omega), if_pos (by omega), if_pos (by omega), if_pos (by omega), if_pos (by omega), wrap_id (by omega) (by omega), if_pos (by omega), if_pos (by omega), show ((c.length / 2 : Nat) : Int) + (i : Int) = ((c.length / 2 + i : Nat) : Int) by omega, if_neg e]) ?_
   have : b = false := by
    cases b with
    | false => rfl
    | true => exact absurd (hb.1 rfl i (Nat.le_refl _) (by omega)) e
   rw [this]
   exact Ev.now _
theorem l10Has_ev (dg c : List Int) (hc : Ch dg.length c) : Ev (fun k => spec_l10Has.f k dg c) (hasB dg c) := by
 unfold spec_l10Has.f
 have h := l10Has_l0 dg c hc (c.length / 2) 0 (hasB dg c) (by omega) (by unfold hasB; rw [decide_eq_true_iff]; exact ⟨fun H j _ h => H j h, fun H j h => H j (Nat.zero_le _) h⟩)
 have hc1 := hc.1
 refine Ev.congr (fun k => ?_) h
 rw [show wrap64 ((c.length : Int) / 2) = ((c.length / 2 : Nat) : Int) by rw [wrap_id (by omega) (by omega)]; omega]
 rfl
theorem rd_L1_nat (xs : List (List Int)) (i : Nat) : rd_L1 xs (i : Int) = xs.getD i [] := rfl
theorem dropL (xs : List (List Int)) (i : Nat) (h : i < xs.length) : xs.drop i = xs.getD i [] :: xs.drop (i + 1) := by
 rw [List.drop_eq_getElem_cons h, List.getD_eq_getElem?_getD, List.getElem?_eq_getElem h]; rfl
theorem memL (xs : List (List Int)) (i : Nat) (h : i < xs.length) : xs.getD i [] ∈ xs := by
 rw [List.getD_eq_getElem?_getD, List.getElem?_eq_getElem h]; exact List.getElem_mem h
theorem l10Missing_l1 (l rows dg : List Int) (cs : List (List Int)) (hdg : dg.length = l.length) (hcs : ∀ c ∈ cs, Ch l.length c) (hlen : cs.length ≤ 100000) (x8 : Int) (r : List (List Int)) : ∀ (d i : Nat) (acc : List (List Int)), i + d = cs.length → acc.length + d ≤ 100000 →
  Ev (fun k => spec_l10Missing.l0 k rows (acc ++ (cs.drop i).filter (fun c => !hasB dg c)) (wrap64 (x8 + 1)) l) r →
  Ev (fun k => spec_l10Missing.l1 k rows cs x8 dg acc (i : Int) l) r := by
 intro d
 induction d with
 | zero =>
  intro i acc hi ha h
  refine Ev.step (fun k => by simp only [spec_l10Missing.l1]; rw [if_neg (by omega)]) ?_
  rw [List.drop_of_length_le (by omega), List.filter_nil, List.append_nil] at h
  exact h
 | succ d ih =>
  intro i acc hi ha h
  rw [dropL cs i (by omega), List.filter_cons] at h
  refine Ev.step (fun k => by simp only [spec_l10Missing.l1]; rw [if_pos (by omega), if_pos (by omega), rd_L1_nat]) ?_
  refine Ev.bind (l10Has_ev dg (cs.getD i []) (by rw [hdg]; exact hcs _ (memL cs i (by omega)))) ?_
  cases hb : hasB dg (cs.getD i []) with
  | true =>
   rw [hb] at h
   simp only [if_true]
   refine Ev.congr (fun k => by rw [wrap_id (by omega) (by omega), show (i : Int) + 1 = ((i + 1 : Nat) : Int) by omega]) ?_
   exact ih (i + 1) acc (by omega) (by omega) h
  | false =>
   rw [hb] at h
   simp only [Bool.false_eq_true, if_false]
   refine Ev.congr (fun k => by rw [if_pos (by omega), wrap_id (by omega) (by omega), show (i : Int) + 1 = ((i + 1 : Nat) : Int) by omega]) ?_
   refine ih (i + 1) _ (by omega) (by rw [List.length_append, List.length_singleton]; omega) ?_
   rw [List.append_assoc]
   exact h
theorem missing_cons (l : List Int) (cs : List (List Int)) (r : Int) (rows : List Int) : missing l cs (r :: rows) = missing l (cs.filter (fun c => !hasB (dgs l r) c)) rows := by
 unfold missing
 rw [List.filter_filter]
 refine List.filter_congr fun c _ => ?_
 rw [List.all_cons, Bool.and_comm]
theorem l10Missing_l0 (l : List Int) (hl : l.length ≤ 8) (hz : Sz l) (rows : List Int) (hr : ∀ r ∈ rows, 0 ≤ r ∧ r ≤ 1000000000) (hrl : rows.length ≤ 140737488351232) : ∀ (d i : Nat) (cs : List (List Int)), i + d = rows.length → (∀ c ∈ cs, Ch l.length c) → cs.length ≤ 100000 →
  Ev (fun k => spec_l10Missing.l0 k rows cs (i : Int) l) (missing l cs (rows.drop i)) := by
 intro d
 induction d with
 | zero =>
  intro i cs hi hcs hlen
  refine Ev.step (fun k => by simp only [spec_l10Missing.l0]; rw [if_neg (by omega)]) ?_
  rw [List.drop_of_length_le (by omega), missing_nil]
  exact Ev.now _
 | succ d ih =>
  intro i cs hi hcs hlen
  have hx : 0 ≤ rows.getD i 0 ∧ rows.getD i 0 ≤ 1000000000 := hr _ (by rw [List.getD_eq_getElem?_getD, List.getElem?_eq_getElem (show i < rows.length by omega)]; exact List.getElem_mem _)
  refine Ev.step (fun k => by simp only [spec_l10Missing.l0]; rw [if_pos (by omega), if_pos (by omega), rd_nat]) ?_
  refine Ev.bind (l01Digits_ev l hl hz _ hx.1 hx.2) ?_
  refine l10Missing_l1 l rows (dgs l (rows.getD i 0)) cs (dgs_length _ _) hcs hlen (i : Int) _ cs.length 0 [] (by omega) (by simp; omega) ?_
  rw [List.drop_zero, List.nil_append, wrap_id (by omega) (by omega), show (i : Int) + 1 = ((i + 1 : Nat) : Int) by omega, drop_get rows i (by omega), missing_cons]
  exact ih (i + 1) _ (by omega) (fun c hc => hcs c (List.mem_filter.1 hc).1) (Nat.le_trans (List.length_filter_le _ _) hlen)
theorem l10Missing_ev (l : List Int) (hl : l.length ≤ 8) (hz : Sz l) (rows : List Int) (hr : ∀ r ∈ rows, 0 ≤ r ∧ r ≤ 1000000000) (hrl : rows.length ≤ 140737488351232) (cs : List (List Int)) (hcs : ∀ c ∈ cs, Ch l.length c) (hlen : cs.length ≤ 100000) :
  Ev (fun k => spec_l10Missing.f k l cs rows) (missing l cs rows) := l10Missing_l0 l hl hz rows hr hrl rows.length 0 cs (by omega) hcs hlen
theorem l01Own_val (l : List Int) (h : l.length < 17592186044416) : spec_l01Own.f l = some l := by
 unfold spec_l01Own.f
 rw [Option.bind_some, if_pos (by simpa using h), List.nil_append]
theorem l10Places_l1 (l : List Int) (x2 : Int) (i : Nat) (hi : i ≤ 100) (T : List (List Int)) (hT : ∀ t ∈ T, t.length ≤ 1000) (hTl : T.length ≤ 100000) (r : List (List Int)) : ∀ (d m : Nat) (acc : List (List Int)), m + d = T.length → acc.length + d ≤ 100000 →
  Ev (fun k => spec_l10Places.l0 k x2 (acc ++ (T.drop m).map (fun r => (i : Int) :: r)) ((i + 1 : Nat) : Int) l) r →
  Ev (fun k => spec_l10Places.l1 k x2 acc (i : Int) T (m : Int) l) r := by
 intro d
 induction d with
 | zero =>
  intro m acc hm ha h
  refine Ev.step (fun k => by simp only [spec_l10Places.l1]; rw [if_neg (by omega), wrap_id (by omega) (by omega), show (i : Int) + 1 = ((i + 1 : Nat) : Int) by omega]) ?_
  rw [List.drop_of_length_le (by omega), List.map_nil, List.append_nil] at h
  exact h
 | succ d ih =>
  intro m acc hm ha h
  rw [dropL T m (by omega), List.map_cons] at h
  have h1 := hT _ (memL T m (by omega))
  refine Ev.step (fun k => by simp only [spec_l10Places.l1]; rw [if_pos (by omega), Option.bind_some, if_pos (by omega), rd_L1_nat, if_pos (by simp only [List.length_singleton]; omega), if_pos (by omega), wrap_id (by omega) (by omega), show (m : Int) + 1 = ((m + 1 : Nat) : Int) by omega]) ?_
  refine ih (m + 1) _ (by omega) (by rw [List.length_append, List.length_singleton]; omega) ?_
  rw [List.append_assoc]
  exact h
theorem l10Places_ev (l : List Int) (hl : l.length ≤ 8) : ∀ (d b : Nat), d ≤ 3 → b ≤ l.length → Ev (fun k => spec_l10Places.f k l (b : Int) (d : Int)) (places l.length d b) := by
 intro d
 induction d with
 | zero =>
  intro b _ hb
  refine Ev.step (fun k => by simp only [spec_l10Places.f]; rw [if_pos (by omega)]) ?_
  exact Ev.now _
 | succ d ih =>
  intro b hd hb
  have L : ∀ (e i : Nat) (acc : List (List Int)), i + e = l.length → acc.length + 512 * e ≤ 10000 → Ev (fun k => spec_l10Places.l0 k ((d + 1 : Nat) : Int) acc (i : Int) l) (acc ++ run (fun i => (places l.length d (i + 1)).map (fun r => i :: r)) (i : Int) e) := by
   intro e
   induction e with
   | zero =>
    intro i acc hi ha
    refine Ev.step (fun k => by simp only [spec_l10Places.l0]; rw [if_neg (by omega)]) ?_
    rw [show run (fun i => (places l.length d (i + 1)).map (fun r => i :: r)) (i : Int) 0 = [] from rfl, List.append_nil]
    exact Ev.now _
   | succ e ih2 =>
    intro i acc hi ha
    refine Ev.step (fun k => by simp only [spec_l10Places.l0]; rw [if_pos (by omega), wrap_id (by omega) (by omega), wrap_id (by omega) (by omega), show (i : Int) + 1 = ((i + 1 : Nat) : Int) by omega, show ((d + 1 : Nat) : Int) - 1 = (d : Int) by omega]) ?_
    refine Ev.bind (ih (i + 1) (by omega) (by omega)) ?_
    have h8 := places_len l.length hl d ((i + 1 : Nat) : Int) (by omega)
    have h9 : 8 ^ d ≤ 8 ^ 3 := Nat.pow_le_pow_right (by decide) (by omega)
    have h10 : (8 : Nat) ^ 3 = 512 := rfl
    refine l10Places_l1 l _ i (by omega) _ (fun t ht => by have := places_each l.length d _ t ht; omega) (by omega) _ _ 0 acc (Nat.zero_add _) (by omega) ?_
    have h := ih2 (i + 1) (acc ++ (places l.length d ((i + 1 : Nat) : Int)).map (fun r => (i : Int) :: r)) (by omega) (by rw [List.length_append, List.length_map]; omega)
    rw [List.drop_zero]
    rw [List.append_assoc] at h
    exact h
  refine Ev.step (fun k => by simp only [spec_l10Places.f]; rw [if_neg (by omega)]) ?_
  have h := L (l.length - b) b [] (by omega) (by simp; omega)
  rw [List.nil_append] at h
  show Ev _ (run (fun i => (places l.length d (i + 1)).map (fun r => i :: r)) (b : Int) ((l.length : Int) - b).toNat)
  rw [show ((l.length : Int) - (b : Int)).toNat = l.length - b by omega]
  exact h
theorem l10Digits_l2 (l p : List Int) (j : Nat) (hj : j < p.length) (hp : 0 ≤ at' p j ∧ at' p j < l.length) (q : Nat) (hq : at' l (at' p j) = q) (hq4 : q ≤ 4) (cur : List (List Int)) (m : Nat) (hm : m < cur.length) (hml : cur.length ≤ 100000) (hc : (cur.getD m []).length ≤ 1000) (r : List (List Int)) :
  ∀ (e v : Nat) (new : List (List Int)), v + e = q → new.length + e ≤ 1000000 →
  Ev (fun k => spec_l10Digits.l1 k p cur (j : Int) (new ++ (List.range' v e).map (fun (v : Nat) => cur.getD m [] ++ [(v : Int)])) ((m + 1 : Nat) : Int) l) r →
  Ev (fun k => spec_l10Digits.l2 k p cur (j : Int) new (m : Int) (v : Int) l) r := by
 have hp' : 0 ≤ rd p (j : Int) ∧ rd p (j : Int) < l.length := hp
 have hq' : rd l (rd p (j : Int)) = q := hq
 intro e
 induction e with
 | zero =>
  intro v new hv hn h
  refine Ev.step (fun k => by simp only [spec_l10Digits.l2]; rw [if_pos (by omega), if_pos (by omega), if_pos (by omega), if_pos (by omega), if_neg (by omega), wrap_id (by omega) (by omega), show (m : Int) + 1 = ((m + 1 : Nat) : Int) by omega]) ?_
  rw [List.range'_zero, List.map_nil, List.append_nil] at h
  exact h
 | succ e ih =>
  intro v new hv hn h
  rw [List.range'_succ, List.map_cons] at h
  refine Ev.step (fun k => by simp only [spec_l10Digits.l2]; rw [if_pos (by omega), if_pos (by omega), if_pos (by omega), if_pos (by omega), if_pos (by omega), if_pos (by omega), if_pos (by omega), rd_L1_nat, l01Own_val _ (by omega), Option.bind_some, if_pos (by omega), if_pos (by omega), wrap_id (by omega) (by omega), show (v : Int) + 1 = ((v + 1 : Nat) : Int) by omega]) ?_
  refine ih (v + 1) _ (by omega) (by rw [List.length_append, List.length_singleton]; omega) ?_
  rw [List.append_assoc]
  exact h
/-- One place more. -/
def digStep (l : List Int) (cur : List (List Int)) (i : Int) : List (List Int) := cur.flatMap (fun c => (List.range (at' l i).toNat).map (fun (v : Nat) => c ++ [(v : Int)]))
theorem digStep_cons (l : List Int) (c : List Int) (cur : List (List Int)) (i : Int) : digStep l (c :: cur) i = (List.range (at' l i).toNat).map (fun (v : Nat) => c ++ [(v : Int)]) ++ digStep l cur i := by unfold digStep; rw [List.flatMap_cons]
theorem digStep_len (l : List Int) (i : Int) (h : at' l i ≤ 4) : ∀ cur : List (List Int), (digStep l cur i).length ≤ 4 * cur.length
 | [] => Nat.le_refl 0
 | c :: cur => by
  have := digStep_len l i h cur
  rw [digStep_cons, List.length_append, List.length_map, List.length_range, List.length_cons]
  omega
theorem digStep_each (l : List Int) (i : Int) (n : Nat) (cur : List (List Int)) (h : ∀ c ∈ cur, c.length ≤ n) : ∀ c ∈ digStep l cur i, c.length ≤ n + 1 := by
 intro c hc
 obtain ⟨d, hd, hc⟩ := List.mem_flatMap.1 hc
 obtain ⟨v, _, rfl⟩ := List.mem_map.1 hc
 have := h d hd
 rw [List.length_append, List.length_singleton]
 omega
theorem l10Digits_l1 (l p : List Int) (hz : Sz l) (j : Nat) (hj : j < p.length) (hjl : j ≤ 100) (hp : 0 ≤ at' p j ∧ at' p j < l.length) (cur : List (List Int)) (hml : cur.length ≤ 100000) (hc : ∀ c ∈ cur, c.length ≤ 1000) (r : List (List Int)) :
  ∀ (e m : Nat) (new : List (List Int)), m + e = cur.length → new.length + 4 * e ≤ 1000000 →
  Ev (fun k => spec_l10Digits.l0 k p (new ++ digStep l (cur.drop m) (at' p j)) ((j + 1 : Nat) : Int) l) r →
  Ev (fun k => spec_l10Digits.l1 k p cur (j : Int) new (m : Int) l) r := by
 have hq := at_range hz hp.1 hp.2
 intro e
 induction e with
 | zero =>
  intro m new hm hn h
  refine Ev.step (fun k => by simp only [spec_l10Digits.l1]; rw [if_neg (by omega), wrap_id (by omega) (by omega), show (j : Int) + 1 = ((j + 1 : Nat) : Int) by omega]) ?_
  rw [List.drop_of_length_le (by omega), show digStep l [] (at' p j) = [] from rfl, List.append_nil] at h
  exact h
 | succ e ih =>
  intro m new hm hn h
  rw [dropL cur m (by omega), digStep_cons] at h
  refine Ev.step (fun k => by simp only [spec_l10Digits.l1]; rw [if_pos (by omega)]) ?_
  refine l10Digits_l2 l p j hj hp (at' l (at' p j)).toNat (by omega) (by omega) cur m (by omega) hml (hc _ (memL cur m (by omega))) r (at' l (at' p j)).toNat 0 new (by omega) (by omega) ?_
  refine ih (m + 1) _ (by omega) (by rw [List.length_append, List.length_map, List.length_range']; omega) ?_
  rw [List.append_assoc, ← List.range_eq_range']
  exact h
theorem l10Digits_l0 (l p : List Int) (hz : Sz l) (hpl : Pl l p) : ∀ (e j : Nat) (cur : List (List Int)), j + e = p.length → cur.length * 4 ^ e ≤ 64 → (∀ c ∈ cur, c.length ≤ j) →
  Ev (fun k => spec_l10Digits.l0 k p cur (j : Int) l) ((p.drop j).foldl (digStep l) cur) := by
 obtain ⟨hp3, hpi⟩ := hpl
 intro e
 induction e with
 | zero =>
  intro j cur hj h4 hc
  refine Ev.step (fun k => by simp only [spec_l10Digits.l0]; rw [if_neg (by omega)]) ?_
  rw [List.drop_of_length_le (by omega)]
  exact Ev.now _
 | succ e ih =>
  intro j cur hj h4 hc
  have hp : 0 ≤ at' p j ∧ at' p j < l.length := hpi _ (by show p.getD j 0 ∈ p; rw [List.getD_eq_getElem?_getD, List.getElem?_eq_getElem (show j < p.length by omega)]; exact List.getElem_mem _)
  have hq := at_range hz hp.1 hp.2
  have h5 : 1 ≤ 4 ^ e := Nat.pow_pos (by decide)
  rw [Nat.pow_succ, Nat.mul_comm (4 ^ e) 4, ← Nat.mul_assoc] at h4
  have h6 : cur.length * 4 * 1 ≤ cur.length * 4 * 4 ^ e := Nat.mul_le_mul_left _ h5
  refine Ev.step (fun k => by simp only [spec_l10Digits.l0]; rw [if_pos (by omega)]) ?_
  refine l10Digits_l1 l p hz j (by omega) (by omega) hp cur (by omega) (fun c h => by have := hc c h; omega) _ cur.length 0 [] (by omega) (by simp; omega) ?_
  rw [List.drop_zero, List.nil_append, drop_get p j (by omega), List.foldl_cons]
  have h7 := digStep_len l (at' p j) (by omega) cur
  have h8 : (digStep l cur (at' p j)).length * 4 ^ e ≤ 4 * cur.length * 4 ^ e := Nat.mul_le_mul_right _ h7
  rw [Nat.mul_comm 4 cur.length] at h8
  exact ih (j + 1) _ (by omega) (by omega) (digStep_each l (at' p j) j cur hc)
theorem l10Digits_ev (l p : List Int) (hz : Sz l) (hpl : Pl l p) : Ev (fun k => spec_l10Digits.f k l p) (digs l p) := by
 have h4 : 1 * 4 ^ p.length ≤ 64 := by
  have h3 := hpl.1
  generalize p.length = n at h3
  rcases n with _|_|_|_|n <;> first | decide | omega
 exact l10Digits_l0 l p hz hpl p.length 0 [[]] (by omega) h4 (fun c hc => by rw [List.mem_singleton.1 hc]; exact Nat.le_refl 0)
theorem digs_each {l : List Int} (hl : Sz l) {p : List Int} (hp : Pl l p) : ∀ d ∈ digs l p, d.length = p.length := by
 intro d hd
 rw [digs_eq hl p hp.2] at hd
 obtain ⟨v, _, rfl⟩ := List.mem_map.1 hd
 exact dec_length _ _ _
theorem l10All_l1 (l : List Int) (P : List (List Int)) (i : Nat) (hi : i < P.length) (hil : P.length ≤ 100000) (hpi : (P.getD i []).length ≤ 1000) (D : List (List Int)) (hD : ∀ d ∈ D, d.length ≤ 1000) (hDl : D.length ≤ 1000) (r : List (List Int)) :
  ∀ (e m : Nat) (acc : List (List Int)), m + e = D.length → acc.length + e ≤ 1000000 →
  Ev (fun k => spec_l10All.l0 k P (acc ++ (D.drop m).map (fun d => P.getD i [] ++ d)) ((i + 1 : Nat) : Int) l) r →
  Ev (fun k => spec_l10All.l1 k P acc (i : Int) D (m : Int) l) r := by
 intro e
 induction e with
 | zero =>
  intro m acc hm ha h
  refine Ev.step (fun k => by simp only [spec_l10All.l1]; rw [if_neg (by omega), wrap_id (by omega) (by omega), show (i : Int) + 1 = ((i + 1 : Nat) : Int) by omega]) ?_
  rw [List.drop_of_length_le (by omega), List.map_nil, List.append_nil] at h
  exact h
 | succ e ih =>
  intro m acc hm ha h
  rw [dropL D m (by omega), List.map_cons] at h
  have h1 := hD _ (memL D m (by omega))
  refine Ev.step (fun k => by simp only [spec_l10All.l1]; rw [if_pos (by omega), if_pos (by omega), if_pos (by omega), rd_L1_nat, rd_L1_nat, l01Own_val _ (by omega), Option.bind_some, if_pos (by omega), if_pos (by omega), if_pos (by omega), wrap_id (by omega) (by omega), show (m : Int) + 1 = ((m + 1 : Nat) : Int) by omega]) ?_
  refine ih (m + 1) _ (by omega) (by rw [List.length_append, List.length_singleton]; omega) ?_
  rw [List.append_assoc]
  exact h
theorem l10All_l0 (l : List Int) (hz : Sz l) (P : List (List Int)) (hP : ∀ p ∈ P, Pl l p) (hPl : P.length ≤ 512) : ∀ (e i : Nat) (acc : List (List Int)), i + e = P.length → acc.length + 64 * e ≤ 100000 →
  Ev (fun k => spec_l10All.l0 k P acc (i : Int) l) (acc ++ allC l (P.drop i)) := by
 intro e
 induction e with
 | zero =>
  intro i acc hi ha
  refine Ev.step (fun k => by simp only [spec_l10All.l0]; rw [if_neg (by omega)]) ?_
  rw [List.drop_of_length_le (by omega), show allC l [] = [] from rfl, List.append_nil]
  exact Ev.now _
 | succ e ih =>
  intro i acc hi ha
  have hp := hP _ (memL P i (by omega))
  have h1 := digs_len hz hp
  have h2 := szp_range hz hp (P.getD i []).length
  rw [List.take_length] at h2
  have h3 := hp.1
  refine Ev.step (fun k => by simp only [spec_l10All.l0]; rw [if_pos (by omega), if_pos (by omega), rd_L1_nat]) ?_
  refine Ev.bind (l10Digits_ev l _ hz hp) ?_
  refine l10All_l1 l P i (by omega) (by omega) (by omega) _ (fun d hd => by have := digs_each hz hp d hd; omega) (by omega) _ _ 0 acc (Nat.zero_add _) (by omega) ?_
  have h := ih (i + 1) (acc ++ (digs l (P.getD i [])).map (fun d => P.getD i [] ++ d)) (by omega) (by rw [List.length_append, List.length_map]; omega)
  rw [List.drop_zero, dropL P i (by omega), allC_cons, ← List.append_assoc]
  exact h
theorem places_pl (l : List Int) (t : Nat) (ht : t ≤ 3) : ∀ p ∈ places l.length t 0, Pl l p := by rw [← ext_nil]; exact ext_pl l.length t l rfl ht
theorem places_512 (l : List Int) (hl : l.length ≤ 8) (t : Nat) (ht : t ≤ 3) : (places l.length t 0).length ≤ 512 := by rw [← ext_nil]; exact ext_len512 l.length t hl ht
theorem l10All_ev (l : List Int) (hl : l.length ≤ 8) (hz : Sz l) (t : Nat) (ht : t ≤ 3) : Ev (fun k => spec_l10All.f k l (t : Int)) (allC l (places l.length t 0)) := by
 have h := l10All_l0 l hz (places l.length t 0) (places_pl l t ht) (places_512 l hl t ht) (places l.length t 0).length 0 [] (Nat.zero_add _) (by have := places_512 l hl t ht; simp; omega)
 rw [List.drop_zero, List.nil_append] at h
 exact Ev.bind (l10Places_ev l hl t 0 ht (Nat.zero_le _)) h
theorem allC_ch (l : List Int) (hz : Sz l) (P : List (List Int)) (hP : ∀ p ∈ P, Pl l p) : ∀ c ∈ allC l P, Ch l.length c := by
 intro c hc
 obtain ⟨p, hp, hc⟩ := List.mem_flatMap.1 hc
 obtain ⟨d, hd, rfl⟩ := List.mem_map.1 hc
 have h1 := digs_each hz (hP p hp) d hd
 have h2 := (hP p hp).1
 refine ⟨by rw [List.length_append]; omega, fun i hi => ?_⟩
 have h3 : i < p.length := by rw [List.length_append] at hi; omega
 rw [at_left p d i h3]
 exact (hP p hp).2 _ (List.getElem_mem h3)
theorem allC_le (l : List Int) (hl : l.length ≤ 8) (hz : Sz l) (t : Nat) (ht : t ≤ 3) : (allC l (places l.length t 0)).length ≤ 100000 := by
 have h1 := allC_len hz (places l.length t 0) 0 (places_pl l t ht)
 have h2 := tot_le_max hz (places_pl l t ht) (places_512 l hl t ht)
 omega
theorem toInt64S_l0 (l : List Int) (hl : l.length ≤ 35184372088832) : ∀ (d i : Nat) (x : List Int), i + d = l.length → x.length = l.length → (∀ j, j < i → x.getD j 0 = l.getD j 0) → Ev (fun k => laws_toInt64S.l0 k l x (i : Int)) l := by
 intro d
 induction d with
 | zero =>
  intro i x hi hx h
  refine Ev.step (fun k => by simp only [laws_toInt64S.l0]; rw [if_neg (by omega)]) ?_
  have e : x = l := by
   refine List.ext_getElem hx (fun j h1 h2 => ?_)
   have h3 := h j (by omega)
   rw [List.getD_eq_getElem?_getD, List.getD_eq_getElem?_getD, List.getElem?_eq_getElem h1, List.getElem?_eq_getElem h2] at h3
   exact h3
  rw [e]
  exact Ev.now _
 | succ d ih =>
  intro i x hi hx h
  refine Ev.step (fun k => by simp only [laws_toInt64S.l0]; rw [if_pos (by omega), if_pos (by omega), if_pos (by omega), rd_nat, show ((i : Int)).toNat = i by omega, wrap_id (by omega) (by omega), show (i : Int) + 1 = ((i + 1 : Nat) : Int) by omega]) ?_
  refine ih (i + 1) _ (by omega) (by rw [List.length_set]; exact hx) (fun j hj => ?_)
  rw [List.getD_eq_getElem?_getD, List.getElem?_set]
  by_cases c : i = j
  ·rw [if_pos c, if_pos (by omega), ← c]; rfl
  ·rw [if_neg c, ← List.getD_eq_getElem?_getD]
   exact h j (by omega)
theorem toInt64S_ev (l : List Int) (hl : l.length ≤ 35184372088832) : Ev (fun k => laws_toInt64S.f k l) l := by
 unfold laws_toInt64S.f
 refine Ev.congr (fun k => by rw [if_pos (by omega), if_pos (by omega)]) ?_
 exact toInt64S_l0 l hl l.length 0 _ (by omega) (by rw [List.length_replicate]; omega) (fun j hj => by omega)
theorem toSpace_ev (l : List Int) (hl : l.length ≤ 35184372088832) : Ev (fun k => laws_toSpace.f k l) l := Ev.bind (toInt64S_ev l hl) (Ev.now l)
theorem eqInt64S_l0 (l : List Int) (hl : l.length ≤ 35184372088832) : ∀ (d i : Nat), i + d = l.length → Ev (fun k => laws_eqInt64S.l0 k l l (i : Int)) true := by
 intro d
 induction d with
 | zero =>
  intro i hi
  refine Ev.step (fun k => by simp only [laws_eqInt64S.l0]; rw [if_neg (by omega)]) ?_
  exact Ev.now _
 | succ d ih =>
  intro i hi
  refine Ev.step (fun k => by simp only [laws_eqInt64S.l0]; rw [if_pos (by omega), if_pos (by omega), if_pos (by omega), if_true, wrap_id (by omega) (by omega), show (i : Int) + 1 = ((i + 1 : Nat) : Int) by omega]) ?_
  exact ih (i + 1) (by omega)
theorem eqInt64S_ev (l : List Int) (hl : l.length ≤ 35184372088832) : Ev (fun k => laws_eqInt64S.f k l l) true := by
 unfold laws_eqInt64S.f
 refine Ev.congr (fun k => by rw [if_pos rfl]) ?_
 exact eqInt64S_l0 l hl l.length 0 (by omega)
theorem eqSpace_ev (l : List Int) (hl : l.length ≤ 35184372088832) : Ev (fun k => laws_eqSpace.f k l l) true := by
 unfold laws_eqSpace.f
 refine Ev.bind (eqInt64S_ev l hl) ?_
 simp only [if_true]
 exact Ev.now _
theorem szSpace_val (l : List Int) (x : Int) (hx : 0 ≤ x ∧ x ≤ 1048576) (hl : l.length ≤ 9223372036854775807) : laws_szSpace.f l x = some (if l.length ≤ x then x - l.length else -1) := by
 unfold laws_szSpace.f laws_szInt64S.f
 rw [wrap_id (by omega) (by omega)]
 by_cases c : (l.length : Int) ≤ x
 ·rw [if_pos c, if_neg (by omega), Option.bind_some, if_neg (by omega)]
 ·rw [if_neg c, if_pos (by omega), Option.bind_some, if_pos (by omega)]
/-- a, a + 1, .. -/
def ups (a : Int) : Nat → List Int
 | 0 => []
 | n + 1 => a :: ups (a + 1) n
theorem ups_length : ∀ (n : Nat) (a : Int), (ups a n).length = n
 | 0, _ => rfl
 | n + 1, a => by show (ups (a + 1) n).length + 1 = n + 1; rw [ups_length n]
theorem ups_at : ∀ (n : Nat) (a : Int) (i : Nat), i < n → (ups a n).getD i 0 = a + i
 | n + 1, a, 0, _ => by show a = a + ((0 : Nat) : Int); omega
 | n + 1, a, i + 1, h => by
  have := ups_at n (a + 1) i (by omega)
  show (ups (a + 1) n).getD i 0 = _
  rw [this]
  omega
theorem markInt64S_l0 (n : Nat) (hn : n ≤ 35184372088832) (a : Int) (ha : 0 ≤ a ∧ a ≤ 35184372088832) : ∀ (d i : Nat) (x : List Int), i + d = n → x.length = n → (∀ j, j < i → x.getD j 0 = a + j) → Ev (fun k => laws_markInt64S.l0 k x (a + i) (i : Int)) (a + n, ups a n) := by
 intro d
 induction d with
 | zero =>
  intro i x hi hx h
  refine Ev.step (fun k => by simp only [laws_markInt64S.l0]; rw [if_neg (by omega)]) ?_
  have e : x = ups a n := by
   refine List.ext_getElem (by rw [hx, ups_length]) (fun j h1 h2 => ?_)
   have h3 := h j (by omega)
   have h4 := ups_at n a j (by omega)
   rw [List.getD_eq_getElem?_getD, List.getElem?_eq_getElem h1] at h3
   rw [List.getD_eq_getElem?_getD, List.getElem?_eq_getElem h2] at h4
   exact h3.trans h4.symm
  rw [e, show i = n by omega]
  exact Ev.now _
 | succ d ih =>
  intro i x hi hx h
  refine Ev.step (fun k => by simp only [laws_markInt64S.l0]; rw [if_pos (by omega), if_pos (by omega), show ((i : Int)).toNat = i by omega, wrap_id (by omega) (by omega), wrap_id (by omega) (by omega), show a + (i : Int) + 1 = a + ((i + 1 : Nat) : Int) by omega, show (i : Int) + 1 = ((i + 1 : Nat) : Int) by omega]) ?_
  refine ih (i + 1) _ (by omega) (by rw [List.length_set]; exact hx) (fun j hj => ?_)
  rw [List.getD_eq_getElem?_getD, List.getElem?_set]
  by_cases c : i = j
  ·rw [if_pos c, if_pos (by omega), ← c]; rfl
  ·rw [if_neg c, ← List.getD_eq_getElem?_getD]
   exact h j (by omega)
theorem markInt64S_ev (l : List Int) (a : Int) (hl : l.length ≤ 35184372088832) (ha : 0 ≤ a ∧ a ≤ 35184372088832) : Ev (fun k => laws_markInt64S.f k l a) (a + l.length, ups a l.length) := by
 have h := markInt64S_l0 l.length hl a ha l.length 0 l (by omega) rfl (fun j hj => by omega)
 rw [show a + ((0 : Nat) : Int) = a by omega] at h
 exact h
theorem markSpace_ev (l : List Int) (a : Int) (hl : l.length ≤ 35184372088832) (ha : 0 ≤ a ∧ a ≤ 35184372088832) : Ev (fun k => laws_markSpace.f k l a) (a + l.length, ups a l.length) := Ev.bind (markInt64S_ev l a hl ha) (Ev.now _)
theorem heldInt64S_l0 (n : Nat) (hn : n ≤ 35184372088832) (a : Int) (ha : 0 ≤ a ∧ a ≤ 35184372088832) : ∀ (d i : Nat), i + d = n → Ev (fun k => laws_heldInt64S.l0 k (ups a n) (a + i) (i : Int)) (a + n) := by
 have hl := ups_length n a
 intro d
 induction d with
 | zero =>
  intro i hi
  refine Ev.step (fun k => by simp only [laws_heldInt64S.l0]; rw [if_neg (by omega)]) ?_
  rw [show i = n by omega]
  exact Ev.now _
 | succ d ih =>
  intro i hi
  have h4 := ups_at n a i (by omega)
  refine Ev.step (fun k => by simp only [laws_heldInt64S.l0]; rw [if_pos (by omega), if_pos (by omega), rd_nat, if_pos h4, wrap_id (by omega) (by omega), wrap_id (by omega) (by omega), show a + (i : Int) + 1 = a + ((i + 1 : Nat) : Int) by omega, show (i : Int) + 1 = ((i + 1 : Nat) : Int) by omega]) ?_
  exact ih (i + 1) (by omega)
theorem heldInt64S_ev (n : Nat) (a : Int) (hl : n ≤ 35184372088832) (ha : 0 ≤ a ∧ a ≤ 35184372088832) : Ev (fun k => laws_heldInt64S.f k (ups a n) a) (a + n) := by
 have h := heldInt64S_l0 n hl a ha n 0 (by omega)
 rw [show a + ((0 : Nat) : Int) = a by omega] at h
 exact h
/-- The digits of all words. -/
def wordsOf (l : List Int) (N : Nat) : List (List Int) := (List.range N).map (fun (w : Nat) => dgs l w)
theorem wordsOf_len (l : List Int) (N : Nat) : (wordsOf l N).length = N := by unfold wordsOf; rw [List.length_map, List.length_range]
theorem wordsOf_succ (l : List Int) (N : Nat) : wordsOf l (N + 1) = wordsOf l N ++ [dgs l N] := by unfold wordsOf; rw [List.range_succ, List.map_append]; rfl
theorem wordsOf_at (l : List Int) (N i : Nat) (h : i < N) : (wordsOf l N).getD i [] = dgs l i := by
 unfold wordsOf
 rw [List.getD_eq_getElem?_getD, List.getElem?_map, List.getElem?_range h]; rfl
theorem GreedyRows_l3 (l : List Int) (N : Nat) (hN : N ≤ 1024) (cs : List (List Int)) (hcs : ∀ c ∈ cs, Ch l.length c) (hlen : cs.length ≤ 100000) (out : List Int) (b m : Int) (w : Nat) (hw : w < N) (r : List Int × Int)
  (hr : Ev (fun k => spec_GreedyRows.l2 k (wordsOf l N) cs out (if m < ((cs.filter (hasB (dgs l w))).length : Int) then (w : Int) else b) (if m < ((cs.filter (hasB (dgs l w))).length : Int) then ((cs.filter (hasB (dgs l w))).length : Int) else m) ((w + 1 : Nat) : Int) l) r) :
  ∀ (d j : Nat), j + d = cs.length → Ev (fun k => spec_GreedyRows.l3 k (wordsOf l N) cs out b m (w : Int) (((cs.take j).filter (hasB (dgs l w))).length : Int) (j : Int) l) r := by
 intro d
 have hwl := wordsOf_len l N
 induction d with
 | zero =>
  intro j hj
  have e : j = cs.length := by omega
  subst e
  rw [List.take_length]
  by_cases c : m < ((cs.filter (hasB (dgs l w))).length : Int)
  ·rw [if_pos c, if_pos c] at hr
   refine Ev.step (fun k => by simp only [spec_GreedyRows.l3]; rw [if_neg (by omega), if_pos (by omega), wrap_id (by omega) (by omega), show (w : Int) + 1 = ((w + 1 : Nat) : Int) by omega]) ?_
   exact hr
  ·rw [if_neg c, if_neg c] at hr
   refine Ev.step (fun k => by simp only [spec_GreedyRows.l3]; rw [if_neg (by omega), if_neg (by omega), wrap_id (by omega) (by omega), show (w : Int) + 1 = ((w + 1 : Nat) : Int) by omega]) ?_
   exact hr
 | succ d ih =>
  intro j hj
  have ih' := ih (j + 1) (by omega)
  have ht : cs.take (j + 1) = cs.take j ++ [cs.getD j []] := by
   rw [List.take_succ_eq_append_getElem (by omega : j < cs.length), List.getD_eq_getElem?_getD, List.getElem?_eq_getElem (by omega : j < cs.length)]; rfl
  have hfl := List.length_filter_le (hasB (dgs l w)) (cs.take j)
  have htl : (cs.take j).length ≤ j := List.length_take_le _ _
  rw [ht, List.filter_append, List.filter_cons, List.filter_nil, List.length_append] at ih'
  refine Ev.step (fun k => by simp only [spec_GreedyRows.l3]; rw [if_pos (by omega), if_pos (by omega), if_pos (by omega), if_pos (by omega), rd_L1_nat, rd_L1_nat, wordsOf_at l N w hw]) ?_
  refine Ev.bind (l10Has_ev (dgs l w) _ (by rw [dgs_length]; exact hcs _ (memL cs j (by omega)))) ?_
  cases hb : hasB (dgs l w) (cs.getD j [])
  ·rw [hb] at ih'
   refine Ev.congr (fun k => by rw [if_neg (by decide), wrap_id (x := (j : Int) + 1) (by omega) (by omega), show (j : Int) + 1 = ((j + 1 : Nat) : Int) by omega]) ?_
   exact ih'
  ·rw [hb] at ih'
   refine Ev.congr (fun k => by rw [if_pos rfl, wrap_id (x := (j : Int) + 1) (by omega) (by omega), wrap_id (by omega) (by omega), show (j : Int) + 1 = ((j + 1 : Nat) : Int) by omega]) ?_
   have e : (((cs.take j).filter (hasB (dgs l w))).length : Int) + 1 = (((cs.take j).filter (hasB (dgs l w))).length + (if true = true then [cs.getD j []] else []).length : Nat) := by
    rw [if_pos rfl, List.length_singleton]; omega
   rw [e]
   exact ih'
theorem GreedyRows_l2 (l : List Int) (N : Nat) (hN : N ≤ 1024) (cs : List (List Int)) (hcs : ∀ c ∈ cs, Ch l.length c) (hlen : cs.length ≤ 100000) (out : List Int) (r : List Int × Int) (f : Nat → Int) (hf : f = fun (i : Nat) => ((cs.filter (hasB (dgs l i))).length : Int))
  (hr : Ev (fun k => spec_GreedyRows.l2 k (wordsOf l N) cs out (bestTo f N).1 (bestTo f N).2 (N : Int) l) r) :
  ∀ (d w : Nat), w + d = N → Ev (fun k => spec_GreedyRows.l2 k (wordsOf l N) cs out (bestTo f w).1 (bestTo f w).2 (w : Int) l) r := by
 intro d
 have hwl := wordsOf_len l N
 induction d with
 | zero => intro w hw; rw [show w = N by omega]; exact hr
 | succ d ih =>
  intro w hw
  have ih' := ih (w + 1) (by omega)
  refine Ev.step (fun k => by simp only [spec_GreedyRows.l2]; rw [if_pos (by omega)]) ?_
  refine GreedyRows_l3 l N hN cs hcs hlen out _ _ w (by omega) r ?_ cs.length 0 (by omega)
  have e1 : (bestTo f (w + 1)).1 = if (bestTo f w).2 < f w then (w : Int) else (bestTo f w).1 := by show (if _ then _ else _ : Int × Int).1 = _; split <;> rfl
  have e2 : (bestTo f (w + 1)).2 = if (bestTo f w).2 < f w then f w else (bestTo f w).2 := by show (if _ then _ else _ : Int × Int).2 = _; split <;> rfl
  rw [e1, e2] at ih'
  have e3 : f w = ((cs.filter (hasB (dgs l w))).length : Int) := by rw [hf]
  rw [e3] at ih'
  exact ih'
theorem GreedyRows_l1 (l : List Int) (hl : l.length ≤ 8) (hz : Sz l) (N : Nat) (hN : N ≤ 1024) : ∀ (q : Nat) (cs : List (List Int)) (out : List Int), (∀ c ∈ cs, Ch l.length c) → cs.length ≤ 100000 → q + out.length = 201 → out.length ≤ 200 →
  Ev (fun k => spec_GreedyRows.l1 k (wordsOf l N) cs out l) (greedyC l N q cs out) := by
 intro q
 induction q with
 | zero => intro cs out _ _ h1 h2; omega
 | succ q ih =>
  intro cs out hcs hlen hq ho
  have hwl := wordsOf_len l N
  unfold greedyC
  by_cases c : 0 < cs.length
  ·rw [if_pos c]
   by_cases d : out.length = 200
   ·rw [if_pos d]
    exact Ev.step (fun k => by simp only [spec_GreedyRows.l1]; rw [if_pos (by omega), if_pos (by omega)]) (Ev.now _)
   ·rw [if_neg d]
    refine Ev.step (fun k => by simp only [spec_GreedyRows.l1]; rw [if_pos (by omega), if_neg (by omega)]) ?_
    obtain ⟨f, hf⟩ : ∃ f : Nat → Int, f = fun (i : Nat) => ((cs.filter (hasB (dgs l i))).length : Int) := ⟨_, rfl⟩
    have hb := bestTo_range f 100000 (by omega) (fun n => by rw [hf]; have := List.length_filter_le (hasB (dgs l n)) cs; show ((cs.filter (hasB (dgs l n))).length : Int) ≤ _; omega) N
    rw [← hf]
    refine GreedyRows_l2 l N hN cs hcs hlen out _ f hf ?_ N 0 (by omega)
    refine Ev.step (fun k => by simp only [spec_GreedyRows.l2]; rw [if_neg (by omega), if_pos (by omega)]) ?_
    refine Ev.bind (l10Missing_ev l hl hz [(bestTo f N).1] (fun r h => by rw [List.mem_singleton.1 h]; omega) (by simp) cs hcs hlen) ?_
    exact ih _ _ (fun c hc => hcs c (List.mem_filter.1 hc).1) (Nat.le_trans (List.length_filter_le _ _) hlen) (by rw [List.length_append, List.length_singleton]; omega) (by rw [List.length_append, List.length_singleton]; omega)
  ·rw [if_neg c]
   exact Ev.step (fun k => by simp only [spec_GreedyRows.l1]; rw [if_neg (by omega)]) (Ev.now _)
theorem GreedyRows_l0 (l : List Int) (hl : l.length ≤ 8) (hz : Sz l) (N : Nat) (hN : N ≤ 1024) (hp : pr l = N) (t : Int) (r : List Int × Int) (cs : List (List Int)) (hA : Ev (fun k => spec_l10All.f k l t) cs) (hr : Ev (fun k => spec_GreedyRows.l1 k (wordsOf l N) cs [] l) r) :
  ∀ (d w : Nat), w + d = N → Ev (fun k => spec_GreedyRows.l0 k t (wordsOf l w) (w : Int) l) r := by
 intro d
 induction d with
 | zero =>
  intro w hw
  have e : w = N := by omega
  subst e
  refine Ev.step (fun k => by simp only [spec_GreedyRows.l0]; rfl) ?_
  refine Ev.bind (l01N_ev l hl hz) ?_
  refine Ev.congr (fun k => by rw [if_neg (by omega)]) ?_
  exact Ev.bind hA hr
 | succ d ih =>
  intro w hw
  have ih' := ih (w + 1) (by omega)
  have hwl := wordsOf_len l w
  refine Ev.step (fun k => by simp only [spec_GreedyRows.l0]; rfl) ?_
  refine Ev.bind (l01N_ev l hl hz) ?_
  refine Ev.congr (fun k => by rw [if_pos (by omega)]) ?_
  refine Ev.bind (l01Digits_ev l hl hz w (by omega) (by omega)) ?_
  refine Ev.congr (fun k => by rw [if_pos (by omega), wrap_id (by omega) (by omega), ← wordsOf_succ, show (w : Int) + 1 = ((w + 1 : Nat) : Int) by omega]) ?_
  exact ih'
theorem rowsCode_nil_eq (l : List Int) (t : Int) : rowsCode l [] t = if isSp l = true then (if 1 ≤ t ∧ t ≤ 3 ∧ t ≤ l.length then 0 else 2) else 1 := by
 unfold rowsCode
 by_cases c : isSp l = true
 ·rw [if_pos c, if_pos c]
  by_cases d : 1 ≤ t ∧ t ≤ 3 ∧ t ≤ (l.length : Int)
  ·rw [if_pos d, if_neg (by simp [d])]
  ·rw [if_neg d, if_pos (Or.inr (Or.inr d))]
 ·rw [if_neg c, if_neg c]
theorem spec_GreedyRows_ev (l : List Int) (t : Int) : Ev (fun k => spec_GreedyRows.f k l t) (greedyOf l t) := by
 unfold spec_GreedyRows.f greedyOf
 refine Ev.bind (l10Code_ev l t) ?_
 rw [← rowsCode_nil_eq]
 by_cases c : rowsCode l [] t = 0
 ·obtain ⟨hz, h8, h1, hp, _, _, ht1, ht3, ht4⟩ := rowsCode_zero c
  obtain ⟨tn, rfl⟩ : ∃ tn : Nat, t = tn := ⟨t.toNat, by omega⟩
  have hpp := pr_pos hz
  obtain ⟨N, hN⟩ : ∃ N : Nat, pr l = N := ⟨(pr l).toNat, by omega⟩
  simp only [if_pos c]
  rw [show ((tn : Int)).toNat = tn by omega, hN, show ((N : Int)).toNat = N by omega]
  have hP := places_pl l tn (by omega)
  have hT := allC_len hz (places l.length tn 0) 0 hP
  have R : MarkRel (allC l (places l.length tn 0)) (List.replicate (tot l 0 (places l.length tn 0)).toNat false) (allC l (places l.length tn 0)) := ⟨fun _ => true, (List.filter_eq_self.2 (fun _ _ => rfl)).symm, by rw [List.length_replicate]; omega, fun n hn => by
   rw [List.getD_eq_getElem?_getD, List.getElem?_replicate]
   split <;> rfl⟩
  rw [ext_nil, greedy_eq hz hP N (by omega) 201 _ _ _ [] R (by omega)]
  have h := GreedyRows_l0 l h8 hz N (by omega) hN (tn : Int) (greedyC l N 201 (allC l (places l.length tn 0)) []) _ (l10All_ev l h8 hz tn (by omega)) (GreedyRows_l1 l h8 hz N (by omega) 201 _ [] (allC_ch l hz _ hP) (allC_le l h8 hz tn (by omega)) rfl (by simp)) N 0 (by omega)
  exact h
 ·simp only [if_neg c]
  exact Ev.now _
theorem greedyC_len (l : List Int) (N : Nat) : ∀ (q : Nat) (cs : List (List Int)) (out : List Int), q + out.length = 201 → (greedyC l N q cs out).1.length ≤ 201
 | 0, _, _, _ => Nat.zero_le _
 | q + 1, cs, out, h => by
  unfold greedyC
  split
  ·split
   ·exact Nat.zero_le _
   ·exact greedyC_len l N q _ _ (by rw [List.length_append, List.length_singleton]; omega)
  ·show out.length ≤ 201; omega
theorem greedyOf_len (l : List Int) (t : Int) : (greedyOf l t).1.length ≤ 201 := by
 by_cases c : rowsCode l [] t = 0
 ·obtain ⟨hz, h8, h1, hp, _, _, ht1, ht3, ht4⟩ := rowsCode_zero c
  obtain ⟨tn, rfl⟩ : ∃ tn : Nat, t = tn := ⟨t.toNat, by omega⟩
  have hpp := pr_pos hz
  obtain ⟨N, hN⟩ : ∃ N : Nat, pr l = N := ⟨(pr l).toNat, by omega⟩
  unfold greedyOf
  rw [if_pos c, show ((tn : Int)).toNat = tn by omega, hN, show ((N : Int)).toNat = N by omega]
  have hP := places_pl l tn (by omega)
  have hT := allC_len hz (places l.length tn 0) 0 hP
  have R : MarkRel (allC l (places l.length tn 0)) (List.replicate (tot l 0 (places l.length tn 0)).toNat false) (allC l (places l.length tn 0)) := ⟨fun _ => true, (List.filter_eq_self.2 (fun _ _ => rfl)).symm, by rw [List.length_replicate]; omega, fun n hn => by
   rw [List.getD_eq_getElem?_getD, List.getElem?_replicate]
   split <;> rfl⟩
  rw [ext_nil, greedy_eq hz hP N (by omega) 201 _ _ _ [] R (by omega)]
  exact greedyC_len l N 201 _ [] rfl
 ·unfold greedyOf; rw [if_neg c]; exact Nat.zero_le _
theorem law_GreedyRows (l : List Int) (t : Int) (hl : l.length ≤ maxLen) (_ : (Lit.int .i64 t).wf = true) : ∃ k, laws_FnExactGreedyRows.f k l t = some true := by
 replace hl : l.length ≤ 9223372036854775807 := hl
 refine Ev.rounds (g := fun k => laws_FnExactGreedyRows.f k l t) ?_
 unfold laws_FnExactGreedyRows.f
 refine Ev.congr (fun k => by rw [szSpace_val l 1048576 (by omega) hl, Option.bind_some]) ?_
 by_cases c2 : (l.length : Int) ≤ 1048576
 ·refine Ev.congr (fun k => by rw [if_pos c2, if_neg (by omega)]) ?_
  have hi : impl_GreedyRows.f l t = some (greedyOf l t) := rfl
  have hS := toSpace_ev l (by omega)
  have hle := greedyOf_len l t
  have hsp := spec_GreedyRows_ev l t
  obtain ⟨r, hrr⟩ : ∃ r, greedyOf l t = r := ⟨_, rfl⟩
  rw [hrr] at hle hi hsp
  obtain ⟨r1, r2⟩ := r
  simp only at hle
  have hb : ∀ x : Int, (x != x) = false := fun x => by simp
  refine Ev.bind hS ?_
  refine Ev.bind hsp ?_
  refine Ev.bind hS ?_
  refine Ev.congr (fun k => by rw [hi, Option.bind_some]) ?_
  refine Ev.bind (eqInt64S_ev r1 (by omega)) ?_
  refine Ev.congr (fun k => by rw [if_pos rfl, hb]) ?_
  refine Ev.step (fun k => by simp only [laws_FnExactGreedyRows.j0, Bool.false_eq_true, if_false]; rfl) ?_
  refine Ev.bind hS ?_
  refine Ev.bind (eqSpace_ev l (by omega)) ?_
  simp only [if_true]
  refine Ev.bind (markSpace_ev l 1 (by omega) (by omega)) ?_
  refine Ev.congr (fun k => by rw [if_neg (by omega)]) ?_
  refine Ev.bind (eqInt64S_ev r1 (by omega)) ?_
  refine Ev.congr (fun k => by rw [if_pos rfl, hb]) ?_
  refine Ev.step (fun k => by simp only [laws_FnExactGreedyRows.j1, Bool.false_eq_true, if_false]; rfl) ?_
  refine Ev.bind (markInt64S_ev r1 1 (by omega) (by omega)) ?_
  refine Ev.bind (heldInt64S_ev r1.length 1 (by omega) (by omega)) ?_
  refine Ev.congr (fun k => by rw [if_neg (by omega), if_pos rfl]) ?_
  refine Ev.bind hS ?_
  refine Ev.congr (fun k => by rw [hi, Option.bind_some]) ?_
  refine Ev.bind (eqInt64S_ev r1 (by omega)) ?_
  refine Ev.congr (fun k => by rw [if_pos rfl, hb]) ?_
  refine Ev.step (fun k => by simp only [laws_FnExactGreedyRows.j2, Bool.false_eq_true, if_false]; rfl) ?_
  refine Ev.bind (heldInt64S_ev r1.length 1 (by omega) (by omega)) ?_
  refine Ev.congr (fun k => by rw [if_neg (by omega), if_pos rfl]) ?_
  exact Ev.now _
 ·refine Ev.congr (fun k => by rw [if_neg c2, if_pos (by omega)]) (Ev.now _)
end Go.Proofs.Ytionaakahhgdjaa.P
