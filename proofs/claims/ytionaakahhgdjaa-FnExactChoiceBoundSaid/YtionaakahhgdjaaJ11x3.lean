/- What some functions of the program return, and plain facts on it; conditions: those that each theorem names. Part 3 of the proof. -/
import Derived.Test.YtionaakahhgdjaaJ11x2
import Derived.Test.YtionaakahhgdjaaJ11x1
import Derived.WalkSpells
import Derived.IntWalk
namespace Go.Proofs.Ytionaakahhgdjaa.P
open Go.RowKit Go.Proofs.YtionaakahhgdjaaW.PrintWords Go.Proofs.YtionaakahhgdjaaW.PrintLast Go.Proofs.YtionaakahhgdjaaW.PrintMore
attribute [local go_sem] max2_int min2_int max_two min_two max_three min_three max_four min_four
set_option linter.unusedVariables false
set_option linter.unusedSimpArgs false
def impl_rowsCode.f (k : Nat) (l0_0 : List Int) (l1 : List Int) (a2 : Int) : Option (Int) := (impl_IsSpace.f k l0_0).bind fun t102 => (if t102 = true then (if (l1.length : Int) > 200 then (some 2) else ((impl_areWords.f k l0_0 l1).bind fun t103 => (if t103 = true then ((impl_isStrength.f l0_0 a2).bind fun t104 => (if t104 = true then (some 0) else (some 2))) else (some 2)))) else (some 1))
set_option maxHeartbeats 8000000 in
set_option maxRecDepth 100000 in
theorem impl_rowsCode.calls (k : Nat) (A0_0 : Option Addr) (c0_0 : Nat) (l0_0 : List Int) (A1 : Option Addr) (c1 : Nat) (l1 : List Int) (a2 : Int) (r : Int) (w : World) (hr0_0 : Kd.C (Kd.int .i64) w A0_0 l0_0.length l0_0) (hc0_0 : l0_0.length ≤ c0_0) (hr1 : Kd.C (Kd.int .i64) w A1 l1.length l1) (hc1 : l1.length ≤ c1) (h : impl_rowsCode.f k l0_0 l1 a2 = some r) :
  Calls Try.prog 89 #[.agg #[.slice A0_0 l0_0.length c0_0], .slice A1 l1.length c1, .int .i64 a2] w fun e w' => e = .returned (.int .i64 r) ∧ Below w.heap.size w w' := by
 have hu28 := Try.underlying28
 have HR0_0 := Aside0.mk hr0_0
 have HC0_0 := Aside0.mk hc0_0
 clear hr0_0 hc0_0
 have HR1 := Aside0.mk hr1
 have HC1 := Aside0.mk hc1
 clear hr1 hc1
 have HB := Aside0.mk (Below.refl w.heap.size w)
 have H : ((impl_IsSpace.f k l0_0).bind fun t102 => (if t102 = true then (if (l1.length : Int) > 200 then (some 2) else ((impl_areWords.f k l0_0 l1).bind fun t103 => (if t103 = true then ((impl_isStrength.f l0_0 a2).bind fun t104 => (if t104 = true then (some 0) else (some 2))) else (some 2)))) else (some 1))) = some r := h
 clear h
 replace H := Option.bind_eq_some_iff.mp H
 obtain ⟨t102, A40, H⟩ := H
 replace H : (if t102 = true then (if (l1.length : Int) > 200 then (some 2) else ((impl_areWords.f k l0_0 l1).bind fun t103 => (if t103 = true then ((impl_isStrength.f l0_0 a2).bind fun t104 => (if t104 = true then (some 0) else (some 2))) else (some 2)))) else (some 1)) = some r := H
 have A4 := Aside0.mk A40
 clear A40
 by_cases c5 : t102 = true
 ·subst c5
  have H1 : (if (l1.length : Int) > 200 then (some 2) else ((impl_areWords.f k l0_0 l1).bind fun t103 => (if t103 = true then ((impl_isStrength.f l0_0 a2).bind fun t104 => (if t104 = true then (some 0) else (some 2))) else (some 2)))) = some r := by rw [if_pos rfl] at H; exact H
  clear H
  have H := H1
  clear H1
  by_cases c6 : (l1.length : Int) > 200
  ·rw [if_pos c6] at H
   have c6b0 : decide (200 < (l1.length : Int)) = true := decide_eq_true c6
   have c6b1 : decide (200 < l1.length) = true := decide_eq_true (by omega)
   clear c6
   obtain rfl := Option.some.inj H
   go_enter Try.func89, Try.ntmps89
   go_wp2_with (first | ((with_reducible refine gate_dst (N := 3) rfl ?_); refine box_event ?hg (N := 3) ?hd (cs := #[.slice A0_0 l0_0.length c0_0]) (t := 28) ?hr ?_; (case hd => rfl); (case hg => rfl); (case hr => first | (go_simp; done) | (go_simp; rfl)); intro gb101 hg w7 hbox hb; have n0_ := Aside0.mk (below_step (by repeat (first | (with_reducible first | exact HB.out | apply below_alloc | apply pw_below_drewN | apply below_drew1) | exact HB.out)) hb); have n1_ := Aside0.mk (hbox); have n2_ := Aside0.mk ((by rw [hg]; exact (below_size (by repeat (first | (with_reducible first | exact HB.out | apply below_alloc | apply pw_below_drewN | apply below_drew1) | exact HB.out))) : w.heap.size ≤ gb101)); have n3_ := Aside0.mk ((by rw [hg]; exact (below_size (by repeat (first | (with_reducible first | exact HB.out | apply below_alloc | apply pw_below_drewN | apply below_drew1) | exact HB.out))) : w.heap.size ≤ gb101)); clear HB; have HB := n0_; have BK101 := n1_; have GW101 := n2_; have GE101 := n3_; clear n0_ n1_ n2_ n3_; clear hb hbox hg; have hcz8_0 : w7.cell? ⟨gb101, 0, none⟩ = some (.slice A0_0 l0_0.length c0_0) := (blk_cell BK101.out 0).trans rfl; have hfz8_0 := blk_frozen BK101.out 0) | ((with_reducible refine gate_callee (f := 161) rfl ?_); refine goesL_ (some 9) rfl rfl Try.func161 (by kernel_rfl) rfl #[.agg #[.slice A0_0 l0_0.length c0_0]] rfl (by (try simp only [List.map_toArray, List.map_cons, List.map_nil]); first | done | rfl | (simp only [List.length_drop, List.length_take]; rfl)) ?_; (with_reducible refine (impl_IsSpace.calls k _ _ l0_0 true _ ?side1 ?side2 A4.out).mono ?_); (case side1 => repeat (first | exact (Kd.C_below HR0_0.out HB.out) | (with_reducible refine Kd.C_alloc ?_ _) | (with_reducible refine Kd.C_drewN ?_ _) | (with_reducible refine Kd.C_drew ?_))); (case side2 => exact HC0_0.out); rintro e w9 ⟨rfl, hb⟩; refine ⟨_, rfl, ?_⟩; have n0_ := Aside0.mk (blk_below (g := gb101) (o := .cells #[.slice A0_0 l0_0.length c0_0] 28 (0, 0)) (by (with_reducible repeat (first | refine blk_drewN ?_ _ | refine blk_drew ?_ | refine blk_alloc ?_ _)); exact BK101.out) hb); have n1_ := Aside0.mk (below_step (by repeat (first | (with_reducible first | exact HB.out | apply below_alloc | apply pw_below_drewN | apply below_drew1 | refine below_set ?_ GE101.out) | exact HB.out)) hb); clear BK101; clear HB; have BK101 := n0_; have HB := n1_; clear n0_ n1_; (try clear hb); (try clear hb2); (try clear hk); (try clear hi)))
   go_ret
   exact ⟨by first | rfl | (simp [errW_none, errW_some] <;> rfl) | (simp [*, errW_none, errW_some] <;> rfl), by repeat (first | (with_reducible first | exact HB.out | apply below_alloc | apply pw_below_drewN | apply below_drew1 | refine below_set ?_ GE101.out) | exact HB.out)⟩
  ·rw [if_neg c6] at H
   have c6b0 : decide (200 < (l1.length : Int)) = false := decide_eq_false c6
   have c6b1 : decide (200 < l1.length) = false := decide_eq_false (by omega)
   clear c6
   replace H := Option.bind_eq_some_iff.mp H
   obtain ⟨t103, A100, H⟩ := H
   replace H : (if t103 = true then ((impl_isStrength.f l0_0 a2).bind fun t104 => (if t104 = true then (some 0) else (some 2))) else (some 2)) = some r := H
   have A10 := Aside0.mk A100
   clear A100
   by_cases c11 : t103 = true
   ·subst c11
    have H1 : ((impl_isStrength.f l0_0 a2).bind fun t104 => (if t104 = true then (some 0) else (some 2))) = some r := by rw [if_pos rfl] at H; exact H
    clear H
    have H := H1
    clear H1
    replace H := Option.bind_eq_some_iff.mp H
    obtain ⟨t104, A120, H⟩ := H
    replace H : (if t104 = true then (some 0) else (some 2)) = some r := H
    have A12 := Aside0.mk A120
    clear A120
    by_cases c13 : t104 = true
    ·subst c13
     have H1 : (some 0) = some r := by rw [if_pos rfl] at H; exact H
     clear H
     have H := H1
     clear H1
     obtain rfl := Option.some.inj H
     go_enter Try.func89, Try.ntmps89
     go_wp2_with (first | ((with_reducible refine gate_dst (N := 3) rfl ?_); refine box_event ?hg (N := 3) ?hd (cs := #[.slice A0_0 l0_0.length c0_0]) (t := 28) ?hr ?_; (case hd => rfl); (case hg => rfl); (case hr => first | (go_simp; done) | (go_simp; rfl)); intro gb101 hg w14 hbox hb; have n0_ := Aside0.mk (below_step (by repeat (first | (with_reducible first | exact HB.out | apply below_alloc | apply pw_below_drewN | apply below_drew1) | exact HB.out)) hb); have n1_ := Aside0.mk (hbox); have n2_ := Aside0.mk ((by rw [hg]; exact (below_size (by repeat (first | (with_reducible first | exact HB.out | apply below_alloc | apply pw_below_drewN | apply below_drew1) | exact HB.out))) : w.heap.size ≤ gb101)); have n3_ := Aside0.mk ((by rw [hg]; exact (below_size (by repeat (first | (with_reducible first | exact HB.out | apply below_alloc | apply pw_below_drewN | apply below_drew1) | exact HB.out))) : w.heap.size ≤ gb101)); clear HB; have HB := n0_; have BK101 := n1_; have GW101 := n2_; have GE101 := n3_; clear n0_ n1_ n2_ n3_; clear hb hbox hg; have hcz15_0 : w14.cell? ⟨gb101, 0, none⟩ = some (.slice A0_0 l0_0.length c0_0) := (blk_cell BK101.out 0).trans rfl; have hfz15_0 := blk_frozen BK101.out 0) | ((with_reducible refine gate_callee (f := 161) rfl ?_); refine goesL_ (some 9) rfl rfl Try.func161 (by kernel_rfl) rfl #[.agg #[.slice A0_0 l0_0.length c0_0]] rfl (by (try simp only [List.map_toArray, List.map_cons, List.map_nil]); first | done | rfl | (simp only [List.length_drop, List.length_take]; rfl)) ?_; (with_reducible refine (impl_IsSpace.calls k _ _ l0_0 true _ ?side1 ?side2 A4.out).mono ?_); (case side1 => repeat (first | exact (Kd.C_below HR0_0.out HB.out) | (with_reducible refine Kd.C_alloc ?_ _) | (with_reducible refine Kd.C_drewN ?_ _) | (with_reducible refine Kd.C_drew ?_))); (case side2 => exact HC0_0.out); rintro e w16 ⟨rfl, hb⟩; refine ⟨_, rfl, ?_⟩; have n0_ := Aside0.mk (blk_below (g := gb101) (o := .cells #[.slice A0_0 l0_0.length c0_0] 28 (0, 0)) (by (with_reducible repeat (first | refine blk_drewN ?_ _ | refine blk_drew ?_ | refine blk_alloc ?_ _)); exact BK101.out) hb); have n1_ := Aside0.mk (below_step (by repeat (first | (with_reducible first | exact HB.out | apply below_alloc | apply pw_below_drewN | apply below_drew1 | refine below_set ?_ GE101.out) | exact HB.out)) hb); clear BK101; clear HB; have BK101 := n0_; have HB := n1_; clear n0_ n1_; (try clear hb); (try clear hb2); (try clear hk); (try clear hi); have hcz17_0 : w16.cell? ⟨gb101, 0, none⟩ = some (.slice A0_0 l0_0.length c0_0) := (blk_cell BK101.out 0).trans rfl; have hfz17_0 := blk_frozen BK101.out 0) | (go_at_call 167; (with_reducible refine (impl_areWords.calls k _ _ l0_0 _ _ l1 true _ ?side1 ?side2 ?side3 ?side4 A10.out).mono ?_); (case side1 => repeat (first | exact (Kd.C_below HR0_0.out HB.out) | (with_reducible refine Kd.C_alloc ?_ _) | (with_reducible refine Kd.C_drewN ?_ _) | (with_reducible refine Kd.C_drew ?_))); (case side2 => exact HC0_0.out); (case side3 => repeat (first | exact (Kd.C_below HR1.out HB.out) | (with_reducible refine Kd.C_alloc ?_ _) | (with_reducible refine Kd.C_drewN ?_ _) | (with_reducible refine Kd.C_drew ?_))); (case side4 => exact HC1.out); rintro e w18 ⟨rfl, hb⟩; have n0_ := Aside0.mk (blk_below (g := gb101) (o := .cells #[.slice A0_0 l0_0.length c0_0] 28 (0, 0)) (by (with_reducible repeat (first | refine blk_drewN ?_ _ | refine blk_drew ?_ | refine blk_alloc ?_ _)); exact BK101.out) hb); have n1_ := Aside0.mk (below_step (by repeat (first | (with_reducible first | exact HB.out | apply below_alloc | apply pw_below_drewN | apply below_drew1 | refine below_set ?_ GE101.out) | exact HB.out)) hb); clear BK101; clear HB; have BK101 := n0_; have HB := n1_; clear n0_ n1_; (try clear hb); (try clear hb2); (try clear hk); (try clear hi); have hcz19_0 : w18.cell? ⟨gb101, 0, none⟩ = some (.slice A0_0 l0_0.length c0_0) := (blk_cell BK101.out 0).trans rfl; have hfz19_0 := blk_frozen BK101.out 0) | (go_at_call 90; (with_reducible refine (impl_isStrength.calls _ _ l0_0 a2 true _ ?side1 ?side2 A12.out).mono ?_); (case side1 => repeat (first | exact (Kd.C_below HR0_0.out HB.out) | (with_reducible refine Kd.C_alloc ?_ _) | (with_reducible refine Kd.C_drewN ?_ _) | (with_reducible refine Kd.C_drew ?_))); (case side2 => exact HC0_0.out); rintro e w20 ⟨rfl, hb⟩; have n0_ := Aside0.mk (blk_below (g := gb101) (o := .cells #[.slice A0_0 l0_0.length c0_0] 28 (0, 0)) (by (with_reducible repeat (first | refine blk_drewN ?_ _ | refine blk_drew ?_ | refine blk_alloc ?_ _)); exact BK101.out) hb); have n1_ := Aside0.mk (below_step (by repeat (first | (with_reducible first | exact HB.out | apply below_alloc | apply pw_below_drewN | apply below_drew1 | refine below_set ?_ GE101.out) | exact HB.out)) hb); clear BK101; clear HB; have BK101 := n0_; have HB := n1_; clear n0_ n1_; (try clear hb); (try clear hb2); (try clear hk); (try clear hi)))
     go_ret
     exact ⟨by first | rfl | (simp [errW_none, errW_some] <;> rfl) | (simp [*, errW_none, errW_some] <;> rfl), by repeat (first | (with_reducible first | exact HB.out | apply below_alloc | apply pw_below_drewN | apply below_drew1 | refine below_set ?_ GE101.out) | exact HB.out)⟩
    ·replace c13 := Bool.eq_false_iff.mpr c13
     subst c13
     have H1 : (some 2) = some r := by rw [if_neg (show ¬ (false = true) by decide)] at H; exact H
     clear H
     have H := H1
     clear H1
     obtain rfl := Option.some.inj H
     go_enter Try.func89, Try.ntmps89
     go_wp2_with (first | ((with_reducible refine gate_dst (N := 3) rfl ?_); refine box_event ?hg (N := 3) ?hd (cs := #[.slice A0_0 l0_0.length c0_0]) (t := 28) ?hr ?_; (case hd => rfl); (case hg => rfl); (case hr => first | (go_simp; done) | (go_simp; rfl)); intro gb101 hg w21 hbox hb; have n0_ := Aside0.mk (below_step (by repeat (first | (with_reducible first | exact HB.out | apply below_alloc | apply pw_below_drewN | apply below_drew1) | exact HB.out)) hb); have n1_ := Aside0.mk (hbox); have n2_ := Aside0.mk ((by rw [hg]; exact (below_size (by repeat (first | (with_reducible first | exact HB.out | apply below_alloc | apply pw_below_drewN | apply below_drew1) | exact HB.out))) : w.heap.size ≤ gb101)); have n3_ := Aside0.mk ((by rw [hg]; exact (below_size (by repeat (first | (with_reducible first | exact HB.out | apply below_alloc | apply pw_below_drewN | apply below_drew1) | exact HB.out))) : w.heap.size ≤ gb101)); clear HB; have HB := n0_; have BK101 := n1_; have GW101 := n2_; have GE101 := n3_; clear n0_ n1_ n2_ n3_; clear hb hbox hg; have hcz22_0 : w21.cell? ⟨gb101, 0, none⟩ = some (.slice A0_0 l0_0.length c0_0) := (blk_cell BK101.out 0).trans rfl; have hfz22_0 := blk_frozen BK101.out 0) | ((with_reducible refine gate_callee (f := 161) rfl ?_); refine goesL_ (some 9) rfl rfl Try.func161 (by kernel_rfl) rfl #[.agg #[.slice A0_0 l0_0.length c0_0]] rfl (by (try simp only [List.map_toArray, List.map_cons, List.map_nil]); first | done | rfl | (simp only [List.length_drop, List.length_take]; rfl)) ?_; (with_reducible refine (impl_IsSpace.calls k _ _ l0_0 true _ ?side1 ?side2 A4.out).mono ?_); (case side1 => repeat (first | exact (Kd.C_below HR0_0.out HB.out) | (with_reducible refine Kd.C_alloc ?_ _) | (with_reducible refine Kd.C_drewN ?_ _) | (with_reducible refine Kd.C_drew ?_))); (case side2 => exact HC0_0.out); rintro e w23 ⟨rfl, hb⟩; refine ⟨_, rfl, ?_⟩; have n0_ := Aside0.mk (blk_below (g := gb101) (o := .cells #[.slice A0_0 l0_0.length c0_0] 28 (0, 0)) (by (with_reducible repeat (first | refine blk_drewN ?_ _ | refine blk_drew ?_ | refine blk_alloc ?_ _)); exact BK101.out) hb); have n1_ := Aside0.mk (below_step (by repeat (first | (with_reducible first | exact HB.out | apply below_alloc | apply pw_below_drewN | apply below_drew1 | refine below_set ?_ GE101.out) | exact HB.out)) hb); clear BK101; clear HB; have BK101 := n0_; have HB := n1_; clear n0_ n1_; (try clear hb); (try clear hb2); (try clear hk); (try clear hi); have hcz24_0 : w23.cell? ⟨gb101, 0, none⟩ = some (.slice A0_0 l0_0.length c0_0) := (blk_cell BK101.out 0).trans rfl; have hfz24_0 := blk_frozen BK101.out 0) | (go_at_call 167; (with_reducible refine (impl_areWords.calls k _ _ l0_0 _ _ l1 true _ ?side1 ?side2 ?side3 ?side4 A10.out).mono ?_); (case side1 => repeat (first | exact (Kd.C_below HR0_0.out HB.out) | (with_reducible refine Kd.C_alloc ?_ _) | (with_reducible refine Kd.C_drewN ?_ _) | (with_reducible refine Kd.C_drew ?_))); (case side2 => exact HC0_0.out); (case side3 => repeat (first | exact (Kd.C_below HR1.out HB.out) | (with_reducible refine Kd.C_alloc ?_ _) | (with_reducible refine Kd.C_drewN ?_ _) | (with_reducible refine Kd.C_drew ?_))); (case side4 => exact HC1.out); rintro e w25 ⟨rfl, hb⟩; have n0_ := Aside0.mk (blk_below (g := gb101) (o := .cells #[.slice A0_0 l0_0.length c0_0] 28 (0, 0)) (by (with_reducible repeat (first | refine blk_drewN ?_ _ | refine blk_drew ?_ | refine blk_alloc ?_ _)); exact BK101.out) hb); have n1_ := Aside0.mk (below_step (by repeat (first | (with_reducible first | exact HB.out | apply below_alloc | apply pw_below_drewN | apply below_drew1 | refine below_set ?_ GE101.out) | exact HB.out)) hb); clear BK101; clear HB; have BK101 := n0_; have HB := n1_; clear n0_ n1_; (try clear hb); (try clear hb2); (try clear hk); (try clear hi); have hcz26_0 : w25.cell? ⟨gb101, 0, none⟩ = some (.slice A0_0 l0_0.length c0_0) := (blk_cell BK101.out 0).trans rfl; have hfz26_0 := blk_frozen BK101.out 0) | (go_at_call 90; (with_reducible refine (impl_isStrength.calls _ _ l0_0 a2 false _ ?side1 ?side2 A12.out).mono ?_); (case side1 => repeat (first | exact (Kd.C_below HR0_0.out HB.out) | (with_reducible refine Kd.C_alloc ?_ _) | (with_reducible refine Kd.C_drewN ?_ _) | (with_reducible refine Kd.C_drew ?_))); (case side2 => exact HC0_0.out); rintro e w27 ⟨rfl, hb⟩; have n0_ := Aside0.mk (blk_below (g := gb101) (o := .cells #[.slice A0_0 l0_0.length c0_0] 28 (0, 0)) (by (with_reducible repeat (first | refine blk_drewN ?_ _ | refine blk_drew ?_ | refine blk_alloc ?_ _)); exact BK101.out) hb); have n1_ := Aside0.mk (below_step (by repeat (first | (with_reducible first | exact HB.out | apply below_alloc | apply pw_below_drewN | apply below_drew1 | refine below_set ?_ GE101.out) | exact HB.out)) hb); clear BK101; clear HB; have BK101 := n0_; have HB := n1_; clear n0_ n1_; (try clear hb); (try clear hb2); (try clear hk); (try clear hi)))
     go_ret
     exact ⟨by first | rfl | (simp [errW_none, errW_some] <;> rfl) | (simp [*, errW_none, errW_some] <;> rfl), by repeat (first | (with_reducible first | exact HB.out | apply below_alloc | apply pw_below_drewN | apply below_drew1 | refine below_set ?_ GE101.out) | exact HB.out)⟩
   ·replace c11 := Bool.eq_false_iff.mpr c11
    subst c11
    have H1 : (some 2) = some r := by rw [if_neg (show ¬ (false = true) by decide)] at H; exact H
    clear H
    have H := H1
    clear H1
    obtain rfl := Option.some.inj H
    go_enter Try.func89, Try.ntmps89
    go_wp2_with (first | ((with_reducible refine gate_dst (N := 3) rfl ?_); refine box_event ?hg (N := 3) ?hd (cs := #[.slice A0_0 l0_0.length c0_0]) (t := 28) ?hr ?_; (case hd => rfl); (case hg => rfl); (case hr => first | (go_simp; done) | (go_simp; rfl)); intro gb101 hg w28 hbox hb; have n0_ := Aside0.mk (below_step (by repeat (first | (with_reducible first | exact HB.out | apply below_alloc | apply pw_below_drewN | apply below_drew1) | exact HB.out)) hb); have n1_ := Aside0.mk (hbox); have n2_ := Aside0.mk ((by rw [hg]; exact (below_size (by repeat (first | (with_reducible first | exact HB.out | apply below_alloc | apply pw_below_drewN | apply below_drew1) | exact HB.out))) : w.heap.size ≤ gb101)); have n3_ := Aside0.mk ((by rw [hg]; exact (below_size (by repeat (first | (with_reducible first | exact HB.out | apply below_alloc | apply pw_below_drewN | apply below_drew1) | exact HB.out))) : w.heap.size ≤ gb101)); clear HB; have HB := n0_; have BK101 := n1_; have GW101 := n2_; have GE101 := n3_; clear n0_ n1_ n2_ n3_; clear hb hbox hg; have hcz29_0 : w28.cell? ⟨gb101, 0, none⟩ = some (.slice A0_0 l0_0.length c0_0) := (blk_cell BK101.out 0).trans rfl; have hfz29_0 := blk_frozen BK101.out 0) | ((with_reducible refine gate_callee (f := 161) rfl ?_); refine goesL_ (some 9) rfl rfl Try.func161 (by kernel_rfl) rfl #[.agg #[.slice A0_0 l0_0.length c0_0]] rfl (by (try simp only [List.map_toArray, List.map_cons, List.map_nil]); first | done | rfl | (simp only [List.length_drop, List.length_take]; rfl)) ?_; (with_reducible refine (impl_IsSpace.calls k _ _ l0_0 true _ ?side1 ?side2 A4.out).mono ?_); (case side1 => repeat (first | exact (Kd.C_below HR0_0.out HB.out) | (with_reducible refine Kd.C_alloc ?_ _) | (with_reducible refine Kd.C_drewN ?_ _) | (with_reducible refine Kd.C_drew ?_))); (case side2 => exact HC0_0.out); rintro e w30 ⟨rfl, hb⟩; refine ⟨_, rfl, ?_⟩; have n0_ := Aside0.mk (blk_below (g := gb101) (o := .cells #[.slice A0_0 l0_0.length c0_0] 28 (0, 0)) (by (with_reducible repeat (first | refine blk_drewN ?_ _ | refine blk_drew ?_ | refine blk_alloc ?_ _)); exact BK101.out) hb); have n1_ := Aside0.mk (below_step (by repeat (first | (with_reducible first | exact HB.out | apply below_alloc | apply pw_below_drewN | apply below_drew1 | refine below_set ?_ GE101.out) | exact HB.out)) hb); clear BK101; clear HB; have BK101 := n0_; have HB := n1_; clear n0_ n1_; (try clear hb); (try clear hb2); (try clear hk); (try clear hi); have hcz31_0 : w30.cell? ⟨gb101, 0, none⟩ = some (.slice A0_0 l0_0.length c0_0) := (blk_cell BK101.out 0).trans rfl; have hfz31_0 := blk_frozen BK101.out 0) | (go_at_call 167; (with_reducible refine (impl_areWords.calls k _ _ l0_0 _ _ l1 false _ ?side1 ?side2 ?side3 ?side4 A10.out).mono ?_); (case side1 => repeat (first | exact (Kd.C_below HR0_0.out HB.out) | (with_reducible refine Kd.C_alloc ?_ _) | (with_reducible refine Kd.C_drewN ?_ _) | (with_reducible refine Kd.C_drew ?_))); (case side2 => exact HC0_0.out); (case side3 => repeat (first | exact (Kd.C_below HR1.out HB.out) | (with_reducible refine Kd.C_alloc ?_ _) | (with_reducible refine Kd.C_drewN ?_ _) | (with_reducible refine Kd.C_drew ?_))); (case side4 => exact HC1.out); rintro e w32 ⟨rfl, hb⟩; have n0_ := Aside0.mk (blk_below (g := gb101) (o := .cells #[.slice A0_0 l0_0.length c0_0] 28 (0, 0)) (by (with_reducible repeat (first | refine blk_drewN ?_ _ | refine blk_drew ?_ | refine blk_alloc ?_ _)); exact BK101.out) hb); have n1_ := Aside0.mk (below_step (by repeat (first | (with_reducible first | exact HB.out | apply below_alloc | apply pw_below_drewN | apply below_drew1 | refine below_set ?_ GE101.out) | exact HB.out)) hb); clear BK101; clear HB; have BK101 := n0_; have HB := n1_; clear n0_ n1_; (try clear hb); (try clear hb2); (try clear hk); (try clear hi)))
    go_ret
    exact ⟨by first | rfl | (simp [errW_none, errW_some] <;> rfl) | (simp [*, errW_none, errW_some] <;> rfl), by repeat (first | (with_reducible first | exact HB.out | apply below_alloc | apply pw_below_drewN | apply below_drew1 | refine below_set ?_ GE101.out) | exact HB.out)⟩
 ·replace c5 := Bool.eq_false_iff.mpr c5
  subst c5
  have H1 : (some 1) = some r := by rw [if_neg (show ¬ (false = true) by decide)] at H; exact H
  clear H
  have H := H1
  clear H1
  obtain rfl := Option.some.inj H
  go_enter Try.func89, Try.ntmps89
  go_wp2_with (first | ((with_reducible refine gate_dst (N := 3) rfl ?_); refine box_event ?hg (N := 3) ?hd (cs := #[.slice A0_0 l0_0.length c0_0]) (t := 28) ?hr ?_; (case hd => rfl); (case hg => rfl); (case hr => first | (go_simp; done) | (go_simp; rfl)); intro gb101 hg w33 hbox hb; have n0_ := Aside0.mk (below_step (by repeat (first | (with_reducible first | exact HB.out | apply below_alloc | apply pw_below_drewN | apply below_drew1) | exact HB.out)) hb); have n1_ := Aside0.mk (hbox); have n2_ := Aside0.mk ((by rw [hg]; exact (below_size (by repeat (first | (with_reducible first | exact HB.out | apply below_alloc | apply pw_below_drewN | apply below_drew1) | exact HB.out))) : w.heap.size ≤ gb101)); have n3_ := Aside0.mk ((by rw [hg]; exact (below_size (by repeat (first | (with_reducible first | exact HB.out | apply below_alloc | apply pw_below_drewN | apply below_drew1) | exact HB.out))) : w.heap.size ≤ gb101)); clear HB; have HB := n0_; have BK101 := n1_; have GW101 := n2_; have GE101 := n3_; clear n0_ n1_ n2_ n3_; clear hb hbox hg; have hcz34_0 : w33.cell? ⟨gb101, 0, none⟩ = some (.slice A0_0 l0_0.length c0_0) := (blk_cell BK101.out 0).trans rfl; have hfz34_0 := blk_frozen BK101.out 0) | ((with_reducible refine gate_callee (f := 161) rfl ?_); refine goesL_ (some 9) rfl rfl Try.func161 (by kernel_rfl) rfl #[.agg #[.slice A0_0 l0_0.length c0_0]] rfl (by (try simp only [List.map_toArray, List.map_cons, List.map_nil]); first | done | rfl | (simp only [List.length_drop, List.length_take]; rfl)) ?_; (with_reducible refine (impl_IsSpace.calls k _ _ l0_0 false _ ?side1 ?side2 A4.out).mono ?_); (case side1 => repeat (first | exact (Kd.C_below HR0_0.out HB.out) | (with_reducible refine Kd.C_alloc ?_ _) | (with_reducible refine Kd.C_drewN ?_ _) | (with_reducible refine Kd.C_drew ?_))); (case side2 => exact HC0_0.out); rintro e w35 ⟨rfl, hb⟩; refine ⟨_, rfl, ?_⟩; have n0_ := Aside0.mk (blk_below (g := gb101) (o := .cells #[.slice A0_0 l0_0.length c0_0] 28 (0, 0)) (by (with_reducible repeat (first | refine blk_drewN ?_ _ | refine blk_drew ?_ | refine blk_alloc ?_ _)); exact BK101.out) hb); have n1_ := Aside0.mk (below_step (by repeat (first | (with_reducible first | exact HB.out | apply below_alloc | apply pw_below_drewN | apply below_drew1 | refine below_set ?_ GE101.out) | exact HB.out)) hb); clear BK101; clear HB; have BK101 := n0_; have HB := n1_; clear n0_ n1_; (try clear hb); (try clear hb2); (try clear hk); (try clear hi)))
  go_ret
  exact ⟨by first | rfl | (simp [errW_none, errW_some] <;> rfl) | (simp [*, errW_none, errW_some] <;> rfl), by repeat (first | (with_reducible first | exact HB.out | apply below_alloc | apply pw_below_drewN | apply below_drew1 | refine below_set ?_ GE101.out) | exact HB.out)⟩
open Go.Proofs.Ytionaakahhgdjaa.M
theorem wrap_id {x : Int} (h0 : -9223372036854775808 ≤ x) (h1 : x ≤ 9223372036854775807) : wrap64 x = x := by
 unfold wrap64
 omega
theorem rd_nat (l : List Int) (i : Nat) : rd l (i : Int) = l.getD i 0 := rfl
theorem drop_get (l : List Int) (i : Nat) (h : i < l.length) : l.drop i = l.getD i 0 :: l.drop (i + 1) := drop_at l i h 0
/-- A space's sizes. -/
def isSp (l : List Int) : Bool := decide (1 ≤ l.length ∧ l.length ≤ 8 ∧ (∀ q ∈ l, 2 ≤ q ∧ q ≤ 4) ∧ pr l ≤ 1024)
theorem pow4 (n : Nat) : (1 : Int) ≤ 4 ^ n := by
 induction n with
 | zero => exact Int.le_refl 1
 | succ n ih => rw [Int.pow_succ]; omega
theorem IsSpace_l0 (l : List Int) (hl : l.length ≤ 8) : ∀ (d k i : Nat) (x : Int), i + d = l.length → d < k → 1 ≤ x → x * 4 ^ d ≤ 65536 →
  impl_IsSpace.l0 k x l (l.length : Int) (i : Int) = some (decide ((∀ q ∈ l.drop i, 2 ≤ q ∧ q ≤ 4) ∧ x * pr (l.drop i) ≤ 1024)) := by
 intro d
 induction d with
 | zero =>
  intro k i x hi hk h0 h1
  obtain ⟨k, rfl⟩ : ∃ m, k = m + 1 := ⟨k - 1, by omega⟩
  simp only [impl_IsSpace.l0]
  rw [if_neg (by omega), List.drop_of_length_le (by omega), pr_nil, Int.mul_one]
  simp
 | succ d ih =>
  intro k i x hi hk h0 h1
  obtain ⟨k, rfl⟩ : ∃ m, k = m + 1 := ⟨k - 1, by omega⟩
  simp only [impl_IsSpace.l0]
  rw [if_pos (by omega), if_pos (by omega), if_pos (by omega), rd_nat, drop_get l i (by omega), pr_cons]
  obtain ⟨q, hq⟩ : ∃ q, q = l.getD i 0 := ⟨_, rfl⟩
  rw [← hq]
  have h4 := pow4 d
  by_cases c1 : q < 2
  ·rw [if_pos c1]
   refine congrArg some (Eq.symm (decide_eq_false (fun h => ?_)))
   have := h.1 q List.mem_cons_self
   omega
  ·rw [if_neg c1]
   by_cases c2 : q > 4
   ·rw [if_pos c2]
    refine congrArg some (Eq.symm (decide_eq_false (fun h => ?_)))
    have := h.1 q List.mem_cons_self
    omega
   ·rw [if_neg c2]
    rw [Int.pow_succ, Int.mul_comm (4 ^ d) 4, ← Int.mul_assoc] at h1
    have hx4 : x * q ≤ x * 4 := Int.mul_le_mul_of_nonneg_left (by omega) (by omega)
    have hx1 : x * 1 ≤ x * q := Int.mul_le_mul_of_nonneg_left (by omega) (by omega)
    have hb : x * q * 4 ^ d ≤ x * 4 * 4 ^ d := Int.mul_le_mul_of_nonneg_right hx4 (by omega)
    have hb2 : x * q * 1 ≤ x * q * 4 ^ d := Int.mul_le_mul_of_nonneg_left h4 (by omega)
    rw [wrap_id (by omega) (by omega), wrap_id (by omega) (by omega), show (i : Int) + 1 = ((i + 1 : Nat) : Int) by omega, ih k (i + 1) (x * q) (by omega) (by omega) (by omega) (by omega), Int.mul_assoc]
    refine congrArg some (decide_eq_decide.2 ⟨fun h => ⟨fun p hp => ?_, h.2⟩, fun h => ⟨fun p hp => h.1 p (List.mem_cons_of_mem _ hp), h.2⟩⟩)
    rcases List.mem_cons.1 hp with rfl | hp
    ·omega
    ·exact h.1 p hp
theorem IsSpace_ev (l : List Int) : Ev (fun k => impl_IsSpace.f k l) (isSp l) := by
 refine ⟨11, fun k hk => ?_⟩
 obtain ⟨k, rfl⟩ : ∃ m, k = m + 1 := ⟨k - 1, by omega⟩
 show impl_IsSpace.f (k + 1) l = some (isSp l)
 unfold impl_IsSpace.f isSp
 by_cases c1 : (l.length : Int) < 1
 ·rw [if_pos c1]
  simp only [impl_IsSpace.j0, if_true]
  exact congrArg some (Eq.symm (decide_eq_false (fun h => by omega)))
 ·rw [if_neg c1]
  simp only [impl_IsSpace.j0]
  by_cases c2 : (l.length : Int) > 8
  ·rw [if_pos (by simpa using c2)]
   exact congrArg some (Eq.symm (decide_eq_false (fun h => by omega)))
  ·rw [if_neg (by simpa using c2)]
   have h4 : (1 : Int) * 4 ^ l.length ≤ 65536 := by
    rw [Int.one_mul]
    have h8 : l.length ≤ 8 := by omega
    generalize l.length = n at h8
    rcases n with _|_|_|_|_|_|_|_|_|n <;> first | decide | omega
   have := IsSpace_l0 l (by omega) l.length k 0 1 (by omega) (by omega) (by omega) h4
   rw [List.drop_zero, Int.one_mul] at this
   rw [show (0 : Int) = ((0 : Nat) : Int) from rfl, this]
   exact congrArg some (decide_eq_decide.2 ⟨fun h => ⟨by omega, by omega, h⟩, fun h => h.2.2⟩)
theorem isSp_sz {l : List Int} (h : isSp l = true) : 1 ≤ l.length ∧ l.length ≤ 8 ∧ Sz l ∧ pr l ≤ 1024 := by
 unfold isSp at h
 have h2 := of_decide_eq_true h
 exact ⟨h2.1, h2.2.1, h2.2.2.1, h2.2.2.2⟩
theorem count_l0 (l : List Int) (hl : l.length ≤ 8) (hz : Sz l) : ∀ (d k i : Nat) (x : Int), i + d = l.length → d < k → 1 ≤ x → x * 4 ^ d ≤ 65536 →
  impl_count.l0 k x l (l.length : Int) (i : Int) = some (x * pr (l.drop i)) := by
 intro d
 induction d with
 | zero =>
  intro k i x hi hk h0 h1
  obtain ⟨k, rfl⟩ : ∃ m, k = m + 1 := ⟨k - 1, by omega⟩
  simp only [impl_count.l0]
  rw [if_neg (by omega), List.drop_of_length_le (by omega), pr_nil, Int.mul_one]
 | succ d ih =>
  intro k i x hi hk h0 h1
  obtain ⟨k, rfl⟩ : ∃ m, k = m + 1 := ⟨k - 1, by omega⟩
  simp only [impl_count.l0]
  have hq0 : 2 ≤ l.getD i 0 ∧ l.getD i 0 ≤ 4 := hz _ (by rw [List.getD_eq_getElem?_getD, List.getElem?_eq_getElem (show i < l.length by omega)]; exact List.getElem_mem _)
  rw [if_pos (by omega), if_pos (by omega), if_pos (by omega), rd_nat, drop_get l i (by omega), pr_cons]
  obtain ⟨q, hq⟩ : ∃ q, q = l.getD i 0 := ⟨_, rfl⟩
  have hq1 : 2 ≤ q ∧ q ≤ 4 := by rw [hq]; exact hq0
  rw [← hq]
  have h4 := pow4 d
  rw [Int.pow_succ, Int.mul_comm (4 ^ d) 4, ← Int.mul_assoc] at h1
  have hx4 : x * q ≤ x * 4 := Int.mul_le_mul_of_nonneg_left (by omega) (by omega)
  have hx1 : x * 1 ≤ x * q := Int.mul_le_mul_of_nonneg_left (by omega) (by omega)
  have hb : x * q * 4 ^ d ≤ x * 4 * 4 ^ d := Int.mul_le_mul_of_nonneg_right hx4 (by omega)
  have hb2 : x * q * 1 ≤ x * q * 4 ^ d := Int.mul_le_mul_of_nonneg_left h4 (by omega)
  rw [wrap_id (by omega) (by omega), wrap_id (by omega) (by omega), show (i : Int) + 1 = ((i + 1 : Nat) : Int) by omega, ih k (i + 1) (x * q) (by omega) (by omega) (by omega) (by omega), Int.mul_assoc]
theorem pow4_8 (n : Nat) (h8 : n ≤ 8) : (1 : Int) * 4 ^ n ≤ 65536 := by
 rw [Int.one_mul]
 rcases n with _|_|_|_|_|_|_|_|_|n <;> first | decide | omega
theorem count_ev (l : List Int) (hl : l.length ≤ 8) (hz : Sz l) : Ev (fun k => impl_count.f k l) (pr l) := by
 refine ⟨11, fun k hk => ?_⟩
 have := count_l0 l hl hz l.length k 0 1 (by omega) (by omega) (by omega) (pow4_8 _ hl)
 rw [List.drop_zero, Int.one_mul] at this
 exact this
theorem areWords_l0 (n : Int) (rows : List Int) (hr : rows.length ≤ 140737488351232) : ∀ (d k i : Nat), i + d = rows.length → d < k →
  impl_areWords.l0 k n rows (rows.length : Int) (i : Int) = some (decide (∀ r ∈ rows.drop i, 0 ≤ r ∧ r < n)) := by
 intro d
 induction d with
 | zero =>
  intro k i hi hk
  obtain ⟨k, rfl⟩ : ∃ m, k = m + 1 := ⟨k - 1, by omega⟩
  simp only [impl_areWords.l0]
  rw [if_neg (by omega), List.drop_of_length_le (by omega)]
  simp
 | succ d ih =>
  intro k i hi hk
  obtain ⟨k, rfl⟩ : ∃ m, k = m + 1 := ⟨k - 1, by omega⟩
  simp only [impl_areWords.l0]
  rw [if_pos (by omega), if_pos (by omega), if_pos (by omega), rd_nat, drop_get rows i (by omega)]
  obtain ⟨q, hq⟩ : ∃ q, q = rows.getD i 0 := ⟨_, rfl⟩
  rw [← hq]
  by_cases c1 : q < 0
  ·rw [if_pos c1]
   refine congrArg some (Eq.symm (decide_eq_false (fun h => ?_)))
   have := h q List.mem_cons_self
   omega
  ·rw [if_neg c1]
   by_cases c2 : q ≥ n
   ·rw [if_pos c2]
    refine congrArg some (Eq.symm (decide_eq_false (fun h => ?_)))
    have := h q List.mem_cons_self
    omega
   ·rw [if_neg c2, wrap_id (by omega) (by omega), show (i : Int) + 1 = ((i + 1 : Nat) : Int) by omega, ih k (i + 1) (by omega) (by omega)]
    refine congrArg some (decide_eq_decide.2 ⟨fun h p hp => ?_, fun h p hp => h p (List.mem_cons_of_mem _ hp)⟩)
    rcases List.mem_cons.1 hp with rfl | hp
    ·omega
    ·exact h p hp
theorem areWords_ev (l rows : List Int) (hl : l.length ≤ 8) (hz : Sz l) (hr : rows.length ≤ 140737488351232) : Ev (fun k => impl_areWords.f k l rows) (decide (∀ r ∈ rows, 0 ≤ r ∧ r < pr l)) := by
 unfold impl_areWords.f
 refine Ev.bind (count_ev l hl hz) ⟨rows.length + 1, fun k hk => ?_⟩
 have := areWords_l0 (pr l) rows hr rows.length k 0 (by omega) (by omega)
 rw [List.drop_zero] at this
 exact this
theorem isStrength_val (l : List Int) (t : Int) : impl_isStrength.f l t = some (decide (1 ≤ t ∧ t ≤ 3 ∧ t ≤ l.length)) := by
 unfold impl_isStrength.f impl_places.f
 by_cases c : t ≥ 1
 ·rw [if_pos c, Option.bind_some]
  refine congrArg some (decide_eq_decide.2 ?_)
  unfold mn
  constructor
  ·intro h; split at h <;> omega
  ·intro h; split <;> omega
 ·rw [if_neg c]
  exact congrArg some (Eq.symm (decide_eq_false (fun h => c h.1)))
/-- The code of a space, rows and a number of places. -/
def rowsCode (l rows : List Int) (t : Int) : Int := if isSp l = true then (if rows.length > 200 ∨ ¬ (∀ r ∈ rows, 0 ≤ r ∧ r < pr l) ∨ ¬ (1 ≤ t ∧ t ≤ 3 ∧ t ≤ l.length) then 2 else 0) else 1
theorem rowsCode_ev (l rows : List Int) (t : Int) (hr : rows.length ≤ 140737488351232) : Ev (fun k => impl_rowsCode.f k l rows t) (rowsCode l rows t) := by
 unfold impl_rowsCode.f rowsCode
 refine Ev.bind (IsSpace_ev l) ?_
 by_cases c : isSp l = true
 ·rw [c]
  obtain ⟨h1, h2, h3, h4⟩ := isSp_sz c
  simp only [if_true]
  by_cases c2 : (rows.length : Int) > 200
  ·simp only [if_pos c2]
   rw [if_pos (Or.inl (by omega))]
   exact Ev.now _
  ·simp only [if_neg c2]
   refine Ev.bind (areWords_ev l rows h2 h3 hr) ?_
   by_cases c3 : ∀ r ∈ rows, 0 ≤ r ∧ r < pr l
   ·simp only [decide_eq_true c3, if_true, isStrength_val, Option.bind_some]
    by_cases c4 : 1 ≤ t ∧ t ≤ 3 ∧ t ≤ l.length
    ·rw [decide_eq_true c4]
     simp only [if_true]
     rw [if_neg (fun h => by rcases h with h | h | h; (· omega); (· exact h c3); (· exact h c4))]
     exact Ev.now _
    ·rw [decide_eq_false c4]
     simp only [Bool.false_eq_true, if_false]
     rw [if_pos (Or.inr (Or.inr c4))]
     exact Ev.now _
   ·simp only [decide_eq_false c3, Bool.false_eq_true, if_false]
    rw [if_pos (Or.inr (Or.inl c3))]
    exact Ev.now _
 ·rw [Bool.not_eq_true] at c
  rw [c]
  simp only [Bool.false_eq_true, if_false]
  exact Ev.now _
theorem cmpLess_val (a b : Int) : cmp_Less_int64.f a b = some (decide (a < b)) := by
 unfold cmp_Less_int64.f cmp_isNaN_int64.f
 simp
theorem getD_mid (xs : List Int) (x : Int) (ys : List Int) : (xs ++ x :: ys).getD xs.length 0 = x := by
 rw [List.getD_eq_getElem?_getD, List.getElem?_append_right (Nat.le_refl _), Nat.sub_self]; rfl
theorem set_mid (xs : List Int) (x y : Int) (ys : List Int) : (xs ++ x :: ys).set xs.length y = xs ++ y :: ys := by
 rw [List.set_append_right _ _ (Nat.le_refl _), Nat.sub_self]; rfl
theorem insert_l1 (rest : List Int) (n i : Nat) (hi : i ≤ 1000000) : ∀ (m : Nat) (xs ys : List Int) (x : Int), xs.length = m → xs.length + ys.length + rest.length ≤ 1000000 → Asc xs → Asc ys → (∀ y ∈ ys, x < y) → (∀ a ∈ xs, ∀ y ∈ ys, a ≤ y) →
  ∃ zs, zs.Perm (xs ++ x :: ys) ∧ Asc zs ∧ ∀ r, Ev (fun k => slices_insertionSortOrdered_int64.l0 k (zs ++ rest) 0 (n : Int) ((i + 1 : Nat) : Int)) r → Ev (fun k => slices_insertionSortOrdered_int64.l1 k (xs ++ x :: ys ++ rest) 0 (n : Int) (i : Int) (xs.length : Int)) r := by
 intro m
 induction m with
 | zero =>
  intro xs ys x hm hl hxs hys h1 h2
  have e : xs = [] := List.length_eq_zero_iff.1 hm
  subst e
  refine ⟨x :: ys, List.Perm.refl _, List.pairwise_cons.2 ⟨fun y hy => Int.le_of_lt (h1 y hy), hys⟩, fun r hr => ?_⟩
  refine Ev.step (fun k => by simp only [slices_insertionSortOrdered_int64.l1]; rw [if_neg (by show ¬ ((0 : Nat) : Int) > 0; omega), wrap_id (by omega) (by omega), show (i : Int) + 1 = ((i + 1 : Nat) : Int) by omega]) ?_
  exact hr
 | succ m ih =>
  intro xs ys x hm hl hxs hys h1 h2
  obtain ⟨xs', y, rfl⟩ : ∃ xs' y, xs = xs' ++ [y] := ⟨xs.dropLast, xs.getLast (by intro e; subst e; simp at hm), (List.dropLast_concat_getLast _).symm⟩
  have hm' : xs'.length = m := by simpa using hm
  have hlen : (xs' ++ [y]).length = xs'.length + 1 := by simp
  obtain ⟨ha1, _, ha3⟩ := List.pairwise_append.1 hxs
  have e1 : xs' ++ [y] ++ x :: ys ++ rest = (xs' ++ [y]) ++ x :: (ys ++ rest) := by simp
  have e2 : xs' ++ [y] ++ x :: ys ++ rest = xs' ++ y :: (x :: (ys ++ rest)) := by simp
  have g1 : rd (xs' ++ [y] ++ x :: ys ++ rest) ((xs' ++ [y]).length : Int) = x := by
   rw [rd_nat, e1]; exact getD_mid _ _ _
  have g2 : rd (xs' ++ [y] ++ x :: ys ++ rest) (xs'.length : Int) = y := by
   rw [rd_nat, e2]; exact getD_mid _ _ _
  have hL : (xs' ++ [y] ++ x :: ys ++ rest).length = xs'.length + 2 + ys.length + rest.length := by simp; omega
  have w1 : wrap64 (((xs' ++ [y]).length : Int) - 1) = (xs'.length : Int) := by rw [hlen, wrap_id (by omega) (by omega)]; omega
  by_cases c : x < y
  ·obtain ⟨zs, hp, hs, hk⟩ := ih xs' (y :: ys) x hm' (by simp at hl ⊢; omega) ha1 (List.pairwise_cons.2 ⟨fun z hz => h2 y (by simp) z hz, hys⟩) (fun z hz => (List.mem_cons.1 hz).elim (fun e => by rw [e]; exact c) (h1 z)) (fun a ha z hz => (List.mem_cons.1 hz).elim (fun e => by rw [e]; exact ha3 a ha y (by simp)) (h2 a (by simp [ha]) z))
   refine ⟨zs, hp.trans ?_, hs, fun r hr => ?_⟩
   ·rw [List.append_assoc]
    exact List.Perm.append_left xs' (List.Perm.swap y x ys)
   ·refine Ev.step (fun k => by simp only [slices_insertionSortOrdered_int64.l1]; rw [if_pos (by rw [hlen]; omega), if_pos (by omega), if_pos (by omega), w1, if_pos (by omega), if_pos (by omega), g1, g2, cmpLess_val, decide_eq_true c, Option.bind_some, if_pos rfl]) ?_
    have e3 : (((xs' ++ [y] ++ x :: ys ++ rest).set ((xs' ++ [y]).length : Int).toNat y).set ((xs'.length : Int)).toNat x) = xs' ++ x :: (y :: ys) ++ rest := by
     rw [show (((xs' ++ [y]).length : Int)).toNat = (xs' ++ [y]).length by omega, show ((xs'.length : Int)).toNat = xs'.length by omega, e1, set_mid, List.append_assoc, show [y] ++ y :: (ys ++ rest) = y :: (y :: (ys ++ rest)) from rfl, set_mid]
     simp
    rw [e3]
    exact hk r hr
  ·refine ⟨xs' ++ [y] ++ x :: ys, List.Perm.refl _, ?_, fun r hr => ?_⟩
   ·refine List.pairwise_append.2 ⟨hxs, List.pairwise_cons.2 ⟨fun z hz => Int.le_of_lt (h1 z hz), hys⟩, fun a ha z hz => ?_⟩
    have hay : a ≤ y := by
     rcases List.mem_append.1 ha with ha | ha
     ·exact ha3 a ha y (by simp)
     ·rw [List.mem_singleton.1 ha]; exact Int.le_refl _
    rcases List.mem_cons.1 hz with e | hz
    ·omega
    ·exact h2 a ha z hz
   ·refine Ev.step (fun k => by simp only [slices_insertionSortOrdered_int64.l1]; rw [if_pos (by rw [hlen]; omega), if_pos (by omega), if_pos (by omega), w1, if_pos (by omega), if_pos (by omega), g1, g2, cmpLess_val, decide_eq_false c, Option.bind_some, if_neg (by decide), wrap_id (by omega) (by omega), show (i : Int) + 1 = ((i + 1 : Nat) : Int) by omega]) ?_
    exact hr
theorem insert_l0 (n : Nat) : ∀ (rest zs : List Int), zs.length + rest.length = n → n ≤ 1000000 → Asc zs → ∃ r, r.Perm (zs ++ rest) ∧ Asc r ∧ Ev (fun k => slices_insertionSortOrdered_int64.l0 k (zs ++ rest) 0 (n : Int) (zs.length : Int)) r
 | [], zs, h, _, hs => ⟨zs, by rw [List.append_nil], hs, Ev.step (fun k => by simp only [slices_insertionSortOrdered_int64.l0]; rw [if_neg (by simp at h; omega), List.append_nil]) (Ev.now _)⟩
 | x :: rest, zs, h, hn, hs => by
  rw [List.length_cons] at h
  obtain ⟨zs', hp, hs', hk⟩ := insert_l1 rest n zs.length (by omega) zs.length zs [] x rfl (by simp; omega) hs List.Pairwise.nil (fun y hy => by cases hy) (fun a _ y hy => by cases hy)
  have hl : zs'.length = zs.length + 1 := by have := hp.length_eq; simpa using this
  obtain ⟨r, hr1, hr2, hr3⟩ := insert_l0 n rest zs' (by omega) hn hs'
  rw [hl] at hr3
  refine ⟨r, hr1.trans ?_, hr2, ?_⟩
  ·have h2 := hp.append_right rest
   simpa using h2
  ·have h3 := hk r hr3
   refine Ev.step (fun k => by simp only [slices_insertionSortOrdered_int64.l0]; rw [if_pos (by omega)]) ?_
   simpa using h3
theorem insertionSort_ev (l : List Int) (hl : l.length ≤ 1000000) : Ev (fun k => slices_insertionSortOrdered_int64.f k l 0 (l.length : Int)) (srt l) := by
 unfold slices_insertionSortOrdered_int64.f
 rw [wrap_id (by omega) (by omega)]
 cases l with
 | nil =>
  have e : srt [] = [] := (srt_perm []).eq_nil
  rw [e]
  exact Ev.step (fun k => by simp only [slices_insertionSortOrdered_int64.l0]; rw [if_neg (by decide)]) (Ev.now _)
 | cons x l =>
  obtain ⟨r, hp, hs, hk⟩ := insert_l0 (x :: l).length l [x] (by simp; omega) hl (List.pairwise_singleton _ _)
  rw [asc_unique hp hs] at hk
  exact hk
set_option maxHeartbeats 4000000 in
set_option maxRecDepth 100000 in
theorem pdq12_calls (P0 : Nat → Prop) (u : Value) (l : List Int) (lim : Int) (w0 w : World) (hB : Below w0.heap.size w0 w) (ho : Kd.R (Kd.int .i64) 2 w w0.heap.size P0 u l) (hl : l.length ≤ 12) :
  Calls Try.prog 186 #[u, .int .i64 0, .int .i64 l.length, .int .i64 lim] w fun e w' => e = .returned (.tuple #[]) ∧ Kd.R (Kd.int .i64) 2 w' w0.heap.size (fun k => P0 k ∨ w.heap.size ≤ k) u (srt l) ∧ Below w0.heap.size w0 w' ∧ Kept w w' P0 := by
 obtain ⟨K, hK⟩ := insertionSort_ev l (by omega)
 have HC := Aside0.mk (slices_insertionSortOrdered_int64.calls K P0 u l 0 l.length (srt l) w0 w hB ho (hK K (Nat.le_refl _)))
 clear hB ho hK
 obtain ⟨n, hn⟩ : ∃ n : Int, n = l.length := ⟨_, rfl⟩
 have hn12 : n ≤ 12 := by omega
 have hn0 : 0 ≤ n := by omega
 rw [← hn] at HC ⊢
 clear hn hl
 go_enter Try.func186, Try.ntmps186
 go_wp2
 go_loopw [1, 2, 3, 8, 9] (fun v1 v2 v3 v8 v9 W => v1 = .int .i64 0 ∧ v2 = .int .i64 n ∧ v3 = .int .i64 lim ∧ v8 = .bool true ∧ v9 = .bool true ∧ Aside0 (W = w)) (fun _ _ _ _ _ _ => 0)
 case atStart => exact ⟨rfl, rfl, rfl, rfl, rfl, ⟨rfl⟩⟩
 case round =>
  obtain ⟨rfl, rfl, rfl, rfl, rfl, hW⟩ := hrel
  have hww := hW.out
  subst hww
  go_wp2_with (first | (go_at_call 198; (with_reducible refine HC.out.mono ?_); rintro e w2 ⟨rfl, h1, h2, h3⟩; have H1 := Aside0.mk h1; have H2 := Aside0.mk h2; have H3 := Aside0.mk h3; clear h1 h2 h3))
  first | go_end0 | ((try simp only [Exit.inBlock, Exit.then]); refine bodyPost_ret (results_none rfl _ _ _) rfl ?_)
  exact ⟨rfl, H1.out, H2.out, H3.out⟩
set_option maxHeartbeats 4000000 in
set_option maxRecDepth 100000 in
theorem sort12_calls (P0 : Nat → Prop) (A : Option Addr) (c : Nat) (l : List Int) (w0 w : World) (hB : Below w0.heap.size w0 w) (ho : Kd.R (Kd.int .i64) 2 w w0.heap.size P0 (.slice A l.length c) l) (hl : l.length ≤ 12) :
  Calls Try.prog 157 #[.slice A l.length c] w fun e w' => e = .returned (.tuple #[]) ∧ Kd.R (Kd.int .i64) 2 w' w0.heap.size (fun k => P0 k ∨ w.heap.size ≤ k) (.slice A l.length c) (srt l) ∧ Below w0.heap.size w0 w' ∧ Kept w w' P0 := by
 have HC := Aside0.mk (fun lim => pdq12_calls P0 (.slice A l.length c) l lim w0 w hB ho hl)
 have hlb : (l.length : Int) ≤ 12 := by omega
 clear hB ho hl
 go_enter Try.func157, Try.ntmps157
 go_wp2_with (first | (go_at_call 187; (with_reducible refine (bits_Len_calls (l.length : Int) _ (by omega) (by omega)).mono ?_); rintro e w' ⟨rfl, rfl⟩) | (go_at_call 186; (with_reducible refine (HC.out _).mono ?_); rintro e w2 ⟨rfl, h1, h2, h3⟩; have H1 := Aside0.mk h1; have H2 := Aside0.mk h2; have H3 := Aside0.mk h3; clear h1 h2 h3))
 first | go_end0 | ((try simp only [Exit.inBlock, Exit.then]); refine bodyPost_ret (results_none rfl _ _ _) rfl ?_)
 exact ⟨rfl, H1.out, H2.out, H3.out⟩
/-- A walk stands still here, till 'refine ⟨?_⟩'. -/
structure Here (p : Prop) : Prop where mk :: (out : p)
/-- Only block g has turned. -/
structure Only (W w1 : World) (g : Nat) : Prop where
 os : w1.os = W.os
 tape : w1.tape = W.tape
 output : w1.output = W.output
 size : w1.heap.size = W.heap.size
 block : ∀ k, k ≠ g → w1.heap[k]? = W.heap[k]?
theorem Only.refl (W : World) (g : Nat) : Only W W g := ⟨rfl, rfl, rfl, rfl, fun _ _ => rfl⟩
theorem Only.set {W w1 : World} {g : Nat} (h : Only W w1 g) (i : Nat) (u : Value) : Only W (w1.setCell ⟨g, i, none⟩ u) g :=
 ⟨h.os, h.tape, h.output, by rw [World.size_setCell]; exact h.size, fun k hk => (Below.heap_setCell w1 ⟨g, i, none⟩ u k hk).trans (h.block k hk)⟩
theorem Only.R {W w1 : World} {g : Nat} {α : Type} {d : Kd α} {e base : Nat} {ok : Nat → Prop} {v : Value} {xs : List α} (h : Only W w1 g) (hr : d.R e W base ok v xs) (hok : ∀ k, ok k → k ≠ g) : d.R e w1 base ok v xs := Kd.R_step hr (fun k ho _ => h.block k (hok k ho))
section
variable {ops : Array Oper} {rest : List Oper} {o : Oper} {a : Act} {Q : Exit → Act → World → Prop} {W : World}
end
def slices_Clone_int64_int64.f (l0 : List Int) : Option (List Int) := if l0.length < 17592186044416 then some l0 else none
set_option maxHeartbeats 8000000 in
set_option maxRecDepth 100000 in
theorem slices_Clone_int64_int64.calls (A0 : Option Addr) (c0 : Nat) (l0 : List Int) (r : List Int) (w : World) (hr0 : Kd.C (Kd.int .i64) w A0 l0.length l0) (hc0 : l0.length ≤ c0) (h : slices_Clone_int64_int64.f l0 = some r) :
  Calls Try.prog 109 #[.slice A0 l0.length c0] w fun e w' => ∃ v0_ : Value, e = .returned (v0_) ∧ Kd.R (Kd.int .i64) 2 w' w.heap.size (fun _ => True) v0_ r ∧ Below w.heap.size w w' := by
 unfold slices_Clone_int64_int64.f at h
 split at h
 case isFalse => cases h
 case isTrue hlim =>
 obtain rfl := Option.some.inj h
 clear h
 have HLIM := Aside0.mk hlim
 have HR0 := Aside0.mk hr0
 clear hr0 hlim
 cases A0 with
 | none =>
  have hl : l0 = [] := by
   rcases l0 with _ | ⟨x, l⟩
   ·rfl
   ·obtain ⟨ad, e, _⟩ := Kd.at_int HR0.out 0 (by omega) (by simp)
    cases e
  subst hl
  have he := fun (w : World) => Lib.run_eql_slice_nil (P := Try.prog) w 22 2 none 0 c0 0 0 Try.underlying22
  go_enter Try.func109, Try.ntmps109
  go_wp2
  go_ret
  exact ⟨_, rfl, Kd.R_nil _ _ _ _ _, Below.refl _ _⟩
 | some ad =>
  have he := fun (w : World) => Lib.run_eql_slice_nil (P := Try.prog) w 22 2 (some ad) l0.length c0 0 0 Try.underlying22
  have HB := Aside0.mk (Below.refl w.heap.size w)
  go_enter Try.func109, Try.ntmps109
  go_wp2_with ((with_reducible refine gate_dst (N := 5) rfl ?_); refine Kd.R_lit (Kd.int .i64) _ 2 ?hg (N := 5) ?hd (xs := ([] : List Int)) (inner := []) (ok := fun _ => True) (okp := fun _ => True) ?hr ?hp (fun _ hk => hk) trivial (Below.refl _ _) (Nat.le_refl _) (by simp) ?_; (case hd => rfl); (case hg => rfl); (case hr => first | (go_simp; done) | (go_simp; rfl)); (case hp => exact (Reps.none _ _)); intro v1 w1 ho hb hg_ hnew_; refine Here.out ?_)
  refine ⟨?_⟩
  have HO1 := Aside0.mk ho
  have HB1 := Aside0.mk hb
  clear ho hb hg_ hnew_ he
  go_wp2_with ((with_reducible refine gate_builtin (b := .append) (xs := #[.tmp 5, .tmp 6]) rfl ?_); at_builtin; refine Here.out ?_)
  refine ⟨?_⟩
  refine Kd.R_append_row (Value.int .i64) 0 (w0 := w) w.heap.size rfl (.tmp 5) (.tmp 6) 22 2 (.int .i64 0) 8 rfl Try.underlying22 info2 rfl (by decide) v1 [] l0 (some ad) l0.length c0 (fun _ => True) rfl rfl (fun _ _ => trivial) HO1.out (Kd.C_below HR0.out HB1.out) HB1.out HB1.out.size (by have := HLIM.out; simp only [List.length_nil]; omega) ?_
  intro v2 w2 ho hb hg_ hat_
  go_wp2
  go_ret
  exact ⟨_, rfl, ho, hb⟩
theorem pr_take_succ (l : List Int) (x : Nat) (h : x < l.length) : pr (l.take (x + 1)) = pr (l.take x) * l.getD x 0 := by
 rw [List.take_succ_eq_append_getElem h, pr_append, List.getD_eq_getElem?_getD, List.getElem?_eq_getElem h]
 show pr (l.take x) * (l[x] * 1) = _
 rw [Int.mul_one]; rfl
theorem pr_le_two (l : List Int) (h : Sz l) (h8 : l.length ≤ 8) : pr l ≤ 65536 := by
 suffices H : ∀ (n : Nat) (l : List Int), Sz l → l.length ≤ n → pr l ≤ 4 ^ n by
  have := H 8 l h h8
  omega
 intro n
 induction n with
 | zero => intro l _ hl; rw [List.length_eq_zero_iff.1 (by omega : l.length = 0)]; exact Int.le_refl 1
 | succ n ih =>
  intro l hz hl
  cases l with
  | nil => have := Int.pow_pos (n := 4) (m := n + 1) (by decide); show (1 : Int) ≤ _; omega
  | cons q l =>
   have h1 := ih l hz.tail (by simp at hl; omega)
   have h2 := hz q List.mem_cons_self
   have h3 := pr_pos hz.tail
   rw [pr_cons, Int.pow_succ, Int.mul_comm]
   exact Int.mul_le_mul h1 h2.2 (by omega) (by have := Int.pow_pos (n := 4) (m := n) (by decide); omega)
set_option maxHeartbeats 8000000 in
set_option maxRecDepth 100000 in
theorem dividedBy_calls (A0 : Option Addr) (c0 : Nat) (l : List Int) (t : Nat) (w : World) (hC : Kd.C (Kd.int .i64) w A0 l.length l) (hc0 : l.length ≤ c0) (hz : Sz l) (h8 : l.length ≤ 8) (ht : t ≤ l.length) :
  Calls Try.prog 124 #[.agg #[.slice A0 l.length c0], .int .i64 t] w fun e w' => e = .returned (.int .i64 (overK l t)) ∧ Below w.heap.size w w' := by
 have hu28 := Try.underlying28
 have HC := Aside0.mk hC
 have HC0 := Aside0.mk hc0
 have HZ := Aside0.mk hz
 have HSL := Aside0.mk (srt_length l)
 have hcl : slices_Clone_int64_int64.f l = some l := if_pos (by omega)
 have HCL := Aside0.mk hcl
 have HPL : Aside0 (impl_places.f l = some (l.length : Int)) := ⟨rfl⟩
 have HSZ : Aside0 (Sz (srt l)) := ⟨fun q hq => hz q ((srt_perm l).mem_iff.1 hq)⟩
 obtain ⟨j, hj⟩ : ∃ j : Nat, j + t = l.length := ⟨l.length - t, by omega⟩
 have hjn : (l.length : Int) - t = j := by omega
 have hov : overK l t = pr ((srt l).take j) := by unfold overK; rw [show l.length - t = j by omega]
 have HOV := Aside0.mk hov
 have HJ := Aside0.mk hj
 have hjl : j ≤ l.length := by omega
 have hmx : mx (j : Int) 0 = j := by unfold mx; omega
 have HB := Aside0.mk (Below.refl w.heap.size w)
 clear hC hc0 hz hcl hov hj
 go_enter Try.func124, Try.ntmps124
 go_wp2_with (first | ((with_reducible refine gate_dst (N := 2) rfl ?_); refine box_event ?hg (N := 2) ?hd (cs := #[.slice A0 l.length c0]) (t := 28) ?hr ?_; (case hd => rfl); (case hg => rfl); (case hr => first | (go_simp; done) | (go_simp; rfl)); intro gb hg_ w1 hbox_ hb_; have BK := Aside0.mk hbox_; have B1 := Aside0.mk hb_; have GB := Aside0.mk hg_; clear hbox_ hb_ hg_; have HB := Aside0.mk (below_step HB.out B1.out); have hk1 : w1.cell? ⟨gb, 0, none⟩ = some (.slice A0 l.length c0) := (blk_cell BK.out 0).trans rfl) | (go_at_call 109; (with_reducible refine (slices_Clone_int64_int64.calls _ _ l l _ ?s1 HC0.out HCL.out).mono ?_); (case s1 => exact Kd.C_below HC.out (by repeat (first | (with_reducible first | exact HB.out | apply below_alloc | apply pw_below_drewN | apply below_drew1) | exact HB.out))); rintro e w2 ⟨v5, rfl, ho5, hb2⟩; obtain ⟨A5, c5, rfl⟩ := Kd.R_slice ho5; have hc5 : l.length ≤ c5 := (Kd.R_reads' ho5).2.1; have hjc : (j : Int) ≤ (c5 : Int) := (by omega); have HO := Aside0.mk (Kd.R_lower ho5 (below_size (by repeat (first | (with_reducible first | exact HB.out | apply below_alloc | apply pw_below_drewN | apply below_drew1) | exact HB.out)))); clear ho5; have BK := Aside0.mk (blk_below (by (with_reducible repeat (first | refine blk_drewN ?_ _ | refine blk_drew ?_ | refine blk_alloc ?_ _)); exact BK.out) hb2); have HB := Aside0.mk (below_step (by repeat (first | (with_reducible first | exact HB.out | apply below_alloc | apply pw_below_drewN | apply below_drew1) | exact HB.out)) hb2); clear hb2; have hk2 : w2.cell? ⟨gb, 0, none⟩ = some (.slice A0 l.length c0) := (blk_cell BK.out 0).trans rfl) | (go_at_call 157; go_loud ((with_reducible refine (sort12_calls (fun k => some k = (Value.slice A5 l.length c5).ownBlock) A5 c5 l w _ (by repeat (first | (with_reducible first | exact HB.out | apply below_alloc | apply pw_below_drewN | apply below_drew1) | exact HB.out)) (Kd.R_tight rfl (by (with_reducible repeat (first | apply Kd.R_alloc | apply Kd.R_drewN | apply Kd.R_drew)); exact HO.out)) (by omega)).mono ?_); rintro e w3 ⟨rfl, ho5, hb2, hk3⟩; have BK := Aside0.mk (blk_kept (by (with_reducible repeat (first | refine blk_drewN ?_ _ | refine blk_drew ?_ | refine blk_alloc ?_ _)); exact BK.out) hk3 (fun e_ => Kd.R_ne HO.out BK.out (by decide) e_)); have HO := Aside0.mk (Kd.R_mono (ok' := fun _ => True) ho5 (fun _ _ => trivial)); have HB := Aside0.mk hb2; clear ho5 hb2 hk3 hk2; have hk2 : w3.cell? ⟨gb, 0, none⟩ = some (.slice A0 l.length c0) := (blk_cell BK.out 0).trans rfl)) | (go_at_call 168; (with_reducible refine (impl_places.calls _ _ l (l.length : Int) _ ?s1 HC0.out HPL.out).mono ?_); (case s1 => exact Kd.C_below HC.out (by repeat (first | (with_reducible first | exact HB.out | apply below_alloc | apply pw_below_drewN | apply below_drew1) | exact HB.out))); rintro e w4 ⟨rfl, hb2⟩; have HO := Aside0.mk (Kd.R_below (by (with_reducible repeat (first | apply Kd.R_alloc | apply Kd.R_drewN | apply Kd.R_drew)); exact HO.out) hb2); have BK := Aside0.mk (blk_below (by (with_reducible repeat (first | refine blk_drewN ?_ _ | refine blk_drew ?_ | refine blk_alloc ?_ _)); exact BK.out) hb2); have HB := Aside0.mk (below_step (by repeat (first | (with_reducible first | exact HB.out | apply below_alloc | apply pw_below_drewN | apply below_drew1) | exact HB.out)) hb2); clear hb2; have hk2 : w4.cell? ⟨gb, 0, none⟩ = some (.slice A0 l.length c0) := (blk_cell BK.out 0).trans rfl))
 obtain ⟨s, hs⟩ : ∃ s : List Int, s = srt l := ⟨_, rfl⟩
 rw [← hs] at HO HOV HSZ HSL
 clear hs
 go_loopw [6, 22] (fun v6 v22 W => ∃ x : Nat, x ≤ j ∧ v22 = .int .i64 x ∧ v6 = .int .i64 (pr (s.take x)) ∧ Aside0 (Below w4.heap.size w4 W)) (fun _ v _ => (j - intOf v).toNat)
 case atStart => exact ⟨0, by omega, rfl, rfl, ⟨Below.refl _ _⟩⟩
 case round =>
  obtain ⟨x, hx, rfl, rfl, HW⟩ := hrel
  by_cases hlt : (x : Int) < (j : Int)
  ·have hC5 := (Kd.R_reads' HO.out).2.2
   rw [HSL.out] at hC5
   obtain ⟨ad, rfl, hxc⟩ := Kd.at_int (Kd.C_below hC5 HW.out) x (by omega) (by omega)
   rw [show ((x : Int)).toNat = x by omega] at hxc
   have hts := pr_take_succ s x (by have := HSL.out; omega)
   have hq := HSZ.out _ (List.getElem_mem (show x < s.length by have := HSL.out; omega))
   have hqe : s[x]'(by have := HSL.out; omega) = s.getD x 0 := by rw [List.getD_eq_getElem?_getD, List.getElem?_eq_getElem (by have := HSL.out; omega)]; rfl
   rw [hqe] at hq
   have hp1 := take_prod_le HSZ.out x
   have hp2 := pr_le_two s HSZ.out (by have := HSL.out; omega)
   have e : rd s (x : Int) = s.getD x 0 := rfl
   rw [e] at hxc
   obtain ⟨q, hqq⟩ : ∃ q : Int, q = s.getD x 0 := ⟨_, rfl⟩
   obtain ⟨p, hpp⟩ : ∃ p : Int, p = pr (s.take x) := ⟨_, rfl⟩
   rw [← hqq] at hxc hts hq
   rw [← hpp] at hts hp1 ⊢
   have hpq : 0 ≤ p * q ∧ p * q ≤ 262144 := ⟨Int.mul_nonneg (by omega) (by omega), by have := Int.mul_le_mul_of_nonneg_left hq.2 (show 0 ≤ p by omega); omega⟩
   have HTS := Aside0.mk hts
   have hlx : (x : Int) < (l.length : Int) := by omega
   clear hC5 hts hqe e hqq hpp hp2
   go_wp2
   go_roundw
   case measure => simp [intOf]; omega
   case rel => exact ⟨x + 1, by omega, by first | rfl | (simp; done), by rw [HTS.out], HW⟩
  ·have e : x = j := by omega
   subst e
   go_wp2
   go_ret
   exact ⟨by rw [HOV.out]; rfl, below_step HB.out HW.out⟩
theorem rowsCode_zero {l rows : List Int} {t : Int} (h : rowsCode l rows t = 0) : Sz l ∧ l.length ≤ 8 ∧ 1 ≤ l.length ∧ pr l ≤ 1024 ∧ rows.length ≤ 200 ∧ (∀ r ∈ rows, 0 ≤ r ∧ r < pr l) ∧ 1 ≤ t ∧ t ≤ 3 ∧ t ≤ l.length := by
 unfold rowsCode at h
 by_cases c : isSp l = true
 ·rw [if_pos c] at h
  obtain ⟨h1, h2, h3, h4⟩ := isSp_sz c
  by_cases c1 : rows.length > 200 ∨ ¬ (∀ r ∈ rows, 0 ≤ r ∧ r < pr l) ∨ ¬ (1 ≤ t ∧ t ≤ 3 ∧ t ≤ l.length)
  ·rw [if_pos c1] at h; exact absurd h (by decide)
  ·rw [not_or, not_or] at c1
   obtain ⟨c2, c3, c4⟩ := c1
   refine ⟨h3, h2, h1, h4, by omega, Classical.not_not.1 c3, ?_⟩
   exact Classical.not_not.1 c4
 ·rw [if_neg c] at h; exact absurd h (by decide)
theorem rowsCode_nil_eq (l : List Int) (t : Int) : rowsCode l [] t = if isSp l = true then (if 1 ≤ t ∧ t ≤ 3 ∧ t ≤ l.length then 0 else 2) else 1 := by
 unfold rowsCode
 by_cases c : isSp l = true
 ·rw [if_pos c, if_pos c]
  by_cases d : 1 ≤ t ∧ t ≤ 3 ∧ t ≤ (l.length : Int)
  ·rw [if_pos d, if_neg (by simp [d])]
  ·rw [if_neg d, if_pos (Or.inr (Or.inr d))]
 ·rw [if_neg c, if_neg c]
theorem rowsCode_nil (K : Nat) (A0 : Option Addr) (c0 : Nat) (l : List Int) (t r : Int) (w : World) (hC : Kd.C (Kd.int .i64) w A0 l.length l) (hc0 : l.length ≤ c0) (h : impl_rowsCode.f K l [] t = some r) :
  Calls Try.prog 89 #[.agg #[.slice A0 l.length c0], .slice none 0 0, .int .i64 t] w fun e w' => e = .returned (.int .i64 r) ∧ Below w.heap.size w w' :=
 impl_rowsCode.calls K A0 c0 l none 0 [] t r w hC hc0 (Kd.C_nil _ _) (Nat.le_refl _) h
def choiceBoundOf (l : List Int) (t : Int) : Int × Int := if rowsCode l [] t = 0 then (Int.tdiv (pr l) (overK l t.toNat), 0) else (0, rowsCode l [] t)
def impl_ChoiceBound.f (l : List Int) (t : Int) : Option (Int × Int) := some (choiceBoundOf l t)
theorem dividedBy_at (A0 : Option Addr) (c0 : Nat) (l : List Int) (t : Nat) (o : Int) (w : World) (hC : Kd.C (Kd.int .i64) w A0 l.length l) (hc0 : l.length ≤ c0) (hz : Sz l) (h8 : l.length ≤ 8) (ht : t ≤ l.length) (ho : o = overK l t) :
  Calls Try.prog 124 #[.agg #[.slice A0 l.length c0], .int .i64 t] w fun e w' => e = .returned (.int .i64 o) ∧ Below w.heap.size w w' := by
 rw [ho]
 exact dividedBy_calls A0 c0 l t w hC hc0 hz h8 ht
set_option maxHeartbeats 8000000 in
set_option maxRecDepth 100000 in
theorem impl_ChoiceBound.calls (A0 : Option Addr) (c0 : Nat) (l : List Int) (t : Int) (r1 r2 : Int) (w : World) (hC : Kd.C (Kd.int .i64) w A0 l.length l) (hc0 : l.length ≤ c0) (h : impl_ChoiceBound.f l t = some (r1, r2)) :
  Calls Try.prog 44 #[.agg #[.slice A0 l.length c0], .int .i64 t] w fun e w' => e = .returned (.tuple #[.int .i64 r1, .int .i64 r2]) ∧ Below w.heap.size w w' := by
 have hu28 := Try.underlying28
 have HC := Aside0.mk hC
 have HC0 := Aside0.mk hc0
 clear hC hc0
 replace h := Option.some.inj h
 obtain ⟨K0, hK0⟩ := rowsCode_ev l [] t (by simp)
 have hk := hK0 K0 (Nat.le_refl _)
 have HK := Aside0.mk hk
 clear hk hK0
 obtain ⟨code, hcode⟩ : ∃ c, rowsCode l [] t = c := ⟨_, rfl⟩
 have HZ0 := Aside0.mk hcode
 rw [hcode] at HK
 unfold choiceBoundOf at h
 rw [hcode] at h
 clear hcode
 have HB := Aside0.mk (Below.refl w.heap.size w)
 have HZ := Aside0.mk True.intro
 by_cases cz : code = 0
 case neg =>
  rw [if_neg cz] at h
  have czb : (code != 0) = true := bne_iff_ne.mpr cz
  clear cz
  obtain ⟨rfl, rfl⟩ := Prod.mk.inj h
  clear h
  go_enter Try.func44, Try.ntmps44
  go_wp2_with (first
   | ((with_reducible refine gate_dst (N := 2) rfl ?_); go_loud (refine box_event ?hg (N := 2) ?hd (cs := #[.slice A0 l.length c0]) (t := 28) ?hr ?_; (case hd => rfl); (case hg => rfl); (case hr => first | (go_simp; done) | (go_simp; rfl)); intro gb hg_ w1 hbox_ hb_; have HB := Aside0.mk (below_step (by repeat (first | (with_reducible first | exact HB.out | apply below_alloc | apply pw_below_drewN | apply below_drew1) | exact HB.out)) hb_); have BK := Aside0.mk hbox_; have HS1 := Aside0.mk (show w.heap.size ≤ w1.heap.size from by have h_ := hb_.size; simpa using h_); have BKg := Aside0.mk (show gb = w.heap.size ∧ gb < w1.heap.size from ⟨by first | exact hg_ | (simpa using hg_), blk_lt hbox_⟩); clear hg_ hbox_ hb_; have hk_BK : w1.cell? ⟨gb, 0, none⟩ = some (.slice A0 l.length c0) := (blk_cell BK.out 0).trans rfl; have hf_BK := blk_frozen BK.out 0))
   | ((with_reducible refine gate_callee (f := 89) rfl ?_); refine goesL_ (some 9) rfl rfl Try.func89 (by kernel_rfl) rfl #[.agg #[.slice A0 l.length c0], .slice none 0 0, .int .i64 t] rfl (by (try simp only [List.map_toArray, List.map_cons, List.map_nil]); first | done | rfl) ?_; go_loud ((with_reducible refine (rowsCode_nil K0 _ _ l t code _ ?s1 HC0.out HK.out).mono ?_); (case s1 => exact Kd.C_below HC.out (by repeat (first | (with_reducible first | exact HB.out | apply below_alloc | apply pw_below_drewN | apply below_drew1) | exact HB.out))); rintro e w2 ⟨rfl, hb_⟩; refine ⟨_, rfl, ?_⟩; have HS2 := Aside0.mk (show w1.heap.size ≤ w2.heap.size from by have h_ := hb_.size; simpa using h_); (try clear hk_BK); (try clear hf_BK); have BK := Aside0.mk (blk_below (by (with_reducible repeat (first | refine blk_drewN ?_ _ | refine blk_drew ?_ | refine blk_alloc ?_ _)); exact BK.out) hb_); have HB := Aside0.mk (below_step (by repeat (first | (with_reducible first | exact HB.out | apply below_alloc | apply pw_below_drewN | apply below_drew1) | exact HB.out)) hb_); clear hb_; have hk_BK : w2.cell? ⟨gb, 0, none⟩ = some (.slice A0 l.length c0) := (blk_cell BK.out 0).trans rfl; have hf_BK := blk_frozen BK.out 0)))
  go_wp2
  go_ret2
  exact ⟨rfl, (by repeat (first | (with_reducible first | exact HB.out | apply below_alloc | apply pw_below_drewN | apply below_drew1) | exact HB.out))⟩
 case pos =>
 subst cz
 rw [if_pos rfl] at h
 obtain ⟨hsz, hl8, hl1, hpr, _, _, ht1, ht3, ht4⟩ := rowsCode_zero HZ0.out
 obtain ⟨tn, htn⟩ : ∃ tn : Nat, t.toNat = tn := ⟨_, rfl⟩
 have ht : (tn : Int) = t := by omega
 subst ht
 rw [show ((tn : Int)).toNat = tn by omega] at h
 have HTL : Aside0 (tn ≤ l.length) := ⟨by omega⟩
 have hov := over_one hsz tn
 have hpp := pr_pos hsz
 have hovle : overK l tn ≤ pr l := by
  unfold overK
  have h1 := take_prod_le (l := srt l) (fun q hq => hsz q ((srt_perm l).mem_iff.1 hq)) (l.length - tn)
  rw [pr_perm (srt_perm l)] at h1
  exact h1.2
 have HSZ := Aside0.mk hsz
 obtain ⟨KC, hKC⟩ := count_ev l hl8 hsz
 have HCT := Aside0.mk (hKC KC (Nat.le_refl _))
 obtain ⟨rfl, rfl⟩ := Prod.mk.inj h
 obtain ⟨o, ho⟩ : ∃ o : Int, o = overK l tn := ⟨_, rfl⟩
 obtain ⟨p, hp⟩ : ∃ p : Int, p = pr l := ⟨_, rfl⟩
 have HO := Aside0.mk ho
 have HP := Aside0.mk hp
 have hq0 : 0 ≤ Int.tdiv p o := Int.tdiv_nonneg (by omega) (by omega)
 have hq1 : Int.tdiv p o ≤ 1024 := by
  rw [Int.tdiv_eq_ediv_of_nonneg (by omega)]
  exact Int.le_trans (Int.ediv_le_self _ (by omega)) (by omega)
 rw [← ho] at hov hovle ⊢
 rw [← hp] at hpp hpr hovle ⊢
 rw [← hp] at HCT
 have ho0 : ¬ o = 0 := by omega
 have hwr : IntKind.i64.wrap (Int.tdiv p o) = Int.tdiv p o := IntWalk.i64_in _ (by omega)
 clear hsz hKC h ho hp htn ht1 ht3 ht4 hq0 hq1 hov
 go_enter Try.func44, Try.ntmps44
 go_wp2_with (first
  | ((with_reducible refine gate_dst (N := 2) rfl ?_); go_loud (refine box_event ?hg (N := 2) ?hd (cs := #[.slice A0 l.length c0]) (t := 28) ?hr ?_; (case hd => rfl); (case hg => rfl); (case hr => first | (go_simp; done) | (go_simp; rfl)); intro gb hg_ w1 hbox_ hb_; have HB := Aside0.mk (below_step (by repeat (first | (with_reducible first | exact HB.out | apply below_alloc | apply pw_below_drewN | apply below_drew1) | exact HB.out)) hb_); have BK := Aside0.mk hbox_; have HS1 := Aside0.mk (show w.heap.size ≤ w1.heap.size from by have h_ := hb_.size; simpa using h_); have BKg := Aside0.mk (show gb = w.heap.size ∧ gb < w1.heap.size from ⟨by first | exact hg_ | (simpa using hg_), blk_lt hbox_⟩); clear hg_ hbox_ hb_; have hk_BK : w1.cell? ⟨gb, 0, none⟩ = some (.slice A0 l.length c0) := (blk_cell BK.out 0).trans rfl; have hf_BK := blk_frozen BK.out 0))
  | ((with_reducible refine gate_callee (f := 89) rfl ?_); refine goesL_ (some 9) rfl rfl Try.func89 (by kernel_rfl) rfl #[.agg #[.slice A0 l.length c0], .slice none 0 0, .int .i64 tn] rfl (by (try simp only [List.map_toArray, List.map_cons, List.map_nil]); first | done | rfl) ?_; go_loud ((with_reducible refine (rowsCode_nil K0 _ _ l tn 0 _ ?s1 HC0.out HK.out).mono ?_); (case s1 => exact Kd.C_below HC.out (by repeat (first | (with_reducible first | exact HB.out | apply below_alloc | apply pw_below_drewN | apply below_drew1) | exact HB.out))); rintro e w2 ⟨rfl, hb_⟩; refine ⟨_, rfl, ?_⟩; have HS2 := Aside0.mk (show w1.heap.size ≤ w2.heap.size from by have h_ := hb_.size; simpa using h_); (try clear hk_BK); (try clear hf_BK); have BK := Aside0.mk (blk_below (by (with_reducible repeat (first | refine blk_drewN ?_ _ | refine blk_drew ?_ | refine blk_alloc ?_ _)); exact BK.out) hb_); have HB := Aside0.mk (below_step (by repeat (first | (with_reducible first | exact HB.out | apply below_alloc | apply pw_below_drewN | apply below_drew1) | exact HB.out)) hb_); clear hb_; have hk_BK : w2.cell? ⟨gb, 0, none⟩ = some (.slice A0 l.length c0) := (blk_cell BK.out 0).trans rfl; have hf_BK := blk_frozen BK.out 0)))
 refine start_ (n := 8) (S := fun w' => w'.cell? ⟨gb, 0, none⟩ = some (.slice A0 l.length c0)) (ds := []) #[false, false, false, false, false, false, false, false] (by kernel_rfl) rfl rfl (hk_BK) (fun hHeld => ?_)
 refine pure_ (i := 3) (N := some 16) (v := ?_) (a' := ?_) #[false, false, false, true, false, false, false, false] rfl rfl (by kernel_rfl) (fun _ _ _ h => h) (Or.inl ⟨by rfl, ?_⟩) ?_ ?_
 rotate_left
 ·intro w'
  go_simp
  with_reducible rfl
 rotate_left
 ·simp only [Act.put, List.setIfInBounds_toArray, List.set_cons_zero, List.set_cons_succ, i64_w, i32_w]
  rfl
 refine take_ (i := 0) (N := some 13) (v := ?_) (a' := ?_) #[true, false, false, true, false, false, false, false] rfl rfl (by kernel_rfl) (fun _ _ _ h => h) (Or.inl ⟨by rfl, ?_⟩) hHeld ?_ ?_
 rotate_left
 ·intro w' s0
  go_simp
  with_reducible rfl
 rotate_left
 ·simp only [Act.put, List.setIfInBounds_toArray, List.set_cons_zero, List.set_cons_succ, i64_w, i32_w]
  rfl
 refine take_ (i := 2) (N := some 15) (v := ?_) (a' := ?_) #[true, false, true, true, false, false, false, false] rfl rfl (by kernel_rfl) (fun _ _ _ h => h) (Or.inl ⟨by rfl, ?_⟩) hHeld ?_ ?_
 rotate_left
 ·intro w' s0
  go_simp
  with_reducible rfl
 rotate_left
 ·simp only [Act.put, List.setIfInBounds_toArray, List.set_cons_zero, List.set_cons_succ, i64_w, i32_w]
  rfl
 refine one_ (i := 1) (N := some 14) #[true, true, true, true, false, false, false, false] rfl rfl (by kernel_rfl) (by decide) (fun K hK => ?_)
 refine goes_ Try.func99 (by kernel_rfl) rfl #[.agg #[.slice A0 l.length c0]] (by rfl) rfl rfl (by simp only [List.map_toArray, List.map_cons, List.map_nil]; rfl) ?_
 with_reducible refine (impl_count.calls KC _ _ l p _ (by exact Kd.C_below HC.out (by repeat (first | (with_reducible first | exact HB.out | apply below_alloc | apply pw_below_drewN | apply below_drew1) | exact HB.out))) HC0.out HCT.out).mono ?_
 rintro e w3 ⟨rfl, hb_⟩
 refine ⟨_, rfl, ?_⟩
 have HS3 := Aside0.mk (show w2.heap.size ≤ w3.heap.size from by have h_ := hb_.size; simpa using h_)
 (try clear hk_BK); (try clear hf_BK)
 have BK := Aside0.mk (blk_below (by (with_reducible repeat (first | refine blk_drewN ?_ _ | refine blk_drew ?_ | refine blk_alloc ?_ _)); exact BK.out) hb_)
 have HB := Aside0.mk (below_step (by repeat (first | (with_reducible first | exact HB.out | apply below_alloc | apply pw_below_drewN | apply below_drew1) | exact HB.out)) hb_)
 clear hb_
 have hk_BK : w3.cell? ⟨gb, 0, none⟩ = some (.slice A0 l.length c0) := (blk_cell BK.out 0).trans rfl
 have hf_BK := blk_frozen BK.out 0
 refine hK.out _ _ (((blk_cell BK.out 0).trans rfl)) (fun hHeld => ?_)
 clear hK K
 refine norm_ (a' := ?_) ?_ ?_
 rotate_left
 ·show Act.put _ (some 14) _ = _
  simp only [Act.put, List.setIfInBounds_toArray, List.set_cons_zero, List.set_cons_succ, i64_w, i32_w]
  rfl
 refine one_ (i := 4) (N := some 17) #[true, true, true, true, true, false, false, false] rfl rfl (by kernel_rfl) (by decide) (fun K hK => ?_)
 refine goes_ Try.func124 (by kernel_rfl) rfl #[.agg #[.slice A0 l.length c0], .int .i64 tn] (by rfl) rfl rfl (by simp only [List.map_toArray, List.map_cons, List.map_nil]; rfl) ?_
 with_reducible refine (dividedBy_at _ _ l tn o _ (by exact Kd.C_below HC.out (by repeat (first | (with_reducible first | exact HB.out | apply below_alloc | apply pw_below_drewN | apply below_drew1) | exact HB.out))) HC0.out HSZ.out hl8 HTL.out HO.out).mono ?_
 rintro e w4 ⟨rfl, hb_⟩
 refine ⟨_, rfl, ?_⟩
 have HS4 := Aside0.mk (show w3.heap.size ≤ w4.heap.size from by have h_ := hb_.size; simpa using h_)
 (try clear hk_BK); (try clear hf_BK)
 have BK := Aside0.mk (blk_below (by (with_reducible repeat (first | refine blk_drewN ?_ _ | refine blk_drew ?_ | refine blk_alloc ?_ _)); exact BK.out) hb_)
 have HB := Aside0.mk (below_step (by repeat (first | (with_reducible first | exact HB.out | apply below_alloc | apply pw_below_drewN | apply below_drew1) | exact HB.out)) hb_)
 clear hb_
 have hk_BK : w4.cell? ⟨gb, 0, none⟩ = some (.slice A0 l.length c0) := (blk_cell BK.out 0).trans rfl
 have hf_BK := blk_frozen BK.out 0
 refine hK.out _ _ (((blk_cell BK.out 0).trans rfl)) (fun hHeld => ?_)
 clear hK K
 refine norm_ (a' := ?_) ?_ ?_
 rotate_left
 ·show Act.put _ (some 17) _ = _
  simp only [Act.put, List.setIfInBounds_toArray, List.set_cons_zero, List.set_cons_succ, i64_w, i32_w]
  rfl
 refine pure_ (i := 5) (N := some 18) (v := ?_) (a' := ?_) #[true, true, true, true, true, true, false, false] rfl rfl (by kernel_rfl) (fun _ _ _ h => h) (Or.inl ⟨by rfl, ?_⟩) ?_ ?_
 rotate_left
 ·intro w'
  go_simp
  with_reducible rfl
 rotate_left
 ·simp only [Act.put, List.setIfInBounds_toArray, List.set_cons_zero, List.set_cons_succ, i64_w, i32_w]
  rfl
 refine pure_ (i := 6) (N := some 4) (v := ?_) (a' := ?_) #[true, true, true, true, true, true, true, false] rfl rfl (by kernel_rfl) (fun _ _ _ h => h) (Or.inl ⟨by rfl, ?_⟩) ?_ ?_
 rotate_left
 ·intro w'
  go_simp
  with_reducible rfl
 rotate_left
 ·simp only [Act.put, List.setIfInBounds_toArray, List.set_cons_zero, List.set_cons_succ, i64_w, i32_w]
  rfl
 refine pure_ (i := 7) (N := some 5) (v := ?_) (a' := ?_) #[true, true, true, true, true, true, true, true] rfl rfl (by kernel_rfl) (fun _ _ _ h => h) (Or.inl ⟨by rfl, ?_⟩) ?_ ?_
 rotate_left
 ·intro w'
  go_simp
  with_reducible rfl
 rotate_left
 ·simp only [Act.put, List.setIfInBounds_toArray, List.set_cons_zero, List.set_cons_succ, i64_w, i32_w]
  rfl
 refine done_ (by kernel_rfl) ?_
 go_wp2
 go_ret2
 exact ⟨rfl, (by repeat (first | (with_reducible first | exact HB.out | apply below_alloc | apply pw_below_drewN | apply below_drew1) | exact HB.out))⟩
def laws_FnExactChoiceBound.j0 : Nat → Bool → List Int → List Int → Option (Bool)
 | 0, _, _, _ => none
 | k + 1, x38, x102000, x112000 => if x38 = true then (some false) else ((laws_toSpace.f k x102000).bind fun t114 => ((laws_eqSpace.f k x112000 t114).bind fun t117 => (if t117 = true then (some true) else (some false))))
def laws_FnExactChoiceBound.f (k : Nat) (l0_0 : List Int) (a1 : Int) : Option (Bool) := (laws_szSpace.f l0_0 1048576).bind fun t102 => (if t102 < 0 then (some true) else ((laws_toSpace.f k l0_0).bind fun t103 => ((spec_ChoiceBound.f k t103 a1).bind fun bt106 => ((laws_toSpace.f k l0_0).bind fun t108 => ((impl_ChoiceBound.f t108 a1).bind fun bt112 => (if bt112.1 = bt106.1 then (laws_FnExactChoiceBound.j0 k (bt112.2 != bt106.2) l0_0 t108) else (laws_FnExactChoiceBound.j0 k true l0_0 t108)))))))
set_option maxHeartbeats 8000000 in
set_option maxRecDepth 100000 in
theorem laws_FnExactChoiceBound.calls (k : Nat) (A0_0 : Option Addr) (c0_0 : Nat) (l0_0 : List Int) (a1 : Int) (r : Bool) (w : World) (hr0_0 : Kd.C (Kd.int .i64) w A0_0 l0_0.length l0_0) (hc0_0 : l0_0.length ≤ c0_0) (h : laws_FnExactChoiceBound.f k l0_0 a1 = some r) :
  Calls Try.prog 11 #[.agg #[.slice A0_0 l0_0.length c0_0], .int .i64 a1] w fun e w' => e = .returned (.bool r) ∧ Below w.heap.size w w' := by
 have hu24 := Try.underlying24
 have hu28 := Try.underlying28
 have HR0_0 := Aside0.mk hr0_0
 have HC0_0 := Aside0.mk hc0_0
 clear hr0_0 hc0_0
 have HB := Aside0.mk (Below.refl w.heap.size w)
 have H : ((laws_szSpace.f l0_0 1048576).bind fun t102 => (if t102 < 0 then (some true) else ((laws_toSpace.f k l0_0).bind fun t103 => ((spec_ChoiceBound.f k t103 a1).bind fun bt106 => ((laws_toSpace.f k l0_0).bind fun t108 => ((impl_ChoiceBound.f t108 a1).bind fun bt112 => (if bt112.1 = bt106.1 then (laws_FnExactChoiceBound.j0 k (bt112.2 != bt106.2) l0_0 t108) else (laws_FnExactChoiceBound.j0 k true l0_0 t108)))))))) = some r := h
 clear h
 replace H := Option.bind_eq_some_iff.mp H
 obtain ⟨t102, A30, H⟩ := H
 replace H : (if t102 < 0 then (some true) else ((laws_toSpace.f k l0_0).bind fun t103 => ((spec_ChoiceBound.f k t103 a1).bind fun bt106 => ((laws_toSpace.f k l0_0).bind fun t108 => ((impl_ChoiceBound.f t108 a1).bind fun bt112 => (if bt112.1 = bt106.1 then (laws_FnExactChoiceBound.j0 k (bt112.2 != bt106.2) l0_0 t108) else (laws_FnExactChoiceBound.j0 k true l0_0 t108))))))) = some r := H
 have A3 := Aside0.mk A30
 clear A30
 by_cases c4 : t102 < 0
 ·rw [if_pos c4] at H
  have c4b0 : decide (t102 < 0) = true := decide_eq_true c4
  clear c4
  obtain rfl := Option.some.inj H
  go_enter Try.func11, Try.ntmps11
  go_wp2_with (first | ((with_reducible refine gate_dst (N := 2) rfl ?_); refine box_event ?hg (N := 2) ?hd (cs := #[.slice A0_0 l0_0.length c0_0]) (t := 24) ?hr ?_; (case hd => rfl); (case hg => rfl); (case hr => first | (go_simp; done) | (go_simp; rfl)); intro gb101 hg w5 hbox hb; have n0_ := Aside0.mk (below_step (by repeat (first | (with_reducible first | exact HB.out | apply below_alloc | apply pw_below_drewN | apply below_drew1) | exact HB.out)) hb); have n1_ := Aside0.mk (hbox); have n2_ := Aside0.mk ((by rw [hg]; exact (below_size (by repeat (first | (with_reducible first | exact HB.out | apply below_alloc | apply pw_below_drewN | apply below_drew1) | exact HB.out))) : w.heap.size ≤ gb101)); have n3_ := Aside0.mk ((by rw [hg]; exact (below_size (by repeat (first | (with_reducible first | exact HB.out | apply below_alloc | apply pw_below_drewN | apply below_drew1) | exact HB.out))) : w.heap.size ≤ gb101)); clear HB; have HB := n0_; have BK101 := n1_; have GW101 := n2_; have GE101 := n3_; clear n0_ n1_ n2_ n3_; clear hb hbox hg; have hcz6_0 : w5.cell? ⟨gb101, 0, none⟩ = some (.slice A0_0 l0_0.length c0_0) := (blk_cell BK101.out 0).trans rfl; have hfz6_0 := blk_frozen BK101.out 0) | ((with_reducible refine gate_callee (f := 15) rfl ?_); refine goesL_ (some 13) rfl rfl Try.func15 (by kernel_rfl) rfl #[.agg #[.slice A0_0 l0_0.length c0_0], .int .i64 1048576] rfl (by (try simp only [List.map_toArray, List.map_cons, List.map_nil]); first | done | rfl | (simp only [List.length_drop, List.length_take]; rfl)) ?_; (with_reducible refine (laws_szSpace.calls _ _ l0_0 1048576 t102 _ ?side1 ?side2 A3.out).mono ?_); (case side1 => repeat (first | exact (Kd.C_below HR0_0.out HB.out) | (with_reducible refine Kd.C_alloc ?_ _) | (with_reducible refine Kd.C_drewN ?_ _) | (with_reducible refine Kd.C_drew ?_))); (case side2 => exact HC0_0.out); rintro e w7 ⟨rfl, hb⟩; refine ⟨_, rfl, ?_⟩; have n0_ := Aside0.mk (blk_below (g := gb101) (o := .cells #[.slice A0_0 l0_0.length c0_0] 24 (0, 0)) (by (with_reducible repeat (first | refine blk_drewN ?_ _ | refine blk_drew ?_ | refine blk_alloc ?_ _)); exact BK101.out) hb); have n1_ := Aside0.mk (below_step (by repeat (first | (with_reducible first | exact HB.out | apply below_alloc | apply pw_below_drewN | apply below_drew1 | refine below_set ?_ GE101.out) | exact HB.out)) hb); clear BK101; clear HB; have BK101 := n0_; have HB := n1_; clear n0_ n1_; (try clear hb); (try clear hb2); (try clear hk); (try clear hi)))
  go_ret
  exact ⟨by first | rfl | (simp [errW_none, errW_some] <;> rfl) | (simp [*, errW_none, errW_some] <;> rfl), by repeat (first | (with_reducible first | exact HB.out | apply below_alloc | apply pw_below_drewN | apply below_drew1 | refine below_set ?_ GE101.out) | exact HB.out)⟩
 ·rw [if_neg c4] at H
  have c4b0 : decide (t102 < 0) = false := decide_eq_false c4
  clear c4
  replace H := Option.bind_eq_some_iff.mp H
  obtain ⟨t103, A80, H⟩ := H
  replace H : ((spec_ChoiceBound.f k t103 a1).bind fun bt106 => ((laws_toSpace.f k l0_0).bind fun t108 => ((impl_ChoiceBound.f t108 a1).bind fun bt112 => (if bt112.1 = bt106.1 then (laws_FnExactChoiceBound.j0 k (bt112.2 != bt106.2) l0_0 t108) else (laws_FnExactChoiceBound.j0 k true l0_0 t108))))) = some r := H
  have A8 := Aside0.mk A80
  clear A80
  replace H := Option.bind_eq_some_iff.mp H
  obtain ⟨⟨t106, t107⟩, A90, H⟩ := H
  replace H : ((laws_toSpace.f k l0_0).bind fun t108 => ((impl_ChoiceBound.f t108 a1).bind fun bt112 => (if bt112.1 = t106 then (laws_FnExactChoiceBound.j0 k (bt112.2 != t107) l0_0 t108) else (laws_FnExactChoiceBound.j0 k true l0_0 t108)))) = some r := H
  have A9 := Aside0.mk A90
  clear A90
  replace H := Option.bind_eq_some_iff.mp H
  obtain ⟨t108, A100, H⟩ := H
  replace H : ((impl_ChoiceBound.f t108 a1).bind fun bt112 => (if bt112.1 = t106 then (laws_FnExactChoiceBound.j0 k (bt112.2 != t107) l0_0 t108) else (laws_FnExactChoiceBound.j0 k true l0_0 t108))) = some r := H
  have A10 := Aside0.mk A100
  clear A100
  replace H := Option.bind_eq_some_iff.mp H
  obtain ⟨⟨t112, t113⟩, A110, H⟩ := H
  replace H : (if t112 = t106 then (laws_FnExactChoiceBound.j0 k (t113 != t107) l0_0 t108) else (laws_FnExactChoiceBound.j0 k true l0_0 t108)) = some r := H
  have A11 := Aside0.mk A110
  clear A110
  have HC12 := Aside0.mk H
  clear H
  go_enter Try.func11, Try.ntmps11
  go_upto_region 8 with (first | ((with_reducible refine gate_dst (N := 2) rfl ?_); refine box_event ?hg (N := 2) ?hd (cs := #[.slice A0_0 l0_0.length c0_0]) (t := 24) ?hr ?_; (case hd => rfl); (case hg => rfl); (case hr => first | (go_simp; done) | (go_simp; rfl)); intro gb101 hg w13 hbox hb; have n0_ := Aside0.mk (below_step (by repeat (first | (with_reducible first | exact HB.out | apply below_alloc | apply pw_below_drewN | apply below_drew1) | exact HB.out)) hb); have n1_ := Aside0.mk (hbox); have n2_ := Aside0.mk ((by rw [hg]; exact (below_size (by repeat (first | (with_reducible first | exact HB.out | apply below_alloc | apply pw_below_drewN | apply below_drew1) | exact HB.out))) : w.heap.size ≤ gb101)); have n3_ := Aside0.mk ((by rw [hg]; exact (below_size (by repeat (first | (with_reducible first | exact HB.out | apply below_alloc | apply pw_below_drewN | apply below_drew1) | exact HB.out))) : w.heap.size ≤ gb101)); clear HB; have HB := n0_; have BK101 := n1_; have GW101 := n2_; have GE101 := n3_; clear n0_ n1_ n2_ n3_; clear hb hbox hg; have hcz14_0 : w13.cell? ⟨gb101, 0, none⟩ = some (.slice A0_0 l0_0.length c0_0) := (blk_cell BK101.out 0).trans rfl; have hfz14_0 := blk_frozen BK101.out 0) | ((with_reducible refine gate_callee (f := 15) rfl ?_); refine goesL_ (some 13) rfl rfl Try.func15 (by kernel_rfl) rfl #[.agg #[.slice A0_0 l0_0.length c0_0], .int .i64 1048576] rfl (by (try simp only [List.map_toArray, List.map_cons, List.map_nil]); first | done | rfl | (simp only [List.length_drop, List.length_take]; rfl)) ?_; (with_reducible refine (laws_szSpace.calls _ _ l0_0 1048576 t102 _ ?side1 ?side2 A3.out).mono ?_); (case side1 => repeat (first | exact (Kd.C_below HR0_0.out HB.out) | (with_reducible refine Kd.C_alloc ?_ _) | (with_reducible refine Kd.C_drewN ?_ _) | (with_reducible refine Kd.C_drew ?_))); (case side2 => exact HC0_0.out); rintro e w15 ⟨rfl, hb⟩; refine ⟨_, rfl, ?_⟩; have n0_ := Aside0.mk (blk_below (g := gb101) (o := .cells #[.slice A0_0 l0_0.length c0_0] 24 (0, 0)) (by (with_reducible repeat (first | refine blk_drewN ?_ _ | refine blk_drew ?_ | refine blk_alloc ?_ _)); exact BK101.out) hb); have n1_ := Aside0.mk (below_step (by repeat (first | (with_reducible first | exact HB.out | apply below_alloc | apply pw_below_drewN | apply below_drew1 | refine below_set ?_ GE101.out) | exact HB.out)) hb); clear BK101; clear HB; have BK101 := n0_; have HB := n1_; clear n0_ n1_; (try clear hb); (try clear hb2); (try clear hk); (try clear hi); have hcz16_0 : w15.cell? ⟨gb101, 0, none⟩ = some (.slice A0_0 l0_0.length c0_0) := (blk_cell BK101.out 0).trans rfl; have hfz16_0 := blk_frozen BK101.out 0) | ((with_reducible refine gate_callee (f := 17) rfl ?_); refine goesL_ (some 18) rfl rfl Try.func17 (by kernel_rfl) rfl #[.agg #[.slice A0_0 l0_0.length c0_0]] rfl (by (try simp only [List.map_toArray, List.map_cons, List.map_nil]); first | done | rfl | (simp only [List.length_drop, List.length_take]; rfl)) ?_; (with_reducible refine (laws_toSpace.calls k _ _ l0_0 t103 _ ?side1 ?side2 A8.out).mono ?_); (case side1 => repeat (first | exact (Kd.C_below HR0_0.out HB.out) | (with_reducible refine Kd.C_alloc ?_ _) | (with_reducible refine Kd.C_drewN ?_ _) | (with_reducible refine Kd.C_drew ?_))); (case side2 => exact HC0_0.out); rintro e w17 ⟨v104, rfl, ho0, hb⟩; refine ⟨_, rfl, ?_⟩; have n0_ := Aside0.mk (Kd.R_lower ho0 (below_size (by repeat (first | (with_reducible first | exact HB.out | apply below_alloc | apply pw_below_drewN | apply below_drew1 | refine below_set ?_ GE101.out) | exact HB.out)))); have n1_ := Aside0.mk (blk_below (g := gb101) (o := .cells #[.slice A0_0 l0_0.length c0_0] 24 (0, 0)) (by (with_reducible repeat (first | refine blk_drewN ?_ _ | refine blk_drew ?_ | refine blk_alloc ?_ _)); exact BK101.out) hb); have n2_ := Aside0.mk (below_step (by repeat (first | (with_reducible first | exact HB.out | apply below_alloc | apply pw_below_drewN | apply below_drew1 | refine below_set ?_ GE101.out) | exact HB.out)) hb); clear BK101; clear HB; have HO105 := n0_; have BK101 := n1_; have HB := n2_; clear n0_ n1_ n2_; (try clear hb); (try clear hb2); (try clear hk); (try clear hi); (try clear ho0); obtain ⟨Ao18, co18, eo18⟩ := Kd.R_slice HO105.out; subst eo18) | ((with_reducible refine gate_callee (f := 43) rfl ?_); refine goesL_ (some 20) rfl rfl Try.func43 (by kernel_rfl) rfl #[.agg #[.slice Ao18 t103.length co18], .int .i64 a1] rfl (by (try simp only [List.map_toArray, List.map_cons, List.map_nil]); first | done | rfl | (simp only [List.length_drop, List.length_take]; rfl)) ?_; (with_reducible refine (spec_ChoiceBound.calls k _ _ t103 a1 t106 t107 _ ?side1 ?side2 A9.out).mono ?_); (case side1 => repeat (first | exact (Kd.R_reads' HO105.out).2.2 | (with_reducible refine Kd.C_alloc ?_ _) | (with_reducible refine Kd.C_drewN ?_ _) | (with_reducible refine Kd.C_drew ?_))); (case side2 => exact (Kd.R_reads' HO105.out).2.1); rintro e w19 ⟨rfl, hb⟩; refine ⟨_, rfl, ?_⟩; have n0_ := Aside0.mk (Kd.R_below (by (with_reducible repeat (first | apply Kd.R_alloc | apply Kd.R_drewN | apply Kd.R_drew)); exact HO105.out) hb); have n1_ := Aside0.mk (blk_below (g := gb101) (o := .cells #[.slice A0_0 l0_0.length c0_0] 24 (0, 0)) (by (with_reducible repeat (first | refine blk_drewN ?_ _ | refine blk_drew ?_ | refine blk_alloc ?_ _)); exact BK101.out) hb); have n2_ := Aside0.mk (below_step (by repeat (first | (with_reducible first | exact HB.out | apply below_alloc | apply pw_below_drewN | apply below_drew1 | refine below_set ?_ GE101.out) | exact HB.out)) hb); clear HO105; clear BK101; clear HB; have HO105 := n0_; have BK101 := n1_; have HB := n2_; clear n0_ n1_ n2_; (try clear hb); (try clear hb2); (try clear hk); (try clear hi); have hcz20_0 : w19.cell? ⟨gb101, 0, none⟩ = some (.slice A0_0 l0_0.length c0_0) := (blk_cell BK101.out 0).trans rfl; have hfz20_0 := blk_frozen BK101.out 0) | ((with_reducible refine gate_callee (f := 17) rfl ?_); refine goesL_ (some 24) rfl rfl Try.func17 (by kernel_rfl) rfl #[.agg #[.slice A0_0 l0_0.length c0_0]] rfl (by (try simp only [List.map_toArray, List.map_cons, List.map_nil]); first | done | rfl | (simp only [List.length_drop, List.length_take]; rfl)) ?_; (with_reducible refine (laws_toSpace.calls k _ _ l0_0 t108 _ ?side1 ?side2 A10.out).mono ?_); (case side1 => repeat (first | exact (Kd.C_below HR0_0.out HB.out) | (with_reducible refine Kd.C_alloc ?_ _) | (with_reducible refine Kd.C_drewN ?_ _) | (with_reducible refine Kd.C_drew ?_))); (case side2 => exact HC0_0.out); rintro e w21 ⟨v109, rfl, ho0, hb⟩; refine ⟨_, rfl, ?_⟩; have n0_ := Aside0.mk (Kd.R_elder' (by (with_reducible repeat (first | apply Kd.R_alloc | apply Kd.R_drewN | apply Kd.R_drew)); exact HO105.out) (Kd.R_base ho0) hb); have n1_ := Aside0.mk (Kd.R_lower (Kd.R_new' ho0 (Kd.R_lt (by (with_reducible repeat (first | apply Kd.R_alloc | apply Kd.R_drewN | apply Kd.R_drew)); exact HO105.out))) (below_size (by repeat (first | (with_reducible first | exact HB.out | apply below_alloc | apply pw_below_drewN | apply below_drew1 | refine below_set ?_ GE101.out) | exact HB.out)))); have n2_ := Aside0.mk (blk_below (g := gb101) (o := .cells #[.slice A0_0 l0_0.length c0_0] 24 (0, 0)) (by (with_reducible repeat (first | refine blk_drewN ?_ _ | refine blk_drew ?_ | refine blk_alloc ?_ _)); exact BK101.out) hb); have n3_ := Aside0.mk (below_step (by repeat (first | (with_reducible first | exact HB.out | apply below_alloc | apply pw_below_drewN | apply below_drew1 | refine below_set ?_ GE101.out) | exact HB.out)) hb); clear HO105; clear BK101; clear HB; have HO105 := n0_; have HO110 := n1_; have BK101 := n2_; have HB := n3_; clear n0_ n1_ n2_ n3_; (try clear hb); (try clear hb2); (try clear hk); (try clear hi); (try clear ho0)) | ((with_reducible refine gate_dst (N := 8) rfl ?_); refine box_event ?hg (N := 8) ?hd (cs := #[.slice none 0 0]) (t := 28) ?hr ?_; (case hd => rfl); (case hg => rfl); (case hr => first | (go_simp; done) | (go_simp; rfl)); intro gb111 hg w22 hbox hb; have n0_ := Aside0.mk (Kd.R_below (by (with_reducible repeat (first | apply Kd.R_alloc | apply Kd.R_drewN | apply Kd.R_drew)); exact HO105.out) hb); have n1_ := Aside0.mk (Kd.R_below (by (with_reducible repeat (first | apply Kd.R_alloc | apply Kd.R_drewN | apply Kd.R_drew)); exact HO110.out) hb); have n2_ := Aside0.mk (blk_below (g := gb101) (o := .cells #[.slice A0_0 l0_0.length c0_0] 24 (0, 0)) (by (with_reducible repeat (first | refine blk_drewN ?_ _ | refine blk_drew ?_ | refine blk_alloc ?_ _)); exact BK101.out) hb); have n3_ := Aside0.mk (below_step (by repeat (first | (with_reducible first | exact HB.out | apply below_alloc | apply pw_below_drewN | apply below_drew1 | refine below_set ?_ GE101.out) | exact HB.out)) hb); have n4_ := Aside0.mk (hbox); have n5_ := Aside0.mk ((by rw [hg]; exact (below_size (by repeat (first | (with_reducible first | exact HB.out | apply below_alloc | apply pw_below_drewN | apply below_drew1 | refine below_set ?_ GE101.out) | exact HB.out))) : w.heap.size ≤ gb111)); have n6_ := Aside0.mk ((by rw [hg]; exact (below_size (by repeat (first | (with_reducible first | exact HB.out | apply below_alloc | apply pw_below_drewN | apply below_drew1 | refine below_set ?_ GE101.out) | exact HB.out))) : w.heap.size ≤ gb111)); have n7_ := Aside0.mk ((by rw [hg]; exact Nat.ne_of_lt (blk_lt (g := gb101) (o := .cells #[.slice A0_0 l0_0.length c0_0] 24 (0, 0)) (by (with_reducible repeat (first | refine blk_drewN ?_ _ | refine blk_drew ?_ | refine blk_alloc ?_ _)); exact BK101.out)) : gb101 ≠ gb111)); have n8_ := Aside0.mk ((by rw [hg]; exact Nat.ne_of_gt (blk_lt (g := gb101) (o := .cells #[.slice A0_0 l0_0.length c0_0] 24 (0, 0)) (by (with_reducible repeat (first | refine blk_drewN ?_ _ | refine blk_drew ?_ | refine blk_alloc ?_ _)); exact BK101.out)) : gb111 ≠ gb101)); clear HO105; clear HO110; clear BK101; clear HB; have HO105 := n0_; have HO110 := n1_; have BK101 := n2_; have HB := n3_; have BK111 := n4_; have GW111 := n5_; have GE111 := n6_; have NB101_111 := n7_; have NB111_101 := n8_; clear n0_ n1_ n2_ n3_ n4_ n5_ n6_ n7_ n8_; clear hb hbox hg; obtain ⟨Ao23, co23, eo23⟩ := Kd.R_slice HO110.out; subst eo23; have hnb24 := NB111_101.out; have hnc24 := NB101_111.out; have hcz25_0 : w22.cell? ⟨gb111, 0, none⟩ = some (.slice none 0 0) := (blk_cell BK111.out 0).trans rfl; have hfz25_0 := blk_frozen BK111.out 0) | ((with_reducible refine gate_callee (f := 44) rfl ?_); refine goesL_ (some 28) rfl rfl Try.func44 (by kernel_rfl) rfl #[.agg #[.slice Ao23 t108.length co23], .int .i64 a1] rfl (by (try simp only [List.map_toArray, List.map_cons, List.map_nil]); first | done | rfl | (simp only [List.length_drop, List.length_take]; rfl)) ?_; (with_reducible refine (impl_ChoiceBound.calls _ _ t108 a1 t112 t113 _ ?side1 ?side2 A11.out).mono ?_); (case side1 => refine (Kd.R_reads' (e := 2) (base := w.heap.size) (ok := fun k_ => (True ∧ some k_ ≠ (.slice Ao18 t103.length co18 : Value).ownBlock)) (n := t108.length) (c := co23) ?_).2.2; exact (by (with_reducible repeat (first | apply Kd.R_alloc | apply Kd.R_drewN | apply Kd.R_drew)); exact (Kd.R_mono (Kd.R_far (p := ⟨gb111, 0, none⟩) (Kd.R_types HO110.out BK111.out (by decide)) (fun _ hk => hk.2) (.slice Ao23 t108.length co23)) (fun _ h_ => h_.1)))); (case side2 => exact (Kd.R_reads' HO110.out).2.1); rintro e w26 ⟨rfl, hb⟩; refine ⟨_, rfl, ?_⟩; have n0_ := Aside0.mk (Kd.R_below (by (with_reducible repeat (first | apply Kd.R_alloc | apply Kd.R_drewN | apply Kd.R_drew)); exact (Kd.R_mono (Kd.R_far (p := ⟨gb111, 0, none⟩) (Kd.R_types HO105.out BK111.out (by decide)) (fun _ hk => hk.2) (.slice Ao23 t108.length co23)) (fun _ h_ => h_.1))) hb); have n1_ := Aside0.mk (Kd.R_below (by (with_reducible repeat (first | apply Kd.R_alloc | apply Kd.R_drewN | apply Kd.R_drew)); exact (Kd.R_mono (Kd.R_far (p := ⟨gb111, 0, none⟩) (Kd.R_types HO110.out BK111.out (by decide)) (fun _ hk => hk.2) (.slice Ao23 t108.length co23)) (fun _ h_ => h_.1))) hb); have n2_ := Aside0.mk (blk_below (g := gb101) (o := .cells #[.slice A0_0 l0_0.length c0_0] 24 (0, 0)) (by (with_reducible repeat (first | refine blk_drewN ?_ _ | refine blk_drew ?_ | refine blk_alloc ?_ _)); refine blk_far ?_ NB101_111.out _; (with_reducible repeat (first | refine blk_drewN ?_ _ | refine blk_drew ?_ | refine blk_alloc ?_ _)); exact BK101.out) hb); have n3_ := Aside0.mk (blk_below (g := gb111) (o := .cells #[.slice Ao23 t108.length co23] 28 (0, 0)) (by (with_reducible repeat (first | refine blk_drewN ?_ _ | refine blk_drew ?_ | refine blk_alloc ?_ _)); refine blk_put (cs := #[.slice none 0 0]) ?_ 0 _ rfl; (with_reducible repeat (first | refine blk_drewN ?_ _ | refine blk_drew ?_ | refine blk_alloc ?_ _)); exact BK111.out) hb); have n4_ := Aside0.mk (below_step (by repeat (first | (with_reducible first | exact HB.out | apply below_alloc | apply pw_below_drewN | apply below_drew1 | refine below_set ?_ GE101.out | refine below_set ?_ GE111.out) | exact HB.out)) hb); clear HO105; clear HO110; clear BK101; clear BK111; clear HB; have HO105 := n0_; have HO110 := n1_; have BK101 := n2_; have BK111 := n3_; have HB := n4_; clear n0_ n1_ n2_ n3_ n4_; (try clear hb); (try clear hb2); (try clear hk); (try clear hi)))
  (try simp only [Act.put, List.setIfInBounds_toArray, List.set_cons_zero, List.set_cons_succ])
  go_cut [38] (fun v38 wc => ∃ (kq : Nat) (x38_11 : Bool), v38 = .bool x38_11 ∧ Aside0 (laws_FnExactChoiceBound.j0 kq x38_11 l0_0 t108 = some r) ∧ Aside0 (kq ≤ k) ∧ Aside0 (Kd.R (Kd.int .i64) 2 wc w.heap.size (fun _ => True) (.slice Ao23 t108.length co23) t108) ∧ Aside0 (wc.heap[gb101]? = some (.cells #[(.slice A0_0 l0_0.length c0_0)] 24 (0, 0))) ∧ Aside0 (wc.heap[gb111]? = some (.cells #[(.slice Ao23 t108.length co23)] 28 (0, 0))) ∧ Aside0 (Below w.heap.size w wc))
  case first =>
   have H := HC12.out
   clear HC12
   by_cases c27 : t112 = t106
   ·rw [if_pos c27] at H
    have c27b0 : (t112 == t106) = true := beq_iff_eq.mpr c27
    have c27b1 : (t112 != t106) = false := bne_eq_false_iff_eq.mpr c27
    clear c27
    (first | rw [c27b0] | (simp only [i64_w, i32_w]; rw [c27b0]) | skip)
    have H' := Aside0.mk H
    clear H
    go_wp2
    go_meet
    case rel => exact ⟨_, ((t113 != t107)), (by first | rfl | (simp; done) | (simp [*]; done)), H', ⟨by first | omega | exact Nat.le_refl _⟩, ⟨by (with_reducible repeat (first | apply Kd.R_alloc | apply Kd.R_drewN | apply Kd.R_drew)); exact Kd.R_mono HO110.out (fun _ hk => trivial)⟩, ⟨by (with_reducible repeat (first | refine blk_drewN ?_ _ | refine blk_drew ?_ | refine blk_alloc ?_ _)); exact BK101.out⟩, ⟨by (with_reducible repeat (first | refine blk_drewN ?_ _ | refine blk_drew ?_ | refine blk_alloc ?_ _)); exact BK111.out⟩, ⟨by repeat (first | (with_reducible first | exact HB.out | apply below_alloc | apply pw_below_drewN | apply below_drew1 | refine below_set ?_ GE101.out | refine below_set ?_ GE111.out) | exact HB.out)⟩⟩
   ·rw [if_neg c27] at H
    have c27b0 : (t112 == t106) = false := beq_eq_false_iff_ne.mpr c27
    have c27b1 : (t112 != t106) = true := bne_iff_ne.mpr c27
    (first | rw [c27b0] | (simp only [i64_w, i32_w]; rw [c27b0]) | skip)
    have H' := Aside0.mk H
    clear H
    go_wp2
    go_meet
    case rel => exact ⟨_, (true), (by first | rfl | (simp; done) | (simp [*]; done)), H', ⟨by first | omega | exact Nat.le_refl _⟩, ⟨by (with_reducible repeat (first | apply Kd.R_alloc | apply Kd.R_drewN | apply Kd.R_drew)); exact Kd.R_mono HO110.out (fun _ hk => trivial)⟩, ⟨by (with_reducible repeat (first | refine blk_drewN ?_ _ | refine blk_drew ?_ | refine blk_alloc ?_ _)); exact BK101.out⟩, ⟨by (with_reducible repeat (first | refine blk_drewN ?_ _ | refine blk_drew ?_ | refine blk_alloc ?_ _)); exact BK111.out⟩, ⟨by repeat (first | (with_reducible first | exact HB.out | apply below_alloc | apply pw_below_drewN | apply below_drew1 | refine below_set ?_ GE101.out | refine below_set ?_ GE111.out) | exact HB.out)⟩⟩
  case rest =>
   clear HC12
   try clear c1
   try clear c2
   try clear p2
   try clear c4
   try clear c4b0
   try clear c11
   try clear c15
   try clear c17
   try clear c24
   try clear c27
   try clear c27b0
   try clear c27b1
   try clear hcz14_0
   try clear hcz16_0
   try clear hcz20_0
   try clear hcz25_0
   try clear hcz6_0
   try clear hfz14_0
   try clear hfz16_0
   try clear hfz20_0
   try clear hfz25_0
   try clear hfz6_0
   obtain ⟨kq, x38_11, rfl, HA, HJ11, HO_112000, BK101, BK111, HB⟩ := hcut
   cases kq with
   | zero => exact absurd HA.out (by simp [laws_FnExactChoiceBound.j0])
   | succ kj11 =>
    have H := HA.out
    clear HA
    simp only [laws_FnExactChoiceBound.j0] at H
    by_cases c28 : x38_11 = true
    ·subst c28
     have H1 : (some false) = some r := by rw [if_pos rfl] at H; exact H
     clear H
     have H := H1
     clear H1
     obtain rfl := Option.some.inj H
     go_wp2
     go_ret
     exact ⟨by first | rfl | (simp [errW_none, errW_some] <;> rfl) | (simp [*, errW_none, errW_some] <;> rfl), by repeat (first | (with_reducible first | exact HB.out | apply below_alloc | apply pw_below_drewN | apply below_drew1 | refine below_set ?_ GE101.out | refine below_set ?_ GE111.out) | exact HB.out)⟩
    ·replace c28 := Bool.eq_false_iff.mpr c28
     subst c28
     have H1 : ((laws_toSpace.f kj11 l0_0).bind fun t114 => ((laws_eqSpace.f kj11 t108 t114).bind fun t117 => (if t117 = true then (some true) else (some false)))) = some r := by rw [if_neg (show ¬ (false = true) by decide)] at H; exact H
     clear H
     have H := H1
     clear H1
     replace H := Option.bind_eq_some_iff.mp H
     obtain ⟨t114, A290, H⟩ := H
     replace H : ((laws_eqSpace.f kj11 t108 t114).bind fun t117 => (if t117 = true then (some true) else (some false))) = some r := H
     have A29 := Aside0.mk A290
     clear A290
     replace H := Option.bind_eq_some_iff.mp H
     obtain ⟨t117, A300, H⟩ := H
     replace H : (if t117 = true then (some true) else (some false)) = some r := H
     have A30 := Aside0.mk A300
     clear A300
     by_cases c31 : t117 = true
     ·subst c31
      have H1 : (some true) = some r := by rw [if_pos rfl] at H; exact H
      clear H
      have H := H1
      clear H1
      obtain rfl := Option.some.inj H
      try go_wp2
      have n0_ := Aside0.mk (Kd.R_drew HO_112000.out)
      have n1_ := Aside0.mk (blk_drew BK101.out)
      have n2_ := Aside0.mk (blk_drew BK111.out)
      have n3_ := Aside0.mk (below_drew1 HB.out)
      clear HO_112000
      clear BK101
      clear BK111
      clear HB
      have HO_112000 := n0_
      have BK101 := n1_
      have BK111 := n2_
      have HB := n3_
      clear n0_ n1_ n2_ n3_
      refine start_ (n := 5) (S := fun w' => w'.cell? ⟨gb111, 0, none⟩ = some (.slice Ao23 t108.length co23) ∧ w'.cell? ⟨gb101, 0, none⟩ = some (.slice A0_0 l0_0.length c0_0)) (ds := []) #[false, false, false, false, false] (by kernel_rfl) rfl rfl ⟨(blk_cell BK111.out 0).trans rfl, (blk_cell BK101.out 0).trans rfl⟩ (fun hHeld => ?_)
      generalize wc.drew = w32 at HO_112000 BK101 BK111 HB hHeld ⊢
      refine take_ (i := 0) (N := some 39) (v := ?_) (a' := ?_) #[true, false, false, false, false] rfl rfl (by kernel_rfl) (fun _ _ _ h => h) (Or.inl ⟨by rfl, ?_⟩) hHeld ?_ ?_
      rotate_left
      ·rintro w' ⟨s0, s1⟩
       go_simp
       with_reducible rfl
      rotate_left
      ·simp only [Act.put, List.setIfInBounds_toArray, List.set_cons_zero, List.set_cons_succ, i64_w, i32_w]
       rfl
      refine take_ (i := 1) (N := some 40) (v := ?_) (a' := ?_) #[true, true, false, false, false] rfl rfl (by kernel_rfl) (fun _ _ _ h => h) (Or.inl ⟨by rfl, ?_⟩) hHeld ?_ ?_
      rotate_left
      ·rintro w' ⟨s0, s1⟩
       go_simp
       with_reducible rfl
      rotate_left
      ·simp only [Act.put, List.setIfInBounds_toArray, List.set_cons_zero, List.set_cons_succ, i64_w, i32_w]
       rfl
      refine one_ (i := 2) (N := some 41) #[true, true, true, false, false] rfl rfl (by kernel_rfl) (by decide) (fun K hK => ?_)
      refine goes_ Try.func17 (by kernel_rfl) rfl #[.agg #[.slice A0_0 l0_0.length c0_0]] (by rfl) rfl rfl (by (try simp only [List.map_toArray, List.map_cons, List.map_nil]); first | done | rfl | (simp only [List.length_drop, List.length_take]; rfl)) ?_
      with_reducible refine (laws_toSpace.calls kj11 _ _ l0_0 t114 _ ?side1 ?side2 A29.out).mono ?_
      (case side1 => repeat (first | exact (Kd.C_below HR0_0.out HB.out) | (with_reducible refine Kd.C_alloc ?_ _) | (with_reducible refine Kd.C_drewN ?_ _) | (with_reducible refine Kd.C_drew ?_)))
      (case side2 => exact HC0_0.out)
      rintro e w33 ⟨v115, rfl, ho0, hb⟩
      refine ⟨_, rfl, ?_⟩
      have n0_ := Aside0.mk (Kd.R_elder' (by (with_reducible repeat (first | apply Kd.R_alloc | apply Kd.R_drewN | apply Kd.R_drew)); exact HO_112000.out) (Kd.R_base ho0) hb)
      have n1_ := Aside0.mk (Kd.R_lower (Kd.R_new' ho0 (Kd.R_lt (by (with_reducible repeat (first | apply Kd.R_alloc | apply Kd.R_drewN | apply Kd.R_drew)); exact HO_112000.out))) (below_size (by repeat (first | (with_reducible first | exact HB.out | apply below_alloc | apply pw_below_drewN | apply below_drew1 | refine below_set ?_ GE101.out | refine below_set ?_ GE111.out) | exact HB.out))))
      have n2_ := Aside0.mk (blk_below (g := gb101) (o := .cells #[.slice A0_0 l0_0.length c0_0] 24 (0, 0)) (by (with_reducible repeat (first | refine blk_drewN ?_ _ | refine blk_drew ?_ | refine blk_alloc ?_ _)); exact BK101.out) hb)
      have n3_ := Aside0.mk (blk_below (g := gb111) (o := .cells #[.slice Ao23 t108.length co23] 28 (0, 0)) (by (with_reducible repeat (first | refine blk_drewN ?_ _ | refine blk_drew ?_ | refine blk_alloc ?_ _)); exact BK111.out) hb)
      have n4_ := Aside0.mk (below_step (by repeat (first | (with_reducible first | exact HB.out | apply below_alloc | apply pw_below_drewN | apply below_drew1 | refine below_set ?_ GE101.out | refine below_set ?_ GE111.out) | exact HB.out)) hb)
      clear HO_112000
      clear BK101
      clear BK111
      clear HB
      have HO_112000 := n0_
      have HO116 := n1_
      have BK101 := n2_
      have BK111 := n3_
      have HB := n4_
      clear n0_ n1_ n2_ n3_ n4_
      (try clear hb)
      (try clear hb2)
      (try clear hk)
      (try clear hi)
      (try clear ho0)
      obtain ⟨Ao34, co34, eo34⟩ := Kd.R_slice HO116.out
      (first | subst eo34 | (injection eo34 with f1_ f2_ f3_; have f4_ := f1_.symm; have f5_ := f3_.symm; clear f1_ f2_ f3_; subst f4_; subst f5_))
      refine hK.out _ _ ⟨(blk_cell BK111.out 0).trans rfl, (blk_cell BK101.out 0).trans rfl⟩ (fun hHeld => ?_)
      clear hK K
      refine norm_ (a' := ?_) ?_ ?_
      rotate_left
      ·show Act.put _ (some 41) _ = _
       simp only [Act.put, List.setIfInBounds_toArray, List.set_cons_zero, List.set_cons_succ, i64_w, i32_w]
       rfl
      refine one_ (i := 3) (N := some 42) #[true, true, true, true, false] rfl rfl (by kernel_rfl) (by decide) (fun K hK => ?_)
      refine goes_ Try.func20 (by kernel_rfl) rfl #[.agg #[.slice Ao23 t108.length co23], .agg #[.slice Ao34 t114.length co34]] (by rfl) rfl rfl (by (try simp only [List.map_toArray, List.map_cons, List.map_nil]); first | done | rfl | (simp only [List.length_drop, List.length_take]; rfl)) ?_
      with_reducible refine (laws_eqSpace.calls kj11 _ _ t108 _ _ t114 true _ ?side1 ?side2 ?side3 ?side4 A30.out).mono ?_
      (case side1 => repeat (first | exact (Kd.R_reads' HO_112000.out).2.2 | (with_reducible refine Kd.C_alloc ?_ _) | (with_reducible refine Kd.C_drewN ?_ _) | (with_reducible refine Kd.C_drew ?_)))
      (case side2 => exact (Kd.R_reads' HO_112000.out).2.1)
      (case side3 => repeat (first | exact (Kd.R_reads' HO116.out).2.2 | (with_reducible refine Kd.C_alloc ?_ _) | (with_reducible refine Kd.C_drewN ?_ _) | (with_reducible refine Kd.C_drew ?_)))
      (case side4 => exact (Kd.R_reads' HO116.out).2.1)
      rintro e w35 ⟨rfl, hb⟩
      refine ⟨_, rfl, ?_⟩
      have n0_ := Aside0.mk (Kd.R_below (by (with_reducible repeat (first | apply Kd.R_alloc | apply Kd.R_drewN | apply Kd.R_drew)); exact HO_112000.out) hb)
      have n1_ := Aside0.mk (Kd.R_below (by (with_reducible repeat (first | apply Kd.R_alloc | apply Kd.R_drewN | apply Kd.R_drew)); exact HO116.out) hb)
      have n2_ := Aside0.mk (blk_below (g := gb101) (o := .cells #[.slice A0_0 l0_0.length c0_0] 24 (0, 0)) (by (with_reducible repeat (first | refine blk_drewN ?_ _ | refine blk_drew ?_ | refine blk_alloc ?_ _)); exact BK101.out) hb)
      have n3_ := Aside0.mk (blk_below (g := gb111) (o := .cells #[.slice Ao23 t108.length co23] 28 (0, 0)) (by (with_reducible repeat (first | refine blk_drewN ?_ _ | refine blk_drew ?_ | refine blk_alloc ?_ _)); exact BK111.out) hb)
      have n4_ := Aside0.mk (below_step (by repeat (first | (with_reducible first | exact HB.out | apply below_alloc | apply pw_below_drewN | apply below_drew1 | refine below_set ?_ GE101.out | refine below_set ?_ GE111.out) | exact HB.out)) hb)
      clear HO_112000
      clear HO116
      clear BK101
      clear BK111
      clear HB
      have HO_112000 := n0_
      have HO116 := n1_
      have BK101 := n2_
      have BK111 := n3_
      have HB := n4_
      clear n0_ n1_ n2_ n3_ n4_
      (try clear hb)
      (try clear hb2)
      (try clear hk)
      (try clear hi)
      refine hK.out _ _ ⟨(blk_cell BK111.out 0).trans rfl, (blk_cell BK101.out 0).trans rfl⟩ (fun hHeld => ?_)
      clear hK K
      refine norm_ (a' := ?_) ?_ ?_
      rotate_left
      ·show Act.put _ (some 42) _ = _
       simp only [Act.put, List.setIfInBounds_toArray, List.set_cons_zero, List.set_cons_succ, i64_w, i32_w]
       rfl
      refine pure_ (i := 4) (N := some 43) (v := ?_) (a' := ?_) #[true, true, true, true, true] rfl rfl (by kernel_rfl) (fun _ _ _ h => h) (Or.inl ⟨by rfl, ?_⟩) ?_ ?_
      rotate_left
      ·intro w'
       go_simp
       with_reducible rfl
      rotate_left
      ·simp only [Act.put, List.setIfInBounds_toArray, List.set_cons_zero, List.set_cons_succ, i64_w, i32_w]
       rfl
      refine done_ (by kernel_rfl) ?_
      try go_wp2
      go_ret
      exact ⟨by first | rfl | (simp [errW_none, errW_some] <;> rfl) | (simp [*, errW_none, errW_some] <;> rfl), by repeat (first | (with_reducible first | exact HB.out | apply below_alloc | apply pw_below_drewN | apply below_drew1 | refine below_set ?_ GE101.out | refine below_set ?_ GE111.out) | exact HB.out)⟩
     ·replace c31 := Bool.eq_false_iff.mpr c31
      subst c31
      have H1 : (some false) = some r := by rw [if_neg (show ¬ (false = true) by decide)] at H; exact H
      clear H
      have H := H1
      clear H1
      obtain rfl := Option.some.inj H
      try go_wp2
      have n0_ := Aside0.mk (Kd.R_drew HO_112000.out)
      have n1_ := Aside0.mk (blk_drew BK101.out)
      have n2_ := Aside0.mk (blk_drew BK111.out)
      have n3_ := Aside0.mk (below_drew1 HB.out)
      clear HO_112000
      clear BK101
      clear BK111
      clear HB
      have HO_112000 := n0_
      have BK101 := n1_
      have BK111 := n2_
      have HB := n3_
      clear n0_ n1_ n2_ n3_
      refine start_ (n := 5) (S := fun w' => w'.cell? ⟨gb111, 0, none⟩ = some (.slice Ao23 t108.length co23) ∧ w'.cell? ⟨gb101, 0, none⟩ = some (.slice A0_0 l0_0.length c0_0)) (ds := []) #[false, false, false, false, false] (by kernel_rfl) rfl rfl ⟨(blk_cell BK111.out 0).trans rfl, (blk_cell BK101.out 0).trans rfl⟩ (fun hHeld => ?_)
      generalize wc.drew = w36 at HO_112000 BK101 BK111 HB hHeld ⊢
      refine take_ (i := 0) (N := some 39) (v := ?_) (a' := ?_) #[true, false, false, false, false] rfl rfl (by kernel_rfl) (fun _ _ _ h => h) (Or.inl ⟨by rfl, ?_⟩) hHeld ?_ ?_
      rotate_left
      ·rintro w' ⟨s0, s1⟩
       go_simp
       with_reducible rfl
      rotate_left
      ·simp only [Act.put, List.setIfInBounds_toArray, List.set_cons_zero, List.set_cons_succ, i64_w, i32_w]
       rfl
      refine take_ (i := 1) (N := some 40) (v := ?_) (a' := ?_) #[true, true, false, false, false] rfl rfl (by kernel_rfl) (fun _ _ _ h => h) (Or.inl ⟨by rfl, ?_⟩) hHeld ?_ ?_
      rotate_left
      ·rintro w' ⟨s0, s1⟩
       go_simp
       with_reducible rfl
      rotate_left
      ·simp only [Act.put, List.setIfInBounds_toArray, List.set_cons_zero, List.set_cons_succ, i64_w, i32_w]
       rfl
      refine one_ (i := 2) (N := some 41) #[true, true, true, false, false] rfl rfl (by kernel_rfl) (by decide) (fun K hK => ?_)
      refine goes_ Try.func17 (by kernel_rfl) rfl #[.agg #[.slice A0_0 l0_0.length c0_0]] (by rfl) rfl rfl (by (try simp only [List.map_toArray, List.map_cons, List.map_nil]); first | done | rfl | (simp only [List.length_drop, List.length_take]; rfl)) ?_
      with_reducible refine (laws_toSpace.calls kj11 _ _ l0_0 t114 _ ?side1 ?side2 A29.out).mono ?_
      (case side1 => repeat (first | exact (Kd.C_below HR0_0.out HB.out) | (with_reducible refine Kd.C_alloc ?_ _) | (with_reducible refine Kd.C_drewN ?_ _) | (with_reducible refine Kd.C_drew ?_)))
      (case side2 => exact HC0_0.out)
      rintro e w37 ⟨v115, rfl, ho0, hb⟩
      refine ⟨_, rfl, ?_⟩
      have n0_ := Aside0.mk (Kd.R_elder' (by (with_reducible repeat (first | apply Kd.R_alloc | apply Kd.R_drewN | apply Kd.R_drew)); exact HO_112000.out) (Kd.R_base ho0) hb)
      have n1_ := Aside0.mk (Kd.R_lower (Kd.R_new' ho0 (Kd.R_lt (by (with_reducible repeat (first | apply Kd.R_alloc | apply Kd.R_drewN | apply Kd.R_drew)); exact HO_112000.out))) (below_size (by repeat (first | (with_reducible first | exact HB.out | apply below_alloc | apply pw_below_drewN | apply below_drew1 | refine below_set ?_ GE101.out | refine below_set ?_ GE111.out) | exact HB.out))))
      have n2_ := Aside0.mk (blk_below (g := gb101) (o := .cells #[.slice A0_0 l0_0.length c0_0] 24 (0, 0)) (by (with_reducible repeat (first | refine blk_drewN ?_ _ | refine blk_drew ?_ | refine blk_alloc ?_ _)); exact BK101.out) hb)
      have n3_ := Aside0.mk (blk_below (g := gb111) (o := .cells #[.slice Ao23 t108.length co23] 28 (0, 0)) (by (with_reducible repeat (first | refine blk_drewN ?_ _ | refine blk_drew ?_ | refine blk_alloc ?_ _)); exact BK111.out) hb)
      have n4_ := Aside0.mk (below_step (by repeat (first | (with_reducible first | exact HB.out | apply below_alloc | apply pw_below_drewN | apply below_drew1 | refine below_set ?_ GE101.out | refine below_set ?_ GE111.out) | exact HB.out)) hb)
      clear HO_112000
      clear BK101
      clear BK111
      clear HB
      have HO_112000 := n0_
      have HO116 := n1_
      have BK101 := n2_
      have BK111 := n3_
      have HB := n4_
      clear n0_ n1_ n2_ n3_ n4_
      (try clear hb)
      (try clear hb2)
      (try clear hk)
      (try clear hi)
      (try clear ho0)
      obtain ⟨Ao38, co38, eo38⟩ := Kd.R_slice HO116.out
      (first | subst eo38 | (injection eo38 with f1_ f2_ f3_; have f4_ := f1_.symm; have f5_ := f3_.symm; clear f1_ f2_ f3_; subst f4_; subst f5_))
      refine hK.out _ _ ⟨(blk_cell BK111.out 0).trans rfl, (blk_cell BK101.out 0).trans rfl⟩ (fun hHeld => ?_)
      clear hK K
      refine norm_ (a' := ?_) ?_ ?_
      rotate_left
      ·show Act.put _ (some 41) _ = _
       simp only [Act.put, List.setIfInBounds_toArray, List.set_cons_zero, List.set_cons_succ, i64_w, i32_w]
       rfl
      refine one_ (i := 3) (N := some 42) #[true, true, true, true, false] rfl rfl (by kernel_rfl) (by decide) (fun K hK => ?_)
      refine goes_ Try.func20 (by kernel_rfl) rfl #[.agg #[.slice Ao23 t108.length co23], .agg #[.slice Ao38 t114.length co38]] (by rfl) rfl rfl (by (try simp only [List.map_toArray, List.map_cons, List.map_nil]); first | done | rfl | (simp only [List.length_drop, List.length_take]; rfl)) ?_
      with_reducible refine (laws_eqSpace.calls kj11 _ _ t108 _ _ t114 false _ ?side1 ?side2 ?side3 ?side4 A30.out).mono ?_
      (case side1 => repeat (first | exact (Kd.R_reads' HO_112000.out).2.2 | (with_reducible refine Kd.C_alloc ?_ _) | (with_reducible refine Kd.C_drewN ?_ _) | (with_reducible refine Kd.C_drew ?_)))
      (case side2 => exact (Kd.R_reads' HO_112000.out).2.1)
      (case side3 => repeat (first | exact (Kd.R_reads' HO116.out).2.2 | (with_reducible refine Kd.C_alloc ?_ _) | (with_reducible refine Kd.C_drewN ?_ _) | (with_reducible refine Kd.C_drew ?_)))
      (case side4 => exact (Kd.R_reads' HO116.out).2.1)
      rintro e w39 ⟨rfl, hb⟩
      refine ⟨_, rfl, ?_⟩
      have n0_ := Aside0.mk (Kd.R_below (by (with_reducible repeat (first | apply Kd.R_alloc | apply Kd.R_drewN | apply Kd.R_drew)); exact HO_112000.out) hb)
      have n1_ := Aside0.mk (Kd.R_below (by (with_reducible repeat (first | apply Kd.R_alloc | apply Kd.R_drewN | apply Kd.R_drew)); exact HO116.out) hb)
      have n2_ := Aside0.mk (blk_below (g := gb101) (o := .cells #[.slice A0_0 l0_0.length c0_0] 24 (0, 0)) (by (with_reducible repeat (first | refine blk_drewN ?_ _ | refine blk_drew ?_ | refine blk_alloc ?_ _)); exact BK101.out) hb)
      have n3_ := Aside0.mk (blk_below (g := gb111) (o := .cells #[.slice Ao23 t108.length co23] 28 (0, 0)) (by (with_reducible repeat (first | refine blk_drewN ?_ _ | refine blk_drew ?_ | refine blk_alloc ?_ _)); exact BK111.out) hb)
      have n4_ := Aside0.mk (below_step (by repeat (first | (with_reducible first | exact HB.out | apply below_alloc | apply pw_below_drewN | apply below_drew1 | refine below_set ?_ GE101.out | refine below_set ?_ GE111.out) | exact HB.out)) hb)
      clear HO_112000
      clear HO116
      clear BK101
      clear BK111
      clear HB
      have HO_112000 := n0_
      have HO116 := n1_
      have BK101 := n2_
      have BK111 := n3_
      have HB := n4_
      clear n0_ n1_ n2_ n3_ n4_
      (try clear hb)
      (try clear hb2)
      (try clear hk)
      (try clear hi)
      refine hK.out _ _ ⟨(blk_cell BK111.out 0).trans rfl, (blk_cell BK101.out 0).trans rfl⟩ (fun hHeld => ?_)
      clear hK K
      refine norm_ (a' := ?_) ?_ ?_
      rotate_left
      ·show Act.put _ (some 42) _ = _
       simp only [Act.put, List.setIfInBounds_toArray, List.set_cons_zero, List.set_cons_succ, i64_w, i32_w]
       rfl
      refine pure_ (i := 4) (N := some 43) (v := ?_) (a' := ?_) #[true, true, true, true, true] rfl rfl (by kernel_rfl) (fun _ _ _ h => h) (Or.inl ⟨by rfl, ?_⟩) ?_ ?_
      rotate_left
      ·intro w'
       go_simp
       with_reducible rfl
      rotate_left
      ·simp only [Act.put, List.setIfInBounds_toArray, List.set_cons_zero, List.set_cons_succ, i64_w, i32_w]
       rfl
      refine done_ (by kernel_rfl) ?_
      try go_wp2
      go_ret
      exact ⟨by first | rfl | (simp [errW_none, errW_some] <;> rfl) | (simp [*, errW_none, errW_some] <;> rfl), by repeat (first | (with_reducible first | exact HB.out | apply below_alloc | apply pw_below_drewN | apply below_drew1 | refine below_set ?_ GE101.out | refine below_set ?_ GE111.out) | exact HB.out)⟩
theorem mul_steps {x q d4 : Int} (h0 : 1 ≤ x) (h4 : 1 ≤ d4) (hq : 2 ≤ q ∧ q ≤ 4) (h1 : x * 4 * d4 ≤ 65536) : 1 ≤ x * q ∧ x * q ≤ 65536 ∧ x * q * d4 ≤ 65536 := by
 have hx4 : x * q ≤ x * 4 := Int.mul_le_mul_of_nonneg_left (by omega) (by omega)
 have hx1 : x * 1 ≤ x * q := Int.mul_le_mul_of_nonneg_left (by omega) (by omega)
 have hb : x * q * d4 ≤ x * 4 * d4 := Int.mul_le_mul_of_nonneg_right hx4 (by omega)
 have hb2 : x * q * 1 ≤ x * q * d4 := Int.mul_le_mul_of_nonneg_left h4 (by omega)
 omega
theorem sz_getD {l : List Int} (hz : Sz l) {i : Nat} (h : i < l.length) : 2 ≤ l.getD i 0 ∧ l.getD i 0 ≤ 4 := hz _ (by rw [List.getD_eq_getElem?_getD, List.getElem?_eq_getElem h]; exact List.getElem_mem _)
theorem l01N_l0 (l : List Int) (hl : l.length ≤ 8) (hz : Sz l) : ∀ (d i : Nat) (x : Int), i + d = l.length → 1 ≤ x → x * 4 ^ d ≤ 65536 → Ev (fun k => spec_l01N.l0 k x (i : Int) l) (x * pr (l.drop i)) := by
 intro d
 induction d with
 | zero =>
  intro i x hi h0 h1
  refine Ev.step (fun k => by simp only [spec_l01N.l0]; rw [if_neg (by omega)]) ?_
  rw [List.drop_of_length_le (by omega), pr_nil, Int.mul_one]
  exact Ev.now x
 | succ d ih =>
  intro i x hi h0 h1
  have hq := sz_getD hz (show i < l.length by omega)
  rw [Int.pow_succ, Int.mul_comm (4 ^ d) 4, ← Int.mul_assoc] at h1
  obtain ⟨a, b, c⟩ := mul_steps h0 (pow4 d) hq h1
  refine Ev.step (fun k => by simp only [spec_l01N.l0]; rw [if_pos (by omega), if_pos (by omega), rd_nat, wrap_id (by omega) (by omega), wrap_id (by omega) (by omega), show (i : Int) + 1 = ((i + 1 : Nat) : Int) by omega]) ?_
  rw [drop_get l i (by omega), pr_cons, ← Int.mul_assoc]
  exact ih (i + 1) _ (by omega) a c
theorem l01N_ev (l : List Int) (hl : l.length ≤ 8) (hz : Sz l) : Ev (fun k => spec_l01N.f k l) (pr l) := by
 have h := l01N_l0 l hl hz l.length 0 1 (by omega) (by omega) (pow4_8 _ hl)
 rw [List.drop_zero, Int.one_mul] at h
 exact h
theorem l01In_val (a b c : Int) : spec_l01In.f a b c = some (decide (b ≤ a ∧ a ≤ c)) := by
 unfold spec_l01In.f
 by_cases h : a ≥ b
 ·rw [if_pos h]
  exact congrArg some (decide_eq_decide.2 ⟨fun x => ⟨h, x⟩, fun x => x.2⟩)
 ·rw [if_neg h]
  exact congrArg some (Eq.symm (decide_eq_false (fun x => h x.1)))
theorem l01Is_l0 (l : List Int) (hl : l.length ≤ 8) : ∀ (d i : Nat), i + d = l.length → (∀ q ∈ l.take i, 2 ≤ q ∧ q ≤ 4) → Ev (fun k => spec_l01Is.l0 k (i : Int) l) (decide ((∀ q ∈ l.drop i, 2 ≤ q ∧ q ≤ 4) ∧ pr l ≤ 1024)) := by
 intro d
 induction d with
 | zero =>
  intro i hi hs
  refine Ev.step (fun k => by simp only [spec_l01Is.l0]; rw [if_neg (by omega)]) ?_
  have hz : Sz l := by rw [List.take_of_length_le (by omega)] at hs; exact hs
  refine Ev.bind (l01N_ev l hl hz) ?_
  rw [List.drop_of_length_le (by omega), show decide ((∀ q ∈ ([] : List Int), 2 ≤ q ∧ q ≤ 4) ∧ pr l ≤ 1024) = decide (pr l ≤ 1024) from decide_eq_decide.2 ⟨fun h => h.2, fun h => ⟨fun q hq => absurd hq List.not_mem_nil, h⟩⟩]
  exact Ev.now _
 | succ d ih =>
  intro i hi hs
  have hdrop := drop_get l i (show i < l.length by omega)
  by_cases c : 2 ≤ l.getD i 0 ∧ l.getD i 0 ≤ 4
  ·refine Ev.step (fun k => by simp only [spec_l01Is.l0]; rw [if_pos (by omega), if_pos (by omega), rd_nat, l01In_val, decide_eq_true c, Option.bind_some, if_pos rfl, wrap_id (by omega) (by omega), show (i : Int) + 1 = ((i + 1 : Nat) : Int) by omega]) ?_
   have h := ih (i + 1) (by omega) (fun q hq => by
    rw [List.take_succ_eq_append_getElem (show i < l.length by omega)] at hq
    rcases List.mem_append.1 hq with hq | hq
    ·exact hs q hq
    ·rw [List.mem_singleton.1 hq]
     rw [List.getD_eq_getElem?_getD, List.getElem?_eq_getElem (show i < l.length by omega)] at c
     exact c)
   have e : ((∀ q ∈ l.drop (i + 1), 2 ≤ q ∧ q ≤ 4) ∧ pr l ≤ 1024) ↔ ((∀ q ∈ l.drop i, 2 ≤ q ∧ q ≤ 4) ∧ pr l ≤ 1024) := by
    rw [hdrop]
    refine ⟨fun h => ⟨fun q hq => ?_, h.2⟩, fun h => ⟨fun q hq => h.1 q (List.mem_cons_of_mem _ hq), h.2⟩⟩
    rcases List.mem_cons.1 hq with rfl | hq
    ·exact c
    ·exact h.1 q hq
   rw [← decide_eq_decide.2 e]
   exact h
  ·refine Ev.step (fun k => by simp only [spec_l01Is.l0]; rw [if_pos (by omega), if_pos (by omega), rd_nat, l01In_val, decide_eq_false c, Option.bind_some, if_neg (by decide)]) ?_
   rw [decide_eq_false (fun h => c (h.1 _ (by rw [hdrop]; exact List.mem_cons_self)))]
   exact Ev.now _
theorem l01Is_ev (l : List Int) : Ev (fun k => spec_l01Is.f k l) (isSp l) := by
 unfold spec_l01Is.f isSp
 rw [l01In_val]
 by_cases c : (1 : Int) ≤ l.length ∧ (l.length : Int) ≤ 8
 ·refine Ev.congr (fun k => by rw [decide_eq_true c, Option.bind_some, if_pos rfl]) ?_
  have h := l01Is_l0 l (by omega) l.length 0 (by omega) (fun q hq => absurd hq List.not_mem_nil)
  rw [List.drop_zero] at h
  rw [show decide (1 ≤ l.length ∧ l.length ≤ 8 ∧ (∀ q ∈ l, 2 ≤ q ∧ q ≤ 4) ∧ pr l ≤ 1024) = decide ((∀ q ∈ l, 2 ≤ q ∧ q ≤ 4) ∧ pr l ≤ 1024) from decide_eq_decide.2 ⟨fun h => h.2.2, fun h => ⟨by omega, by omega, h⟩⟩]
  exact h
 ·refine Ev.congr (fun k => by rw [decide_eq_false c, Option.bind_some, if_neg (by decide)]) ?_
  rw [decide_eq_false (fun h => c ⟨by omega, by omega⟩)]
  exact Ev.now _
theorem l10Code_ev (l : List Int) (t : Int) : Ev (fun k => spec_l10Code.f k l t) (if isSp l = true then (if 1 ≤ t ∧ t ≤ 3 ∧ t ≤ l.length then 0 else 2) else 1) := by
 unfold spec_l10Code.f
 refine Ev.bind (l01Is_ev l) ?_
 by_cases c : isSp l = true
 ·simp only [if_pos c]
  rw [l01In_val]
  by_cases c2 : 1 ≤ t ∧ t ≤ 3 ∧ t ≤ l.length
  ·rw [if_pos c2, decide_eq_true (by unfold mn; split <;> omega), Option.bind_some, if_pos rfl]
   exact Ev.now _
  ·rw [if_neg c2, decide_eq_false (by unfold mn; split <;> omega), Option.bind_some, if_neg (by decide)]
   exact Ev.now _
 ·simp only [if_neg c]
  exact Ev.now _
theorem toInt64S_l0 (l : List Int) (hl : l.length ≤ 35184372088832) : ∀ (d i : Nat) (x : List Int), i + d = l.length → x.length = l.length → (∀ j, j < i → x.getD j 0 = l.getD j 0) → Ev (fun k => laws_toInt64S.l0 k l x (i : Int)) l := by
 intro d
 induction d with
 | zero =>
  intro i x hi hx h
  refine Ev.step (fun k => by simp only [laws_toInt64S.l0]; rw [if_neg (by omega)]) ?_
  have e : x = l := by
   refine List.ext_getElem hx (fun j h1 h2 => ?_)
   have h3 := h j (by omega)
   rw [List.getD_eq_getElem?_getD, List.getD_eq_getElem?_getD, List.getElem?_eq_getElem h1, List.getElem?_eq_getElem h2] at h3
   exact h3
  rw [e]
  exact Ev.now _
 | succ d ih =>
  intro i x hi hx h
  refine Ev.step (fun k => by simp only [laws_toInt64S.l0]; rw [if_pos (by omega), if_pos (by omega), if_pos (by omega), rd_nat, show ((i : Int)).toNat = i by omega, wrap_id (by omega) (by omega), show (i : Int) + 1 = ((i + 1 : Nat) : Int) by omega]) ?_
  refine ih (i + 1) _ (by omega) (by rw [List.length_set]; exact hx) (fun j hj => ?_)
  rw [List.getD_eq_getElem?_getD, List.getElem?_set]
  by_cases c : i = j
  ·rw [if_pos c, if_pos (by omega), ← c]; rfl
  ·rw [if_neg c, ← List.getD_eq_getElem?_getD]
   exact h j (by omega)
theorem toInt64S_ev (l : List Int) (hl : l.length ≤ 35184372088832) : Ev (fun k => laws_toInt64S.f k l) l := by
 unfold laws_toInt64S.f
 refine Ev.congr (fun k => by rw [if_pos (by omega), if_pos (by omega)]) ?_
 exact toInt64S_l0 l hl l.length 0 _ (by omega) (by rw [List.length_replicate]; omega) (fun j hj => by omega)
theorem toSpace_ev (l : List Int) (hl : l.length ≤ 35184372088832) : Ev (fun k => laws_toSpace.f k l) l := Ev.bind (toInt64S_ev l hl) (Ev.now l)
theorem eqInt64S_l0 (l : List Int) (hl : l.length ≤ 35184372088832) : ∀ (d i : Nat), i + d = l.length → Ev (fun k => laws_eqInt64S.l0 k l l (i : Int)) true := by
 intro d
 induction d with
 | zero =>
  intro i hi
  refine Ev.step (fun k => by simp only [laws_eqInt64S.l0]; rw [if_neg (by omega)]) ?_
  exact Ev.now _
 | succ d ih =>
  intro i hi
  refine Ev.step (fun k => by simp only [laws_eqInt64S.l0]; rw [if_pos (by omega), if_pos (by omega), if_pos (by omega), if_true, wrap_id (by omega) (by omega), show (i : Int) + 1 = ((i + 1 : Nat) : Int) by omega]) ?_
  exact ih (i + 1) (by omega)
theorem eqInt64S_ev (l : List Int) (hl : l.length ≤ 35184372088832) : Ev (fun k => laws_eqInt64S.f k l l) true := by
 unfold laws_eqInt64S.f
 refine Ev.congr (fun k => by rw [if_pos rfl]) ?_
 exact eqInt64S_l0 l hl l.length 0 (by omega)
theorem eqSpace_ev (l : List Int) (hl : l.length ≤ 35184372088832) : Ev (fun k => laws_eqSpace.f k l l) true := by
 unfold laws_eqSpace.f
 refine Ev.bind (eqInt64S_ev l hl) ?_
 simp only [if_true]
 exact Ev.now _
theorem szSpace_val (l : List Int) (x : Int) (hx : 0 ≤ x ∧ x ≤ 1048576) (hl : l.length ≤ 9223372036854775807) : laws_szSpace.f l x = some (if l.length ≤ x then x - l.length else -1) := by
 unfold laws_szSpace.f laws_szInt64S.f
 rw [wrap_id (by omega) (by omega)]
 by_cases c : (l.length : Int) ≤ x
 ·rw [if_pos c, if_neg (by omega), Option.bind_some, if_neg (by omega)]
 ·rw [if_neg c, if_pos (by omega), Option.bind_some, if_pos (by omega)]
theorem over_l1 (l : List Int) (hl : l.length ≤ 1000) (t N : Int) (i : Nat) (hi : i < l.length) : ∀ (m : Nat) (xs ys : List Int) (y : Int), xs.length = m → xs.length + ys.length ≤ 1000 → Desc xs → Desc ys → (∀ b ∈ ys, b < l.getD i 0) → (∀ a ∈ xs, ∀ b ∈ ys, b ≤ a) →
  ∃ zs, zs.Perm (xs ++ l.getD i 0 :: ys) ∧ Desc zs ∧ ∀ r, Ev (fun k => spec_l04Over.l0 k t zs N ((i + 1 : Nat) : Int) l) r → Ev (fun k => spec_l04Over.l1 k t (xs ++ y :: ys) N (i : Int) (xs.length : Int) l) r := by
 intro m
 obtain ⟨v, hv⟩ : ∃ v : Int, v = l.getD i 0 := ⟨_, rfl⟩
 rw [← hv]
 induction m with
 | zero =>
  intro xs ys y hm hb hxs hys h1 h2
  have e : xs = [] := List.length_eq_zero_iff.1 hm
  subst e
  refine ⟨v :: ys, List.Perm.refl _, List.pairwise_cons.2 ⟨fun b hb => Int.le_of_lt (h1 b hb), hys⟩, fun r hr => ?_⟩
  have hL : ([] ++ y :: ys).length = ys.length + 1 := by simp
  refine Ev.step (fun k => by simp only [spec_l04Over.l1]; rw [if_neg (by show ¬ ((0 : Nat) : Int) > 0; omega), if_pos (by omega), if_pos (by omega), if_pos (by omega), if_pos (by rw [hL]; show ((0 : Nat) : Int) < _; omega), rd_nat, ← hv, wrap_id (by omega) (by omega), show (i : Int) + 1 = ((i + 1 : Nat) : Int) by omega]) ?_
  exact hr
 | succ m ih =>
  intro xs ys y hm hb hxs hys h1 h2
  obtain ⟨xs', z, rfl⟩ : ∃ xs' z, xs = xs' ++ [z] := ⟨xs.dropLast, xs.getLast (by intro e; subst e; simp at hm), (List.dropLast_concat_getLast _).symm⟩
  have hm' : xs'.length = m := by simpa using hm
  have hlen : (xs' ++ [z]).length = xs'.length + 1 := by simp
  obtain ⟨ha1, _, ha3⟩ := List.pairwise_append.1 hxs
  have e2 : xs' ++ [z] ++ y :: ys = xs' ++ z :: (y :: ys) := by simp
  have g2 : rd (xs' ++ [z] ++ y :: ys) (xs'.length : Int) = z := by rw [rd_nat, e2]; exact getD_mid _ _ _
  have hL : (xs' ++ [z] ++ y :: ys).length = xs'.length + 2 + ys.length := by simp; omega
  have w1 : wrap64 (((xs' ++ [z]).length : Int) - 1) = (xs'.length : Int) := by rw [hlen, wrap_id (by omega) (by omega)]; omega
  have es : ∀ u : Int, (xs' ++ [z] ++ y :: ys).set (((xs' ++ [z]).length : Int)).toNat u = xs' ++ [z] ++ u :: ys := fun u => by
   rw [show (((xs' ++ [z]).length : Int)).toNat = (xs' ++ [z]).length by omega, set_mid]
  by_cases c : z < v
  ·obtain ⟨zs, hp, hs, hk⟩ := ih xs' (z :: ys) z hm' (by simp at hb ⊢; omega) ha1 (List.pairwise_cons.2 ⟨fun b hb => h2 z (by simp) b hb, hys⟩) (fun b hb => (List.mem_cons.1 hb).elim (fun e => by rw [e]; exact c) (h1 b)) (fun a ha b hb => (List.mem_cons.1 hb).elim (fun e => by rw [e]; exact ha3 a ha z (by simp)) (h2 a (by simp [ha]) b))
   refine ⟨zs, hp.trans ?_, hs, fun r hr => ?_⟩
   ·rw [List.append_assoc]
    exact List.Perm.append_left xs' (List.Perm.swap z v ys)
   ·refine Ev.step (fun k => by simp only [spec_l04Over.l1]; rw [if_pos (by rw [hlen]; omega), w1, if_pos (by omega), if_pos (by omega), if_pos (by omega), if_pos (by omega), g2, rd_nat, ← hv, if_pos c, if_pos (by omega), if_pos (by rw [hlen]; omega), es]) ?_
    have h3 := hk r hr
    rw [show xs' ++ z :: (z :: ys) = xs' ++ [z] ++ z :: ys by simp] at h3
    exact h3
  ·refine ⟨xs' ++ [z] ++ v :: ys, List.Perm.refl _, ?_, fun r hr => ?_⟩
   ·refine List.pairwise_append.2 ⟨hxs, List.pairwise_cons.2 ⟨fun b hb => Int.le_of_lt (h1 b hb), hys⟩, fun a ha b hb => ?_⟩
    have hay : z ≤ a := by
     rcases List.mem_append.1 ha with ha | ha
     ·exact ha3 a ha z (by simp)
     ·rw [List.mem_singleton.1 ha]; exact Int.le_refl _
    rcases List.mem_cons.1 hb with e | hb
    ·omega
    ·exact h2 a ha b hb
   ·refine Ev.step (fun k => by simp only [spec_l04Over.l1]; rw [if_pos (by rw [hlen]; omega), w1, if_pos (by omega), if_pos (by omega), if_pos (by omega), if_pos (by omega), g2, rd_nat, ← hv, if_neg c, if_pos (by omega), if_pos (by rw [hlen]; omega), es, wrap_id (by omega) (by omega), show (i : Int) + 1 = ((i + 1 : Nat) : Int) by omega]) ?_
    exact hr
theorem over_l2 (t : Nat) (d : List Int) (hz : Sz d) (ht : t ≤ d.length) (hd : d.length ≤ 8) : ∀ (e i : Nat), i + e = t → Ev (fun k => spec_l04Over.l2 k (t : Int) d (pr (d.drop i)) (i : Int)) (pr (d.drop t)) := by
 intro e
 induction e with
 | zero =>
  intro i hi
  rw [show i = t by omega]
  exact Ev.step (fun k => by simp only [spec_l04Over.l2]; rw [if_neg (by omega)]) (Ev.now _)
 | succ e ih =>
  intro i hi
  have hq := sz_getD hz (show i < d.length by omega)
  have h1 := pr_pos (hz.drop (i + 1))
  have h2 := pr_le_two (d.drop (i + 1)) (hz.drop _) (by rw [List.length_drop]; omega)
  refine Ev.step (fun k => by simp only [spec_l04Over.l2]; rw [if_pos (by omega), if_pos (by omega), if_pos (by omega), rd_nat, if_neg (by omega), pr_drop_step d i (by omega) (by omega), wrap_id (x := pr (d.drop (i + 1))) (by omega) (by omega), wrap_id (by omega) (by omega), show (i : Int) + 1 = ((i + 1 : Nat) : Int) by omega]) ?_
  exact ih (i + 1) (by omega)
theorem over_l0 (l : List Int) (hz : Sz l) (hl : l.length ≤ 8) (t : Nat) (ht : t ≤ l.length) : ∀ (e i : Nat) (d : List Int), i + e = l.length → d.Perm (l.take i) → Desc d → Ev (fun k => spec_l04Over.l0 k (t : Int) d (pr l) (i : Int) l) (overK l t) := by
 intro e
 induction e with
 | zero =>
  intro i d hi hp hs
  rw [List.take_of_length_le (by omega)] at hp
  have hdz : Sz d := fun q hq => hz q (hp.mem_iff.1 hq)
  have hdl := hp.length_eq
  refine Ev.step (fun k => by simp only [spec_l04Over.l0]; rw [if_neg (by omega)]) ?_
  rw [← over_desc hp hs t ht]
  have h := over_l2 t d hdz (by omega) (by omega) t 0 (by omega)
  rw [List.drop_zero, pr_perm hp] at h
  exact h
 | succ e ih =>
  intro i d hi hp hs
  have hdl := hp.length_eq
  rw [List.length_take] at hdl
  obtain ⟨zs, hp2, hs2, hk⟩ := over_l1 l (by omega) (t : Int) (pr l) i (by omega) d.length d [] (l.getD i 0) rfl (by simp; omega) hs List.Pairwise.nil (fun b hb => by cases hb) (fun a _ b hb => by cases hb)
  have hp3 : zs.Perm (l.take (i + 1)) := by
   rw [List.take_succ_eq_append_getElem (by omega : i < l.length)]
   have e1 : l.getD i 0 = l[i]'(by omega) := by rw [List.getD_eq_getElem?_getD, List.getElem?_eq_getElem (by omega : i < l.length)]; rfl
   rw [e1] at hp2
   exact hp2.trans (hp.append_right _)
  refine Ev.step (fun k => by simp only [spec_l04Over.l0]; rw [if_pos (by omega), if_pos (by omega), if_pos (by omega), rd_nat]) ?_
  exact hk _ (ih (i + 1) zs (by omega) hp3 hs2)
theorem l04Over_ev (l : List Int) (hz : Sz l) (hl : l.length ≤ 8) (t : Nat) (ht : t ≤ l.length) : Ev (fun k => spec_l04Over.f k l (t : Int)) (overK l t) := by
 unfold spec_l04Over.f
 refine Ev.bind (l01N_ev l hl hz) ?_
 exact over_l0 l hz hl t ht l.length 0 [] (by omega) (List.Perm.refl _) List.Pairwise.nil
theorem spec_ChoiceBound_ev (l : List Int) (t : Int) : Ev (fun k => spec_ChoiceBound.f k l t) (choiceBoundOf l t) := by
 unfold spec_ChoiceBound.f choiceBoundOf
 refine Ev.bind (l10Code_ev l t) ?_
 rw [← rowsCode_nil_eq]
 by_cases c : rowsCode l [] t = 0
 ·obtain ⟨hz, h8, h1, hp, _, _, ht1, ht3, ht4⟩ := rowsCode_zero c
  obtain ⟨tn, rfl⟩ : ∃ tn : Nat, t = tn := ⟨t.toNat, by omega⟩
  have hov := over_one hz tn
  have hpp := pr_pos hz
  have hq0 : 0 ≤ Int.tdiv (pr l) (overK l tn) := Int.tdiv_nonneg (by omega) (by omega)
  have hq1 : Int.tdiv (pr l) (overK l tn) ≤ 1024 := by
   rw [Int.tdiv_eq_ediv_of_nonneg (by omega)]
   exact Int.le_trans (Int.ediv_le_self _ (by omega)) (by omega)
  simp only [if_pos c]
  refine Ev.bind (l01N_ev l h8 hz) ?_
  refine Ev.bind (l04Over_ev l hz h8 tn (by omega)) ?_
  rw [show ((tn : Int)).toNat = tn by omega]
  exact Ev.congr (fun k => by rw [if_neg (by omega), wrap_id (by omega) (by omega)]) (Ev.now _)
 ·simp only [if_neg c]
  exact Ev.now _
theorem law_ChoiceBound (l : List Int) (t : Int) (hl : l.length ≤ maxLen) (_ : (Lit.int .i64 t).wf = true) : ∃ k, laws_FnExactChoiceBound.f k l t = some true := by
 replace hl : l.length ≤ 9223372036854775807 := hl
 refine Ev.rounds (g := fun k => laws_FnExactChoiceBound.f k l t) ?_
 unfold laws_FnExactChoiceBound.f
 refine Ev.congr (fun k => by rw [szSpace_val l 1048576 (by omega) hl, Option.bind_some]) ?_
 by_cases c2 : (l.length : Int) ≤ 1048576
 ·refine Ev.congr (fun k => by rw [if_pos c2, if_neg (by omega)]) ?_
  have hi : impl_ChoiceBound.f l t = some (choiceBoundOf l t) := rfl
  have hS := toSpace_ev l (by omega)
  refine Ev.bind hS ?_
  refine Ev.bind (spec_ChoiceBound_ev l t) ?_
  refine Ev.bind hS ?_
  refine Ev.congr (fun k => by rw [hi, Option.bind_some, if_pos rfl, show ((choiceBoundOf l t).2 != (choiceBoundOf l t).2) = false by simp]) ?_
  refine Ev.step (fun k => by simp only [laws_FnExactChoiceBound.j0, Bool.false_eq_true, if_false]; rfl) ?_
  refine Ev.bind hS ?_
  refine Ev.bind (eqSpace_ev l (by omega)) ?_
  simp only [if_true]
  exact Ev.now _
 ·refine Ev.congr (fun k => by rw [if_neg c2, if_pos (by omega)]) (Ev.now _)
end Go.Proofs.Ytionaakahhgdjaa.P
