/- What some functions of the program return, and plain facts on it; conditions: those that each theorem names. Part 4 of the proof. -/
import Derived.Test.YtionaakahhgdjaaJ4x1
import Derived.Test.YtionaakahhgdjaaJ4x2
import Derived.Test.YtionaakahhgdjaaJ4x3
namespace Go.Proofs.Ytionaakahhgdjaa.P
open Go.RowKit Go.Proofs.YtionaakahhgdjaaW.PrintWords Go.Proofs.YtionaakahhgdjaaW.PrintLast Go.Proofs.YtionaakahhgdjaaW.PrintMore
attribute [local go_sem] max2_int min2_int max_two min_two max_three min_three max_four min_four
set_option linter.unusedVariables false
set_option linter.unusedSimpArgs false
/- F4 -/
mutual
def laws_FnExactNewChoices.j0 : Nat → List Int → Int → List Int → Int → List Int → List Int → Int → Bool → List Int → List Int → Option (Bool)
  | 0, _, _, _, _, _, _, _, _, _, _ => none
  | k + 1, x1, x2, x8, x9, x11, x12, x13, x55, x102000, x117000 => if x55 = true then (some false) else ((laws_toSpace.f k x102000).bind fun t125 => ((laws_eqSpace.f k x117000 t125).bind fun t128 => (if t128 = true then ((laws_toInt64S.f k x1).bind fun t129 => ((laws_eqInt64S.f k x11 t129).bind fun t132 => (if t132 = true then ((laws_markSpace.f k x117000 1).bind fun bt133 => ((laws_markInt64S.f k x11 bt133.1).bind fun bt135 => (if bt135.1 < 0 then (laws_FnExactNewChoices.j1 k x1 x2 x8 x9 x12 true x102000) else ((laws_eqInt64S.f k x12 x8).bind fun t137 => (if t137 = true then (laws_FnExactNewChoices.j1 k x1 x2 x8 x9 x12 (x13 != x9) x102000) else (laws_FnExactNewChoices.j1 k x1 x2 x8 x9 x12 true x102000)))))) else (some false)))) else (some false))))
def laws_FnExactNewChoices.j1 : Nat → List Int → Int → List Int → Int → List Int → Bool → List Int → Option (Bool)
  | 0, _, _, _, _, _, _, _ => none
  | k + 1, x1, x2, x8, x9, x12, x84, x102000 => if x84 = true then (some false) else ((laws_markInt64S.f k x12 1).bind fun bt138 => ((laws_heldInt64S.f k bt138.2 1).bind fun t140 => (if t140 < 0 then (some false) else (if t140 = bt138.1 then ((laws_toSpace.f k x102000).bind fun t141 => ((laws_toInt64S.f k x1).bind fun t144 => ((impl_NewChoices.f t141 t144 x2).bind fun bt147 => ((laws_eqInt64S.f k bt147.1 x8).bind fun t151 => (if t151 = true then (laws_FnExactNewChoices.j2 k bt138.2 bt138.1 (bt147.2 != x9)) else (laws_FnExactNewChoices.j2 k bt138.2 bt138.1 true)))))) else (some false)))))
def laws_FnExactNewChoices.j2 : Nat → List Int → Int → Bool → Option (Bool)
  | 0, _, _, _ => none
  | k + 1, x12, x15, x113 => if x113 = true then (some false) else ((laws_heldInt64S.f k x12 1).bind fun t152 => (if t152 < 0 then (some false) else (if t152 = x15 then (some true) else (some false))))
end
def laws_FnExactNewChoices.f (k : Nat) (l0_0 : List Int) (l1 : List Int) (a2 : Int) : Option (Bool) := if (l1.length : Int) > 1048576 then (some true) else ((laws_szSpace.f l0_0 1048576).bind fun t102 => (if t102 < 0 then (some true) else ((laws_toSpace.f k l0_0).bind fun t103 => ((laws_toInt64S.f k l1).bind fun t106 => ((spec_NewChoices.f k t103 t106 a2).bind fun bt109 => ((laws_toSpace.f k l0_0).bind fun t113 => ((laws_toInt64S.f k l1).bind fun t117 => ((impl_NewChoices.f t113 t117 a2).bind fun bt120 => ((laws_eqInt64S.f k bt120.1 bt109.1).bind fun t124 => (if t124 = true then (laws_FnExactNewChoices.j0 k l1 a2 bt109.1 bt109.2 t117 bt120.1 bt120.2 (bt120.2 != bt109.2) l0_0 t113) else (laws_FnExactNewChoices.j0 k l1 a2 bt109.1 bt109.2 t117 bt120.1 bt120.2 true l0_0 t113)))))))))))
theorem laws_FnExactNewChoices.mono_l : ∀ k, (∀ y0 y1 y2 y3 y4 y5 y6 y7 y8 y9, LeO (laws_FnExactNewChoices.j0 k y0 y1 y2 y3 y4 y5 y6 y7 y8 y9) (laws_FnExactNewChoices.j0 (k + 1) y0 y1 y2 y3 y4 y5 y6 y7 y8 y9)) ∧ (∀ y0 y1 y2 y3 y4 y5 y6, LeO (laws_FnExactNewChoices.j1 k y0 y1 y2 y3 y4 y5 y6) (laws_FnExactNewChoices.j1 (k + 1) y0 y1 y2 y3 y4 y5 y6)) ∧ (∀ y0 y1 y2, LeO (laws_FnExactNewChoices.j2 k y0 y1 y2) (laws_FnExactNewChoices.j2 (k + 1) y0 y1 y2))
  | 0 => ⟨fun _ _ _ _ _ _ _ _ _ _ r h => by simp [laws_FnExactNewChoices.j0] at h, fun _ _ _ _ _ _ _ r h => by simp [laws_FnExactNewChoices.j1] at h, fun _ _ _ r h => by simp [laws_FnExactNewChoices.j2] at h⟩
  | k + 1 => by
    obtain ⟨ih0, ih1, ih2⟩ := laws_FnExactNewChoices.mono_l k
    refine ⟨?_, ?_, ?_⟩
    · intro y0 y1 y2 y3 y4 y5 y6 y7 y8 y9
      unfold laws_FnExactNewChoices.j0
      repeat' first
      | (with_reducible exact ih0 _ _ _ _ _ _ _ _ _ _)
      | (with_reducible exact ih1 _ _ _ _ _ _ _)
      | (with_reducible exact ih2 _ _ _)
      | (with_reducible exact laws_eqInt64S.mono _ _ _)
      | (with_reducible exact laws_eqSpace.mono _ _ _)
      | (with_reducible exact laws_heldInt64S.mono _ _ _)
      | (with_reducible exact laws_markInt64S.mono _ _ _)
      | (with_reducible exact laws_markSpace.mono _ _ _)
      | (with_reducible exact laws_toInt64S.mono _ _)
      | (with_reducible exact laws_toSpace.mono _ _)
      | (with_reducible exact spec_NewChoices.mono _ _ _ _)
      | (with_reducible exact LeO.refl _)
      | (with_reducible exact LeO.none _)
      | (with_reducible refine LeO.ite ?_ ?_)
      | (with_reducible refine LeO.bind ?_ (fun _ => ?_))
      | exact ih0 _ _ _ _ _ _ _ _ _ _
      | exact ih1 _ _ _ _ _ _ _
      | exact ih2 _ _ _
      | exact laws_eqInt64S.mono _ _ _
      | exact laws_eqSpace.mono _ _ _
      | exact laws_heldInt64S.mono _ _ _
      | exact laws_markInt64S.mono _ _ _
      | exact laws_markSpace.mono _ _ _
      | exact laws_toInt64S.mono _ _
      | exact laws_toSpace.mono _ _
      | exact spec_NewChoices.mono _ _ _ _
      | exact LeO.none _
      | refine LeO.ite ?_ ?_
      | refine LeO.bind ?_ (fun _ => ?_)
    · intro y0 y1 y2 y3 y4 y5 y6
      unfold laws_FnExactNewChoices.j1
      repeat' first
      | (with_reducible exact ih0 _ _ _ _ _ _ _ _ _ _)
      | (with_reducible exact ih1 _ _ _ _ _ _ _)
      | (with_reducible exact ih2 _ _ _)
      | (with_reducible exact laws_eqInt64S.mono _ _ _)
      | (with_reducible exact laws_eqSpace.mono _ _ _)
      | (with_reducible exact laws_heldInt64S.mono _ _ _)
      | (with_reducible exact laws_markInt64S.mono _ _ _)
      | (with_reducible exact laws_markSpace.mono _ _ _)
      | (with_reducible exact laws_toInt64S.mono _ _)
      | (with_reducible exact laws_toSpace.mono _ _)
      | (with_reducible exact spec_NewChoices.mono _ _ _ _)
      | (with_reducible exact LeO.refl _)
      | (with_reducible exact LeO.none _)
      | (with_reducible refine LeO.ite ?_ ?_)
      | (with_reducible refine LeO.bind ?_ (fun _ => ?_))
      | exact ih0 _ _ _ _ _ _ _ _ _ _
      | exact ih1 _ _ _ _ _ _ _
      | exact ih2 _ _ _
      | exact laws_eqInt64S.mono _ _ _
      | exact laws_eqSpace.mono _ _ _
      | exact laws_heldInt64S.mono _ _ _
      | exact laws_markInt64S.mono _ _ _
      | exact laws_markSpace.mono _ _ _
      | exact laws_toInt64S.mono _ _
      | exact laws_toSpace.mono _ _
      | exact spec_NewChoices.mono _ _ _ _
      | exact LeO.none _
      | refine LeO.ite ?_ ?_
      | refine LeO.bind ?_ (fun _ => ?_)
    · intro y0 y1 y2
      unfold laws_FnExactNewChoices.j2
      repeat' first
      | (with_reducible exact ih0 _ _ _ _ _ _ _ _ _ _)
      | (with_reducible exact ih1 _ _ _ _ _ _ _)
      | (with_reducible exact ih2 _ _ _)
      | (with_reducible exact laws_eqInt64S.mono _ _ _)
      | (with_reducible exact laws_eqSpace.mono _ _ _)
      | (with_reducible exact laws_heldInt64S.mono _ _ _)
      | (with_reducible exact laws_markInt64S.mono _ _ _)
      | (with_reducible exact laws_markSpace.mono _ _ _)
      | (with_reducible exact laws_toInt64S.mono _ _)
      | (with_reducible exact laws_toSpace.mono _ _)
      | (with_reducible exact spec_NewChoices.mono _ _ _ _)
      | (with_reducible exact LeO.refl _)
      | (with_reducible exact LeO.none _)
      | (with_reducible refine LeO.ite ?_ ?_)
      | (with_reducible refine LeO.bind ?_ (fun _ => ?_))
      | exact ih0 _ _ _ _ _ _ _ _ _ _
      | exact ih1 _ _ _ _ _ _ _
      | exact ih2 _ _ _
      | exact laws_eqInt64S.mono _ _ _
      | exact laws_eqSpace.mono _ _ _
      | exact laws_heldInt64S.mono _ _ _
      | exact laws_markInt64S.mono _ _ _
      | exact laws_markSpace.mono _ _ _
      | exact laws_toInt64S.mono _ _
      | exact laws_toSpace.mono _ _
      | exact spec_NewChoices.mono _ _ _ _
      | exact LeO.none _
      | refine LeO.ite ?_ ?_
      | refine LeO.bind ?_ (fun _ => ?_)
theorem laws_FnExactNewChoices.mono : ∀ a0 a1 a2 k, LeO (laws_FnExactNewChoices.f k a0 a1 a2) (laws_FnExactNewChoices.f (k + 1) a0 a1 a2) := by
  intro a0 a1 a2 k
  obtain ⟨ih0, ih1, ih2⟩ := laws_FnExactNewChoices.mono_l k
  unfold laws_FnExactNewChoices.f
  repeat' first
      | (with_reducible exact ih0 _ _ _ _ _ _ _ _ _ _)
      | (with_reducible exact ih1 _ _ _ _ _ _ _)
      | (with_reducible exact ih2 _ _ _)
      | (with_reducible exact laws_eqInt64S.mono _ _ _)
      | (with_reducible exact laws_eqSpace.mono _ _ _)
      | (with_reducible exact laws_heldInt64S.mono _ _ _)
      | (with_reducible exact laws_markInt64S.mono _ _ _)
      | (with_reducible exact laws_markSpace.mono _ _ _)
      | (with_reducible exact laws_toInt64S.mono _ _)
      | (with_reducible exact laws_toSpace.mono _ _)
      | (with_reducible exact spec_NewChoices.mono _ _ _ _)
      | (with_reducible exact LeO.refl _)
      | (with_reducible exact LeO.none _)
      | (with_reducible refine LeO.ite ?_ ?_)
      | (with_reducible refine LeO.bind ?_ (fun _ => ?_))
      | exact ih0 _ _ _ _ _ _ _ _ _ _
      | exact ih1 _ _ _ _ _ _ _
      | exact ih2 _ _ _
      | exact laws_eqInt64S.mono _ _ _
      | exact laws_eqSpace.mono _ _ _
      | exact laws_heldInt64S.mono _ _ _
      | exact laws_markInt64S.mono _ _ _
      | exact laws_markSpace.mono _ _ _
      | exact laws_toInt64S.mono _ _
      | exact laws_toSpace.mono _ _
      | exact spec_NewChoices.mono _ _ _ _
      | exact LeO.none _
      | refine LeO.ite ?_ ?_
      | refine LeO.bind ?_ (fun _ => ?_)
set_option maxHeartbeats 8000000 in
set_option maxRecDepth 100000 in
theorem laws_FnExactNewChoices.calls (k : Nat) (A0_0 : Option Addr) (c0_0 : Nat) (l0_0 : List Int) (A1 : Option Addr) (c1 : Nat) (l1 : List Int) (a2 : Int) (r : Bool) (w : World) (hr0_0 : Kd.C (Kd.int .i64) w A0_0 l0_0.length l0_0) (hc0_0 : l0_0.length ≤ c0_0) (hr1 : Kd.C (Kd.int .i64) w A1 l1.length l1) (hc1 : l1.length ≤ c1) (h : laws_FnExactNewChoices.f k l0_0 l1 a2 = some r) :
    Calls Try.prog 4 #[.agg #[.slice A0_0 l0_0.length c0_0], .slice A1 l1.length c1, .int .i64 a2] w fun e w' => e = .returned (.bool r) ∧ Below w.heap.size w w' := by
  have hu24 := Try.underlying24
  have hu28 := Try.underlying28
  have HR0_0 := Aside0.mk hr0_0
  have HC0_0 := Aside0.mk hc0_0
  clear hr0_0 hc0_0
  have HR1 := Aside0.mk hr1
  have HC1 := Aside0.mk hc1
  clear hr1 hc1
  have HB := Aside0.mk (Below.refl w.heap.size w)
  have H : (if (l1.length : Int) > 1048576 then (some true) else ((laws_szSpace.f l0_0 1048576).bind fun t102 => (if t102 < 0 then (some true) else ((laws_toSpace.f k l0_0).bind fun t103 => ((laws_toInt64S.f k l1).bind fun t106 => ((spec_NewChoices.f k t103 t106 a2).bind fun bt109 => ((laws_toSpace.f k l0_0).bind fun t113 => ((laws_toInt64S.f k l1).bind fun t117 => ((impl_NewChoices.f t113 t117 a2).bind fun bt120 => ((laws_eqInt64S.f k bt120.1 bt109.1).bind fun t124 => (if t124 = true then (laws_FnExactNewChoices.j0 k l1 a2 bt109.1 bt109.2 t117 bt120.1 bt120.2 (bt120.2 != bt109.2) l0_0 t113) else (laws_FnExactNewChoices.j0 k l1 a2 bt109.1 bt109.2 t117 bt120.1 bt120.2 true l0_0 t113)))))))))))) = some r := h
  clear h
  by_cases c4 : (l1.length : Int) > 1048576
  · rw [if_pos c4] at H
    have c4b0 : decide (1048576 < (l1.length : Int)) = true := decide_eq_true c4
    have c4b1 : decide (1048576 < l1.length) = true := decide_eq_true (by omega)
    clear c4
    obtain rfl := Option.some.inj H
    go_enter Try.func4, Try.ntmps4
    go_wp2_with (first | ((with_reducible refine gate_dst (N := 3) rfl ?_); refine box_event ?hg (N := 3) ?hd (cs := #[.slice A0_0 l0_0.length c0_0]) (t := 24) ?hr ?_; (case hd => rfl); (case hg => rfl); (case hr => first | (go_simp; done) | (go_simp; rfl)); intro gb101 hg w5 hbox hb; have n0_ := Aside0.mk (below_step (by repeat (first | (with_reducible first | exact HB.out | apply below_alloc | apply pw_below_drewN | apply below_drew1) | exact HB.out)) hb); have n1_ := Aside0.mk (hbox); have n2_ := Aside0.mk ((by rw [hg]; exact (below_size (by repeat (first | (with_reducible first | exact HB.out | apply below_alloc | apply pw_below_drewN | apply below_drew1) | exact HB.out))) : w.heap.size ≤ gb101)); have n3_ := Aside0.mk ((by rw [hg]; exact (below_size (by repeat (first | (with_reducible first | exact HB.out | apply below_alloc | apply pw_below_drewN | apply below_drew1) | exact HB.out))) : w.heap.size ≤ gb101)); clear HB; have HB := n0_; have BK101 := n1_; have GW101 := n2_; have GE101 := n3_; clear n0_ n1_ n2_ n3_; clear hb hbox hg))
    go_ret
    exact ⟨by first | rfl | (simp [errW_none, errW_some] <;> rfl) | (simp [*, errW_none, errW_some] <;> rfl), by repeat (first | (with_reducible first | exact HB.out | apply below_alloc | apply pw_below_drewN | apply below_drew1 | refine below_set ?_ GE101.out) | exact HB.out)⟩
  · rw [if_neg c4] at H
    have c4b0 : decide (1048576 < (l1.length : Int)) = false := decide_eq_false c4
    have c4b1 : decide (1048576 < l1.length) = false := decide_eq_false (by omega)
    clear c4
    replace H := Option.bind_eq_some_iff.mp H
    obtain ⟨t102, A60, H⟩ := H
    replace H : (if t102 < 0 then (some true) else ((laws_toSpace.f k l0_0).bind fun t103 => ((laws_toInt64S.f k l1).bind fun t106 => ((spec_NewChoices.f k t103 t106 a2).bind fun bt109 => ((laws_toSpace.f k l0_0).bind fun t113 => ((laws_toInt64S.f k l1).bind fun t117 => ((impl_NewChoices.f t113 t117 a2).bind fun bt120 => ((laws_eqInt64S.f k bt120.1 bt109.1).bind fun t124 => (if t124 = true then (laws_FnExactNewChoices.j0 k l1 a2 bt109.1 bt109.2 t117 bt120.1 bt120.2 (bt120.2 != bt109.2) l0_0 t113) else (laws_FnExactNewChoices.j0 k l1 a2 bt109.1 bt109.2 t117 bt120.1 bt120.2 true l0_0 t113)))))))))) = some r := H
    have A6 := Aside0.mk A60
    clear A60
    by_cases c7 : t102 < 0
    · rw [if_pos c7] at H
      have c7b0 : decide (t102 < 0) = true := decide_eq_true c7
      clear c7
      obtain rfl := Option.some.inj H
      go_enter Try.func4, Try.ntmps4
      go_wp2_with (first | ((with_reducible refine gate_dst (N := 3) rfl ?_); refine box_event ?hg (N := 3) ?hd (cs := #[.slice A0_0 l0_0.length c0_0]) (t := 24) ?hr ?_; (case hd => rfl); (case hg => rfl); (case hr => first | (go_simp; done) | (go_simp; rfl)); intro gb101 hg w8 hbox hb; have n0_ := Aside0.mk (below_step (by repeat (first | (with_reducible first | exact HB.out | apply below_alloc | apply pw_below_drewN | apply below_drew1) | exact HB.out)) hb); have n1_ := Aside0.mk (hbox); have n2_ := Aside0.mk ((by rw [hg]; exact (below_size (by repeat (first | (with_reducible first | exact HB.out | apply below_alloc | apply pw_below_drewN | apply below_drew1) | exact HB.out))) : w.heap.size ≤ gb101)); have n3_ := Aside0.mk ((by rw [hg]; exact (below_size (by repeat (first | (with_reducible first | exact HB.out | apply below_alloc | apply pw_below_drewN | apply below_drew1) | exact HB.out))) : w.heap.size ≤ gb101)); clear HB; have HB := n0_; have BK101 := n1_; have GW101 := n2_; have GE101 := n3_; clear n0_ n1_ n2_ n3_; clear hb hbox hg; have hcz9_0 : w8.cell? ⟨gb101, 0, none⟩ = some (.slice A0_0 l0_0.length c0_0) := (blk_cell BK101.out 0).trans rfl; have hfz9_0 := blk_frozen BK101.out 0) | ((with_reducible refine gate_callee (f := 15) rfl ?_); refine goesL_ (some 24) rfl rfl Try.func15 (by kernel_rfl) rfl #[.agg #[.slice A0_0 l0_0.length c0_0], .int .i64 1048576] rfl (by (try simp only [List.map_toArray, List.map_cons, List.map_nil]); first | done | rfl | (simp only [List.length_drop, List.length_take]; rfl)) ?_; (with_reducible refine (laws_szSpace.calls _ _ l0_0 1048576 t102 _ ?side1 ?side2 A6.out).mono ?_); (case side1 => repeat (first | exact (Kd.C_below HR0_0.out HB.out) | (with_reducible refine Kd.C_alloc ?_ _) | (with_reducible refine Kd.C_drewN ?_ _) | (with_reducible refine Kd.C_drew ?_))); (case side2 => exact HC0_0.out); rintro e w10 ⟨rfl, hb⟩; refine ⟨_, rfl, ?_⟩; have n0_ := Aside0.mk (blk_below (g := gb101) (o := .cells #[.slice A0_0 l0_0.length c0_0] 24 (0, 0)) (by (with_reducible repeat (first | refine blk_drewN ?_ _ | refine blk_drew ?_ | refine blk_alloc ?_ _)); exact BK101.out) hb); have n1_ := Aside0.mk (below_step (by repeat (first | (with_reducible first | exact HB.out | apply below_alloc | apply pw_below_drewN | apply below_drew1 | refine below_set ?_ GE101.out) | exact HB.out)) hb); clear BK101; clear HB; have BK101 := n0_; have HB := n1_; clear n0_ n1_; (try clear hb); (try clear hb2); (try clear hk); (try clear hi)))
      go_ret
      exact ⟨by first | rfl | (simp [errW_none, errW_some] <;> rfl) | (simp [*, errW_none, errW_some] <;> rfl), by repeat (first | (with_reducible first | exact HB.out | apply below_alloc | apply pw_below_drewN | apply below_drew1 | refine below_set ?_ GE101.out) | exact HB.out)⟩
    · rw [if_neg c7] at H
      have c7b0 : decide (t102 < 0) = false := decide_eq_false c7
      clear c7
      replace H := Option.bind_eq_some_iff.mp H
      obtain ⟨t103, A110, H⟩ := H
      replace H : ((laws_toInt64S.f k l1).bind fun t106 => ((spec_NewChoices.f k t103 t106 a2).bind fun bt109 => ((laws_toSpace.f k l0_0).bind fun t113 => ((laws_toInt64S.f k l1).bind fun t117 => ((impl_NewChoices.f t113 t117 a2).bind fun bt120 => ((laws_eqInt64S.f k bt120.1 bt109.1).bind fun t124 => (if t124 = true then (laws_FnExactNewChoices.j0 k l1 a2 bt109.1 bt109.2 t117 bt120.1 bt120.2 (bt120.2 != bt109.2) l0_0 t113) else (laws_FnExactNewChoices.j0 k l1 a2 bt109.1 bt109.2 t117 bt120.1 bt120.2 true l0_0 t113)))))))) = some r := H
      have A11 := Aside0.mk A110
      clear A110
      replace H := Option.bind_eq_some_iff.mp H
      obtain ⟨t106, A120, H⟩ := H
      replace H : ((spec_NewChoices.f k t103 t106 a2).bind fun bt109 => ((laws_toSpace.f k l0_0).bind fun t113 => ((laws_toInt64S.f k l1).bind fun t117 => ((impl_NewChoices.f t113 t117 a2).bind fun bt120 => ((laws_eqInt64S.f k bt120.1 bt109.1).bind fun t124 => (if t124 = true then (laws_FnExactNewChoices.j0 k l1 a2 bt109.1 bt109.2 t117 bt120.1 bt120.2 (bt120.2 != bt109.2) l0_0 t113) else (laws_FnExactNewChoices.j0 k l1 a2 bt109.1 bt109.2 t117 bt120.1 bt120.2 true l0_0 t113))))))) = some r := H
      have A12 := Aside0.mk A120
      clear A120
      replace H := Option.bind_eq_some_iff.mp H
      obtain ⟨⟨t109, t112⟩, A130, H⟩ := H
      replace H : ((laws_toSpace.f k l0_0).bind fun t113 => ((laws_toInt64S.f k l1).bind fun t117 => ((impl_NewChoices.f t113 t117 a2).bind fun bt120 => ((laws_eqInt64S.f k bt120.1 t109).bind fun t124 => (if t124 = true then (laws_FnExactNewChoices.j0 k l1 a2 t109 t112 t117 bt120.1 bt120.2 (bt120.2 != t112) l0_0 t113) else (laws_FnExactNewChoices.j0 k l1 a2 t109 t112 t117 bt120.1 bt120.2 true l0_0 t113)))))) = some r := H
      have A13 := Aside0.mk A130
      clear A130
      replace H := Option.bind_eq_some_iff.mp H
      obtain ⟨t113, A140, H⟩ := H
      replace H : ((laws_toInt64S.f k l1).bind fun t117 => ((impl_NewChoices.f t113 t117 a2).bind fun bt120 => ((laws_eqInt64S.f k bt120.1 t109).bind fun t124 => (if t124 = true then (laws_FnExactNewChoices.j0 k l1 a2 t109 t112 t117 bt120.1 bt120.2 (bt120.2 != t112) l0_0 t113) else (laws_FnExactNewChoices.j0 k l1 a2 t109 t112 t117 bt120.1 bt120.2 true l0_0 t113))))) = some r := H
      have A14 := Aside0.mk A140
      clear A140
      replace H := Option.bind_eq_some_iff.mp H
      obtain ⟨t117, A150, H⟩ := H
      replace H : ((impl_NewChoices.f t113 t117 a2).bind fun bt120 => ((laws_eqInt64S.f k bt120.1 t109).bind fun t124 => (if t124 = true then (laws_FnExactNewChoices.j0 k l1 a2 t109 t112 t117 bt120.1 bt120.2 (bt120.2 != t112) l0_0 t113) else (laws_FnExactNewChoices.j0 k l1 a2 t109 t112 t117 bt120.1 bt120.2 true l0_0 t113)))) = some r := H
      have A15 := Aside0.mk A150
      clear A150
      replace H := Option.bind_eq_some_iff.mp H
      obtain ⟨⟨t120, t123⟩, A160, H⟩ := H
      replace H : ((laws_eqInt64S.f k t120 t109).bind fun t124 => (if t124 = true then (laws_FnExactNewChoices.j0 k l1 a2 t109 t112 t117 t120 t123 (t123 != t112) l0_0 t113) else (laws_FnExactNewChoices.j0 k l1 a2 t109 t112 t117 t120 t123 true l0_0 t113))) = some r := H
      have A16 := Aside0.mk A160
      clear A160
      have HC17 := Aside0.mk H
      clear H
      go_enter Try.func4, Try.ntmps4
      go_upto_region 11 with (first | ((with_reducible refine gate_dst (N := 3) rfl ?_); refine box_event ?hg (N := 3) ?hd (cs := #[.slice A0_0 l0_0.length c0_0]) (t := 24) ?hr ?_; (case hd => rfl); (case hg => rfl); (case hr => first | (go_simp; done) | (go_simp; rfl)); intro gb101 hg w18 hbox hb; have n0_ := Aside0.mk (below_step (by repeat (first | (with_reducible first | exact HB.out | apply below_alloc | apply pw_below_drewN | apply below_drew1) | exact HB.out)) hb); have n1_ := Aside0.mk (hbox); have n2_ := Aside0.mk ((by rw [hg]; exact (below_size (by repeat (first | (with_reducible first | exact HB.out | apply below_alloc | apply pw_below_drewN | apply below_drew1) | exact HB.out))) : w.heap.size ≤ gb101)); have n3_ := Aside0.mk ((by rw [hg]; exact (below_size (by repeat (first | (with_reducible first | exact HB.out | apply below_alloc | apply pw_below_drewN | apply below_drew1) | exact HB.out))) : w.heap.size ≤ gb101)); clear HB; have HB := n0_; have BK101 := n1_; have GW101 := n2_; have GE101 := n3_; clear n0_ n1_ n2_ n3_; clear hb hbox hg; have hcz19_0 : w18.cell? ⟨gb101, 0, none⟩ = some (.slice A0_0 l0_0.length c0_0) := (blk_cell BK101.out 0).trans rfl; have hfz19_0 := blk_frozen BK101.out 0) | ((with_reducible refine gate_callee (f := 15) rfl ?_); refine goesL_ (some 24) rfl rfl Try.func15 (by kernel_rfl) rfl #[.agg #[.slice A0_0 l0_0.length c0_0], .int .i64 1048576] rfl (by (try simp only [List.map_toArray, List.map_cons, List.map_nil]); first | done | rfl | (simp only [List.length_drop, List.length_take]; rfl)) ?_; (with_reducible refine (laws_szSpace.calls _ _ l0_0 1048576 t102 _ ?side1 ?side2 A6.out).mono ?_); (case side1 => repeat (first | exact (Kd.C_below HR0_0.out HB.out) | (with_reducible refine Kd.C_alloc ?_ _) | (with_reducible refine Kd.C_drewN ?_ _) | (with_reducible refine Kd.C_drew ?_))); (case side2 => exact HC0_0.out); rintro e w20 ⟨rfl, hb⟩; refine ⟨_, rfl, ?_⟩; have n0_ := Aside0.mk (blk_below (g := gb101) (o := .cells #[.slice A0_0 l0_0.length c0_0] 24 (0, 0)) (by (with_reducible repeat (first | refine blk_drewN ?_ _ | refine blk_drew ?_ | refine blk_alloc ?_ _)); exact BK101.out) hb); have n1_ := Aside0.mk (below_step (by repeat (first | (with_reducible first | exact HB.out | apply below_alloc | apply pw_below_drewN | apply below_drew1 | refine below_set ?_ GE101.out) | exact HB.out)) hb); clear BK101; clear HB; have BK101 := n0_; have HB := n1_; clear n0_ n1_; (try clear hb); (try clear hb2); (try clear hk); (try clear hi); have hcz21_0 : w20.cell? ⟨gb101, 0, none⟩ = some (.slice A0_0 l0_0.length c0_0) := (blk_cell BK101.out 0).trans rfl; have hfz21_0 := blk_frozen BK101.out 0) | ((with_reducible refine gate_callee (f := 17) rfl ?_); refine goesL_ (some 29) rfl rfl Try.func17 (by kernel_rfl) rfl #[.agg #[.slice A0_0 l0_0.length c0_0]] rfl (by (try simp only [List.map_toArray, List.map_cons, List.map_nil]); first | done | rfl | (simp only [List.length_drop, List.length_take]; rfl)) ?_; (with_reducible refine (laws_toSpace.calls k _ _ l0_0 t103 _ ?side1 ?side2 A11.out).mono ?_); (case side1 => repeat (first | exact (Kd.C_below HR0_0.out HB.out) | (with_reducible refine Kd.C_alloc ?_ _) | (with_reducible refine Kd.C_drewN ?_ _) | (with_reducible refine Kd.C_drew ?_))); (case side2 => exact HC0_0.out); rintro e w22 ⟨v104, rfl, ho0, hb⟩; refine ⟨_, rfl, ?_⟩; have n0_ := Aside0.mk (Kd.R_lower ho0 (below_size (by repeat (first | (with_reducible first | exact HB.out | apply below_alloc | apply pw_below_drewN | apply below_drew1 | refine below_set ?_ GE101.out) | exact HB.out)))); have n1_ := Aside0.mk (blk_below (g := gb101) (o := .cells #[.slice A0_0 l0_0.length c0_0] 24 (0, 0)) (by (with_reducible repeat (first | refine blk_drewN ?_ _ | refine blk_drew ?_ | refine blk_alloc ?_ _)); exact BK101.out) hb); have n2_ := Aside0.mk (below_step (by repeat (first | (with_reducible first | exact HB.out | apply below_alloc | apply pw_below_drewN | apply below_drew1 | refine below_set ?_ GE101.out) | exact HB.out)) hb); clear BK101; clear HB; have HO105 := n0_; have BK101 := n1_; have HB := n2_; clear n0_ n1_ n2_; (try clear hb); (try clear hb2); (try clear hk); (try clear hi); (try clear ho0)) | ((with_reducible refine gate_callee (f := 18) rfl ?_); refine goesL_ (some 31) rfl rfl Try.func18 (by kernel_rfl) rfl #[.slice A1 l1.length c1] rfl (by (try simp only [List.map_toArray, List.map_cons, List.map_nil]); first | done | rfl | (simp only [List.length_drop, List.length_take]; rfl)) ?_; (with_reducible refine (laws_toInt64S.calls k _ _ l1 t106 _ ?side1 ?side2 A12.out).mono ?_); (case side1 => repeat (first | exact (Kd.C_below HR1.out HB.out) | (with_reducible refine Kd.C_alloc ?_ _) | (with_reducible refine Kd.C_drewN ?_ _) | (with_reducible refine Kd.C_drew ?_))); (case side2 => exact HC1.out); rintro e w23 ⟨v107, rfl, ho0, hb⟩; refine ⟨_, rfl, ?_⟩; have n0_ := Aside0.mk (Kd.R_elder' (by (with_reducible repeat (first | apply Kd.R_alloc | apply Kd.R_drewN | apply Kd.R_drew)); exact HO105.out) (Kd.R_base ho0) hb); have n1_ := Aside0.mk (Kd.R_lower (Kd.R_new' ho0 (Kd.R_lt (by (with_reducible repeat (first | apply Kd.R_alloc | apply Kd.R_drewN | apply Kd.R_drew)); exact HO105.out))) (below_size (by repeat (first | (with_reducible first | exact HB.out | apply below_alloc | apply pw_below_drewN | apply below_drew1 | refine below_set ?_ GE101.out) | exact HB.out)))); have n2_ := Aside0.mk (blk_below (g := gb101) (o := .cells #[.slice A0_0 l0_0.length c0_0] 24 (0, 0)) (by (with_reducible repeat (first | refine blk_drewN ?_ _ | refine blk_drew ?_ | refine blk_alloc ?_ _)); exact BK101.out) hb); have n3_ := Aside0.mk (below_step (by repeat (first | (with_reducible first | exact HB.out | apply below_alloc | apply pw_below_drewN | apply below_drew1 | refine below_set ?_ GE101.out) | exact HB.out)) hb); clear HO105; clear BK101; clear HB; have HO105 := n0_; have HO108 := n1_; have BK101 := n2_; have HB := n3_; clear n0_ n1_ n2_ n3_; (try clear hb); (try clear hb2); (try clear hk); (try clear hi); (try clear ho0); obtain ⟨Ao24, co24, eo24⟩ := Kd.R_slice HO105.out; subst eo24; obtain ⟨Ao25, co25, eo25⟩ := Kd.R_slice HO108.out; subst eo25) | ((with_reducible refine gate_callee (f := 22) rfl ?_); refine goesL_ (some 33) rfl rfl Try.func22 (by kernel_rfl) rfl #[.agg #[.slice Ao24 t103.length co24], .slice Ao25 t106.length co25, .int .i64 a2] rfl (by (try simp only [List.map_toArray, List.map_cons, List.map_nil]); first | done | rfl | (simp only [List.length_drop, List.length_take]; rfl)) ?_; (with_reducible refine (spec_NewChoices.calls k _ _ t103 _ _ t106 a2 t109 t112 _ ?side1 ?side2 ?side3 ?side4 A13.out).mono ?_); (case side1 => repeat (first | exact (Kd.R_reads' HO105.out).2.2 | (with_reducible refine Kd.C_alloc ?_ _) | (with_reducible refine Kd.C_drewN ?_ _) | (with_reducible refine Kd.C_drew ?_))); (case side2 => exact (Kd.R_reads' HO105.out).2.1); (case side3 => repeat (first | exact (Kd.R_reads' HO108.out).2.2 | (with_reducible refine Kd.C_alloc ?_ _) | (with_reducible refine Kd.C_drewN ?_ _) | (with_reducible refine Kd.C_drew ?_))); (case side4 => exact (Kd.R_reads' HO108.out).2.1); rintro e w26 ⟨v110, rfl, ho0, hb⟩; refine ⟨_, rfl, ?_⟩; have n0_ := Aside0.mk (Kd.R_elder' (by (with_reducible repeat (first | apply Kd.R_alloc | apply Kd.R_drewN | apply Kd.R_drew)); exact HO105.out) (Kd.R_base ho0) hb); have n1_ := Aside0.mk (Kd.R_elder' (by (with_reducible repeat (first | apply Kd.R_alloc | apply Kd.R_drewN | apply Kd.R_drew)); exact HO108.out) (Kd.R_base ho0) hb); have n2_ := Aside0.mk (Kd.R_lower (Kd.R_new' (Kd.R_new' ho0 (Kd.R_lt (by (with_reducible repeat (first | apply Kd.R_alloc | apply Kd.R_drewN | apply Kd.R_drew)); exact HO105.out))) (Kd.R_lt (by (with_reducible repeat (first | apply Kd.R_alloc | apply Kd.R_drewN | apply Kd.R_drew)); exact HO108.out))) (below_size (by repeat (first | (with_reducible first | exact HB.out | apply below_alloc | apply pw_below_drewN | apply below_drew1 | refine below_set ?_ GE101.out) | exact HB.out)))); have n3_ := Aside0.mk (blk_below (g := gb101) (o := .cells #[.slice A0_0 l0_0.length c0_0] 24 (0, 0)) (by (with_reducible repeat (first | refine blk_drewN ?_ _ | refine blk_drew ?_ | refine blk_alloc ?_ _)); exact BK101.out) hb); have n4_ := Aside0.mk (below_step (by repeat (first | (with_reducible first | exact HB.out | apply below_alloc | apply pw_below_drewN | apply below_drew1 | refine below_set ?_ GE101.out) | exact HB.out)) hb); clear HO105; clear HO108; clear BK101; clear HB; have HO105 := n0_; have HO108 := n1_; have HO111 := n2_; have BK101 := n3_; have HB := n4_; clear n0_ n1_ n2_ n3_ n4_; (try clear hb); (try clear hb2); (try clear hk); (try clear hi); (try clear ho0); have hcz27_0 : w26.cell? ⟨gb101, 0, none⟩ = some (.slice A0_0 l0_0.length c0_0) := (blk_cell BK101.out 0).trans rfl; have hfz27_0 := blk_frozen BK101.out 0) | ((with_reducible refine gate_callee (f := 17) rfl ?_); refine goesL_ (some 37) rfl rfl Try.func17 (by kernel_rfl) rfl #[.agg #[.slice A0_0 l0_0.length c0_0]] rfl (by (try simp only [List.map_toArray, List.map_cons, List.map_nil]); first | done | rfl | (simp only [List.length_drop, List.length_take]; rfl)) ?_; (with_reducible refine (laws_toSpace.calls k _ _ l0_0 t113 _ ?side1 ?side2 A14.out).mono ?_); (case side1 => repeat (first | exact (Kd.C_below HR0_0.out HB.out) | (with_reducible refine Kd.C_alloc ?_ _) | (with_reducible refine Kd.C_drewN ?_ _) | (with_reducible refine Kd.C_drew ?_))); (case side2 => exact HC0_0.out); rintro e w28 ⟨v114, rfl, ho0, hb⟩; refine ⟨_, rfl, ?_⟩; have n0_ := Aside0.mk (Kd.R_elder' (by (with_reducible repeat (first | apply Kd.R_alloc | apply Kd.R_drewN | apply Kd.R_drew)); exact HO105.out) (Kd.R_base ho0) hb); have n1_ := Aside0.mk (Kd.R_elder' (by (with_reducible repeat (first | apply Kd.R_alloc | apply Kd.R_drewN | apply Kd.R_drew)); exact HO108.out) (Kd.R_base ho0) hb); have n2_ := Aside0.mk (Kd.R_elder' (by (with_reducible repeat (first | apply Kd.R_alloc | apply Kd.R_drewN | apply Kd.R_drew)); exact HO111.out) (Kd.R_base ho0) hb); have n3_ := Aside0.mk (Kd.R_lower (Kd.R_new' (Kd.R_new' (Kd.R_new' ho0 (Kd.R_lt (by (with_reducible repeat (first | apply Kd.R_alloc | apply Kd.R_drewN | apply Kd.R_drew)); exact HO105.out))) (Kd.R_lt (by (with_reducible repeat (first | apply Kd.R_alloc | apply Kd.R_drewN | apply Kd.R_drew)); exact HO108.out))) (Kd.R_lt (by (with_reducible repeat (first | apply Kd.R_alloc | apply Kd.R_drewN | apply Kd.R_drew)); exact HO111.out))) (below_size (by repeat (first | (with_reducible first | exact HB.out | apply below_alloc | apply pw_below_drewN | apply below_drew1 | refine below_set ?_ GE101.out) | exact HB.out)))); have n4_ := Aside0.mk (blk_below (g := gb101) (o := .cells #[.slice A0_0 l0_0.length c0_0] 24 (0, 0)) (by (with_reducible repeat (first | refine blk_drewN ?_ _ | refine blk_drew ?_ | refine blk_alloc ?_ _)); exact BK101.out) hb); have n5_ := Aside0.mk (below_step (by repeat (first | (with_reducible first | exact HB.out | apply below_alloc | apply pw_below_drewN | apply below_drew1 | refine below_set ?_ GE101.out) | exact HB.out)) hb); clear HO105; clear HO108; clear HO111; clear BK101; clear HB; have HO105 := n0_; have HO108 := n1_; have HO111 := n2_; have HO115 := n3_; have BK101 := n4_; have HB := n5_; clear n0_ n1_ n2_ n3_ n4_ n5_; (try clear hb); (try clear hb2); (try clear hk); (try clear hi); (try clear ho0)) | ((with_reducible refine gate_dst (N := 10) rfl ?_); refine box_event ?hg (N := 10) ?hd (cs := #[.slice none 0 0]) (t := 28) ?hr ?_; (case hd => rfl); (case hg => rfl); (case hr => first | (go_simp; done) | (go_simp; rfl)); intro gb116 hg w29 hbox hb; have n0_ := Aside0.mk (Kd.R_below (by (with_reducible repeat (first | apply Kd.R_alloc | apply Kd.R_drewN | apply Kd.R_drew)); exact HO105.out) hb); have n1_ := Aside0.mk (Kd.R_below (by (with_reducible repeat (first | apply Kd.R_alloc | apply Kd.R_drewN | apply Kd.R_drew)); exact HO108.out) hb); have n2_ := Aside0.mk (Kd.R_below (by (with_reducible repeat (first | apply Kd.R_alloc | apply Kd.R_drewN | apply Kd.R_drew)); exact HO111.out) hb); have n3_ := Aside0.mk (Kd.R_below (by (with_reducible repeat (first | apply Kd.R_alloc | apply Kd.R_drewN | apply Kd.R_drew)); exact HO115.out) hb); have n4_ := Aside0.mk (blk_below (g := gb101) (o := .cells #[.slice A0_0 l0_0.length c0_0] 24 (0, 0)) (by (with_reducible repeat (first | refine blk_drewN ?_ _ | refine blk_drew ?_ | refine blk_alloc ?_ _)); exact BK101.out) hb); have n5_ := Aside0.mk (below_step (by repeat (first | (with_reducible first | exact HB.out | apply below_alloc | apply pw_below_drewN | apply below_drew1 | refine below_set ?_ GE101.out) | exact HB.out)) hb); have n6_ := Aside0.mk (hbox); have n7_ := Aside0.mk ((by rw [hg]; exact (below_size (by repeat (first | (with_reducible first | exact HB.out | apply below_alloc | apply pw_below_drewN | apply below_drew1 | refine below_set ?_ GE101.out) | exact HB.out))) : w.heap.size ≤ gb116)); have n8_ := Aside0.mk ((by rw [hg]; exact (below_size (by repeat (first | (with_reducible first | exact HB.out | apply below_alloc | apply pw_below_drewN | apply below_drew1 | refine below_set ?_ GE101.out) | exact HB.out))) : w.heap.size ≤ gb116)); have n9_ := Aside0.mk ((by rw [hg]; exact Nat.ne_of_lt (blk_lt (g := gb101) (o := .cells #[.slice A0_0 l0_0.length c0_0] 24 (0, 0)) (by (with_reducible repeat (first | refine blk_drewN ?_ _ | refine blk_drew ?_ | refine blk_alloc ?_ _)); exact BK101.out)) : gb101 ≠ gb116)); have n10_ := Aside0.mk ((by rw [hg]; exact Nat.ne_of_gt (blk_lt (g := gb101) (o := .cells #[.slice A0_0 l0_0.length c0_0] 24 (0, 0)) (by (with_reducible repeat (first | refine blk_drewN ?_ _ | refine blk_drew ?_ | refine blk_alloc ?_ _)); exact BK101.out)) : gb116 ≠ gb101)); clear HO105; clear HO108; clear HO111; clear HO115; clear BK101; clear HB; have HO105 := n0_; have HO108 := n1_; have HO111 := n2_; have HO115 := n3_; have BK101 := n4_; have HB := n5_; have BK116 := n6_; have GW116 := n7_; have GE116 := n8_; have NB101_116 := n9_; have NB116_101 := n10_; clear n0_ n1_ n2_ n3_ n4_ n5_ n6_ n7_ n8_ n9_ n10_; clear hb hbox hg; obtain ⟨Ao30, co30, eo30⟩ := Kd.R_slice HO115.out; subst eo30; have hnb31 := NB116_101.out; have hnc31 := NB101_116.out; have hcz32_0 : w29.cell? ⟨gb116, 0, none⟩ = some (.slice none 0 0) := (blk_cell BK116.out 0).trans rfl; have hfz32_0 := blk_frozen BK116.out 0) | ((with_reducible refine gate_callee (f := 18) rfl ?_); refine goesL_ (some 39) rfl rfl Try.func18 (by kernel_rfl) rfl #[.slice A1 l1.length c1] rfl (by (try simp only [List.map_toArray, List.map_cons, List.map_nil]); first | done | rfl | (simp only [List.length_drop, List.length_take]; rfl)) ?_; (with_reducible refine (laws_toInt64S.calls k _ _ l1 t117 _ ?side1 ?side2 A15.out).mono ?_); (case side1 => exact Kd.C_below HR1.out (by repeat (first | (with_reducible first | exact HB.out | apply below_alloc | apply pw_below_drewN | apply below_drew1 | refine below_set ?_ GE101.out | refine below_set ?_ GE116.out) | exact HB.out))); (case side2 => exact HC1.out); rintro e w33 ⟨v118, rfl, ho0, hb⟩; refine ⟨_, rfl, ?_⟩; have n0_ := Aside0.mk (Kd.R_elder' (by (with_reducible repeat (first | apply Kd.R_alloc | apply Kd.R_drewN | apply Kd.R_drew)); exact (Kd.R_mono (Kd.R_far (p := ⟨gb116, 0, none⟩) (Kd.R_types HO105.out BK116.out (by decide)) (fun _ hk => hk.2) (.slice Ao30 t113.length co30)) (fun _ h_ => h_.1))) (Kd.R_base ho0) hb); have n1_ := Aside0.mk (Kd.R_elder' (by (with_reducible repeat (first | apply Kd.R_alloc | apply Kd.R_drewN | apply Kd.R_drew)); exact (Kd.R_mono (Kd.R_far (p := ⟨gb116, 0, none⟩) (Kd.R_types HO108.out BK116.out (by decide)) (fun _ hk => hk.2) (.slice Ao30 t113.length co30)) (fun _ h_ => h_.1))) (Kd.R_base ho0) hb); have n2_ := Aside0.mk (Kd.R_elder' (by (with_reducible repeat (first | apply Kd.R_alloc | apply Kd.R_drewN | apply Kd.R_drew)); exact (Kd.R_mono (Kd.R_far (p := ⟨gb116, 0, none⟩) (Kd.R_types HO111.out BK116.out (by decide)) (fun _ hk => hk.2) (.slice Ao30 t113.length co30)) (fun _ h_ => h_.1))) (Kd.R_base ho0) hb); have n3_ := Aside0.mk (Kd.R_elder' (by (with_reducible repeat (first | apply Kd.R_alloc | apply Kd.R_drewN | apply Kd.R_drew)); exact (Kd.R_mono (Kd.R_far (p := ⟨gb116, 0, none⟩) (Kd.R_types HO115.out BK116.out (by decide)) (fun _ hk => hk.2) (.slice Ao30 t113.length co30)) (fun _ h_ => h_.1))) (Kd.R_base ho0) hb); have n4_ := Aside0.mk (Kd.R_lower (Kd.R_new' (Kd.R_new' (Kd.R_new' (Kd.R_new' ho0 (Kd.R_lt (by (with_reducible repeat (first | apply Kd.R_alloc | apply Kd.R_drewN | apply Kd.R_drew)); exact (Kd.R_mono (Kd.R_far (p := ⟨gb116, 0, none⟩) (Kd.R_types HO105.out BK116.out (by decide)) (fun _ hk => hk.2) (.slice Ao30 t113.length co30)) (fun _ h_ => h_.1))))) (Kd.R_lt (by (with_reducible repeat (first | apply Kd.R_alloc | apply Kd.R_drewN | apply Kd.R_drew)); exact (Kd.R_mono (Kd.R_far (p := ⟨gb116, 0, none⟩) (Kd.R_types HO108.out BK116.out (by decide)) (fun _ hk => hk.2) (.slice Ao30 t113.length co30)) (fun _ h_ => h_.1))))) (Kd.R_lt (by (with_reducible repeat (first | apply Kd.R_alloc | apply Kd.R_drewN | apply Kd.R_drew)); exact (Kd.R_mono (Kd.R_far (p := ⟨gb116, 0, none⟩) (Kd.R_types HO111.out BK116.out (by decide)) (fun _ hk => hk.2) (.slice Ao30 t113.length co30)) (fun _ h_ => h_.1))))) (Kd.R_lt (by (with_reducible repeat (first | apply Kd.R_alloc | apply Kd.R_drewN | apply Kd.R_drew)); exact (Kd.R_mono (Kd.R_far (p := ⟨gb116, 0, none⟩) (Kd.R_types HO115.out BK116.out (by decide)) (fun _ hk => hk.2) (.slice Ao30 t113.length co30)) (fun _ h_ => h_.1))))) (below_size (by repeat (first | (with_reducible first | exact HB.out | apply below_alloc | apply pw_below_drewN | apply below_drew1 | refine below_set ?_ GE101.out | refine below_set ?_ GE116.out) | exact HB.out)))); have n5_ := Aside0.mk (blk_below (g := gb101) (o := .cells #[.slice A0_0 l0_0.length c0_0] 24 (0, 0)) (by (with_reducible repeat (first | refine blk_drewN ?_ _ | refine blk_drew ?_ | refine blk_alloc ?_ _)); refine blk_far ?_ NB101_116.out _; (with_reducible repeat (first | refine blk_drewN ?_ _ | refine blk_drew ?_ | refine blk_alloc ?_ _)); exact BK101.out) hb); have n6_ := Aside0.mk (blk_below (g := gb116) (o := .cells #[.slice Ao30 t113.length co30] 28 (0, 0)) (by (with_reducible repeat (first | refine blk_drewN ?_ _ | refine blk_drew ?_ | refine blk_alloc ?_ _)); refine blk_put (cs := #[.slice none 0 0]) ?_ 0 _ rfl; (with_reducible repeat (first | refine blk_drewN ?_ _ | refine blk_drew ?_ | refine blk_alloc ?_ _)); exact BK116.out) hb); have n7_ := Aside0.mk (below_step (by repeat (first | (with_reducible first | exact HB.out | apply below_alloc | apply pw_below_drewN | apply below_drew1 | refine below_set ?_ GE101.out | refine below_set ?_ GE116.out) | exact HB.out)) hb); clear HO105; clear HO108; clear HO111; clear HO115; clear BK101; clear BK116; clear HB; have HO105 := n0_; have HO108 := n1_; have HO111 := n2_; have HO115 := n3_; have HO119 := n4_; have BK101 := n5_; have BK116 := n6_; have HB := n7_; clear n0_ n1_ n2_ n3_ n4_ n5_ n6_ n7_; (try clear hb); (try clear hb2); (try clear hk); (try clear hi); (try clear ho0); have hcz34_0 : w33.cell? ⟨gb116, 0, none⟩ = some (.slice Ao30 t113.length co30) := (blk_cell BK116.out 0).trans rfl; have hfz34_0 := blk_frozen BK116.out 0; obtain ⟨Ao35, co35, eo35⟩ := Kd.R_slice HO119.out; subst eo35) | ((with_reducible refine gate_callee (f := 23) rfl ?_); refine goesL_ (some 44) rfl rfl Try.func23 (by kernel_rfl) rfl #[.agg #[.slice Ao30 t113.length co30], .slice Ao35 t117.length co35, .int .i64 a2] rfl (by (try simp only [List.map_toArray, List.map_cons, List.map_nil]); first | done | rfl | (simp only [List.length_drop, List.length_take]; rfl)) ?_; (with_reducible refine (impl_NewChoices.calls _ _ t113 _ _ t117 a2 t120 t123 _ ?side1 ?side2 ?side3 ?side4 A16.out).mono ?_); (case side1 => repeat (first | exact (Kd.R_reads' HO115.out).2.2 | (with_reducible refine Kd.C_alloc ?_ _) | (with_reducible refine Kd.C_drewN ?_ _) | (with_reducible refine Kd.C_drew ?_))); (case side2 => exact (Kd.R_reads' HO115.out).2.1); (case side3 => repeat (first | exact (Kd.R_reads' HO119.out).2.2 | (with_reducible refine Kd.C_alloc ?_ _) | (with_reducible refine Kd.C_drewN ?_ _) | (with_reducible refine Kd.C_drew ?_))); (case side4 => exact (Kd.R_reads' HO119.out).2.1); rintro e w36 ⟨v121, rfl, ho0, hb⟩; refine ⟨_, rfl, ?_⟩; have n0_ := Aside0.mk (Kd.R_elder' (by (with_reducible repeat (first | apply Kd.R_alloc | apply Kd.R_drewN | apply Kd.R_drew)); exact HO105.out) (Kd.R_base ho0) hb); have n1_ := Aside0.mk (Kd.R_elder' (by (with_reducible repeat (first | apply Kd.R_alloc | apply Kd.R_drewN | apply Kd.R_drew)); exact HO108.out) (Kd.R_base ho0) hb); have n2_ := Aside0.mk (Kd.R_elder' (by (with_reducible repeat (first | apply Kd.R_alloc | apply Kd.R_drewN | apply Kd.R_drew)); exact HO111.out) (Kd.R_base ho0) hb); have n3_ := Aside0.mk (Kd.R_elder' (by (with_reducible repeat (first | apply Kd.R_alloc | apply Kd.R_drewN | apply Kd.R_drew)); exact HO115.out) (Kd.R_base ho0) hb); have n4_ := Aside0.mk (Kd.R_elder' (by (with_reducible repeat (first | apply Kd.R_alloc | apply Kd.R_drewN | apply Kd.R_drew)); exact HO119.out) (Kd.R_base ho0) hb); have n5_ := Aside0.mk (Kd.R_lower (Kd.R_new' (Kd.R_new' (Kd.R_new' (Kd.R_new' (Kd.R_new' ho0 (Kd.R_lt (by (with_reducible repeat (first | apply Kd.R_alloc | apply Kd.R_drewN | apply Kd.R_drew)); exact HO105.out))) (Kd.R_lt (by (with_reducible repeat (first | apply Kd.R_alloc | apply Kd.R_drewN | apply Kd.R_drew)); exact HO108.out))) (Kd.R_lt (by (with_reducible repeat (first | apply Kd.R_alloc | apply Kd.R_drewN | apply Kd.R_drew)); exact HO111.out))) (Kd.R_lt (by (with_reducible repeat (first | apply Kd.R_alloc | apply Kd.R_drewN | apply Kd.R_drew)); exact HO115.out))) (Kd.R_lt (by (with_reducible repeat (first | apply Kd.R_alloc | apply Kd.R_drewN | apply Kd.R_drew)); exact HO119.out))) (below_size (by repeat (first | (with_reducible first | exact HB.out | apply below_alloc | apply pw_below_drewN | apply below_drew1 | refine below_set ?_ GE101.out | refine below_set ?_ GE116.out) | exact HB.out)))); have n6_ := Aside0.mk (blk_below (g := gb101) (o := .cells #[.slice A0_0 l0_0.length c0_0] 24 (0, 0)) (by (with_reducible repeat (first | refine blk_drewN ?_ _ | refine blk_drew ?_ | refine blk_alloc ?_ _)); exact BK101.out) hb); have n7_ := Aside0.mk (blk_below (g := gb116) (o := .cells #[.slice Ao30 t113.length co30] 28 (0, 0)) (by (with_reducible repeat (first | refine blk_drewN ?_ _ | refine blk_drew ?_ | refine blk_alloc ?_ _)); exact BK116.out) hb); have n8_ := Aside0.mk (below_step (by repeat (first | (with_reducible first | exact HB.out | apply below_alloc | apply pw_below_drewN | apply below_drew1 | refine below_set ?_ GE101.out | refine below_set ?_ GE116.out) | exact HB.out)) hb); clear HO105; clear HO108; clear HO111; clear HO115; clear HO119; clear BK101; clear BK116; clear HB; have HO105 := n0_; have HO108 := n1_; have HO111 := n2_; have HO115 := n3_; have HO119 := n4_; have HO122 := n5_; have BK101 := n6_; have BK116 := n7_; have HB := n8_; clear n0_ n1_ n2_ n3_ n4_ n5_ n6_ n7_ n8_; (try clear hb); (try clear hb2); (try clear hk); (try clear hi); (try clear ho0)))
      (try simp only [Act.put, List.setIfInBounds_toArray, List.set_cons_zero, List.set_cons_succ])
      go_cut [55] (fun v55 wc => ∃ (kq : Nat) (x55_16 : Bool), v55 = .bool x55_16 ∧ Aside0 (laws_FnExactNewChoices.j0 kq l1 a2 t109 t112 t117 t120 t123 x55_16 l0_0 t113 = some r) ∧ Aside0 (kq ≤ k) ∧ Aside0 (Kd.R (Kd.int .i64) 2 wc w.heap.size (fun k_ => some k_ ≠ ((.slice Ao35 t117.length co35) : Value).ownBlock ∧ some k_ ≠ (v121 : Value).ownBlock ∧ some k_ ≠ ((.slice Ao30 t113.length co30) : Value).ownBlock) v110 t109) ∧ Aside0 (Kd.R (Kd.int .i64) 2 wc w.heap.size (fun k_ => some k_ ≠ (v110 : Value).ownBlock ∧ some k_ ≠ (v121 : Value).ownBlock ∧ some k_ ≠ ((.slice Ao30 t113.length co30) : Value).ownBlock) (.slice Ao35 t117.length co35) t117) ∧ Aside0 (Kd.R (Kd.int .i64) 2 wc w.heap.size (fun k_ => some k_ ≠ (v110 : Value).ownBlock ∧ some k_ ≠ ((.slice Ao35 t117.length co35) : Value).ownBlock ∧ some k_ ≠ ((.slice Ao30 t113.length co30) : Value).ownBlock) v121 t120) ∧ Aside0 (Kd.R (Kd.int .i64) 2 wc w.heap.size (fun k_ => some k_ ≠ (v110 : Value).ownBlock ∧ some k_ ≠ ((.slice Ao35 t117.length co35) : Value).ownBlock ∧ some k_ ≠ (v121 : Value).ownBlock) (.slice Ao30 t113.length co30) t113) ∧ Aside0 (wc.heap[gb101]? = some (.cells #[(.slice A0_0 l0_0.length c0_0)] 24 (0, 0))) ∧ Aside0 (wc.heap[gb116]? = some (.cells #[(.slice Ao30 t113.length co30)] 28 (0, 0))) ∧ Aside0 (Below w.heap.size w wc))
      case first =>
        have H := HC17.out
        clear HC17
        replace H := Option.bind_eq_some_iff.mp H
        obtain ⟨t124, A370, H⟩ := H
        replace H : (if t124 = true then (laws_FnExactNewChoices.j0 k l1 a2 t109 t112 t117 t120 t123 (t123 != t112) l0_0 t113) else (laws_FnExactNewChoices.j0 k l1 a2 t109 t112 t117 t120 t123 true l0_0 t113)) = some r := H
        have A37 := Aside0.mk A370
        clear A370
        by_cases c38 : t124 = true
        · subst c38
          have H1 : (laws_FnExactNewChoices.j0 k l1 a2 t109 t112 t117 t120 t123 (t123 != t112) l0_0 t113) = some r := by rw [if_pos rfl] at H; exact H
          clear H
          have H := H1
          clear H1
          have H' := Aside0.mk H
          clear H
          obtain ⟨Ao39, co39, eo39⟩ := Kd.R_slice HO122.out
          subst eo39
          obtain ⟨Ao40, co40, eo40⟩ := Kd.R_slice HO111.out
          subst eo40
          go_wp2_with (first | ((with_reducible refine gate_callee (f := 21) rfl ?_); refine goesL_ (some 49) rfl rfl Try.func21 (by kernel_rfl) rfl #[.slice Ao39 t120.length co39, .slice Ao40 t109.length co40] rfl (by (try simp only [List.map_toArray, List.map_cons, List.map_nil]); first | done | rfl | (simp only [List.length_drop, List.length_take]; rfl)) ?_; (with_reducible refine (laws_eqInt64S.calls k _ _ t120 _ _ t109 true _ ?side1 ?side2 ?side3 ?side4 A37.out).mono ?_); (case side1 => repeat (first | exact (Kd.R_reads' HO122.out).2.2 | (with_reducible refine Kd.C_alloc ?_ _) | (with_reducible refine Kd.C_drewN ?_ _) | (with_reducible refine Kd.C_drew ?_))); (case side2 => exact (Kd.R_reads' HO122.out).2.1); (case side3 => repeat (first | exact (Kd.R_reads' HO111.out).2.2 | (with_reducible refine Kd.C_alloc ?_ _) | (with_reducible refine Kd.C_drewN ?_ _) | (with_reducible refine Kd.C_drew ?_))); (case side4 => exact (Kd.R_reads' HO111.out).2.1); rintro e w' ⟨rfl, ⟨nd, rfl⟩⟩; refine ⟨_, rfl, ?_⟩))
          go_meet
          case rel => exact ⟨_, ((t123 != t112)), (by first | rfl | (simp; done) | (simp [*]; done)), H', ⟨by first | omega | exact Nat.le_refl _⟩, ⟨by (with_reducible repeat (first | apply Kd.R_alloc | apply Kd.R_drewN | apply Kd.R_drew)); exact Kd.R_mono HO111.out (fun _ hk => ⟨hk.1.2, ⟨hk.2, hk.1.1.2⟩⟩)⟩, ⟨by (with_reducible repeat (first | apply Kd.R_alloc | apply Kd.R_drewN | apply Kd.R_drew)); exact Kd.R_mono HO119.out (fun _ hk => ⟨hk.1.1.2, ⟨hk.2, hk.1.2⟩⟩)⟩, ⟨by (with_reducible repeat (first | apply Kd.R_alloc | apply Kd.R_drewN | apply Kd.R_drew)); exact Kd.R_mono HO122.out (fun _ hk => ⟨hk.1.1.2, ⟨hk.2, hk.1.2⟩⟩)⟩, ⟨by (with_reducible repeat (first | apply Kd.R_alloc | apply Kd.R_drewN | apply Kd.R_drew)); exact Kd.R_mono HO115.out (fun _ hk => ⟨hk.1.1.2, ⟨hk.1.2, hk.2⟩⟩)⟩, ⟨by (with_reducible repeat (first | refine blk_drewN ?_ _ | refine blk_drew ?_ | refine blk_alloc ?_ _)); exact BK101.out⟩, ⟨by (with_reducible repeat (first | refine blk_drewN ?_ _ | refine blk_drew ?_ | refine blk_alloc ?_ _)); exact BK116.out⟩, ⟨by repeat (first | (with_reducible first | exact HB.out | apply below_alloc | apply pw_below_drewN | apply below_drew1 | refine below_set ?_ GE101.out | refine below_set ?_ GE116.out) | exact HB.out)⟩⟩
        · replace c38 := Bool.eq_false_iff.mpr c38
          subst c38
          have H1 : (laws_FnExactNewChoices.j0 k l1 a2 t109 t112 t117 t120 t123 true l0_0 t113) = some r := by rw [if_neg (show ¬ (false = true) by decide)] at H; exact H
          clear H
          have H := H1
          clear H1
          have H' := Aside0.mk H
          clear H
          obtain ⟨Ao41, co41, eo41⟩ := Kd.R_slice HO122.out
          subst eo41
          obtain ⟨Ao42, co42, eo42⟩ := Kd.R_slice HO111.out
          subst eo42
          go_wp2_with (first | ((with_reducible refine gate_callee (f := 21) rfl ?_); refine goesL_ (some 49) rfl rfl Try.func21 (by kernel_rfl) rfl #[.slice Ao41 t120.length co41, .slice Ao42 t109.length co42] rfl (by (try simp only [List.map_toArray, List.map_cons, List.map_nil]); first | done | rfl | (simp only [List.length_drop, List.length_take]; rfl)) ?_; (with_reducible refine (laws_eqInt64S.calls k _ _ t120 _ _ t109 false _ ?side1 ?side2 ?side3 ?side4 A37.out).mono ?_); (case side1 => repeat (first | exact (Kd.R_reads' HO122.out).2.2 | (with_reducible refine Kd.C_alloc ?_ _) | (with_reducible refine Kd.C_drewN ?_ _) | (with_reducible refine Kd.C_drew ?_))); (case side2 => exact (Kd.R_reads' HO122.out).2.1); (case side3 => repeat (first | exact (Kd.R_reads' HO111.out).2.2 | (with_reducible refine Kd.C_alloc ?_ _) | (with_reducible refine Kd.C_drewN ?_ _) | (with_reducible refine Kd.C_drew ?_))); (case side4 => exact (Kd.R_reads' HO111.out).2.1); rintro e w' ⟨rfl, ⟨nd, rfl⟩⟩; refine ⟨_, rfl, ?_⟩))
          go_meet
          case rel => exact ⟨_, (true), (by first | rfl | (simp; done) | (simp [*]; done)), H', ⟨by first | omega | exact Nat.le_refl _⟩, ⟨by (with_reducible repeat (first | apply Kd.R_alloc | apply Kd.R_drewN | apply Kd.R_drew)); exact Kd.R_mono HO111.out (fun _ hk => ⟨hk.1.2, ⟨hk.2, hk.1.1.2⟩⟩)⟩, ⟨by (with_reducible repeat (first | apply Kd.R_alloc | apply Kd.R_drewN | apply Kd.R_drew)); exact Kd.R_mono HO119.out (fun _ hk => ⟨hk.1.1.2, ⟨hk.2, hk.1.2⟩⟩)⟩, ⟨by (with_reducible repeat (first | apply Kd.R_alloc | apply Kd.R_drewN | apply Kd.R_drew)); exact Kd.R_mono HO122.out (fun _ hk => ⟨hk.1.1.2, ⟨hk.2, hk.1.2⟩⟩)⟩, ⟨by (with_reducible repeat (first | apply Kd.R_alloc | apply Kd.R_drewN | apply Kd.R_drew)); exact Kd.R_mono HO115.out (fun _ hk => ⟨hk.1.1.2, ⟨hk.1.2, hk.2⟩⟩)⟩, ⟨by (with_reducible repeat (first | refine blk_drewN ?_ _ | refine blk_drew ?_ | refine blk_alloc ?_ _)); exact BK101.out⟩, ⟨by (with_reducible repeat (first | refine blk_drewN ?_ _ | refine blk_drew ?_ | refine blk_alloc ?_ _)); exact BK116.out⟩, ⟨by repeat (first | (with_reducible first | exact HB.out | apply below_alloc | apply pw_below_drewN | apply below_drew1 | refine below_set ?_ GE101.out | refine below_set ?_ GE116.out) | exact HB.out)⟩⟩
      case rest =>
        clear HC17
        try clear c1
        try clear c2
        try clear p2
        try clear c3
        try clear c4
        try clear c4b0
        try clear c4b1
        try clear c7
        try clear c7b0
        try clear c15
        try clear c17
        try clear c18
        try clear c21
        try clear c22
        try clear c23
        try clear c31
        try clear c38
        try clear hcz19_0
        try clear hcz21_0
        try clear hcz27_0
        try clear hcz32_0
        try clear hcz34_0
        try clear hcz9_0
        try clear hfz19_0
        try clear hfz21_0
        try clear hfz27_0
        try clear hfz32_0
        try clear hfz34_0
        try clear hfz9_0
        obtain ⟨kq, x55_16, rfl, HA, HJ16, HO_8, HO_11, HO_12, HO_117000, BK101, BK116, HB⟩ := hcut
        cases kq with
        | zero => exact absurd HA.out (by simp [laws_FnExactNewChoices.j0])
        | succ kj16 =>
          have H := HA.out
          clear HA
          simp only [laws_FnExactNewChoices.j0] at H
          by_cases c43 : x55_16 = true
          · subst c43
            have H1 : (some false) = some r := by rw [if_pos rfl] at H; exact H
            clear H
            have H := H1
            clear H1
            obtain rfl := Option.some.inj H
            go_wp2
            go_ret
            exact ⟨by first | rfl | (simp [errW_none, errW_some] <;> rfl) | (simp [*, errW_none, errW_some] <;> rfl), by repeat (first | (with_reducible first | exact HB.out | apply below_alloc | apply pw_below_drewN | apply below_drew1 | refine below_set ?_ GE101.out | refine below_set ?_ GE116.out) | exact HB.out)⟩
          · replace c43 := Bool.eq_false_iff.mpr c43
            subst c43
            have H1 : ((laws_toSpace.f kj16 l0_0).bind fun t125 => ((laws_eqSpace.f kj16 t113 t125).bind fun t128 => (if t128 = true then ((laws_toInt64S.f kj16 l1).bind fun t129 => ((laws_eqInt64S.f kj16 t117 t129).bind fun t132 => (if t132 = true then ((laws_markSpace.f kj16 t113 1).bind fun bt133 => ((laws_markInt64S.f kj16 t117 bt133.1).bind fun bt135 => (if bt135.1 < 0 then (laws_FnExactNewChoices.j1 kj16 l1 a2 t109 t112 t120 true l0_0) else ((laws_eqInt64S.f kj16 t120 t109).bind fun t137 => (if t137 = true then (laws_FnExactNewChoices.j1 kj16 l1 a2 t109 t112 t120 (t123 != t112) l0_0) else (laws_FnExactNewChoices.j1 kj16 l1 a2 t109 t112 t120 true l0_0)))))) else (some false)))) else (some false)))) = some r := by rw [if_neg (show ¬ (false = true) by decide)] at H; exact H
            clear H
            have H := H1
            clear H1
            replace H := Option.bind_eq_some_iff.mp H
            obtain ⟨t125, A440, H⟩ := H
            replace H : ((laws_eqSpace.f kj16 t113 t125).bind fun t128 => (if t128 = true then ((laws_toInt64S.f kj16 l1).bind fun t129 => ((laws_eqInt64S.f kj16 t117 t129).bind fun t132 => (if t132 = true then ((laws_markSpace.f kj16 t113 1).bind fun bt133 => ((laws_markInt64S.f kj16 t117 bt133.1).bind fun bt135 => (if bt135.1 < 0 then (laws_FnExactNewChoices.j1 kj16 l1 a2 t109 t112 t120 true l0_0) else ((laws_eqInt64S.f kj16 t120 t109).bind fun t137 => (if t137 = true then (laws_FnExactNewChoices.j1 kj16 l1 a2 t109 t112 t120 (t123 != t112) l0_0) else (laws_FnExactNewChoices.j1 kj16 l1 a2 t109 t112 t120 true l0_0)))))) else (some false)))) else (some false))) = some r := H
            have A44 := Aside0.mk A440
            clear A440
            replace H := Option.bind_eq_some_iff.mp H
            obtain ⟨t128, A450, H⟩ := H
            replace H : (if t128 = true then ((laws_toInt64S.f kj16 l1).bind fun t129 => ((laws_eqInt64S.f kj16 t117 t129).bind fun t132 => (if t132 = true then ((laws_markSpace.f kj16 t113 1).bind fun bt133 => ((laws_markInt64S.f kj16 t117 bt133.1).bind fun bt135 => (if bt135.1 < 0 then (laws_FnExactNewChoices.j1 kj16 l1 a2 t109 t112 t120 true l0_0) else ((laws_eqInt64S.f kj16 t120 t109).bind fun t137 => (if t137 = true then (laws_FnExactNewChoices.j1 kj16 l1 a2 t109 t112 t120 (t123 != t112) l0_0) else (laws_FnExactNewChoices.j1 kj16 l1 a2 t109 t112 t120 true l0_0)))))) else (some false)))) else (some false)) = some r := H
            have A45 := Aside0.mk A450
            clear A450
            by_cases c46 : t128 = true
            · subst c46
              have H1 : ((laws_toInt64S.f kj16 l1).bind fun t129 => ((laws_eqInt64S.f kj16 t117 t129).bind fun t132 => (if t132 = true then ((laws_markSpace.f kj16 t113 1).bind fun bt133 => ((laws_markInt64S.f kj16 t117 bt133.1).bind fun bt135 => (if bt135.1 < 0 then (laws_FnExactNewChoices.j1 kj16 l1 a2 t109 t112 t120 true l0_0) else ((laws_eqInt64S.f kj16 t120 t109).bind fun t137 => (if t137 = true then (laws_FnExactNewChoices.j1 kj16 l1 a2 t109 t112 t120 (t123 != t112) l0_0) else (laws_FnExactNewChoices.j1 kj16 l1 a2 t109 t112 t120 true l0_0)))))) else (some false)))) = some r := by rw [if_pos rfl] at H; exact H
              clear H
              have H := H1
              clear H1
              replace H := Option.bind_eq_some_iff.mp H
              obtain ⟨t129, A470, H⟩ := H
              replace H : ((laws_eqInt64S.f kj16 t117 t129).bind fun t132 => (if t132 = true then ((laws_markSpace.f kj16 t113 1).bind fun bt133 => ((laws_markInt64S.f kj16 t117 bt133.1).bind fun bt135 => (if bt135.1 < 0 then (laws_FnExactNewChoices.j1 kj16 l1 a2 t109 t112 t120 true l0_0) else ((laws_eqInt64S.f kj16 t120 t109).bind fun t137 => (if t137 = true then (laws_FnExactNewChoices.j1 kj16 l1 a2 t109 t112 t120 (t123 != t112) l0_0) else (laws_FnExactNewChoices.j1 kj16 l1 a2 t109 t112 t120 true l0_0)))))) else (some false))) = some r := H
              have A47 := Aside0.mk A470
              clear A470
              replace H := Option.bind_eq_some_iff.mp H
              obtain ⟨t132, A480, H⟩ := H
              replace H : (if t132 = true then ((laws_markSpace.f kj16 t113 1).bind fun bt133 => ((laws_markInt64S.f kj16 t117 bt133.1).bind fun bt135 => (if bt135.1 < 0 then (laws_FnExactNewChoices.j1 kj16 l1 a2 t109 t112 t120 true l0_0) else ((laws_eqInt64S.f kj16 t120 t109).bind fun t137 => (if t137 = true then (laws_FnExactNewChoices.j1 kj16 l1 a2 t109 t112 t120 (t123 != t112) l0_0) else (laws_FnExactNewChoices.j1 kj16 l1 a2 t109 t112 t120 true l0_0)))))) else (some false)) = some r := H
              have A48 := Aside0.mk A480
              clear A480
              by_cases c49 : t132 = true
              · subst c49
                have H1 : ((laws_markSpace.f kj16 t113 1).bind fun bt133 => ((laws_markInt64S.f kj16 t117 bt133.1).bind fun bt135 => (if bt135.1 < 0 then (laws_FnExactNewChoices.j1 kj16 l1 a2 t109 t112 t120 true l0_0) else ((laws_eqInt64S.f kj16 t120 t109).bind fun t137 => (if t137 = true then (laws_FnExactNewChoices.j1 kj16 l1 a2 t109 t112 t120 (t123 != t112) l0_0) else (laws_FnExactNewChoices.j1 kj16 l1 a2 t109 t112 t120 true l0_0)))))) = some r := by rw [if_pos rfl] at H; exact H
                clear H
                have H := H1
                clear H1
                replace H := Option.bind_eq_some_iff.mp H
                obtain ⟨⟨t133, t134⟩, A500, H⟩ := H
                replace H : ((laws_markInt64S.f kj16 t117 t133).bind fun bt135 => (if bt135.1 < 0 then (laws_FnExactNewChoices.j1 kj16 l1 a2 t109 t112 t120 true l0_0) else ((laws_eqInt64S.f kj16 t120 t109).bind fun t137 => (if t137 = true then (laws_FnExactNewChoices.j1 kj16 l1 a2 t109 t112 t120 (t123 != t112) l0_0) else (laws_FnExactNewChoices.j1 kj16 l1 a2 t109 t112 t120 true l0_0))))) = some r := H
                have A50 := Aside0.mk A500
                clear A500
                replace H := Option.bind_eq_some_iff.mp H
                obtain ⟨⟨t135, t136⟩, A510, H⟩ := H
                replace H : (if t135 < 0 then (laws_FnExactNewChoices.j1 kj16 l1 a2 t109 t112 t120 true l0_0) else ((laws_eqInt64S.f kj16 t120 t109).bind fun t137 => (if t137 = true then (laws_FnExactNewChoices.j1 kj16 l1 a2 t109 t112 t120 (t123 != t112) l0_0) else (laws_FnExactNewChoices.j1 kj16 l1 a2 t109 t112 t120 true l0_0)))) = some r := H
                have A51 := Aside0.mk A510
                clear A510
                have HC52 := Aside0.mk H
                clear H
                try go_wp2
                have n0_ := Aside0.mk (Kd.R_drew HO_8.out)
                have n1_ := Aside0.mk (Kd.R_drew HO_11.out)
                have n2_ := Aside0.mk (Kd.R_drew HO_12.out)
                have n3_ := Aside0.mk (Kd.R_drew HO_117000.out)
                have n4_ := Aside0.mk (blk_drew BK101.out)
                have n5_ := Aside0.mk (blk_drew BK116.out)
                have n6_ := Aside0.mk (below_drew1 HB.out)
                clear HO_8
                clear HO_11
                clear HO_12
                clear HO_117000
                clear BK101
                clear BK116
                clear HB
                have HO_8 := n0_
                have HO_11 := n1_
                have HO_12 := n2_
                have HO_117000 := n3_
                have BK101 := n4_
                have BK116 := n5_
                have HB := n6_
                clear n0_ n1_ n2_ n3_ n4_ n5_ n6_
                refine start_ (n := 5) (S := fun w' => w'.cell? ⟨gb116, 0, none⟩ = some (.slice Ao30 t113.length co30) ∧ w'.cell? ⟨gb101, 0, none⟩ = some (.slice A0_0 l0_0.length c0_0)) (ds := []) #[false, false, false, false, false] (by kernel_rfl) rfl rfl ⟨(blk_cell BK116.out 0).trans rfl, (blk_cell BK101.out 0).trans rfl⟩ (fun hHeld => ?_)
                generalize wc.drew = w53 at HO_8 HO_11 HO_12 HO_117000 BK101 BK116 HB hHeld ⊢
                refine take_ (i := 0) (N := some 56) (v := ?_) (a' := ?_) #[true, false, false, false, false] rfl rfl (by kernel_rfl) (fun _ _ _ h => h) (Or.inl ⟨by rfl, ?_⟩) hHeld ?_ ?_
                rotate_left
                · rintro w' ⟨s0, s1⟩
                  go_simp
                  with_reducible rfl
                rotate_left
                · simp only [Act.put, List.setIfInBounds_toArray, List.set_cons_zero, List.set_cons_succ, i64_w, i32_w]
                  rfl
                refine take_ (i := 1) (N := some 57) (v := ?_) (a' := ?_) #[true, true, false, false, false] rfl rfl (by kernel_rfl) (fun _ _ _ h => h) (Or.inl ⟨by rfl, ?_⟩) hHeld ?_ ?_
                rotate_left
                · rintro w' ⟨s0, s1⟩
                  go_simp
                  with_reducible rfl
                rotate_left
                · simp only [Act.put, List.setIfInBounds_toArray, List.set_cons_zero, List.set_cons_succ, i64_w, i32_w]
                  rfl
                refine one_ (i := 2) (N := some 58) #[true, true, true, false, false] rfl rfl (by kernel_rfl) (by decide) (fun K hK => ?_)
                refine goes_ Try.func17 (by kernel_rfl) rfl #[.agg #[.slice A0_0 l0_0.length c0_0]] (by rfl) rfl rfl (by (try simp only [List.map_toArray, List.map_cons, List.map_nil]); first | done | rfl | (simp only [List.length_drop, List.length_take]; rfl)) ?_
                with_reducible refine (laws_toSpace.calls kj16 _ _ l0_0 t125 _ ?side1 ?side2 A44.out).mono ?_
                (case side1 => repeat (first | exact (Kd.C_below HR0_0.out HB.out) | (with_reducible refine Kd.C_alloc ?_ _) | (with_reducible refine Kd.C_drewN ?_ _) | (with_reducible refine Kd.C_drew ?_)))
                (case side2 => exact HC0_0.out)
                rintro e w54 ⟨v126, rfl, ho0, hb⟩
                refine ⟨_, rfl, ?_⟩
                have n0_ := Aside0.mk (Kd.R_elder' (by (with_reducible repeat (first | apply Kd.R_alloc | apply Kd.R_drewN | apply Kd.R_drew)); exact HO_8.out) (Kd.R_base ho0) hb)
                have n1_ := Aside0.mk (Kd.R_elder' (by (with_reducible repeat (first | apply Kd.R_alloc | apply Kd.R_drewN | apply Kd.R_drew)); exact HO_11.out) (Kd.R_base ho0) hb)
                have n2_ := Aside0.mk (Kd.R_elder' (by (with_reducible repeat (first | apply Kd.R_alloc | apply Kd.R_drewN | apply Kd.R_drew)); exact HO_12.out) (Kd.R_base ho0) hb)
                have n3_ := Aside0.mk (Kd.R_elder' (by (with_reducible repeat (first | apply Kd.R_alloc | apply Kd.R_drewN | apply Kd.R_drew)); exact HO_117000.out) (Kd.R_base ho0) hb)
                have n4_ := Aside0.mk (Kd.R_lower (Kd.R_new' (Kd.R_new' (Kd.R_new' (Kd.R_new' ho0 (Kd.R_lt (by (with_reducible repeat (first | apply Kd.R_alloc | apply Kd.R_drewN | apply Kd.R_drew)); exact HO_8.out))) (Kd.R_lt (by (with_reducible repeat (first | apply Kd.R_alloc | apply Kd.R_drewN | apply Kd.R_drew)); exact HO_11.out))) (Kd.R_lt (by (with_reducible repeat (first | apply Kd.R_alloc | apply Kd.R_drewN | apply Kd.R_drew)); exact HO_12.out))) (Kd.R_lt (by (with_reducible repeat (first | apply Kd.R_alloc | apply Kd.R_drewN | apply Kd.R_drew)); exact HO_117000.out))) (below_size (by repeat (first | (with_reducible first | exact HB.out | apply below_alloc | apply pw_below_drewN | apply below_drew1 | refine below_set ?_ GE101.out | refine below_set ?_ GE116.out) | exact HB.out))))
                have n5_ := Aside0.mk (blk_below (g := gb101) (o := .cells #[.slice A0_0 l0_0.length c0_0] 24 (0, 0)) (by (with_reducible repeat (first | refine blk_drewN ?_ _ | refine blk_drew ?_ | refine blk_alloc ?_ _)); exact BK101.out) hb)
                have n6_ := Aside0.mk (blk_below (g := gb116) (o := .cells #[.slice Ao30 t113.length co30] 28 (0, 0)) (by (with_reducible repeat (first | refine blk_drewN ?_ _ | refine blk_drew ?_ | refine blk_alloc ?_ _)); exact BK116.out) hb)
                have n7_ := Aside0.mk (below_step (by repeat (first | (with_reducible first | exact HB.out | apply below_alloc | apply pw_below_drewN | apply below_drew1 | refine below_set ?_ GE101.out | refine below_set ?_ GE116.out) | exact HB.out)) hb)
                clear HO_8
                clear HO_11
                clear HO_12
                clear HO_117000
                clear BK101
                clear BK116
                clear HB
                have HO_8 := n0_
                have HO_11 := n1_
                have HO_12 := n2_
                have HO_117000 := n3_
                have HO127 := n4_
                have BK101 := n5_
                have BK116 := n6_
                have HB := n7_
                clear n0_ n1_ n2_ n3_ n4_ n5_ n6_ n7_
                (try clear hb)
                (try clear hb2)
                (try clear hk)
                (try clear hi)
                (try clear ho0)
                obtain ⟨Ao55, co55, eo55⟩ := Kd.R_slice HO127.out
                (first | subst eo55 | (injection eo55 with f1_ f2_ f3_; have f4_ := f1_.symm; have f5_ := f3_.symm; clear f1_ f2_ f3_; subst f4_; subst f5_))
                refine hK.out _ _ ⟨(blk_cell BK116.out 0).trans rfl, (blk_cell BK101.out 0).trans rfl⟩ (fun hHeld => ?_)
                clear hK K
                refine norm_ (a' := ?_) ?_ ?_
                rotate_left
                · show Act.put _ (some 58) _ = _
                  simp only [Act.put, List.setIfInBounds_toArray, List.set_cons_zero, List.set_cons_succ, i64_w, i32_w]
                  rfl
                refine one_ (i := 3) (N := some 59) #[true, true, true, true, false] rfl rfl (by kernel_rfl) (by decide) (fun K hK => ?_)
                refine goes_ Try.func20 (by kernel_rfl) rfl #[.agg #[.slice Ao30 t113.length co30], .agg #[.slice Ao55 t125.length co55]] (by rfl) rfl rfl (by (try simp only [List.map_toArray, List.map_cons, List.map_nil]); first | done | rfl | (simp only [List.length_drop, List.length_take]; rfl)) ?_
                with_reducible refine (laws_eqSpace.calls kj16 _ _ t113 _ _ t125 true _ ?side1 ?side2 ?side3 ?side4 A45.out).mono ?_
                (case side1 => repeat (first | exact (Kd.R_reads' HO_117000.out).2.2 | (with_reducible refine Kd.C_alloc ?_ _) | (with_reducible refine Kd.C_drewN ?_ _) | (with_reducible refine Kd.C_drew ?_)))
                (case side2 => exact (Kd.R_reads' HO_117000.out).2.1)
                (case side3 => repeat (first | exact (Kd.R_reads' HO127.out).2.2 | (with_reducible refine Kd.C_alloc ?_ _) | (with_reducible refine Kd.C_drewN ?_ _) | (with_reducible refine Kd.C_drew ?_)))
                (case side4 => exact (Kd.R_reads' HO127.out).2.1)
                rintro e w56 ⟨rfl, hb⟩
                refine ⟨_, rfl, ?_⟩
                have n0_ := Aside0.mk (Kd.R_below (by (with_reducible repeat (first | apply Kd.R_alloc | apply Kd.R_drewN | apply Kd.R_drew)); exact HO_8.out) hb)
                have n1_ := Aside0.mk (Kd.R_below (by (with_reducible repeat (first | apply Kd.R_alloc | apply Kd.R_drewN | apply Kd.R_drew)); exact HO_11.out) hb)
                have n2_ := Aside0.mk (Kd.R_below (by (with_reducible repeat (first | apply Kd.R_alloc | apply Kd.R_drewN | apply Kd.R_drew)); exact HO_12.out) hb)
                have n3_ := Aside0.mk (Kd.R_below (by (with_reducible repeat (first | apply Kd.R_alloc | apply Kd.R_drewN | apply Kd.R_drew)); exact HO_117000.out) hb)
                have n4_ := Aside0.mk (Kd.R_below (by (with_reducible repeat (first | apply Kd.R_alloc | apply Kd.R_drewN | apply Kd.R_drew)); exact HO127.out) hb)
                have n5_ := Aside0.mk (blk_below (g := gb101) (o := .cells #[.slice A0_0 l0_0.length c0_0] 24 (0, 0)) (by (with_reducible repeat (first | refine blk_drewN ?_ _ | refine blk_drew ?_ | refine blk_alloc ?_ _)); exact BK101.out) hb)
                have n6_ := Aside0.mk (blk_below (g := gb116) (o := .cells #[.slice Ao30 t113.length co30] 28 (0, 0)) (by (with_reducible repeat (first | refine blk_drewN ?_ _ | refine blk_drew ?_ | refine blk_alloc ?_ _)); exact BK116.out) hb)
                have n7_ := Aside0.mk (below_step (by repeat (first | (with_reducible first | exact HB.out | apply below_alloc | apply pw_below_drewN | apply below_drew1 | refine below_set ?_ GE101.out | refine below_set ?_ GE116.out) | exact HB.out)) hb)
                clear HO_8
                clear HO_11
                clear HO_12
                clear HO_117000
                clear HO127
                clear BK101
                clear BK116
                clear HB
                have HO_8 := n0_
                have HO_11 := n1_
                have HO_12 := n2_
                have HO_117000 := n3_
                have HO127 := n4_
                have BK101 := n5_
                have BK116 := n6_
                have HB := n7_
                clear n0_ n1_ n2_ n3_ n4_ n5_ n6_ n7_
                (try clear hb)
                (try clear hb2)
                (try clear hk)
                (try clear hi)
                refine hK.out _ _ ⟨(blk_cell BK116.out 0).trans rfl, (blk_cell BK101.out 0).trans rfl⟩ (fun hHeld => ?_)
                clear hK K
                refine norm_ (a' := ?_) ?_ ?_
                rotate_left
                · show Act.put _ (some 59) _ = _
                  simp only [Act.put, List.setIfInBounds_toArray, List.set_cons_zero, List.set_cons_succ, i64_w, i32_w]
                  rfl
                refine pure_ (i := 4) (N := some 60) (v := ?_) (a' := ?_) #[true, true, true, true, true] rfl rfl (by kernel_rfl) (fun _ _ _ h => h) (Or.inl ⟨by rfl, ?_⟩) ?_ ?_
                rotate_left
                · intro w'
                  go_simp
                  with_reducible rfl
                rotate_left
                · simp only [Act.put, List.setIfInBounds_toArray, List.set_cons_zero, List.set_cons_succ, i64_w, i32_w]
                  rfl
                refine done_ (by kernel_rfl) ?_
                go_upto_region 20 with (first | ((with_reducible refine gate_callee (f := 18) rfl ?_); refine goesL_ (some 63) rfl rfl Try.func18 (by kernel_rfl) rfl #[.slice A1 l1.length c1] rfl (by (try simp only [List.map_toArray, List.map_cons, List.map_nil]); first | done | rfl | (simp only [List.length_drop, List.length_take]; rfl)) ?_; (with_reducible refine (laws_toInt64S.calls kj16 _ _ l1 t129 _ ?side1 ?side2 A47.out).mono ?_); (case side1 => repeat (first | exact (Kd.C_below HR1.out HB.out) | (with_reducible refine Kd.C_alloc ?_ _) | (with_reducible refine Kd.C_drewN ?_ _) | (with_reducible refine Kd.C_drew ?_))); (case side2 => exact HC1.out); rintro e w57 ⟨v130, rfl, ho0, hb⟩; refine ⟨_, rfl, ?_⟩; have n0_ := Aside0.mk (Kd.R_elder' (by (with_reducible repeat (first | apply Kd.R_alloc | apply Kd.R_drewN | apply Kd.R_drew)); exact HO_8.out) (Kd.R_base ho0) hb); have n1_ := Aside0.mk (Kd.R_elder' (by (with_reducible repeat (first | apply Kd.R_alloc | apply Kd.R_drewN | apply Kd.R_drew)); exact HO_11.out) (Kd.R_base ho0) hb); have n2_ := Aside0.mk (Kd.R_elder' (by (with_reducible repeat (first | apply Kd.R_alloc | apply Kd.R_drewN | apply Kd.R_drew)); exact HO_12.out) (Kd.R_base ho0) hb); have n3_ := Aside0.mk (Kd.R_elder' (by (with_reducible repeat (first | apply Kd.R_alloc | apply Kd.R_drewN | apply Kd.R_drew)); exact HO_117000.out) (Kd.R_base ho0) hb); have n4_ := Aside0.mk (Kd.R_elder' (by (with_reducible repeat (first | apply Kd.R_alloc | apply Kd.R_drewN | apply Kd.R_drew)); exact HO127.out) (Kd.R_base ho0) hb); have n5_ := Aside0.mk (Kd.R_lower (Kd.R_new' (Kd.R_new' (Kd.R_new' (Kd.R_new' (Kd.R_new' ho0 (Kd.R_lt (by (with_reducible repeat (first | apply Kd.R_alloc | apply Kd.R_drewN | apply Kd.R_drew)); exact HO_8.out))) (Kd.R_lt (by (with_reducible repeat (first | apply Kd.R_alloc | apply Kd.R_drewN | apply Kd.R_drew)); exact HO_11.out))) (Kd.R_lt (by (with_reducible repeat (first | apply Kd.R_alloc | apply Kd.R_drewN | apply Kd.R_drew)); exact HO_12.out))) (Kd.R_lt (by (with_reducible repeat (first | apply Kd.R_alloc | apply Kd.R_drewN | apply Kd.R_drew)); exact HO_117000.out))) (Kd.R_lt (by (with_reducible repeat (first | apply Kd.R_alloc | apply Kd.R_drewN | apply Kd.R_drew)); exact HO127.out))) (below_size (by repeat (first | (with_reducible first | exact HB.out | apply below_alloc | apply pw_below_drewN | apply below_drew1 | refine below_set ?_ GE101.out | refine below_set ?_ GE116.out) | exact HB.out)))); have n6_ := Aside0.mk (blk_below (g := gb101) (o := .cells #[.slice A0_0 l0_0.length c0_0] 24 (0, 0)) (by (with_reducible repeat (first | refine blk_drewN ?_ _ | refine blk_drew ?_ | refine blk_alloc ?_ _)); exact BK101.out) hb); have n7_ := Aside0.mk (blk_below (g := gb116) (o := .cells #[.slice Ao30 t113.length co30] 28 (0, 0)) (by (with_reducible repeat (first | refine blk_drewN ?_ _ | refine blk_drew ?_ | refine blk_alloc ?_ _)); exact BK116.out) hb); have n8_ := Aside0.mk (below_step (by repeat (first | (with_reducible first | exact HB.out | apply below_alloc | apply pw_below_drewN | apply below_drew1 | refine below_set ?_ GE101.out | refine below_set ?_ GE116.out) | exact HB.out)) hb); clear HO_8; clear HO_11; clear HO_12; clear HO_117000; clear HO127; clear BK101; clear BK116; clear HB; have HO_8 := n0_; have HO_11 := n1_; have HO_12 := n2_; have HO_117000 := n3_; have HO127 := n4_; have HO131 := n5_; have BK101 := n6_; have BK116 := n7_; have HB := n8_; clear n0_ n1_ n2_ n3_ n4_ n5_ n6_ n7_ n8_; (try clear hb); (try clear hb2); (try clear hk); (try clear hi); (try clear ho0); obtain ⟨Ao58, co58, eo58⟩ := Kd.R_slice HO131.out; subst eo58) | ((with_reducible refine gate_callee (f := 21) rfl ?_); refine goesL_ (some 64) rfl rfl Try.func21 (by kernel_rfl) rfl #[.slice Ao35 t117.length co35, .slice Ao58 t129.length co58] rfl (by (try simp only [List.map_toArray, List.map_cons, List.map_nil]); first | done | rfl | (simp only [List.length_drop, List.length_take]; rfl)) ?_; (with_reducible refine (laws_eqInt64S.calls kj16 _ _ t117 _ _ t129 true _ ?side1 ?side2 ?side3 ?side4 A48.out).mono ?_); (case side1 => repeat (first | exact (Kd.R_reads' HO_11.out).2.2 | (with_reducible refine Kd.C_alloc ?_ _) | (with_reducible refine Kd.C_drewN ?_ _) | (with_reducible refine Kd.C_drew ?_))); (case side2 => exact (Kd.R_reads' HO_11.out).2.1); (case side3 => repeat (first | exact (Kd.R_reads' HO131.out).2.2 | (with_reducible refine Kd.C_alloc ?_ _) | (with_reducible refine Kd.C_drewN ?_ _) | (with_reducible refine Kd.C_drew ?_))); (case side4 => exact (Kd.R_reads' HO131.out).2.1); rintro e w' ⟨rfl, ⟨nd, rfl⟩⟩; refine ⟨_, rfl, ?_⟩; have hnb59 := NB116_101.out; have hnc59 := NB101_116.out; have hcz60_0 : w57.cell? ⟨gb116, 0, none⟩ = some (.slice Ao30 t113.length co30) := (blk_cell BK116.out 0).trans rfl; have hfz60_0 := blk_frozen BK116.out 0) | ((with_reducible refine gate_callee (f := 24) rfl ?_); refine goesL_ (some 68) rfl rfl Try.func24 (by kernel_rfl) rfl #[.agg #[.slice Ao30 t113.length co30], .int .i64 1] rfl (by (try simp only [List.map_toArray, List.map_cons, List.map_nil]); first | done | rfl | (simp only [List.length_drop, List.length_take]; rfl)) ?_; (with_reducible refine (laws_markSpace.calls kj16 (fun k_ => some k_ = (.slice Ao30 t113.length co30 : Value).ownBlock) (.slice Ao30 t113.length co30) t113 1 t133 t134 w _ ?side1 ?side2 A50.out).mono ?_); (case side1 => repeat (first | (with_reducible first | exact HB.out | apply below_alloc | apply pw_below_drewN | apply below_drew1 | refine below_set ?_ GE101.out | refine below_set ?_ GE116.out) | exact HB.out)); (case side2 => exact Kd.R_tight rfl HO_117000.out); rintro e w61 ⟨rfl, hy0, hb, hkp⟩; refine ⟨_, rfl, ?_⟩; have n0_ := Aside0.mk (Kd.R_mono (ok' := fun k_ => some k_ ≠ (.slice Ao35 t117.length co35 : Value).ownBlock ∧ some k_ ≠ (v121 : Value).ownBlock ∧ some k_ ≠ (.slice Ao30 t113.length co30 : Value).ownBlock ∧ some k_ ≠ (.slice Ao55 t125.length co55 : Value).ownBlock ∧ some k_ ≠ (.slice Ao58 t129.length co58 : Value).ownBlock) (Kd.R_keptB (HO_8.out) hkp (fun k_ hk_ hs_ => (hk_.1.1.2.2) hs_)) (fun k_ hk_ => ⟨hk_.1.1.1.1, hk_.1.1.1.2.1, hk_.1.1.1.2.2, hk_.1.1.2, hk_.1.2⟩)); have n1_ := Aside0.mk (Kd.R_mono (ok' := fun k_ => some k_ ≠ (v110 : Value).ownBlock ∧ some k_ ≠ (v121 : Value).ownBlock ∧ some k_ ≠ (.slice Ao30 t113.length co30 : Value).ownBlock ∧ some k_ ≠ (.slice Ao55 t125.length co55 : Value).ownBlock ∧ some k_ ≠ (.slice Ao58 t129.length co58 : Value).ownBlock) (Kd.R_keptB (HO_11.out) hkp (fun k_ hk_ hs_ => (hk_.1.1.2.2) hs_)) (fun k_ hk_ => ⟨hk_.1.1.1.1, hk_.1.1.1.2.1, hk_.1.1.1.2.2, hk_.1.1.2, hk_.1.2⟩)); have n2_ := Aside0.mk (Kd.R_mono (ok' := fun k_ => some k_ ≠ (v110 : Value).ownBlock ∧ some k_ ≠ (.slice Ao35 t117.length co35 : Value).ownBlock ∧ some k_ ≠ (.slice Ao30 t113.length co30 : Value).ownBlock ∧ some k_ ≠ (.slice Ao55 t125.length co55 : Value).ownBlock ∧ some k_ ≠ (.slice Ao58 t129.length co58 : Value).ownBlock) (Kd.R_keptB (HO_12.out) hkp (fun k_ hk_ hs_ => (hk_.1.1.2.2) hs_)) (fun k_ hk_ => ⟨hk_.1.1.1.1, hk_.1.1.1.2.1, hk_.1.1.1.2.2, hk_.1.1.2, hk_.1.2⟩)); have n3_ := Aside0.mk (Kd.R_reok rfl hy0 (fun k_ e_ => HO_117000.out.1 k_ e_)); have n4_ := Aside0.mk (blk_kept (by (with_reducible repeat (first | refine blk_drewN ?_ _ | refine blk_drew ?_ | refine blk_alloc ?_ _)); exact BK101.out) hkp (fun hs_ => (fun e_ => (Kd.R_ne HO_117000.out BK101.out (by decide)) e_) hs_)); have n5_ := Aside0.mk (blk_kept (by (with_reducible repeat (first | refine blk_drewN ?_ _ | refine blk_drew ?_ | refine blk_alloc ?_ _)); exact BK116.out) hkp (fun hs_ => (fun e_ => (Kd.R_ne HO_117000.out BK116.out (by decide)) e_) hs_)); have n6_ := Aside0.mk (Kd.R_mono (ok' := fun k_ => some k_ ≠ (v110 : Value).ownBlock ∧ some k_ ≠ (.slice Ao35 t117.length co35 : Value).ownBlock ∧ some k_ ≠ (v121 : Value).ownBlock ∧ some k_ ≠ (.slice Ao30 t113.length co30 : Value).ownBlock ∧ some k_ ≠ (.slice Ao58 t129.length co58 : Value).ownBlock) (Kd.R_keptB (HO127.out) hkp (fun k_ hk_ hs_ => (hk_.1.2) hs_)) (fun k_ hk_ => ⟨hk_.1.1.1.1.1.2, hk_.1.1.1.1.2, hk_.1.1.1.2, hk_.1.1.2, hk_.1.2⟩)); have n7_ := Aside0.mk (Kd.R_mono (ok' := fun k_ => some k_ ≠ (v110 : Value).ownBlock ∧ some k_ ≠ (.slice Ao35 t117.length co35 : Value).ownBlock ∧ some k_ ≠ (v121 : Value).ownBlock ∧ some k_ ≠ (.slice Ao30 t113.length co30 : Value).ownBlock ∧ some k_ ≠ (.slice Ao55 t125.length co55 : Value).ownBlock) (Kd.R_keptB (HO131.out) hkp (fun k_ hk_ hs_ => (hk_.1.2) hs_)) (fun k_ hk_ => ⟨hk_.1.1.1.1.1.2, hk_.1.1.1.1.2, hk_.1.1.1.2, hk_.1.1.2, hk_.1.2⟩)); have n8_ := Aside0.mk (hb); clear HO_8; clear HO_11; clear HO_12; clear HO_117000; clear BK101; clear BK116; clear HO127; clear HO131; clear HB; have HO_8 := n0_; have HO_11 := n1_; have HO_12 := n2_; have HO_117000 := n3_; have BK101 := n4_; have BK116 := n5_; have HO127 := n6_; have HO131 := n7_; have HB := n8_; clear n0_ n1_ n2_ n3_ n4_ n5_ n6_ n7_ n8_; (try clear hb); (try clear hkp); (try clear hy0)) | ((with_reducible refine gate_callee (f := 25) rfl ?_); refine goesL_ (some 71) rfl rfl Try.func25 (by kernel_rfl) rfl #[.slice Ao35 t117.length co35, .int .i64 t133] rfl (by (try simp only [List.map_toArray, List.map_cons, List.map_nil]); first | done | rfl | (simp only [List.length_drop, List.length_take]; rfl)) ?_; (with_reducible refine (laws_markInt64S.calls kj16 (fun k_ => some k_ = (.slice Ao35 t117.length co35 : Value).ownBlock) (.slice Ao35 t117.length co35) t117 t133 t135 t136 w _ ?side1 ?side2 A51.out).mono ?_); (case side1 => repeat (first | (with_reducible first | exact HB.out | apply below_alloc | apply pw_below_drewN | apply below_drew1 | refine below_set ?_ GE101.out | refine below_set ?_ GE116.out) | exact HB.out)); (case side2 => exact Kd.R_tight rfl HO_11.out); rintro e w62 ⟨rfl, hy0, hb, hkp⟩; refine ⟨_, rfl, ?_⟩; have n0_ := Aside0.mk (Kd.R_mono (ok' := fun k_ => some k_ ≠ (.slice Ao35 t117.length co35 : Value).ownBlock ∧ some k_ ≠ (v121 : Value).ownBlock ∧ some k_ ≠ (.slice Ao30 t113.length co30 : Value).ownBlock ∧ some k_ ≠ (.slice Ao55 t125.length co55 : Value).ownBlock ∧ some k_ ≠ (.slice Ao58 t129.length co58 : Value).ownBlock) (Kd.R_keptB (HO_8.out) hkp (fun k_ hk_ hs_ => (hk_.1) hs_)) (fun k_ hk_ => ⟨hk_.1.1, hk_.1.2.1, hk_.1.2.2.1, hk_.1.2.2.2.1, hk_.1.2.2.2.2⟩)); have n1_ := Aside0.mk (Kd.R_reok rfl hy0 (fun k_ e_ => HO_11.out.1 k_ e_)); have n2_ := Aside0.mk (Kd.R_mono (ok' := fun k_ => some k_ ≠ (v110 : Value).ownBlock ∧ some k_ ≠ (.slice Ao35 t117.length co35 : Value).ownBlock ∧ some k_ ≠ (.slice Ao30 t113.length co30 : Value).ownBlock ∧ some k_ ≠ (.slice Ao55 t125.length co55 : Value).ownBlock ∧ some k_ ≠ (.slice Ao58 t129.length co58 : Value).ownBlock) (Kd.R_keptB (HO_12.out) hkp (fun k_ hk_ hs_ => (hk_.2.1) hs_)) (fun k_ hk_ => ⟨hk_.1.1, hk_.1.2.1, hk_.1.2.2.1, hk_.1.2.2.2.1, hk_.1.2.2.2.2⟩)); have n3_ := Aside0.mk (Kd.R_mono (ok' := fun k_ => some k_ ≠ (v110 : Value).ownBlock ∧ some k_ ≠ (.slice Ao35 t117.length co35 : Value).ownBlock ∧ some k_ ≠ (v121 : Value).ownBlock ∧ some k_ ≠ (.slice Ao55 t125.length co55 : Value).ownBlock ∧ some k_ ≠ (.slice Ao58 t129.length co58 : Value).ownBlock) (Kd.R_keptB (HO_117000.out) hkp (fun k_ hk_ hs_ => (hk_.1.1.2.1) hs_)) (fun k_ hk_ => ⟨hk_.1.1.1.1, hk_.1.1.1.2.1, hk_.1.1.1.2.2, hk_.1.1.2, hk_.1.2⟩)); have n4_ := Aside0.mk (blk_kept (by (with_reducible repeat (first | refine blk_drewN ?_ _ | refine blk_drew ?_ | refine blk_alloc ?_ _)); exact BK101.out) hkp (fun hs_ => (fun e_ => (Kd.R_ne HO_11.out BK101.out (by decide)) e_) hs_)); have n5_ := Aside0.mk (blk_kept (by (with_reducible repeat (first | refine blk_drewN ?_ _ | refine blk_drew ?_ | refine blk_alloc ?_ _)); exact BK116.out) hkp (fun hs_ => (fun e_ => (Kd.R_ne HO_11.out BK116.out (by decide)) e_) hs_)); have n6_ := Aside0.mk (Kd.R_mono (ok' := fun k_ => some k_ ≠ (v110 : Value).ownBlock ∧ some k_ ≠ (.slice Ao35 t117.length co35 : Value).ownBlock ∧ some k_ ≠ (v121 : Value).ownBlock ∧ some k_ ≠ (.slice Ao30 t113.length co30 : Value).ownBlock ∧ some k_ ≠ (.slice Ao58 t129.length co58 : Value).ownBlock) (Kd.R_keptB (HO127.out) hkp (fun k_ hk_ hs_ => (hk_.2.1) hs_)) (fun k_ hk_ => ⟨hk_.1.1, hk_.1.2.1, hk_.1.2.2.1, hk_.1.2.2.2.1, hk_.1.2.2.2.2⟩)); have n7_ := Aside0.mk (Kd.R_mono (ok' := fun k_ => some k_ ≠ (v110 : Value).ownBlock ∧ some k_ ≠ (.slice Ao35 t117.length co35 : Value).ownBlock ∧ some k_ ≠ (v121 : Value).ownBlock ∧ some k_ ≠ (.slice Ao30 t113.length co30 : Value).ownBlock ∧ some k_ ≠ (.slice Ao55 t125.length co55 : Value).ownBlock) (Kd.R_keptB (HO131.out) hkp (fun k_ hk_ hs_ => (hk_.2.1) hs_)) (fun k_ hk_ => ⟨hk_.1.1, hk_.1.2.1, hk_.1.2.2.1, hk_.1.2.2.2.1, hk_.1.2.2.2.2⟩)); have n8_ := Aside0.mk (hb); clear HO_8; clear HO_11; clear HO_12; clear HO_117000; clear BK101; clear BK116; clear HO127; clear HO131; clear HB; have HO_8 := n0_; have HO_11 := n1_; have HO_12 := n2_; have HO_117000 := n3_; have BK101 := n4_; have BK116 := n5_; have HO127 := n6_; have HO131 := n7_; have HB := n8_; clear n0_ n1_ n2_ n3_ n4_ n5_ n6_ n7_ n8_; (try clear hb); (try clear hkp); (try clear hy0)))
                (try simp only [Act.put, List.setIfInBounds_toArray, List.set_cons_zero, List.set_cons_succ])
                go_cut [84] (fun v84 wc => ∃ (kq : Nat) (x84_51 : Bool), v84 = .bool x84_51 ∧ Aside0 (laws_FnExactNewChoices.j1 kq l1 a2 t109 t112 t120 x84_51 l0_0 = some r) ∧ Aside0 (kq ≤ kj16) ∧ Aside0 (Kd.R (Kd.int .i64) 2 wc w.heap.size (fun k_ => some k_ ≠ (v121 : Value).ownBlock ∧ some k_ ≠ ((.slice Ao30 t113.length co30) : Value).ownBlock) v110 t109) ∧ Aside0 (Kd.R (Kd.int .i64) 2 wc w.heap.size (fun k_ => some k_ ≠ (v110 : Value).ownBlock ∧ some k_ ≠ ((.slice Ao30 t113.length co30) : Value).ownBlock) v121 t120) ∧ Aside0 (Kd.R (Kd.int .i64) 2 wc w.heap.size (fun k_ => some k_ ≠ (v110 : Value).ownBlock ∧ some k_ ≠ (v121 : Value).ownBlock) (.slice Ao30 t113.length co30) t134) ∧ Aside0 (wc.heap[gb101]? = some (.cells #[(.slice A0_0 l0_0.length c0_0)] 24 (0, 0))) ∧ Aside0 (wc.heap[gb116]? = some (.cells #[(.slice Ao30 t113.length co30)] 28 (0, 0))) ∧ Aside0 (Below w.heap.size w wc))
                case first =>
                  have H := HC52.out
                  clear HC52
                  by_cases c63 : t135 < 0
                  · rw [if_pos c63] at H
                    have c63b0 : decide (t135 < 0) = true := decide_eq_true c63
                    clear c63
                    (first | rw [c63b0] | (simp only [i64_w, i32_w]; rw [c63b0]) | skip)
                    have H' := Aside0.mk H
                    clear H
                    go_wp2
                    go_meet
                    case rel => exact ⟨_, (true), (by first | rfl | (simp; done) | (simp [*]; done)), H', ⟨by have := HJ16.out; first | omega | exact Nat.le_refl _⟩, ⟨by (with_reducible repeat (first | apply Kd.R_alloc | apply Kd.R_drewN | apply Kd.R_drew)); exact Kd.R_mono HO_8.out (fun _ hk => ⟨hk.2.1, hk.2.2.1⟩)⟩, ⟨by (with_reducible repeat (first | apply Kd.R_alloc | apply Kd.R_drewN | apply Kd.R_drew)); exact Kd.R_mono HO_12.out (fun _ hk => ⟨hk.1, hk.2.2.1⟩)⟩, ⟨by (with_reducible repeat (first | apply Kd.R_alloc | apply Kd.R_drewN | apply Kd.R_drew)); exact Kd.R_mono HO_117000.out (fun _ hk => ⟨hk.1, hk.2.2.1⟩)⟩, ⟨by (with_reducible repeat (first | refine blk_drewN ?_ _ | refine blk_drew ?_ | refine blk_alloc ?_ _)); exact BK101.out⟩, ⟨by (with_reducible repeat (first | refine blk_drewN ?_ _ | refine blk_drew ?_ | refine blk_alloc ?_ _)); exact BK116.out⟩, ⟨by repeat (first | (with_reducible first | exact HB.out | apply below_alloc | apply pw_below_drewN | apply below_drew1 | refine below_set ?_ GE101.out | refine below_set ?_ GE116.out) | exact HB.out)⟩⟩
                  · rw [if_neg c63] at H
                    have c63b0 : decide (t135 < 0) = false := decide_eq_false c63
                    clear c63
                    (first | rw [c63b0] | (simp only [i64_w, i32_w]; rw [c63b0]) | skip)
                    replace H := Option.bind_eq_some_iff.mp H
                    obtain ⟨t137, A640, H⟩ := H
                    replace H : (if t137 = true then (laws_FnExactNewChoices.j1 kj16 l1 a2 t109 t112 t120 (t123 != t112) l0_0) else (laws_FnExactNewChoices.j1 kj16 l1 a2 t109 t112 t120 true l0_0)) = some r := H
                    have A64 := Aside0.mk A640
                    clear A640
                    by_cases c65 : t137 = true
                    · subst c65
                      have H1 : (laws_FnExactNewChoices.j1 kj16 l1 a2 t109 t112 t120 (t123 != t112) l0_0) = some r := by rw [if_pos rfl] at H; exact H
                      clear H
                      have H := H1
                      clear H1
                      have H' := Aside0.mk H
                      clear H
                      obtain ⟨Ao66, co66, eo66⟩ := Kd.R_slice HO_12.out
                      subst eo66
                      obtain ⟨Ao67, co67, eo67⟩ := Kd.R_slice HO_8.out
                      subst eo67
                      go_wp2_with (first | (go_at_call 21; (with_reducible refine (laws_eqInt64S.calls kj16 _ _ t120 _ _ t109 true _ ?side1 ?side2 ?side3 ?side4 A64.out).mono ?_); (case side1 => repeat (first | exact (Kd.R_reads' HO_12.out).2.2 | (with_reducible refine Kd.C_alloc ?_ _) | (with_reducible refine Kd.C_drewN ?_ _) | (with_reducible refine Kd.C_drew ?_))); (case side2 => exact (Kd.R_reads' HO_12.out).2.1); (case side3 => repeat (first | exact (Kd.R_reads' HO_8.out).2.2 | (with_reducible refine Kd.C_alloc ?_ _) | (with_reducible refine Kd.C_drewN ?_ _) | (with_reducible refine Kd.C_drew ?_))); (case side4 => exact (Kd.R_reads' HO_8.out).2.1); rintro e w' ⟨rfl, ⟨nd, rfl⟩⟩))
                      go_meet
                      case rel => exact ⟨_, ((t123 != t112)), (by first | rfl | (simp; done) | (simp [*]; done)), H', ⟨by have := HJ16.out; first | omega | exact Nat.le_refl _⟩, ⟨by (with_reducible repeat (first | apply Kd.R_alloc | apply Kd.R_drewN | apply Kd.R_drew)); exact Kd.R_mono HO_8.out (fun _ hk => ⟨hk.2.1, hk.2.2.1⟩)⟩, ⟨by (with_reducible repeat (first | apply Kd.R_alloc | apply Kd.R_drewN | apply Kd.R_drew)); exact Kd.R_mono HO_12.out (fun _ hk => ⟨hk.1, hk.2.2.1⟩)⟩, ⟨by (with_reducible repeat (first | apply Kd.R_alloc | apply Kd.R_drewN | apply Kd.R_drew)); exact Kd.R_mono HO_117000.out (fun _ hk => ⟨hk.1, hk.2.2.1⟩)⟩, ⟨by (with_reducible repeat (first | refine blk_drewN ?_ _ | refine blk_drew ?_ | refine blk_alloc ?_ _)); exact BK101.out⟩, ⟨by (with_reducible repeat (first | refine blk_drewN ?_ _ | refine blk_drew ?_ | refine blk_alloc ?_ _)); exact BK116.out⟩, ⟨by repeat (first | (with_reducible first | exact HB.out | apply below_alloc | apply pw_below_drewN | apply below_drew1 | refine below_set ?_ GE101.out | refine below_set ?_ GE116.out) | exact HB.out)⟩⟩
                    · replace c65 := Bool.eq_false_iff.mpr c65
                      subst c65
                      have H1 : (laws_FnExactNewChoices.j1 kj16 l1 a2 t109 t112 t120 true l0_0) = some r := by rw [if_neg (show ¬ (false = true) by decide)] at H; exact H
                      clear H
                      have H := H1
                      clear H1
                      have H' := Aside0.mk H
                      clear H
                      obtain ⟨Ao68, co68, eo68⟩ := Kd.R_slice HO_12.out
                      subst eo68
                      obtain ⟨Ao69, co69, eo69⟩ := Kd.R_slice HO_8.out
                      subst eo69
                      go_wp2_with (first | (go_at_call 21; (with_reducible refine (laws_eqInt64S.calls kj16 _ _ t120 _ _ t109 false _ ?side1 ?side2 ?side3 ?side4 A64.out).mono ?_); (case side1 => repeat (first | exact (Kd.R_reads' HO_12.out).2.2 | (with_reducible refine Kd.C_alloc ?_ _) | (with_reducible refine Kd.C_drewN ?_ _) | (with_reducible refine Kd.C_drew ?_))); (case side2 => exact (Kd.R_reads' HO_12.out).2.1); (case side3 => repeat (first | exact (Kd.R_reads' HO_8.out).2.2 | (with_reducible refine Kd.C_alloc ?_ _) | (with_reducible refine Kd.C_drewN ?_ _) | (with_reducible refine Kd.C_drew ?_))); (case side4 => exact (Kd.R_reads' HO_8.out).2.1); rintro e w' ⟨rfl, ⟨nd, rfl⟩⟩))
                      go_meet
                      case rel => exact ⟨_, (true), (by first | rfl | (simp; done) | (simp [*]; done)), H', ⟨by have := HJ16.out; first | omega | exact Nat.le_refl _⟩, ⟨by (with_reducible repeat (first | apply Kd.R_alloc | apply Kd.R_drewN | apply Kd.R_drew)); exact Kd.R_mono HO_8.out (fun _ hk => ⟨hk.2.1, hk.2.2.1⟩)⟩, ⟨by (with_reducible repeat (first | apply Kd.R_alloc | apply Kd.R_drewN | apply Kd.R_drew)); exact Kd.R_mono HO_12.out (fun _ hk => ⟨hk.1, hk.2.2.1⟩)⟩, ⟨by (with_reducible repeat (first | apply Kd.R_alloc | apply Kd.R_drewN | apply Kd.R_drew)); exact Kd.R_mono HO_117000.out (fun _ hk => ⟨hk.1, hk.2.2.1⟩)⟩, ⟨by (with_reducible repeat (first | refine blk_drewN ?_ _ | refine blk_drew ?_ | refine blk_alloc ?_ _)); exact BK101.out⟩, ⟨by (with_reducible repeat (first | refine blk_drewN ?_ _ | refine blk_drew ?_ | refine blk_alloc ?_ _)); exact BK116.out⟩, ⟨by repeat (first | (with_reducible first | exact HB.out | apply below_alloc | apply pw_below_drewN | apply below_drew1 | refine below_set ?_ GE101.out | refine below_set ?_ GE116.out) | exact HB.out)⟩⟩
                case rest =>
                  clear HC52
                  try clear c1
                  try clear c2
                  try clear p2
                  try clear c3
                  try clear c4
                  try clear c4b0
                  try clear c4b1
                  try clear c5
                  try clear c6
                  try clear c7
                  try clear c7b0
                  try clear c15
                  try clear c17
                  try clear c18
                  try clear c20
                  try clear c21
                  try clear c22
                  try clear c23
                  try clear c24
                  try clear c25
                  try clear c31
                  try clear c38
                  try clear c43
                  try clear c46
                  try clear c49
                  try clear c59
                  try clear c63
                  try clear c63b0
                  try clear c65
                  try clear hcz19_0
                  try clear hcz21_0
                  try clear hcz27_0
                  try clear hcz32_0
                  try clear hcz34_0
                  try clear hcz60_0
                  try clear hcz9_0
                  try clear hfz19_0
                  try clear hfz21_0
                  try clear hfz27_0
                  try clear hfz32_0
                  try clear hfz34_0
                  try clear hfz60_0
                  try clear hfz9_0
                  try clear p2
                  obtain ⟨kq, x84_51, rfl, HA, HJ51, HO_8, HO_12, HO_117000, BK101, BK116, HB⟩ := hcut
                  have hl117000_51 := (Kd.R_reads' HO_117000.out).1
                  rw [hl117000_51] at HO_117000
                  (try simp only [hl117000_51])
                  (try simp only [hl117000_51] at BK101)
                  (try simp only [hl117000_51] at BK116)
                  (try simp only [hl117000_51] at HO_8)
                  (try simp only [hl117000_51] at HO_12)
                  cases kq with
                  | zero => exact absurd HA.out (by simp [laws_FnExactNewChoices.j1])
                  | succ kj51 =>
                    have H := HA.out
                    clear HA
                    simp only [laws_FnExactNewChoices.j1] at H
                    by_cases c70 : x84_51 = true
                    · subst c70
                      have H1 : (some false) = some r := by rw [if_pos rfl] at H; exact H
                      clear H
                      have H := H1
                      clear H1
                      obtain rfl := Option.some.inj H
                      go_wp2
                      go_ret
                      exact ⟨by first | rfl | (simp [errW_none, errW_some] <;> rfl) | (simp [*, errW_none, errW_some] <;> rfl), by repeat (first | (with_reducible first | exact HB.out | apply below_alloc | apply pw_below_drewN | apply below_drew1 | refine below_set ?_ GE101.out | refine below_set ?_ GE116.out) | exact HB.out)⟩
                    · replace c70 := Bool.eq_false_iff.mpr c70
                      subst c70
                      have H1 : ((laws_markInt64S.f kj51 t120 1).bind fun bt138 => ((laws_heldInt64S.f kj51 bt138.2 1).bind fun t140 => (if t140 < 0 then (some false) else (if t140 = bt138.1 then ((laws_toSpace.f kj51 l0_0).bind fun t141 => ((laws_toInt64S.f kj51 l1).bind fun t144 => ((impl_NewChoices.f t141 t144 a2).bind fun bt147 => ((laws_eqInt64S.f kj51 bt147.1 t109).bind fun t151 => (if t151 = true then (laws_FnExactNewChoices.j2 kj51 bt138.2 bt138.1 (bt147.2 != t112)) else (laws_FnExactNewChoices.j2 kj51 bt138.2 bt138.1 true)))))) else (some false))))) = some r := by rw [if_neg (show ¬ (false = true) by decide)] at H; exact H
                      clear H
                      have H := H1
                      clear H1
                      replace H := Option.bind_eq_some_iff.mp H
                      obtain ⟨⟨t138, t139⟩, A710, H⟩ := H
                      replace H : ((laws_heldInt64S.f kj51 t139 1).bind fun t140 => (if t140 < 0 then (some false) else (if t140 = t138 then ((laws_toSpace.f kj51 l0_0).bind fun t141 => ((laws_toInt64S.f kj51 l1).bind fun t144 => ((impl_NewChoices.f t141 t144 a2).bind fun bt147 => ((laws_eqInt64S.f kj51 bt147.1 t109).bind fun t151 => (if t151 = true then (laws_FnExactNewChoices.j2 kj51 t139 t138 (bt147.2 != t112)) else (laws_FnExactNewChoices.j2 kj51 t139 t138 true)))))) else (some false)))) = some r := H
                      have A71 := Aside0.mk A710
                      clear A710
                      replace H := Option.bind_eq_some_iff.mp H
                      obtain ⟨t140, A720, H⟩ := H
                      replace H : (if t140 < 0 then (some false) else (if t140 = t138 then ((laws_toSpace.f kj51 l0_0).bind fun t141 => ((laws_toInt64S.f kj51 l1).bind fun t144 => ((impl_NewChoices.f t141 t144 a2).bind fun bt147 => ((laws_eqInt64S.f kj51 bt147.1 t109).bind fun t151 => (if t151 = true then (laws_FnExactNewChoices.j2 kj51 t139 t138 (bt147.2 != t112)) else (laws_FnExactNewChoices.j2 kj51 t139 t138 true)))))) else (some false))) = some r := H
                      have A72 := Aside0.mk A720
                      clear A720
                      by_cases c73 : t140 < 0
                      · rw [if_pos c73] at H
                        have c73b0 : decide (t140 < 0) = true := decide_eq_true c73
                        clear c73
                        obtain rfl := Option.some.inj H
                        obtain ⟨Ao74, co74, eo74⟩ := Kd.R_slice HO_12.out
                        subst eo74
                        go_wp2_with (first | ((with_reducible refine gate_callee (f := 25) rfl ?_); refine goesL_ (some 87) rfl rfl Try.func25 (by kernel_rfl) rfl #[.slice Ao74 t120.length co74, .int .i64 1] rfl (by (try simp only [List.map_toArray, List.map_cons, List.map_nil]); first | done | rfl | (simp only [List.length_drop, List.length_take]; rfl)) ?_; (with_reducible refine (laws_markInt64S.calls kj51 (fun k_ => some k_ = (.slice Ao74 t120.length co74 : Value).ownBlock) (.slice Ao74 t120.length co74) t120 1 t138 t139 w _ ?side1 ?side2 A71.out).mono ?_); (case side1 => repeat (first | (with_reducible first | exact HB.out | apply below_alloc | apply pw_below_drewN | apply below_drew1 | refine below_set ?_ GE101.out | refine below_set ?_ GE116.out) | exact HB.out)); (case side2 => exact Kd.R_tight rfl HO_12.out); rintro e w75 ⟨rfl, hy0, hb, hkp⟩; refine ⟨_, rfl, ?_⟩; have n0_ := Aside0.mk (Kd.R_mono (ok' := fun k_ => some k_ ≠ (.slice Ao74 t120.length co74 : Value).ownBlock ∧ some k_ ≠ (.slice Ao30 t134.length co30 : Value).ownBlock) (Kd.R_keptB (HO_8.out) hkp (fun k_ hk_ hs_ => (hk_.1) hs_)) (fun k_ hk_ => ⟨hk_.1.1, hk_.1.2⟩)); have n1_ := Aside0.mk (Kd.R_reok rfl hy0 (fun k_ e_ => HO_12.out.1 k_ e_)); have n2_ := Aside0.mk (Kd.R_mono (ok' := fun k_ => some k_ ≠ (v110 : Value).ownBlock ∧ some k_ ≠ (.slice Ao74 t120.length co74 : Value).ownBlock) (Kd.R_keptB (HO_117000.out) hkp (fun k_ hk_ hs_ => (hk_.2) hs_)) (fun k_ hk_ => ⟨hk_.1.1, hk_.1.2⟩)); have n3_ := Aside0.mk (blk_kept (by (with_reducible repeat (first | refine blk_drewN ?_ _ | refine blk_drew ?_ | refine blk_alloc ?_ _)); exact BK101.out) hkp (fun hs_ => (fun e_ => (Kd.R_ne HO_12.out BK101.out (by decide)) e_) hs_)); have n4_ := Aside0.mk (blk_kept (by (with_reducible repeat (first | refine blk_drewN ?_ _ | refine blk_drew ?_ | refine blk_alloc ?_ _)); exact BK116.out) hkp (fun hs_ => (fun e_ => (Kd.R_ne HO_12.out BK116.out (by decide)) e_) hs_)); have n5_ := Aside0.mk (hb); clear HO_8; clear HO_12; clear HO_117000; clear BK101; clear BK116; clear HB; have HO_8 := n0_; have HO_12 := n1_; have HO_117000 := n2_; have BK101 := n3_; have BK116 := n4_; have HB := n5_; clear n0_ n1_ n2_ n3_ n4_ n5_; (try clear hb); (try clear hkp); (try clear hy0)) | ((with_reducible refine gate_callee (f := 26) rfl ?_); refine goesL_ (some 90) rfl rfl Try.func26 (by kernel_rfl) rfl #[.slice Ao74 t139.length co74, .int .i64 1] rfl (by (try simp only [List.map_toArray, List.map_cons, List.map_nil]); first | done | (rw [show t139.length = t120.length from (Kd.R_reads' HO_12.out).1.symm] <;> rfl) | rfl | (simp only [List.length_drop, List.length_take]; rfl)) ?_; (with_reducible refine (laws_heldInt64S.calls kj51 _ _ t139 1 t140 _ ?side1 ?side2 A72.out).mono ?_); (case side1 => repeat (first | exact (Kd.R_reads' HO_12.out).2.2 | (with_reducible refine Kd.C_alloc ?_ _) | (with_reducible refine Kd.C_drewN ?_ _) | (with_reducible refine Kd.C_drew ?_))); (case side2 => rw [show t139.length = t120.length from (Kd.R_reads' HO_12.out).1.symm]; exact (Kd.R_reads' HO_12.out).2.1); rintro e w' ⟨rfl, ⟨nd, rfl⟩⟩; refine ⟨_, rfl, ?_⟩))
                        go_ret
                        exact ⟨by first | rfl | (simp [errW_none, errW_some] <;> rfl) | (simp [*, errW_none, errW_some] <;> rfl), by repeat (first | (with_reducible first | exact HB.out | apply below_alloc | apply pw_below_drewN | apply below_drew1 | refine below_set ?_ GE101.out | refine below_set ?_ GE116.out) | exact HB.out)⟩
                      · rw [if_neg c73] at H
                        have c73b0 : decide (t140 < 0) = false := decide_eq_false c73
                        clear c73
                        by_cases c76 : t140 = t138
                        · rw [if_pos c76] at H
                          have c76b0 : (t140 == t138) = true := beq_iff_eq.mpr c76
                          have c76b1 : (t140 != t138) = false := bne_eq_false_iff_eq.mpr c76
                          clear c76
                          replace H := Option.bind_eq_some_iff.mp H
                          obtain ⟨t141, A770, H⟩ := H
                          replace H : ((laws_toInt64S.f kj51 l1).bind fun t144 => ((impl_NewChoices.f t141 t144 a2).bind fun bt147 => ((laws_eqInt64S.f kj51 bt147.1 t109).bind fun t151 => (if t151 = true then (laws_FnExactNewChoices.j2 kj51 t139 t138 (bt147.2 != t112)) else (laws_FnExactNewChoices.j2 kj51 t139 t138 true))))) = some r := H
                          have A77 := Aside0.mk A770
                          clear A770
                          replace H := Option.bind_eq_some_iff.mp H
                          obtain ⟨t144, A780, H⟩ := H
                          replace H : ((impl_NewChoices.f t141 t144 a2).bind fun bt147 => ((laws_eqInt64S.f kj51 bt147.1 t109).bind fun t151 => (if t151 = true then (laws_FnExactNewChoices.j2 kj51 t139 t138 (bt147.2 != t112)) else (laws_FnExactNewChoices.j2 kj51 t139 t138 true)))) = some r := H
                          have A78 := Aside0.mk A780
                          clear A780
                          replace H := Option.bind_eq_some_iff.mp H
                          obtain ⟨⟨t147, t150⟩, A790, H⟩ := H
                          replace H : ((laws_eqInt64S.f kj51 t147 t109).bind fun t151 => (if t151 = true then (laws_FnExactNewChoices.j2 kj51 t139 t138 (t150 != t112)) else (laws_FnExactNewChoices.j2 kj51 t139 t138 true))) = some r := H
                          have A79 := Aside0.mk A790
                          clear A790
                          have HC80 := Aside0.mk H
                          clear H
                          obtain ⟨Ao81, co81, eo81⟩ := Kd.R_slice HO_12.out
                          subst eo81
                          go_upto_region 31 with (first | ((with_reducible refine gate_callee (f := 25) rfl ?_); refine goesL_ (some 87) rfl rfl Try.func25 (by kernel_rfl) rfl #[.slice Ao81 t120.length co81, .int .i64 1] rfl (by (try simp only [List.map_toArray, List.map_cons, List.map_nil]); first | done | rfl | (simp only [List.length_drop, List.length_take]; rfl)) ?_; (with_reducible refine (laws_markInt64S.calls kj51 (fun k_ => some k_ = (.slice Ao81 t120.length co81 : Value).ownBlock) (.slice Ao81 t120.length co81) t120 1 t138 t139 w _ ?side1 ?side2 A71.out).mono ?_); (case side1 => repeat (first | (with_reducible first | exact HB.out | apply below_alloc | apply pw_below_drewN | apply below_drew1 | refine below_set ?_ GE101.out | refine below_set ?_ GE116.out) | exact HB.out)); (case side2 => exact Kd.R_tight rfl HO_12.out); rintro e w82 ⟨rfl, hy0, hb, hkp⟩; refine ⟨_, rfl, ?_⟩; have n0_ := Aside0.mk (Kd.R_mono (ok' := fun k_ => some k_ ≠ (.slice Ao81 t120.length co81 : Value).ownBlock ∧ some k_ ≠ (.slice Ao30 t134.length co30 : Value).ownBlock) (Kd.R_keptB (HO_8.out) hkp (fun k_ hk_ hs_ => (hk_.1) hs_)) (fun k_ hk_ => ⟨hk_.1.1, hk_.1.2⟩)); have n1_ := Aside0.mk (Kd.R_reok rfl hy0 (fun k_ e_ => HO_12.out.1 k_ e_)); have n2_ := Aside0.mk (Kd.R_mono (ok' := fun k_ => some k_ ≠ (v110 : Value).ownBlock ∧ some k_ ≠ (.slice Ao81 t120.length co81 : Value).ownBlock) (Kd.R_keptB (HO_117000.out) hkp (fun k_ hk_ hs_ => (hk_.2) hs_)) (fun k_ hk_ => ⟨hk_.1.1, hk_.1.2⟩)); have n3_ := Aside0.mk (blk_kept (by (with_reducible repeat (first | refine blk_drewN ?_ _ | refine blk_drew ?_ | refine blk_alloc ?_ _)); exact BK101.out) hkp (fun hs_ => (fun e_ => (Kd.R_ne HO_12.out BK101.out (by decide)) e_) hs_)); have n4_ := Aside0.mk (blk_kept (by (with_reducible repeat (first | refine blk_drewN ?_ _ | refine blk_drew ?_ | refine blk_alloc ?_ _)); exact BK116.out) hkp (fun hs_ => (fun e_ => (Kd.R_ne HO_12.out BK116.out (by decide)) e_) hs_)); have n5_ := Aside0.mk (hb); clear HO_8; clear HO_12; clear HO_117000; clear BK101; clear BK116; clear HB; have HO_8 := n0_; have HO_12 := n1_; have HO_117000 := n2_; have BK101 := n3_; have BK116 := n4_; have HB := n5_; clear n0_ n1_ n2_ n3_ n4_ n5_; (try clear hb); (try clear hkp); (try clear hy0)) | ((with_reducible refine gate_callee (f := 26) rfl ?_); refine goesL_ (some 90) rfl rfl Try.func26 (by kernel_rfl) rfl #[.slice Ao81 t139.length co81, .int .i64 1] rfl (by (try simp only [List.map_toArray, List.map_cons, List.map_nil]); first | done | (rw [show t139.length = t120.length from (Kd.R_reads' HO_12.out).1.symm] <;> rfl) | rfl | (simp only [List.length_drop, List.length_take]; rfl)) ?_; (with_reducible refine (laws_heldInt64S.calls kj51 _ _ t139 1 t140 _ ?side1 ?side2 A72.out).mono ?_); (case side1 => repeat (first | exact (Kd.R_reads' HO_12.out).2.2 | (with_reducible refine Kd.C_alloc ?_ _) | (with_reducible refine Kd.C_drewN ?_ _) | (with_reducible refine Kd.C_drew ?_))); (case side2 => rw [show t139.length = t120.length from (Kd.R_reads' HO_12.out).1.symm]; exact (Kd.R_reads' HO_12.out).2.1); rintro e w' ⟨rfl, ⟨nd, rfl⟩⟩; refine ⟨_, rfl, ?_⟩; have hnb83 := NB101_116.out; have hnc83 := NB116_101.out; have hcz84_0 : w82.cell? ⟨gb101, 0, none⟩ = some (.slice A0_0 l0_0.length c0_0) := (blk_cell BK101.out 0).trans rfl; have hfz84_0 := blk_frozen BK101.out 0) | ((with_reducible refine gate_callee (f := 17) rfl ?_); refine goesL_ (some 98) rfl rfl Try.func17 (by kernel_rfl) rfl #[.agg #[.slice A0_0 l0_0.length c0_0]] rfl (by (try simp only [List.map_toArray, List.map_cons, List.map_nil]); first | done | rfl | (simp only [List.length_drop, List.length_take]; rfl)) ?_; (with_reducible refine (laws_toSpace.calls kj51 _ _ l0_0 t141 _ ?side1 ?side2 A77.out).mono ?_); (case side1 => repeat (first | exact (Kd.C_below HR0_0.out (by repeat (first | (with_reducible first | exact HB.out | apply below_alloc | apply pw_below_drewN | apply below_drew1 | refine below_set ?_ GE101.out | refine below_set ?_ GE116.out) | exact HB.out))) | (with_reducible refine Kd.C_alloc ?_ _) | (with_reducible refine Kd.C_drewN ?_ _) | (with_reducible refine Kd.C_drew ?_))); (case side2 => exact HC0_0.out); rintro e w85 ⟨v142, rfl, ho0, hb⟩; refine ⟨_, rfl, ?_⟩; have n0_ := Aside0.mk (Kd.R_elder' (by (with_reducible repeat (first | apply Kd.R_alloc | apply Kd.R_drewN | apply Kd.R_drew)); exact HO_8.out) (Kd.R_base ho0) hb); have n1_ := Aside0.mk (Kd.R_elder' (by (with_reducible repeat (first | apply Kd.R_alloc | apply Kd.R_drewN | apply Kd.R_drew)); exact HO_12.out) (Kd.R_base ho0) hb); have n2_ := Aside0.mk (Kd.R_elder' (by (with_reducible repeat (first | apply Kd.R_alloc | apply Kd.R_drewN | apply Kd.R_drew)); exact HO_117000.out) (Kd.R_base ho0) hb); have n3_ := Aside0.mk (Kd.R_lower (Kd.R_new' (Kd.R_new' (Kd.R_new' ho0 (Kd.R_lt (by (with_reducible repeat (first | apply Kd.R_alloc | apply Kd.R_drewN | apply Kd.R_drew)); exact HO_8.out))) (Kd.R_lt (by (with_reducible repeat (first | apply Kd.R_alloc | apply Kd.R_drewN | apply Kd.R_drew)); exact HO_12.out))) (Kd.R_lt (by (with_reducible repeat (first | apply Kd.R_alloc | apply Kd.R_drewN | apply Kd.R_drew)); exact HO_117000.out))) (below_size (by repeat (first | (with_reducible first | exact HB.out | apply below_alloc | apply pw_below_drewN | apply below_drew1 | refine below_set ?_ GE101.out | refine below_set ?_ GE116.out) | exact HB.out)))); have n4_ := Aside0.mk (blk_below (g := gb101) (o := .cells #[.slice A0_0 l0_0.length c0_0] 24 (0, 0)) (by (with_reducible repeat (first | refine blk_drewN ?_ _ | refine blk_drew ?_ | refine blk_alloc ?_ _)); exact BK101.out) hb); have n5_ := Aside0.mk (blk_below (g := gb116) (o := .cells #[.slice Ao30 t134.length co30] 28 (0, 0)) (by (with_reducible repeat (first | refine blk_drewN ?_ _ | refine blk_drew ?_ | refine blk_alloc ?_ _)); exact BK116.out) hb); have n6_ := Aside0.mk (below_step (by repeat (first | (with_reducible first | exact HB.out | apply below_alloc | apply pw_below_drewN | apply below_drew1 | refine below_set ?_ GE101.out | refine below_set ?_ GE116.out) | exact HB.out)) hb); clear HO_8; clear HO_12; clear HO_117000; clear BK101; clear BK116; clear HB; have HO_8 := n0_; have HO_12 := n1_; have HO_117000 := n2_; have HO143 := n3_; have BK101 := n4_; have BK116 := n5_; have HB := n6_; clear n0_ n1_ n2_ n3_ n4_ n5_ n6_; (try clear hb); (try clear hb2); (try clear hk); (try clear hi); (try clear ho0)) | ((with_reducible refine gate_callee (f := 18) rfl ?_); refine goesL_ (some 100) rfl rfl Try.func18 (by kernel_rfl) rfl #[.slice A1 l1.length c1] rfl (by (try simp only [List.map_toArray, List.map_cons, List.map_nil]); first | done | rfl | (simp only [List.length_drop, List.length_take]; rfl)) ?_; (with_reducible refine (laws_toInt64S.calls kj51 _ _ l1 t144 _ ?side1 ?side2 A78.out).mono ?_); (case side1 => repeat (first | exact (Kd.C_below HR1.out HB.out) | (with_reducible refine Kd.C_alloc ?_ _) | (with_reducible refine Kd.C_drewN ?_ _) | (with_reducible refine Kd.C_drew ?_))); (case side2 => exact HC1.out); rintro e w86 ⟨v145, rfl, ho0, hb⟩; refine ⟨_, rfl, ?_⟩; have n0_ := Aside0.mk (Kd.R_elder' (by (with_reducible repeat (first | apply Kd.R_alloc | apply Kd.R_drewN | apply Kd.R_drew)); exact HO_8.out) (Kd.R_base ho0) hb); have n1_ := Aside0.mk (Kd.R_elder' (by (with_reducible repeat (first | apply Kd.R_alloc | apply Kd.R_drewN | apply Kd.R_drew)); exact HO_12.out) (Kd.R_base ho0) hb); have n2_ := Aside0.mk (Kd.R_elder' (by (with_reducible repeat (first | apply Kd.R_alloc | apply Kd.R_drewN | apply Kd.R_drew)); exact HO_117000.out) (Kd.R_base ho0) hb); have n3_ := Aside0.mk (Kd.R_elder' (by (with_reducible repeat (first | apply Kd.R_alloc | apply Kd.R_drewN | apply Kd.R_drew)); exact HO143.out) (Kd.R_base ho0) hb); have n4_ := Aside0.mk (Kd.R_lower (Kd.R_new' (Kd.R_new' (Kd.R_new' (Kd.R_new' ho0 (Kd.R_lt (by (with_reducible repeat (first | apply Kd.R_alloc | apply Kd.R_drewN | apply Kd.R_drew)); exact HO_8.out))) (Kd.R_lt (by (with_reducible repeat (first | apply Kd.R_alloc | apply Kd.R_drewN | apply Kd.R_drew)); exact HO_12.out))) (Kd.R_lt (by (with_reducible repeat (first | apply Kd.R_alloc | apply Kd.R_drewN | apply Kd.R_drew)); exact HO_117000.out))) (Kd.R_lt (by (with_reducible repeat (first | apply Kd.R_alloc | apply Kd.R_drewN | apply Kd.R_drew)); exact HO143.out))) (below_size (by repeat (first | (with_reducible first | exact HB.out | apply below_alloc | apply pw_below_drewN | apply below_drew1 | refine below_set ?_ GE101.out | refine below_set ?_ GE116.out) | exact HB.out)))); have n5_ := Aside0.mk (blk_below (g := gb101) (o := .cells #[.slice A0_0 l0_0.length c0_0] 24 (0, 0)) (by (with_reducible repeat (first | refine blk_drewN ?_ _ | refine blk_drew ?_ | refine blk_alloc ?_ _)); exact BK101.out) hb); have n6_ := Aside0.mk (blk_below (g := gb116) (o := .cells #[.slice Ao30 t134.length co30] 28 (0, 0)) (by (with_reducible repeat (first | refine blk_drewN ?_ _ | refine blk_drew ?_ | refine blk_alloc ?_ _)); exact BK116.out) hb); have n7_ := Aside0.mk (below_step (by repeat (first | (with_reducible first | exact HB.out | apply below_alloc | apply pw_below_drewN | apply below_drew1 | refine below_set ?_ GE101.out | refine below_set ?_ GE116.out) | exact HB.out)) hb); clear HO_8; clear HO_12; clear HO_117000; clear HO143; clear BK101; clear BK116; clear HB; have HO_8 := n0_; have HO_12 := n1_; have HO_117000 := n2_; have HO143 := n3_; have HO146 := n4_; have BK101 := n5_; have BK116 := n6_; have HB := n7_; clear n0_ n1_ n2_ n3_ n4_ n5_ n6_ n7_; (try clear hb); (try clear hb2); (try clear hk); (try clear hi); (try clear ho0); obtain ⟨Ao87, co87, eo87⟩ := Kd.R_slice HO143.out; subst eo87; obtain ⟨Ao88, co88, eo88⟩ := Kd.R_slice HO146.out; subst eo88) | ((with_reducible refine gate_callee (f := 23) rfl ?_); refine goesL_ (some 102) rfl rfl Try.func23 (by kernel_rfl) rfl #[.agg #[.slice Ao87 t141.length co87], .slice Ao88 t144.length co88, .int .i64 a2] rfl (by (try simp only [List.map_toArray, List.map_cons, List.map_nil]); first | done | rfl | (simp only [List.length_drop, List.length_take]; rfl)) ?_; (with_reducible refine (impl_NewChoices.calls _ _ t141 _ _ t144 a2 t147 t150 _ ?side1 ?side2 ?side3 ?side4 A79.out).mono ?_); (case side1 => repeat (first | exact (Kd.R_reads' HO143.out).2.2 | (with_reducible refine Kd.C_alloc ?_ _) | (with_reducible refine Kd.C_drewN ?_ _) | (with_reducible refine Kd.C_drew ?_))); (case side2 => exact (Kd.R_reads' HO143.out).2.1); (case side3 => repeat (first | exact (Kd.R_reads' HO146.out).2.2 | (with_reducible refine Kd.C_alloc ?_ _) | (with_reducible refine Kd.C_drewN ?_ _) | (with_reducible refine Kd.C_drew ?_))); (case side4 => exact (Kd.R_reads' HO146.out).2.1); rintro e w89 ⟨v148, rfl, ho0, hb⟩; refine ⟨_, rfl, ?_⟩; have n0_ := Aside0.mk (Kd.R_elder' (by (with_reducible repeat (first | apply Kd.R_alloc | apply Kd.R_drewN | apply Kd.R_drew)); exact HO_8.out) (Kd.R_base ho0) hb); have n1_ := Aside0.mk (Kd.R_elder' (by (with_reducible repeat (first | apply Kd.R_alloc | apply Kd.R_drewN | apply Kd.R_drew)); exact HO_12.out) (Kd.R_base ho0) hb); have n2_ := Aside0.mk (Kd.R_elder' (by (with_reducible repeat (first | apply Kd.R_alloc | apply Kd.R_drewN | apply Kd.R_drew)); exact HO_117000.out) (Kd.R_base ho0) hb); have n3_ := Aside0.mk (Kd.R_elder' (by (with_reducible repeat (first | apply Kd.R_alloc | apply Kd.R_drewN | apply Kd.R_drew)); exact HO143.out) (Kd.R_base ho0) hb); have n4_ := Aside0.mk (Kd.R_elder' (by (with_reducible repeat (first | apply Kd.R_alloc | apply Kd.R_drewN | apply Kd.R_drew)); exact HO146.out) (Kd.R_base ho0) hb); have n5_ := Aside0.mk (Kd.R_lower (Kd.R_new' (Kd.R_new' (Kd.R_new' (Kd.R_new' (Kd.R_new' ho0 (Kd.R_lt (by (with_reducible repeat (first | apply Kd.R_alloc | apply Kd.R_drewN | apply Kd.R_drew)); exact HO_8.out))) (Kd.R_lt (by (with_reducible repeat (first | apply Kd.R_alloc | apply Kd.R_drewN | apply Kd.R_drew)); exact HO_12.out))) (Kd.R_lt (by (with_reducible repeat (first | apply Kd.R_alloc | apply Kd.R_drewN | apply Kd.R_drew)); exact HO_117000.out))) (Kd.R_lt (by (with_reducible repeat (first | apply Kd.R_alloc | apply Kd.R_drewN | apply Kd.R_drew)); exact HO143.out))) (Kd.R_lt (by (with_reducible repeat (first | apply Kd.R_alloc | apply Kd.R_drewN | apply Kd.R_drew)); exact HO146.out))) (below_size (by repeat (first | (with_reducible first | exact HB.out | apply below_alloc | apply pw_below_drewN | apply below_drew1 | refine below_set ?_ GE101.out | refine below_set ?_ GE116.out) | exact HB.out)))); have n6_ := Aside0.mk (blk_below (g := gb101) (o := .cells #[.slice A0_0 l0_0.length c0_0] 24 (0, 0)) (by (with_reducible repeat (first | refine blk_drewN ?_ _ | refine blk_drew ?_ | refine blk_alloc ?_ _)); exact BK101.out) hb); have n7_ := Aside0.mk (blk_below (g := gb116) (o := .cells #[.slice Ao30 t134.length co30] 28 (0, 0)) (by (with_reducible repeat (first | refine blk_drewN ?_ _ | refine blk_drew ?_ | refine blk_alloc ?_ _)); exact BK116.out) hb); have n8_ := Aside0.mk (below_step (by repeat (first | (with_reducible first | exact HB.out | apply below_alloc | apply pw_below_drewN | apply below_drew1 | refine below_set ?_ GE101.out | refine below_set ?_ GE116.out) | exact HB.out)) hb); clear HO_8; clear HO_12; clear HO_117000; clear HO143; clear HO146; clear BK101; clear BK116; clear HB; have HO_8 := n0_; have HO_12 := n1_; have HO_117000 := n2_; have HO143 := n3_; have HO146 := n4_; have HO149 := n5_; have BK101 := n6_; have BK116 := n7_; have HB := n8_; clear n0_ n1_ n2_ n3_ n4_ n5_ n6_ n7_ n8_; (try clear hb); (try clear hb2); (try clear hk); (try clear hi); (try clear ho0)))
                          (try simp only [Act.put, List.setIfInBounds_toArray, List.set_cons_zero, List.set_cons_succ])
                          go_cut [113] (fun v113 wc => ∃ (kq : Nat) (x113_79 : Bool), v113 = .bool x113_79 ∧ Aside0 (laws_FnExactNewChoices.j2 kq t139 t138 x113_79 = some r) ∧ Aside0 (kq ≤ kj51) ∧ Aside0 (Kd.R (Kd.int .i64) 2 wc w.heap.size (fun k_ => some k_ ≠ ((.slice Ao30 t134.length co30) : Value).ownBlock) (.slice Ao81 t120.length co81) t139) ∧ Aside0 (Kd.R (Kd.int .i64) 2 wc w.heap.size (fun k_ => some k_ ≠ ((.slice Ao81 t120.length co81) : Value).ownBlock) (.slice Ao30 t134.length co30) t134) ∧ Aside0 (wc.heap[gb101]? = some (.cells #[(.slice A0_0 l0_0.length c0_0)] 24 (0, 0))) ∧ Aside0 (wc.heap[gb116]? = some (.cells #[(.slice Ao30 t134.length co30)] 28 (0, 0))) ∧ Aside0 (Below w.heap.size w wc))
                          case first =>
                            have H := HC80.out
                            clear HC80
                            replace H := Option.bind_eq_some_iff.mp H
                            obtain ⟨t151, A900, H⟩ := H
                            replace H : (if t151 = true then (laws_FnExactNewChoices.j2 kj51 t139 t138 (t150 != t112)) else (laws_FnExactNewChoices.j2 kj51 t139 t138 true)) = some r := H
                            have A90 := Aside0.mk A900
                            clear A900
                            by_cases c91 : t151 = true
                            · subst c91
                              have H1 : (laws_FnExactNewChoices.j2 kj51 t139 t138 (t150 != t112)) = some r := by rw [if_pos rfl] at H; exact H
                              clear H
                              have H := H1
                              clear H1
                              have H' := Aside0.mk H
                              clear H
                              obtain ⟨Ao92, co92, eo92⟩ := Kd.R_slice HO149.out
                              subst eo92
                              obtain ⟨Ao93, co93, eo93⟩ := Kd.R_slice HO_8.out
                              subst eo93
                              go_wp2_with (first | ((with_reducible refine gate_callee (f := 21) rfl ?_); refine goesL_ (some 107) rfl rfl Try.func21 (by kernel_rfl) rfl #[.slice Ao92 t147.length co92, .slice Ao93 t109.length co93] rfl (by (try simp only [List.map_toArray, List.map_cons, List.map_nil]); first | done | rfl | (simp only [List.length_drop, List.length_take]; rfl)) ?_; (with_reducible refine (laws_eqInt64S.calls kj51 _ _ t147 _ _ t109 true _ ?side1 ?side2 ?side3 ?side4 A90.out).mono ?_); (case side1 => repeat (first | exact (Kd.R_reads' HO149.out).2.2 | (with_reducible refine Kd.C_alloc ?_ _) | (with_reducible refine Kd.C_drewN ?_ _) | (with_reducible refine Kd.C_drew ?_))); (case side2 => exact (Kd.R_reads' HO149.out).2.1); (case side3 => repeat (first | exact (Kd.R_reads' HO_8.out).2.2 | (with_reducible refine Kd.C_alloc ?_ _) | (with_reducible refine Kd.C_drewN ?_ _) | (with_reducible refine Kd.C_drew ?_))); (case side4 => exact (Kd.R_reads' HO_8.out).2.1); rintro e w' ⟨rfl, ⟨nd, rfl⟩⟩; refine ⟨_, rfl, ?_⟩))
                              go_meet
                              case rel => exact ⟨_, ((t150 != t112)), (by first | rfl | (simp; done) | (simp [*]; done)), H', ⟨by have := HJ16.out; have := HJ51.out; first | omega | exact Nat.le_refl _⟩, ⟨by (try simp only [hl117000_51]); (with_reducible repeat (first | apply Kd.R_alloc | apply Kd.R_drewN | apply Kd.R_drew)); exact Kd.R_mono HO_12.out (fun _ hk => hk.1.1.1.2)⟩, ⟨by (try simp only [hl117000_51]); (with_reducible repeat (first | apply Kd.R_alloc | apply Kd.R_drewN | apply Kd.R_drew)); exact Kd.R_mono HO_117000.out (fun _ hk => hk.1.1.1.2)⟩, ⟨by (try simp only [hl117000_51]); (with_reducible repeat (first | refine blk_drewN ?_ _ | refine blk_drew ?_ | refine blk_alloc ?_ _)); exact BK101.out⟩, ⟨by (try simp only [hl117000_51]); (with_reducible repeat (first | refine blk_drewN ?_ _ | refine blk_drew ?_ | refine blk_alloc ?_ _)); exact BK116.out⟩, ⟨by repeat (first | (with_reducible first | exact HB.out | apply below_alloc | apply pw_below_drewN | apply below_drew1 | refine below_set ?_ GE101.out | refine below_set ?_ GE116.out) | exact HB.out)⟩⟩
                            · replace c91 := Bool.eq_false_iff.mpr c91
                              subst c91
                              have H1 : (laws_FnExactNewChoices.j2 kj51 t139 t138 true) = some r := by rw [if_neg (show ¬ (false = true) by decide)] at H; exact H
                              clear H
                              have H := H1
                              clear H1
                              have H' := Aside0.mk H
                              clear H
                              obtain ⟨Ao94, co94, eo94⟩ := Kd.R_slice HO149.out
                              subst eo94
                              obtain ⟨Ao95, co95, eo95⟩ := Kd.R_slice HO_8.out
                              subst eo95
                              go_wp2_with (first | ((with_reducible refine gate_callee (f := 21) rfl ?_); refine goesL_ (some 107) rfl rfl Try.func21 (by kernel_rfl) rfl #[.slice Ao94 t147.length co94, .slice Ao95 t109.length co95] rfl (by (try simp only [List.map_toArray, List.map_cons, List.map_nil]); first | done | rfl | (simp only [List.length_drop, List.length_take]; rfl)) ?_; (with_reducible refine (laws_eqInt64S.calls kj51 _ _ t147 _ _ t109 false _ ?side1 ?side2 ?side3 ?side4 A90.out).mono ?_); (case side1 => repeat (first | exact (Kd.R_reads' HO149.out).2.2 | (with_reducible refine Kd.C_alloc ?_ _) | (with_reducible refine Kd.C_drewN ?_ _) | (with_reducible refine Kd.C_drew ?_))); (case side2 => exact (Kd.R_reads' HO149.out).2.1); (case side3 => repeat (first | exact (Kd.R_reads' HO_8.out).2.2 | (with_reducible refine Kd.C_alloc ?_ _) | (with_reducible refine Kd.C_drewN ?_ _) | (with_reducible refine Kd.C_drew ?_))); (case side4 => exact (Kd.R_reads' HO_8.out).2.1); rintro e w' ⟨rfl, ⟨nd, rfl⟩⟩; refine ⟨_, rfl, ?_⟩))
                              go_meet
                              case rel => exact ⟨_, (true), (by first | rfl | (simp; done) | (simp [*]; done)), H', ⟨by have := HJ16.out; have := HJ51.out; first | omega | exact Nat.le_refl _⟩, ⟨by (try simp only [hl117000_51]); (with_reducible repeat (first | apply Kd.R_alloc | apply Kd.R_drewN | apply Kd.R_drew)); exact Kd.R_mono HO_12.out (fun _ hk => hk.1.1.1.2)⟩, ⟨by (try simp only [hl117000_51]); (with_reducible repeat (first | apply Kd.R_alloc | apply Kd.R_drewN | apply Kd.R_drew)); exact Kd.R_mono HO_117000.out (fun _ hk => hk.1.1.1.2)⟩, ⟨by (try simp only [hl117000_51]); (with_reducible repeat (first | refine blk_drewN ?_ _ | refine blk_drew ?_ | refine blk_alloc ?_ _)); exact BK101.out⟩, ⟨by (try simp only [hl117000_51]); (with_reducible repeat (first | refine blk_drewN ?_ _ | refine blk_drew ?_ | refine blk_alloc ?_ _)); exact BK116.out⟩, ⟨by repeat (first | (with_reducible first | exact HB.out | apply below_alloc | apply pw_below_drewN | apply below_drew1 | refine below_set ?_ GE101.out | refine below_set ?_ GE116.out) | exact HB.out)⟩⟩
                          case rest =>
                            clear HC80
                            try clear c1
                            try clear c2
                            try clear p2
                            try clear c3
                            try clear c4
                            try clear c4b0
                            try clear c4b1
                            try clear c5
                            try clear c6
                            try clear c7
                            try clear c7b0
                            try clear c8
                            try clear c9
                            try clear c15
                            try clear c17
                            try clear c18
                            try clear c20
                            try clear c21
                            try clear c22
                            try clear c23
                            try clear c24
                            try clear c25
                            try clear c26
                            try clear c31
                            try clear c38
                            try clear c43
                            try clear c46
                            try clear c49
                            try clear c59
                            try clear c63
                            try clear c63b0
                            try clear c65
                            try clear c70
                            try clear c73
                            try clear c73b0
                            try clear c76
                            try clear c76b0
                            try clear c76b1
                            try clear c83
                            try clear c91
                            try clear hcz19_0
                            try clear hcz21_0
                            try clear hcz27_0
                            try clear hcz32_0
                            try clear hcz34_0
                            try clear hcz60_0
                            try clear hcz84_0
                            try clear hcz9_0
                            try clear hfz19_0
                            try clear hfz21_0
                            try clear hfz27_0
                            try clear hfz32_0
                            try clear hfz34_0
                            try clear hfz60_0
                            try clear hfz84_0
                            try clear hfz9_0
                            try clear p2
                            obtain ⟨kq, x113_79, rfl, HA, HJ79, HO_12, HO_117000, BK101, BK116, HB⟩ := hcut
                            have hl12_79 := (Kd.R_reads' HO_12.out).1
                            rw [hl12_79] at HO_12
                            (try simp only [hl12_79])
                            (try simp only [hl12_79] at BK101)
                            (try simp only [hl12_79] at BK116)
                            (try simp only [hl12_79] at HO_117000)
                            cases kq with
                            | zero => exact absurd HA.out (by simp [laws_FnExactNewChoices.j2])
                            | succ kj79 =>
                              have H := HA.out
                              clear HA
                              simp only [laws_FnExactNewChoices.j2] at H
                              by_cases c96 : x113_79 = true
                              · subst c96
                                have H1 : (some false) = some r := by rw [if_pos rfl] at H; exact H
                                clear H
                                have H := H1
                                clear H1
                                obtain rfl := Option.some.inj H
                                go_wp2
                                go_ret
                                exact ⟨by first | rfl | (simp [errW_none, errW_some] <;> rfl) | (simp [*, errW_none, errW_some] <;> rfl), by repeat (first | (with_reducible first | exact HB.out | apply below_alloc | apply pw_below_drewN | apply below_drew1 | refine below_set ?_ GE101.out | refine below_set ?_ GE116.out) | exact HB.out)⟩
                              · replace c96 := Bool.eq_false_iff.mpr c96
                                subst c96
                                have H1 : ((laws_heldInt64S.f kj79 t139 1).bind fun t152 => (if t152 < 0 then (some false) else (if t152 = t138 then (some true) else (some false)))) = some r := by rw [if_neg (show ¬ (false = true) by decide)] at H; exact H
                                clear H
                                have H := H1
                                clear H1
                                replace H := Option.bind_eq_some_iff.mp H
                                obtain ⟨t152, A970, H⟩ := H
                                replace H : (if t152 < 0 then (some false) else (if t152 = t138 then (some true) else (some false))) = some r := H
                                have A97 := Aside0.mk A970
                                clear A970
                                by_cases c98 : t152 < 0
                                · rw [if_pos c98] at H
                                  have c98b0 : decide (t152 < 0) = true := decide_eq_true c98
                                  clear c98
                                  obtain rfl := Option.some.inj H
                                  go_wp2_with (first | ((with_reducible refine gate_callee (f := 26) rfl ?_); refine goesL_ (some 116) rfl rfl Try.func26 (by kernel_rfl) rfl #[.slice Ao81 t139.length co81, .int .i64 1] rfl (by (try simp only [List.map_toArray, List.map_cons, List.map_nil]); first | done | rfl | (simp only [List.length_drop, List.length_take]; rfl)) ?_; (with_reducible refine (laws_heldInt64S.calls kj79 _ _ t139 1 t152 _ ?side1 ?side2 A97.out).mono ?_); (case side1 => repeat (first | exact (Kd.R_reads' HO_12.out).2.2 | (with_reducible refine Kd.C_alloc ?_ _) | (with_reducible refine Kd.C_drewN ?_ _) | (with_reducible refine Kd.C_drew ?_))); (case side2 => exact (Kd.R_reads' HO_12.out).2.1); rintro e w' ⟨rfl, ⟨nd, rfl⟩⟩; refine ⟨_, rfl, ?_⟩))
                                  go_ret
                                  exact ⟨by first | rfl | (simp [errW_none, errW_some] <;> rfl) | (simp [*, errW_none, errW_some] <;> rfl), by repeat (first | (with_reducible first | exact HB.out | apply below_alloc | apply pw_below_drewN | apply below_drew1 | refine below_set ?_ GE101.out | refine below_set ?_ GE116.out) | exact HB.out)⟩
                                · rw [if_neg c98] at H
                                  have c98b0 : decide (t152 < 0) = false := decide_eq_false c98
                                  clear c98
                                  by_cases c99 : t152 = t138
                                  · rw [if_pos c99] at H
                                    have c99b0 : (t152 == t138) = true := beq_iff_eq.mpr c99
                                    have c99b1 : (t152 != t138) = false := bne_eq_false_iff_eq.mpr c99
                                    clear c99
                                    obtain rfl := Option.some.inj H
                                    go_wp2_with (first | ((with_reducible refine gate_callee (f := 26) rfl ?_); refine goesL_ (some 116) rfl rfl Try.func26 (by kernel_rfl) rfl #[.slice Ao81 t139.length co81, .int .i64 1] rfl (by (try simp only [List.map_toArray, List.map_cons, List.map_nil]); first | done | rfl | (simp only [List.length_drop, List.length_take]; rfl)) ?_; (with_reducible refine (laws_heldInt64S.calls kj79 _ _ t139 1 t152 _ ?side1 ?side2 A97.out).mono ?_); (case side1 => repeat (first | exact (Kd.R_reads' HO_12.out).2.2 | (with_reducible refine Kd.C_alloc ?_ _) | (with_reducible refine Kd.C_drewN ?_ _) | (with_reducible refine Kd.C_drew ?_))); (case side2 => exact (Kd.R_reads' HO_12.out).2.1); rintro e w' ⟨rfl, ⟨nd, rfl⟩⟩; refine ⟨_, rfl, ?_⟩))
                                    go_ret
                                    exact ⟨by first | rfl | (simp [errW_none, errW_some] <;> rfl) | (simp [*, errW_none, errW_some] <;> rfl), by repeat (first | (with_reducible first | exact HB.out | apply below_alloc | apply pw_below_drewN | apply below_drew1 | refine below_set ?_ GE101.out | refine below_set ?_ GE116.out) | exact HB.out)⟩
                                  · rw [if_neg c99] at H
                                    have c99b0 : (t152 == t138) = false := beq_eq_false_iff_ne.mpr c99
                                    have c99b1 : (t152 != t138) = true := bne_iff_ne.mpr c99
                                    obtain rfl := Option.some.inj H
                                    go_wp2_with (first | ((with_reducible refine gate_callee (f := 26) rfl ?_); refine goesL_ (some 116) rfl rfl Try.func26 (by kernel_rfl) rfl #[.slice Ao81 t139.length co81, .int .i64 1] rfl (by (try simp only [List.map_toArray, List.map_cons, List.map_nil]); first | done | rfl | (simp only [List.length_drop, List.length_take]; rfl)) ?_; (with_reducible refine (laws_heldInt64S.calls kj79 _ _ t139 1 t152 _ ?side1 ?side2 A97.out).mono ?_); (case side1 => repeat (first | exact (Kd.R_reads' HO_12.out).2.2 | (with_reducible refine Kd.C_alloc ?_ _) | (with_reducible refine Kd.C_drewN ?_ _) | (with_reducible refine Kd.C_drew ?_))); (case side2 => exact (Kd.R_reads' HO_12.out).2.1); rintro e w' ⟨rfl, ⟨nd, rfl⟩⟩; refine ⟨_, rfl, ?_⟩))
                                    go_ret
                                    exact ⟨by first | rfl | (simp [errW_none, errW_some] <;> rfl) | (simp [*, errW_none, errW_some] <;> rfl), by repeat (first | (with_reducible first | exact HB.out | apply below_alloc | apply pw_below_drewN | apply below_drew1 | refine below_set ?_ GE101.out | refine below_set ?_ GE116.out) | exact HB.out)⟩
                        · rw [if_neg c76] at H
                          have c76b0 : (t140 == t138) = false := beq_eq_false_iff_ne.mpr c76
                          have c76b1 : (t140 != t138) = true := bne_iff_ne.mpr c76
                          obtain rfl := Option.some.inj H
                          obtain ⟨Ao100, co100, eo100⟩ := Kd.R_slice HO_12.out
                          subst eo100
                          go_wp2_with (first | ((with_reducible refine gate_callee (f := 25) rfl ?_); refine goesL_ (some 87) rfl rfl Try.func25 (by kernel_rfl) rfl #[.slice Ao100 t120.length co100, .int .i64 1] rfl (by (try simp only [List.map_toArray, List.map_cons, List.map_nil]); first | done | rfl | (simp only [List.length_drop, List.length_take]; rfl)) ?_; (with_reducible refine (laws_markInt64S.calls kj51 (fun k_ => some k_ = (.slice Ao100 t120.length co100 : Value).ownBlock) (.slice Ao100 t120.length co100) t120 1 t138 t139 w _ ?side1 ?side2 A71.out).mono ?_); (case side1 => repeat (first | (with_reducible first | exact HB.out | apply below_alloc | apply pw_below_drewN | apply below_drew1 | refine below_set ?_ GE101.out | refine below_set ?_ GE116.out) | exact HB.out)); (case side2 => exact Kd.R_tight rfl HO_12.out); rintro e w101 ⟨rfl, hy0, hb, hkp⟩; refine ⟨_, rfl, ?_⟩; have n0_ := Aside0.mk (Kd.R_mono (ok' := fun k_ => some k_ ≠ (.slice Ao100 t120.length co100 : Value).ownBlock ∧ some k_ ≠ (.slice Ao30 t134.length co30 : Value).ownBlock) (Kd.R_keptB (HO_8.out) hkp (fun k_ hk_ hs_ => (hk_.1) hs_)) (fun k_ hk_ => ⟨hk_.1.1, hk_.1.2⟩)); have n1_ := Aside0.mk (Kd.R_reok rfl hy0 (fun k_ e_ => HO_12.out.1 k_ e_)); have n2_ := Aside0.mk (Kd.R_mono (ok' := fun k_ => some k_ ≠ (v110 : Value).ownBlock ∧ some k_ ≠ (.slice Ao100 t120.length co100 : Value).ownBlock) (Kd.R_keptB (HO_117000.out) hkp (fun k_ hk_ hs_ => (hk_.2) hs_)) (fun k_ hk_ => ⟨hk_.1.1, hk_.1.2⟩)); have n3_ := Aside0.mk (blk_kept (by (with_reducible repeat (first | refine blk_drewN ?_ _ | refine blk_drew ?_ | refine blk_alloc ?_ _)); exact BK101.out) hkp (fun hs_ => (fun e_ => (Kd.R_ne HO_12.out BK101.out (by decide)) e_) hs_)); have n4_ := Aside0.mk (blk_kept (by (with_reducible repeat (first | refine blk_drewN ?_ _ | refine blk_drew ?_ | refine blk_alloc ?_ _)); exact BK116.out) hkp (fun hs_ => (fun e_ => (Kd.R_ne HO_12.out BK116.out (by decide)) e_) hs_)); have n5_ := Aside0.mk (hb); clear HO_8; clear HO_12; clear HO_117000; clear BK101; clear BK116; clear HB; have HO_8 := n0_; have HO_12 := n1_; have HO_117000 := n2_; have BK101 := n3_; have BK116 := n4_; have HB := n5_; clear n0_ n1_ n2_ n3_ n4_ n5_; (try clear hb); (try clear hkp); (try clear hy0)) | ((with_reducible refine gate_callee (f := 26) rfl ?_); refine goesL_ (some 90) rfl rfl Try.func26 (by kernel_rfl) rfl #[.slice Ao100 t139.length co100, .int .i64 1] rfl (by (try simp only [List.map_toArray, List.map_cons, List.map_nil]); first | done | (rw [show t139.length = t120.length from (Kd.R_reads' HO_12.out).1.symm] <;> rfl) | rfl | (simp only [List.length_drop, List.length_take]; rfl)) ?_; (with_reducible refine (laws_heldInt64S.calls kj51 _ _ t139 1 t140 _ ?side1 ?side2 A72.out).mono ?_); (case side1 => repeat (first | exact (Kd.R_reads' HO_12.out).2.2 | (with_reducible refine Kd.C_alloc ?_ _) | (with_reducible refine Kd.C_drewN ?_ _) | (with_reducible refine Kd.C_drew ?_))); (case side2 => rw [show t139.length = t120.length from (Kd.R_reads' HO_12.out).1.symm]; exact (Kd.R_reads' HO_12.out).2.1); rintro e w' ⟨rfl, ⟨nd, rfl⟩⟩; refine ⟨_, rfl, ?_⟩))
                          go_ret
                          exact ⟨by first | rfl | (simp [errW_none, errW_some] <;> rfl) | (simp [*, errW_none, errW_some] <;> rfl), by repeat (first | (with_reducible first | exact HB.out | apply below_alloc | apply pw_below_drewN | apply below_drew1 | refine below_set ?_ GE101.out | refine below_set ?_ GE116.out) | exact HB.out)⟩
              · replace c49 := Bool.eq_false_iff.mpr c49
                subst c49
                have H1 : (some false) = some r := by rw [if_neg (show ¬ (false = true) by decide)] at H; exact H
                clear H
                have H := H1
                clear H1
                obtain rfl := Option.some.inj H
                try go_wp2
                have n0_ := Aside0.mk (Kd.R_drew HO_8.out)
                have n1_ := Aside0.mk (Kd.R_drew HO_11.out)
                have n2_ := Aside0.mk (Kd.R_drew HO_12.out)
                have n3_ := Aside0.mk (Kd.R_drew HO_117000.out)
                have n4_ := Aside0.mk (blk_drew BK101.out)
                have n5_ := Aside0.mk (blk_drew BK116.out)
                have n6_ := Aside0.mk (below_drew1 HB.out)
                clear HO_8
                clear HO_11
                clear HO_12
                clear HO_117000
                clear BK101
                clear BK116
                clear HB
                have HO_8 := n0_
                have HO_11 := n1_
                have HO_12 := n2_
                have HO_117000 := n3_
                have BK101 := n4_
                have BK116 := n5_
                have HB := n6_
                clear n0_ n1_ n2_ n3_ n4_ n5_ n6_
                refine start_ (n := 5) (S := fun w' => w'.cell? ⟨gb116, 0, none⟩ = some (.slice Ao30 t113.length co30) ∧ w'.cell? ⟨gb101, 0, none⟩ = some (.slice A0_0 l0_0.length c0_0)) (ds := []) #[false, false, false, false, false] (by kernel_rfl) rfl rfl ⟨(blk_cell BK116.out 0).trans rfl, (blk_cell BK101.out 0).trans rfl⟩ (fun hHeld => ?_)
                generalize wc.drew = w102 at HO_8 HO_11 HO_12 HO_117000 BK101 BK116 HB hHeld ⊢
                refine take_ (i := 0) (N := some 56) (v := ?_) (a' := ?_) #[true, false, false, false, false] rfl rfl (by kernel_rfl) (fun _ _ _ h => h) (Or.inl ⟨by rfl, ?_⟩) hHeld ?_ ?_
                rotate_left
                · rintro w' ⟨s0, s1⟩
                  go_simp
                  with_reducible rfl
                rotate_left
                · simp only [Act.put, List.setIfInBounds_toArray, List.set_cons_zero, List.set_cons_succ, i64_w, i32_w]
                  rfl
                refine take_ (i := 1) (N := some 57) (v := ?_) (a' := ?_) #[true, true, false, false, false] rfl rfl (by kernel_rfl) (fun _ _ _ h => h) (Or.inl ⟨by rfl, ?_⟩) hHeld ?_ ?_
                rotate_left
                · rintro w' ⟨s0, s1⟩
                  go_simp
                  with_reducible rfl
                rotate_left
                · simp only [Act.put, List.setIfInBounds_toArray, List.set_cons_zero, List.set_cons_succ, i64_w, i32_w]
                  rfl
                refine one_ (i := 2) (N := some 58) #[true, true, true, false, false] rfl rfl (by kernel_rfl) (by decide) (fun K hK => ?_)
                refine goes_ Try.func17 (by kernel_rfl) rfl #[.agg #[.slice A0_0 l0_0.length c0_0]] (by rfl) rfl rfl (by (try simp only [List.map_toArray, List.map_cons, List.map_nil]); first | done | rfl | (simp only [List.length_drop, List.length_take]; rfl)) ?_
                with_reducible refine (laws_toSpace.calls kj16 _ _ l0_0 t125 _ ?side1 ?side2 A44.out).mono ?_
                (case side1 => repeat (first | exact (Kd.C_below HR0_0.out HB.out) | (with_reducible refine Kd.C_alloc ?_ _) | (with_reducible refine Kd.C_drewN ?_ _) | (with_reducible refine Kd.C_drew ?_)))
                (case side2 => exact HC0_0.out)
                rintro e w103 ⟨v126, rfl, ho0, hb⟩
                refine ⟨_, rfl, ?_⟩
                have n0_ := Aside0.mk (Kd.R_elder' (by (with_reducible repeat (first | apply Kd.R_alloc | apply Kd.R_drewN | apply Kd.R_drew)); exact HO_8.out) (Kd.R_base ho0) hb)
                have n1_ := Aside0.mk (Kd.R_elder' (by (with_reducible repeat (first | apply Kd.R_alloc | apply Kd.R_drewN | apply Kd.R_drew)); exact HO_11.out) (Kd.R_base ho0) hb)
                have n2_ := Aside0.mk (Kd.R_elder' (by (with_reducible repeat (first | apply Kd.R_alloc | apply Kd.R_drewN | apply Kd.R_drew)); exact HO_12.out) (Kd.R_base ho0) hb)
                have n3_ := Aside0.mk (Kd.R_elder' (by (with_reducible repeat (first | apply Kd.R_alloc | apply Kd.R_drewN | apply Kd.R_drew)); exact HO_117000.out) (Kd.R_base ho0) hb)
                have n4_ := Aside0.mk (Kd.R_lower (Kd.R_new' (Kd.R_new' (Kd.R_new' (Kd.R_new' ho0 (Kd.R_lt (by (with_reducible repeat (first | apply Kd.R_alloc | apply Kd.R_drewN | apply Kd.R_drew)); exact HO_8.out))) (Kd.R_lt (by (with_reducible repeat (first | apply Kd.R_alloc | apply Kd.R_drewN | apply Kd.R_drew)); exact HO_11.out))) (Kd.R_lt (by (with_reducible repeat (first | apply Kd.R_alloc | apply Kd.R_drewN | apply Kd.R_drew)); exact HO_12.out))) (Kd.R_lt (by (with_reducible repeat (first | apply Kd.R_alloc | apply Kd.R_drewN | apply Kd.R_drew)); exact HO_117000.out))) (below_size (by repeat (first | (with_reducible first | exact HB.out | apply below_alloc | apply pw_below_drewN | apply below_drew1 | refine below_set ?_ GE101.out | refine below_set ?_ GE116.out) | exact HB.out))))
                have n5_ := Aside0.mk (blk_below (g := gb101) (o := .cells #[.slice A0_0 l0_0.length c0_0] 24 (0, 0)) (by (with_reducible repeat (first | refine blk_drewN ?_ _ | refine blk_drew ?_ | refine blk_alloc ?_ _)); exact BK101.out) hb)
                have n6_ := Aside0.mk (blk_below (g := gb116) (o := .cells #[.slice Ao30 t113.length co30] 28 (0, 0)) (by (with_reducible repeat (first | refine blk_drewN ?_ _ | refine blk_drew ?_ | refine blk_alloc ?_ _)); exact BK116.out) hb)
                have n7_ := Aside0.mk (below_step (by repeat (first | (with_reducible first | exact HB.out | apply below_alloc | apply pw_below_drewN | apply below_drew1 | refine below_set ?_ GE101.out | refine below_set ?_ GE116.out) | exact HB.out)) hb)
                clear HO_8
                clear HO_11
                clear HO_12
                clear HO_117000
                clear BK101
                clear BK116
                clear HB
                have HO_8 := n0_
                have HO_11 := n1_
                have HO_12 := n2_
                have HO_117000 := n3_
                have HO127 := n4_
                have BK101 := n5_
                have BK116 := n6_
                have HB := n7_
                clear n0_ n1_ n2_ n3_ n4_ n5_ n6_ n7_
                (try clear hb)
                (try clear hb2)
                (try clear hk)
                (try clear hi)
                (try clear ho0)
                obtain ⟨Ao104, co104, eo104⟩ := Kd.R_slice HO127.out
                (first | subst eo104 | (injection eo104 with f1_ f2_ f3_; have f4_ := f1_.symm; have f5_ := f3_.symm; clear f1_ f2_ f3_; subst f4_; subst f5_))
                refine hK.out _ _ ⟨(blk_cell BK116.out 0).trans rfl, (blk_cell BK101.out 0).trans rfl⟩ (fun hHeld => ?_)
                clear hK K
                refine norm_ (a' := ?_) ?_ ?_
                rotate_left
                · show Act.put _ (some 58) _ = _
                  simp only [Act.put, List.setIfInBounds_toArray, List.set_cons_zero, List.set_cons_succ, i64_w, i32_w]
                  rfl
                refine one_ (i := 3) (N := some 59) #[true, true, true, true, false] rfl rfl (by kernel_rfl) (by decide) (fun K hK => ?_)
                refine goes_ Try.func20 (by kernel_rfl) rfl #[.agg #[.slice Ao30 t113.length co30], .agg #[.slice Ao104 t125.length co104]] (by rfl) rfl rfl (by (try simp only [List.map_toArray, List.map_cons, List.map_nil]); first | done | rfl | (simp only [List.length_drop, List.length_take]; rfl)) ?_
                with_reducible refine (laws_eqSpace.calls kj16 _ _ t113 _ _ t125 true _ ?side1 ?side2 ?side3 ?side4 A45.out).mono ?_
                (case side1 => repeat (first | exact (Kd.R_reads' HO_117000.out).2.2 | (with_reducible refine Kd.C_alloc ?_ _) | (with_reducible refine Kd.C_drewN ?_ _) | (with_reducible refine Kd.C_drew ?_)))
                (case side2 => exact (Kd.R_reads' HO_117000.out).2.1)
                (case side3 => repeat (first | exact (Kd.R_reads' HO127.out).2.2 | (with_reducible refine Kd.C_alloc ?_ _) | (with_reducible refine Kd.C_drewN ?_ _) | (with_reducible refine Kd.C_drew ?_)))
                (case side4 => exact (Kd.R_reads' HO127.out).2.1)
                rintro e w105 ⟨rfl, hb⟩
                refine ⟨_, rfl, ?_⟩
                have n0_ := Aside0.mk (Kd.R_below (by (with_reducible repeat (first | apply Kd.R_alloc | apply Kd.R_drewN | apply Kd.R_drew)); exact HO_8.out) hb)
                have n1_ := Aside0.mk (Kd.R_below (by (with_reducible repeat (first | apply Kd.R_alloc | apply Kd.R_drewN | apply Kd.R_drew)); exact HO_11.out) hb)
                have n2_ := Aside0.mk (Kd.R_below (by (with_reducible repeat (first | apply Kd.R_alloc | apply Kd.R_drewN | apply Kd.R_drew)); exact HO_12.out) hb)
                have n3_ := Aside0.mk (Kd.R_below (by (with_reducible repeat (first | apply Kd.R_alloc | apply Kd.R_drewN | apply Kd.R_drew)); exact HO_117000.out) hb)
                have n4_ := Aside0.mk (Kd.R_below (by (with_reducible repeat (first | apply Kd.R_alloc | apply Kd.R_drewN | apply Kd.R_drew)); exact HO127.out) hb)
                have n5_ := Aside0.mk (blk_below (g := gb101) (o := .cells #[.slice A0_0 l0_0.length c0_0] 24 (0, 0)) (by (with_reducible repeat (first | refine blk_drewN ?_ _ | refine blk_drew ?_ | refine blk_alloc ?_ _)); exact BK101.out) hb)
                have n6_ := Aside0.mk (blk_below (g := gb116) (o := .cells #[.slice Ao30 t113.length co30] 28 (0, 0)) (by (with_reducible repeat (first | refine blk_drewN ?_ _ | refine blk_drew ?_ | refine blk_alloc ?_ _)); exact BK116.out) hb)
                have n7_ := Aside0.mk (below_step (by repeat (first | (with_reducible first | exact HB.out | apply below_alloc | apply pw_below_drewN | apply below_drew1 | refine below_set ?_ GE101.out | refine below_set ?_ GE116.out) | exact HB.out)) hb)
                clear HO_8
                clear HO_11
                clear HO_12
                clear HO_117000
                clear HO127
                clear BK101
                clear BK116
                clear HB
                have HO_8 := n0_
                have HO_11 := n1_
                have HO_12 := n2_
                have HO_117000 := n3_
                have HO127 := n4_
                have BK101 := n5_
                have BK116 := n6_
                have HB := n7_
                clear n0_ n1_ n2_ n3_ n4_ n5_ n6_ n7_
                (try clear hb)
                (try clear hb2)
                (try clear hk)
                (try clear hi)
                refine hK.out _ _ ⟨(blk_cell BK116.out 0).trans rfl, (blk_cell BK101.out 0).trans rfl⟩ (fun hHeld => ?_)
                clear hK K
                refine norm_ (a' := ?_) ?_ ?_
                rotate_left
                · show Act.put _ (some 59) _ = _
                  simp only [Act.put, List.setIfInBounds_toArray, List.set_cons_zero, List.set_cons_succ, i64_w, i32_w]
                  rfl
                refine pure_ (i := 4) (N := some 60) (v := ?_) (a' := ?_) #[true, true, true, true, true] rfl rfl (by kernel_rfl) (fun _ _ _ h => h) (Or.inl ⟨by rfl, ?_⟩) ?_ ?_
                rotate_left
                · intro w'
                  go_simp
                  with_reducible rfl
                rotate_left
                · simp only [Act.put, List.setIfInBounds_toArray, List.set_cons_zero, List.set_cons_succ, i64_w, i32_w]
                  rfl
                refine done_ (by kernel_rfl) ?_
                try go_wp2_with (first | ((with_reducible refine gate_callee (f := 18) rfl ?_); refine goesL_ (some 63) rfl rfl Try.func18 (by kernel_rfl) rfl #[.slice A1 l1.length c1] rfl (by (try simp only [List.map_toArray, List.map_cons, List.map_nil]); first | done | rfl | (simp only [List.length_drop, List.length_take]; rfl)) ?_; (with_reducible refine (laws_toInt64S.calls kj16 _ _ l1 t129 _ ?side1 ?side2 A47.out).mono ?_); (case side1 => repeat (first | exact (Kd.C_below HR1.out HB.out) | (with_reducible refine Kd.C_alloc ?_ _) | (with_reducible refine Kd.C_drewN ?_ _) | (with_reducible refine Kd.C_drew ?_))); (case side2 => exact HC1.out); rintro e w106 ⟨v130, rfl, ho0, hb⟩; refine ⟨_, rfl, ?_⟩; have n0_ := Aside0.mk (Kd.R_elder' (by (with_reducible repeat (first | apply Kd.R_alloc | apply Kd.R_drewN | apply Kd.R_drew)); exact HO_8.out) (Kd.R_base ho0) hb); have n1_ := Aside0.mk (Kd.R_elder' (by (with_reducible repeat (first | apply Kd.R_alloc | apply Kd.R_drewN | apply Kd.R_drew)); exact HO_11.out) (Kd.R_base ho0) hb); have n2_ := Aside0.mk (Kd.R_elder' (by (with_reducible repeat (first | apply Kd.R_alloc | apply Kd.R_drewN | apply Kd.R_drew)); exact HO_12.out) (Kd.R_base ho0) hb); have n3_ := Aside0.mk (Kd.R_elder' (by (with_reducible repeat (first | apply Kd.R_alloc | apply Kd.R_drewN | apply Kd.R_drew)); exact HO_117000.out) (Kd.R_base ho0) hb); have n4_ := Aside0.mk (Kd.R_elder' (by (with_reducible repeat (first | apply Kd.R_alloc | apply Kd.R_drewN | apply Kd.R_drew)); exact HO127.out) (Kd.R_base ho0) hb); have n5_ := Aside0.mk (Kd.R_lower (Kd.R_new' (Kd.R_new' (Kd.R_new' (Kd.R_new' (Kd.R_new' ho0 (Kd.R_lt (by (with_reducible repeat (first | apply Kd.R_alloc | apply Kd.R_drewN | apply Kd.R_drew)); exact HO_8.out))) (Kd.R_lt (by (with_reducible repeat (first | apply Kd.R_alloc | apply Kd.R_drewN | apply Kd.R_drew)); exact HO_11.out))) (Kd.R_lt (by (with_reducible repeat (first | apply Kd.R_alloc | apply Kd.R_drewN | apply Kd.R_drew)); exact HO_12.out))) (Kd.R_lt (by (with_reducible repeat (first | apply Kd.R_alloc | apply Kd.R_drewN | apply Kd.R_drew)); exact HO_117000.out))) (Kd.R_lt (by (with_reducible repeat (first | apply Kd.R_alloc | apply Kd.R_drewN | apply Kd.R_drew)); exact HO127.out))) (below_size (by repeat (first | (with_reducible first | exact HB.out | apply below_alloc | apply pw_below_drewN | apply below_drew1 | refine below_set ?_ GE101.out | refine below_set ?_ GE116.out) | exact HB.out)))); have n6_ := Aside0.mk (blk_below (g := gb101) (o := .cells #[.slice A0_0 l0_0.length c0_0] 24 (0, 0)) (by (with_reducible repeat (first | refine blk_drewN ?_ _ | refine blk_drew ?_ | refine blk_alloc ?_ _)); exact BK101.out) hb); have n7_ := Aside0.mk (blk_below (g := gb116) (o := .cells #[.slice Ao30 t113.length co30] 28 (0, 0)) (by (with_reducible repeat (first | refine blk_drewN ?_ _ | refine blk_drew ?_ | refine blk_alloc ?_ _)); exact BK116.out) hb); have n8_ := Aside0.mk (below_step (by repeat (first | (with_reducible first | exact HB.out | apply below_alloc | apply pw_below_drewN | apply below_drew1 | refine below_set ?_ GE101.out | refine below_set ?_ GE116.out) | exact HB.out)) hb); clear HO_8; clear HO_11; clear HO_12; clear HO_117000; clear HO127; clear BK101; clear BK116; clear HB; have HO_8 := n0_; have HO_11 := n1_; have HO_12 := n2_; have HO_117000 := n3_; have HO127 := n4_; have HO131 := n5_; have BK101 := n6_; have BK116 := n7_; have HB := n8_; clear n0_ n1_ n2_ n3_ n4_ n5_ n6_ n7_ n8_; (try clear hb); (try clear hb2); (try clear hk); (try clear hi); (try clear ho0); obtain ⟨Ao107, co107, eo107⟩ := Kd.R_slice HO131.out; subst eo107) | ((with_reducible refine gate_callee (f := 21) rfl ?_); refine goesL_ (some 64) rfl rfl Try.func21 (by kernel_rfl) rfl #[.slice Ao35 t117.length co35, .slice Ao107 t129.length co107] rfl (by (try simp only [List.map_toArray, List.map_cons, List.map_nil]); first | done | rfl | (simp only [List.length_drop, List.length_take]; rfl)) ?_; (with_reducible refine (laws_eqInt64S.calls kj16 _ _ t117 _ _ t129 false _ ?side1 ?side2 ?side3 ?side4 A48.out).mono ?_); (case side1 => repeat (first | exact (Kd.R_reads' HO_11.out).2.2 | (with_reducible refine Kd.C_alloc ?_ _) | (with_reducible refine Kd.C_drewN ?_ _) | (with_reducible refine Kd.C_drew ?_))); (case side2 => exact (Kd.R_reads' HO_11.out).2.1); (case side3 => repeat (first | exact (Kd.R_reads' HO131.out).2.2 | (with_reducible refine Kd.C_alloc ?_ _) | (with_reducible refine Kd.C_drewN ?_ _) | (with_reducible refine Kd.C_drew ?_))); (case side4 => exact (Kd.R_reads' HO131.out).2.1); rintro e w' ⟨rfl, ⟨nd, rfl⟩⟩; refine ⟨_, rfl, ?_⟩))
                go_ret
                exact ⟨by first | rfl | (simp [errW_none, errW_some] <;> rfl) | (simp [*, errW_none, errW_some] <;> rfl), by repeat (first | (with_reducible first | exact HB.out | apply below_alloc | apply pw_below_drewN | apply below_drew1 | refine below_set ?_ GE101.out | refine below_set ?_ GE116.out) | exact HB.out)⟩
            · replace c46 := Bool.eq_false_iff.mpr c46
              subst c46
              have H1 : (some false) = some r := by rw [if_neg (show ¬ (false = true) by decide)] at H; exact H
              clear H
              have H := H1
              clear H1
              obtain rfl := Option.some.inj H
              try go_wp2
              have n0_ := Aside0.mk (Kd.R_drew HO_8.out)
              have n1_ := Aside0.mk (Kd.R_drew HO_11.out)
              have n2_ := Aside0.mk (Kd.R_drew HO_12.out)
              have n3_ := Aside0.mk (Kd.R_drew HO_117000.out)
              have n4_ := Aside0.mk (blk_drew BK101.out)
              have n5_ := Aside0.mk (blk_drew BK116.out)
              have n6_ := Aside0.mk (below_drew1 HB.out)
              clear HO_8
              clear HO_11
              clear HO_12
              clear HO_117000
              clear BK101
              clear BK116
              clear HB
              have HO_8 := n0_
              have HO_11 := n1_
              have HO_12 := n2_
              have HO_117000 := n3_
              have BK101 := n4_
              have BK116 := n5_
              have HB := n6_
              clear n0_ n1_ n2_ n3_ n4_ n5_ n6_
              refine start_ (n := 5) (S := fun w' => w'.cell? ⟨gb116, 0, none⟩ = some (.slice Ao30 t113.length co30) ∧ w'.cell? ⟨gb101, 0, none⟩ = some (.slice A0_0 l0_0.length c0_0)) (ds := []) #[false, false, false, false, false] (by kernel_rfl) rfl rfl ⟨(blk_cell BK116.out 0).trans rfl, (blk_cell BK101.out 0).trans rfl⟩ (fun hHeld => ?_)
              generalize wc.drew = w108 at HO_8 HO_11 HO_12 HO_117000 BK101 BK116 HB hHeld ⊢
              refine take_ (i := 0) (N := some 56) (v := ?_) (a' := ?_) #[true, false, false, false, false] rfl rfl (by kernel_rfl) (fun _ _ _ h => h) (Or.inl ⟨by rfl, ?_⟩) hHeld ?_ ?_
              rotate_left
              · rintro w' ⟨s0, s1⟩
                go_simp
                with_reducible rfl
              rotate_left
              · simp only [Act.put, List.setIfInBounds_toArray, List.set_cons_zero, List.set_cons_succ, i64_w, i32_w]
                rfl
              refine take_ (i := 1) (N := some 57) (v := ?_) (a' := ?_) #[true, true, false, false, false] rfl rfl (by kernel_rfl) (fun _ _ _ h => h) (Or.inl ⟨by rfl, ?_⟩) hHeld ?_ ?_
              rotate_left
              · rintro w' ⟨s0, s1⟩
                go_simp
                with_reducible rfl
              rotate_left
              · simp only [Act.put, List.setIfInBounds_toArray, List.set_cons_zero, List.set_cons_succ, i64_w, i32_w]
                rfl
              refine one_ (i := 2) (N := some 58) #[true, true, true, false, false] rfl rfl (by kernel_rfl) (by decide) (fun K hK => ?_)
              refine goes_ Try.func17 (by kernel_rfl) rfl #[.agg #[.slice A0_0 l0_0.length c0_0]] (by rfl) rfl rfl (by (try simp only [List.map_toArray, List.map_cons, List.map_nil]); first | done | rfl | (simp only [List.length_drop, List.length_take]; rfl)) ?_
              with_reducible refine (laws_toSpace.calls kj16 _ _ l0_0 t125 _ ?side1 ?side2 A44.out).mono ?_
              (case side1 => repeat (first | exact (Kd.C_below HR0_0.out HB.out) | (with_reducible refine Kd.C_alloc ?_ _) | (with_reducible refine Kd.C_drewN ?_ _) | (with_reducible refine Kd.C_drew ?_)))
              (case side2 => exact HC0_0.out)
              rintro e w109 ⟨v126, rfl, ho0, hb⟩
              refine ⟨_, rfl, ?_⟩
              have n0_ := Aside0.mk (Kd.R_elder' (by (with_reducible repeat (first | apply Kd.R_alloc | apply Kd.R_drewN | apply Kd.R_drew)); exact HO_8.out) (Kd.R_base ho0) hb)
              have n1_ := Aside0.mk (Kd.R_elder' (by (with_reducible repeat (first | apply Kd.R_alloc | apply Kd.R_drewN | apply Kd.R_drew)); exact HO_11.out) (Kd.R_base ho0) hb)
              have n2_ := Aside0.mk (Kd.R_elder' (by (with_reducible repeat (first | apply Kd.R_alloc | apply Kd.R_drewN | apply Kd.R_drew)); exact HO_12.out) (Kd.R_base ho0) hb)
              have n3_ := Aside0.mk (Kd.R_elder' (by (with_reducible repeat (first | apply Kd.R_alloc | apply Kd.R_drewN | apply Kd.R_drew)); exact HO_117000.out) (Kd.R_base ho0) hb)
              have n4_ := Aside0.mk (Kd.R_lower (Kd.R_new' (Kd.R_new' (Kd.R_new' (Kd.R_new' ho0 (Kd.R_lt (by (with_reducible repeat (first | apply Kd.R_alloc | apply Kd.R_drewN | apply Kd.R_drew)); exact HO_8.out))) (Kd.R_lt (by (with_reducible repeat (first | apply Kd.R_alloc | apply Kd.R_drewN | apply Kd.R_drew)); exact HO_11.out))) (Kd.R_lt (by (with_reducible repeat (first | apply Kd.R_alloc | apply Kd.R_drewN | apply Kd.R_drew)); exact HO_12.out))) (Kd.R_lt (by (with_reducible repeat (first | apply Kd.R_alloc | apply Kd.R_drewN | apply Kd.R_drew)); exact HO_117000.out))) (below_size (by repeat (first | (with_reducible first | exact HB.out | apply below_alloc | apply pw_below_drewN | apply below_drew1 | refine below_set ?_ GE101.out | refine below_set ?_ GE116.out) | exact HB.out))))
              have n5_ := Aside0.mk (blk_below (g := gb101) (o := .cells #[.slice A0_0 l0_0.length c0_0] 24 (0, 0)) (by (with_reducible repeat (first | refine blk_drewN ?_ _ | refine blk_drew ?_ | refine blk_alloc ?_ _)); exact BK101.out) hb)
              have n6_ := Aside0.mk (blk_below (g := gb116) (o := .cells #[.slice Ao30 t113.length co30] 28 (0, 0)) (by (with_reducible repeat (first | refine blk_drewN ?_ _ | refine blk_drew ?_ | refine blk_alloc ?_ _)); exact BK116.out) hb)
              have n7_ := Aside0.mk (below_step (by repeat (first | (with_reducible first | exact HB.out | apply below_alloc | apply pw_below_drewN | apply below_drew1 | refine below_set ?_ GE101.out | refine below_set ?_ GE116.out) | exact HB.out)) hb)
              clear HO_8
              clear HO_11
              clear HO_12
              clear HO_117000
              clear BK101
              clear BK116
              clear HB
              have HO_8 := n0_
              have HO_11 := n1_
              have HO_12 := n2_
              have HO_117000 := n3_
              have HO127 := n4_
              have BK101 := n5_
              have BK116 := n6_
              have HB := n7_
              clear n0_ n1_ n2_ n3_ n4_ n5_ n6_ n7_
              (try clear hb)
              (try clear hb2)
              (try clear hk)
              (try clear hi)
              (try clear ho0)
              obtain ⟨Ao110, co110, eo110⟩ := Kd.R_slice HO127.out
              (first | subst eo110 | (injection eo110 with f1_ f2_ f3_; have f4_ := f1_.symm; have f5_ := f3_.symm; clear f1_ f2_ f3_; subst f4_; subst f5_))
              refine hK.out _ _ ⟨(blk_cell BK116.out 0).trans rfl, (blk_cell BK101.out 0).trans rfl⟩ (fun hHeld => ?_)
              clear hK K
              refine norm_ (a' := ?_) ?_ ?_
              rotate_left
              · show Act.put _ (some 58) _ = _
                simp only [Act.put, List.setIfInBounds_toArray, List.set_cons_zero, List.set_cons_succ, i64_w, i32_w]
                rfl
              refine one_ (i := 3) (N := some 59) #[true, true, true, true, false] rfl rfl (by kernel_rfl) (by decide) (fun K hK => ?_)
              refine goes_ Try.func20 (by kernel_rfl) rfl #[.agg #[.slice Ao30 t113.length co30], .agg #[.slice Ao110 t125.length co110]] (by rfl) rfl rfl (by (try simp only [List.map_toArray, List.map_cons, List.map_nil]); first | done | rfl | (simp only [List.length_drop, List.length_take]; rfl)) ?_
              with_reducible refine (laws_eqSpace.calls kj16 _ _ t113 _ _ t125 false _ ?side1 ?side2 ?side3 ?side4 A45.out).mono ?_
              (case side1 => repeat (first | exact (Kd.R_reads' HO_117000.out).2.2 | (with_reducible refine Kd.C_alloc ?_ _) | (with_reducible refine Kd.C_drewN ?_ _) | (with_reducible refine Kd.C_drew ?_)))
              (case side2 => exact (Kd.R_reads' HO_117000.out).2.1)
              (case side3 => repeat (first | exact (Kd.R_reads' HO127.out).2.2 | (with_reducible refine Kd.C_alloc ?_ _) | (with_reducible refine Kd.C_drewN ?_ _) | (with_reducible refine Kd.C_drew ?_)))
              (case side4 => exact (Kd.R_reads' HO127.out).2.1)
              rintro e w111 ⟨rfl, hb⟩
              refine ⟨_, rfl, ?_⟩
              have n0_ := Aside0.mk (Kd.R_below (by (with_reducible repeat (first | apply Kd.R_alloc | apply Kd.R_drewN | apply Kd.R_drew)); exact HO_8.out) hb)
              have n1_ := Aside0.mk (Kd.R_below (by (with_reducible repeat (first | apply Kd.R_alloc | apply Kd.R_drewN | apply Kd.R_drew)); exact HO_11.out) hb)
              have n2_ := Aside0.mk (Kd.R_below (by (with_reducible repeat (first | apply Kd.R_alloc | apply Kd.R_drewN | apply Kd.R_drew)); exact HO_12.out) hb)
              have n3_ := Aside0.mk (Kd.R_below (by (with_reducible repeat (first | apply Kd.R_alloc | apply Kd.R_drewN | apply Kd.R_drew)); exact HO_117000.out) hb)
              have n4_ := Aside0.mk (Kd.R_below (by (with_reducible repeat (first | apply Kd.R_alloc | apply Kd.R_drewN | apply Kd.R_drew)); exact HO127.out) hb)
              have n5_ := Aside0.mk (blk_below (g := gb101) (o := .cells #[.slice A0_0 l0_0.length c0_0] 24 (0, 0)) (by (with_reducible repeat (first | refine blk_drewN ?_ _ | refine blk_drew ?_ | refine blk_alloc ?_ _)); exact BK101.out) hb)
              have n6_ := Aside0.mk (blk_below (g := gb116) (o := .cells #[.slice Ao30 t113.length co30] 28 (0, 0)) (by (with_reducible repeat (first | refine blk_drewN ?_ _ | refine blk_drew ?_ | refine blk_alloc ?_ _)); exact BK116.out) hb)
              have n7_ := Aside0.mk (below_step (by repeat (first | (with_reducible first | exact HB.out | apply below_alloc | apply pw_below_drewN | apply below_drew1 | refine below_set ?_ GE101.out | refine below_set ?_ GE116.out) | exact HB.out)) hb)
              clear HO_8
              clear HO_11
              clear HO_12
              clear HO_117000
              clear HO127
              clear BK101
              clear BK116
              clear HB
              have HO_8 := n0_
              have HO_11 := n1_
              have HO_12 := n2_
              have HO_117000 := n3_
              have HO127 := n4_
              have BK101 := n5_
              have BK116 := n6_
              have HB := n7_
              clear n0_ n1_ n2_ n3_ n4_ n5_ n6_ n7_
              (try clear hb)
              (try clear hb2)
              (try clear hk)
              (try clear hi)
              refine hK.out _ _ ⟨(blk_cell BK116.out 0).trans rfl, (blk_cell BK101.out 0).trans rfl⟩ (fun hHeld => ?_)
              clear hK K
              refine norm_ (a' := ?_) ?_ ?_
              rotate_left
              · show Act.put _ (some 59) _ = _
                simp only [Act.put, List.setIfInBounds_toArray, List.set_cons_zero, List.set_cons_succ, i64_w, i32_w]
                rfl
              refine pure_ (i := 4) (N := some 60) (v := ?_) (a' := ?_) #[true, true, true, true, true] rfl rfl (by kernel_rfl) (fun _ _ _ h => h) (Or.inl ⟨by rfl, ?_⟩) ?_ ?_
              rotate_left
              · intro w'
                go_simp
                with_reducible rfl
              rotate_left
              · simp only [Act.put, List.setIfInBounds_toArray, List.set_cons_zero, List.set_cons_succ, i64_w, i32_w]
                rfl
              refine done_ (by kernel_rfl) ?_
              try go_wp2
              go_ret
              exact ⟨by first | rfl | (simp [errW_none, errW_some] <;> rfl) | (simp [*, errW_none, errW_some] <;> rfl), by repeat (first | (with_reducible first | exact HB.out | apply below_alloc | apply pw_below_drewN | apply below_drew1 | refine below_set ?_ GE101.out | refine below_set ?_ GE116.out) | exact HB.out)⟩
open Go.Proofs.Ytionaakahhgdjaa.M
/- Q2 -/
theorem rd_at (l : List Int) (i : Int) : rd l i = at' l i := rfl
theorem mul_steps {x q d4 : Int} (h0 : 1 ≤ x) (h4 : 1 ≤ d4) (hq : 2 ≤ q ∧ q ≤ 4) (h1 : x * 4 * d4 ≤ 65536) : 1 ≤ x * q ∧ x * q ≤ 65536 ∧ x * q * d4 ≤ 65536 := by
  have hx4 : x * q ≤ x * 4 := Int.mul_le_mul_of_nonneg_left (by omega) (by omega)
  have hx1 : x * 1 ≤ x * q := Int.mul_le_mul_of_nonneg_left (by omega) (by omega)
  have hb : x * q * d4 ≤ x * 4 * d4 := Int.mul_le_mul_of_nonneg_right hx4 (by omega)
  have hb2 : x * q * 1 ≤ x * q * d4 := Int.mul_le_mul_of_nonneg_left h4 (by omega)
  omega
theorem sz_getD {l : List Int} (hz : Sz l) {i : Nat} (h : i < l.length) : 2 ≤ l.getD i 0 ∧ l.getD i 0 ≤ 4 := hz _ (by rw [List.getD_eq_getElem?_getD, List.getElem?_eq_getElem h]; exact List.getElem_mem _)
theorem l01N_l0 (l : List Int) (hl : l.length ≤ 8) (hz : Sz l) : ∀ (d i : Nat) (x : Int), i + d = l.length → 1 ≤ x → x * 4 ^ d ≤ 65536 → Ev (fun k => spec_l01N.l0 k x (i : Int) l) (x * pr (l.drop i)) := by
  intro d
  induction d with
  | zero =>
    intro i x hi h0 h1
    refine Ev.step (fun k => by simp only [spec_l01N.l0]; rw [if_neg (by omega)]) ?_
    rw [List.drop_of_length_le (by omega), pr_nil, Int.mul_one]
    exact Ev.now x
  | succ d ih =>
    intro i x hi h0 h1
    have hq := sz_getD hz (show i < l.length by omega)
    rw [Int.pow_succ, Int.mul_comm (4 ^ d) 4, ← Int.mul_assoc] at h1
    obtain ⟨a, b, c⟩ := mul_steps h0 (pow4 d) hq h1
    refine Ev.step (fun k => by simp only [spec_l01N.l0]; rw [if_pos (by omega), if_pos (by omega), rd_nat, wrap_id (by omega) (by omega), wrap_id (by omega) (by omega), show (i : Int) + 1 = ((i + 1 : Nat) : Int) by omega]) ?_
    rw [drop_get l i (by omega), pr_cons, ← Int.mul_assoc]
    exact ih (i + 1) _ (by omega) a c
theorem l01N_ev (l : List Int) (hl : l.length ≤ 8) (hz : Sz l) : Ev (fun k => spec_l01N.f k l) (pr l) := by
  have h := l01N_l0 l hl hz l.length 0 1 (by omega) (by omega) (pow4_8 _ hl)
  rw [List.drop_zero, Int.one_mul] at h
  exact h
theorem l01In_val (a b c : Int) : spec_l01In.f a b c = some (decide (b ≤ a ∧ a ≤ c)) := by
  unfold spec_l01In.f
  by_cases h : a ≥ b
  · rw [if_pos h]
    exact congrArg some (decide_eq_decide.2 ⟨fun x => ⟨h, x⟩, fun x => x.2⟩)
  · rw [if_neg h]
    exact congrArg some (Eq.symm (decide_eq_false (fun x => h x.1)))
theorem l01Is_l0 (l : List Int) (hl : l.length ≤ 8) : ∀ (d i : Nat), i + d = l.length → (∀ q ∈ l.take i, 2 ≤ q ∧ q ≤ 4) → Ev (fun k => spec_l01Is.l0 k (i : Int) l) (decide ((∀ q ∈ l.drop i, 2 ≤ q ∧ q ≤ 4) ∧ pr l ≤ 1024)) := by
  intro d
  induction d with
  | zero =>
    intro i hi hs
    refine Ev.step (fun k => by simp only [spec_l01Is.l0]; rw [if_neg (by omega)]) ?_
    have hz : Sz l := by rw [List.take_of_length_le (by omega)] at hs; exact hs
    refine Ev.bind (l01N_ev l hl hz) ?_
    rw [List.drop_of_length_le (by omega), show decide ((∀ q ∈ ([] : List Int), 2 ≤ q ∧ q ≤ 4) ∧ pr l ≤ 1024) = decide (pr l ≤ 1024) from decide_eq_decide.2 ⟨fun h => h.2, fun h => ⟨fun q hq => absurd hq List.not_mem_nil, h⟩⟩]
    exact Ev.now _
  | succ d ih =>
    intro i hi hs
    have hdrop := drop_get l i (show i < l.length by omega)
    by_cases c : 2 ≤ l.getD i 0 ∧ l.getD i 0 ≤ 4
    · refine Ev.step (fun k => by simp only [spec_l01Is.l0]; rw [if_pos (by omega), if_pos (by omega), rd_nat, l01In_val, decide_eq_true c, Option.bind_some, if_pos rfl, wrap_id (by omega) (by omega), show (i : Int) + 1 = ((i + 1 : Nat) : Int) by omega]) ?_
      have h := ih (i + 1) (by omega) (fun q hq => by
        rw [List.take_succ_eq_append_getElem (show i < l.length by omega)] at hq
        rcases List.mem_append.1 hq with hq | hq
        · exact hs q hq
        · rw [List.mem_singleton.1 hq]
          rw [List.getD_eq_getElem?_getD, List.getElem?_eq_getElem (show i < l.length by omega)] at c
          exact c)
      have e : ((∀ q ∈ l.drop (i + 1), 2 ≤ q ∧ q ≤ 4) ∧ pr l ≤ 1024) ↔ ((∀ q ∈ l.drop i, 2 ≤ q ∧ q ≤ 4) ∧ pr l ≤ 1024) := by
        rw [hdrop]
        refine ⟨fun h => ⟨fun q hq => ?_, h.2⟩, fun h => ⟨fun q hq => h.1 q (List.mem_cons_of_mem _ hq), h.2⟩⟩
        rcases List.mem_cons.1 hq with rfl | hq
        · exact c
        · exact h.1 q hq
      rw [← decide_eq_decide.2 e]
      exact h
    · refine Ev.step (fun k => by simp only [spec_l01Is.l0]; rw [if_pos (by omega), if_pos (by omega), rd_nat, l01In_val, decide_eq_false c, Option.bind_some, if_neg (by decide)]) ?_
      rw [decide_eq_false (fun h => c (h.1 _ (by rw [hdrop]; exact List.mem_cons_self)))]
      exact Ev.now _
theorem l01Is_ev (l : List Int) : Ev (fun k => spec_l01Is.f k l) (isSp l) := by
  unfold spec_l01Is.f isSp
  rw [l01In_val]
  by_cases c : (1 : Int) ≤ l.length ∧ (l.length : Int) ≤ 8
  · refine Ev.congr (fun k => by rw [decide_eq_true c, Option.bind_some, if_pos rfl]) ?_
    have h := l01Is_l0 l (by omega) l.length 0 (by omega) (fun q hq => absurd hq List.not_mem_nil)
    rw [List.drop_zero] at h
    rw [show decide (1 ≤ l.length ∧ l.length ≤ 8 ∧ (∀ q ∈ l, 2 ≤ q ∧ q ≤ 4) ∧ pr l ≤ 1024) = decide ((∀ q ∈ l, 2 ≤ q ∧ q ≤ 4) ∧ pr l ≤ 1024) from decide_eq_decide.2 ⟨fun h => h.2.2, fun h => ⟨by omega, by omega, h⟩⟩]
    exact h
  · refine Ev.congr (fun k => by rw [decide_eq_false c, Option.bind_some, if_neg (by decide)]) ?_
    rw [decide_eq_false (fun h => c ⟨by omega, by omega⟩)]
    exact Ev.now _
theorem l10Code_ev (l : List Int) (t : Int) : Ev (fun k => spec_l10Code.f k l t) (if isSp l = true then (if 1 ≤ t ∧ t ≤ 3 ∧ t ≤ l.length then 0 else 2) else 1) := by
  unfold spec_l10Code.f
  refine Ev.bind (l01Is_ev l) ?_
  by_cases c : isSp l = true
  · simp only [if_pos c]
    rw [l01In_val]
    by_cases c2 : 1 ≤ t ∧ t ≤ 3 ∧ t ≤ l.length
    · rw [if_pos c2, decide_eq_true (by unfold mn; split <;> omega), Option.bind_some, if_pos rfl]
      exact Ev.now _
    · rw [if_neg c2, decide_eq_false (by unfold mn; split <;> omega), Option.bind_some, if_neg (by decide)]
      exact Ev.now _
  · simp only [if_neg c]
    exact Ev.now _
theorem l10Rows_l0 (l rows : List Int) (hl : l.length ≤ 8) (hz : Sz l) (hp : pr l ≤ 1024) (hr : rows.length ≤ 140737488351232) (c : Int) : ∀ (d i : Nat), i + d = rows.length →
    Ev (fun k => spec_l10Rows.l0 k rows c (i : Int) l) (if (∀ r ∈ rows.drop i, 0 ≤ r ∧ r < pr l) then (if rows.length > 200 then 2 else c) else 2) := by
  intro d
  have hpos := pr_pos hz
  induction d with
  | zero =>
    intro i hi
    refine Ev.step (fun k => by simp only [spec_l10Rows.l0]; rw [if_neg (by omega)]) ?_
    rw [List.drop_of_length_le (by omega), if_pos (fun r hr => absurd hr List.not_mem_nil)]
    by_cases c1 : rows.length > 200
    · rw [if_pos c1, if_pos (by omega)]; exact Ev.now _
    · rw [if_neg c1, if_neg (by omega)]; exact Ev.now _
  | succ d ih =>
    intro i hi
    have hdrop := drop_get rows i (show i < rows.length by omega)
    refine Ev.step (fun k => by simp only [spec_l10Rows.l0]; rw [if_pos (by omega), if_pos (by omega), rd_nat]) ?_
    refine Ev.bind (l01N_ev l hl hz) ?_
    by_cases c1 : 0 ≤ rows.getD i 0 ∧ rows.getD i 0 ≤ pr l - 1
    · refine Ev.congr (fun k => by rw [wrap_id (x := pr l - 1) (by omega) (by omega), l01In_val, decide_eq_true c1, Option.bind_some, if_pos rfl, wrap_id (by omega) (by omega), show (i : Int) + 1 = ((i + 1 : Nat) : Int) by omega]) ?_
      have h := ih (i + 1) (by omega)
      by_cases c2 : ∀ r ∈ rows.drop (i + 1), 0 ≤ r ∧ r < pr l
      · rw [if_pos c2] at h
        rw [if_pos (fun r hr => by
          rw [hdrop] at hr
          rcases List.mem_cons.1 hr with rfl | hr
          · omega
          · exact c2 r hr)]
        exact h
      · rw [if_neg c2] at h
        rw [if_neg (fun H => c2 (fun r hr => H r (by rw [hdrop]; exact List.mem_cons_of_mem _ hr)))]
        exact h
    · refine Ev.congr (fun k => by rw [wrap_id (x := pr l - 1) (by omega) (by omega), l01In_val, decide_eq_false c1, Option.bind_some, if_neg (by decide)]) ?_
      rw [if_neg (fun H => by have := H _ (by rw [hdrop]; exact List.mem_cons_self); omega)]
      exact Ev.now _
theorem l10Rows_ev (l rows : List Int) (t : Int) (hr : rows.length ≤ 140737488351232) : Ev (fun k => spec_l10Rows.f k l rows t) (rowsCode l rows t) := by
  unfold spec_l10Rows.f rowsCode
  refine Ev.bind (l10Code_ev l t) ?_
  by_cases c : isSp l = true
  · obtain ⟨h1, h2, h3, h4⟩ := isSp_sz c
    rw [if_pos c, if_pos c]
    by_cases c4 : 1 ≤ t ∧ t ≤ 3 ∧ t ≤ l.length
    · rw [if_pos c4]
      simp only [show ¬ ((0 : Int) = 1) by decide, if_false]
      have h := l10Rows_l0 l rows h2 h3 h4 hr 0 rows.length 0 (by omega)
      rw [List.drop_zero] at h
      by_cases c3 : ∀ r ∈ rows, 0 ≤ r ∧ r < pr l
      · rw [if_pos c3] at h
        by_cases c5 : rows.length > 200
        · rw [if_pos c5] at h
          rw [if_pos (Or.inl c5)]; exact h
        · rw [if_neg c5] at h
          rw [if_neg (fun H => by rcases H with H | H | H; (· exact c5 H); (· exact H c3); (· exact H c4))]; exact h
      · rw [if_neg c3] at h
        rw [if_pos (Or.inr (Or.inl c3))]; exact h
    · rw [if_neg c4]
      simp only [show ¬ ((2 : Int) = 1) by decide, if_false]
      have h := l10Rows_l0 l rows h2 h3 h4 hr 2 rows.length 0 (by omega)
      rw [List.drop_zero, ite_self, ite_self] at h
      rw [if_pos (Or.inr (Or.inr c4))]; exact h
  · rw [if_neg c, if_neg c]
    simp only [if_true]
    exact Ev.now _
/- Q3 -/
theorem getD_01 (l : List Int) (i : Nat) (h : i < l.length) : l.getD i 0 = l.getD i 1 := by
  rw [List.getD_eq_getElem?_getD, List.getD_eq_getElem?_getD, List.getElem?_eq_getElem h]; rfl
theorem l01Digits_l0 (l : List Int) (hl : l.length ≤ 8) (hz : Sz l) (row : Int) (h0 : 0 ≤ row) (h1 : row ≤ 1000000000) : ∀ (j : Nat) (x5 : List Int), j ≤ l.length → x5.length = l.length → (∀ i, j ≤ i → i < l.length → x5.getD i 0 = dgAt l row i) →
    Ev (fun k => spec_l01Digits.l0 k (row / pr (l.drop j)) x5 ((j : Int) - 1) l) (dgs l row) := by
  intro j
  induction j with
  | zero =>
    intro x5 _ hlen hx
    refine Ev.step (fun k => by simp only [spec_l01Digits.l0]; rw [if_neg (by omega)]) ?_
    have e : x5 = dgs l row := by
      refine List.ext_getElem (by rw [hlen, dgs_length]) (fun i h2 h3 => ?_)
      have h4 := hx i (by omega) (by omega)
      rw [List.getD_eq_getElem?_getD, List.getElem?_eq_getElem h2] at h4
      have h5 : (dgs l row)[i] = dgAt l row i := by simp [dgs]
      rw [h5]
      exact h4
    rw [e]
    exact Ev.now _
  | succ j ih =>
    intro x5 hj hlen hx
    have hq := sz_getD hz (show j < l.length by omega)
    have hd := div_range hz row h0 (j + 1)
    have hm1 := Int.emod_nonneg (row / pr (l.drop (j + 1))) (show l.getD j 0 ≠ 0 by omega)
    have hdd := div_range hz row h0 j
    have hst := div_step hz row j (by omega)
    rw [← getD_01 l j (by omega)] at hst
    refine Ev.step (fun k => by
      simp only [spec_l01Digits.l0]
      rw [if_pos (by omega), if_pos (by omega), if_pos (by omega), show ((j + 1 : Nat) : Int) - 1 = (j : Int) by omega, rd_nat, if_neg (by omega), if_pos (by omega), Int.tdiv_eq_ediv_of_nonneg hd.1, Int.tmod_eq_emod_of_nonneg hd.1, hst, wrap_id (by omega) (by omega), wrap_id (by omega) (by omega)]) ?_
    refine ih _ (by omega) (by rw [List.length_set]; exact hlen) (fun i h2 h3 => ?_)
    rw [List.getD_eq_getElem?_getD, List.getElem?_set, show ((j : Int)).toNat = j by omega]
    by_cases c : j = i
    · rw [if_pos c, if_pos (by omega), ← c]
      unfold dgAt
      rw [if_pos (by omega), ← getD_01 l j (by omega)]; rfl
    · rw [if_neg c, ← List.getD_eq_getElem?_getD]
      exact hx i (by omega) h3
theorem l01Digits_ev (l : List Int) (hl : l.length ≤ 8) (hz : Sz l) (row : Int) (h0 : 0 ≤ row) (h1 : row ≤ 1000000000) : Ev (fun k => spec_l01Digits.f k l row) (dgs l row) := by
  unfold spec_l01Digits.f
  refine Ev.congr (fun k => by rw [if_pos (by omega), if_pos (by omega), wrap_id (by omega) (by omega)]) ?_
  have h := l01Digits_l0 l hl hz row h0 h1 l.length (List.replicate ((l.length : Int)).toNat 0) (by omega) (by rw [List.length_replicate]; omega) (fun i h2 h3 => by omega)
  rw [List.drop_of_length_le (Nat.le_refl _), pr_nil, Int.ediv_one] at h
  exact h
/-- A choice whose places are places of so many digits. -/
def Ch (n : Nat) (c : List Int) : Prop := c.length ≤ 1000 ∧ ∀ i : Nat, i < c.length / 2 → 0 ≤ at' c i ∧ at' c i < n
theorem l10Has_l0 (dg c : List Int) (hc : Ch dg.length c) : ∀ (d i : Nat) (b : Bool), i + d = c.length / 2 → (b = true ↔ ∀ j : Nat, i ≤ j → j < c.length / 2 → at' dg (at' c j) = at' c ((c.length / 2 + j : Nat) : Int)) →
    Ev (fun k => spec_l10Has.l0 k dg c ((c.length / 2 : Nat) : Int) (i : Int)) b := by
  obtain ⟨hc1, hc2⟩ := hc
  intro d
  induction d with
  | zero =>
    intro i b hi hb
    refine Ev.step (fun k => by simp only [spec_l10Has.l0]; rw [if_neg (by omega)]) ?_
    rw [hb.2 (fun j h1 h2 => by omega)]
    exact Ev.now _
  | succ d ih =>
    intro i b hi hb
    have h1 := hc2 i (by omega)
    have h2 : 0 ≤ rd c (i : Int) ∧ rd c (i : Int) < dg.length := h1
    by_cases e : rd dg (rd c (i : Int)) = rd c ((c.length / 2 + i : Nat) : Int)
    · refine Ev.step (fun k => by
        simp only [spec_l10Has.l0]
        rw [if_pos (by omega), if_pos (by omega), if_pos (by omega), if_pos (by omega), if_pos (by omega), wrap_id (by omega) (by omega), if_pos (by omega), if_pos (by omega), show ((c.length / 2 : Nat) : Int) + (i : Int) = ((c.length / 2 + i : Nat) : Int) by omega, if_pos e, wrap_id (by omega) (by omega), show (i : Int) + 1 = ((i + 1 : Nat) : Int) by omega]) ?_
      refine ih (i + 1) b (by omega) (hb.trans ⟨fun H j h3 h4 => H j (by omega) h4, fun H j h3 h4 => ?_⟩)
      by_cases hj : j = i
      · rw [hj]; exact e
      · exact H j (by omega) h4
    · refine Ev.step (fun k => by
        simp only [spec_l10Has.l0]
        rw [if_pos (by omega), if_pos (by omega), if_pos (by omega), if_pos (by omega), if_pos (by omega), wrap_id (by omega) (by omega), if_pos (by omega), if_pos (by omega), show ((c.length / 2 : Nat) : Int) + (i : Int) = ((c.length / 2 + i : Nat) : Int) by omega, if_neg e]) ?_
      have : b = false := by
        cases b with
        | false => rfl
        | true => exact absurd (hb.1 rfl i (Nat.le_refl _) (by omega)) e
      rw [this]
      exact Ev.now _
theorem l10Has_ev (dg c : List Int) (hc : Ch dg.length c) : Ev (fun k => spec_l10Has.f k dg c) (hasB dg c) := by
  unfold spec_l10Has.f
  have h := l10Has_l0 dg c hc (c.length / 2) 0 (hasB dg c) (by omega) (by unfold hasB; rw [decide_eq_true_iff]; exact ⟨fun H j _ h => H j h, fun H j h => H j (Nat.zero_le _) h⟩)
  have hc1 := hc.1
  refine Ev.congr (fun k => ?_) h
  rw [show wrap64 ((c.length : Int) / 2) = ((c.length / 2 : Nat) : Int) by rw [wrap_id (by omega) (by omega)]; omega]
  rfl
theorem rd_L1_nat (xs : List (List Int)) (i : Nat) : rd_L1 xs (i : Int) = xs.getD i [] := rfl
theorem dropL (xs : List (List Int)) (i : Nat) (h : i < xs.length) : xs.drop i = xs.getD i [] :: xs.drop (i + 1) := by
  rw [List.drop_eq_getElem_cons h, List.getD_eq_getElem?_getD, List.getElem?_eq_getElem h]; rfl
theorem memL (xs : List (List Int)) (i : Nat) (h : i < xs.length) : xs.getD i [] ∈ xs := by
  rw [List.getD_eq_getElem?_getD, List.getElem?_eq_getElem h]; exact List.getElem_mem h
theorem l10Missing_l1 (l rows dg : List Int) (cs : List (List Int)) (hdg : dg.length = l.length) (hcs : ∀ c ∈ cs, Ch l.length c) (hlen : cs.length ≤ 100000) (x8 : Int) (r : List (List Int)) : ∀ (d i : Nat) (acc : List (List Int)), i + d = cs.length → acc.length + d ≤ 100000 →
    Ev (fun k => spec_l10Missing.l0 k rows (acc ++ (cs.drop i).filter (fun c => !hasB dg c)) (wrap64 (x8 + 1)) l) r →
    Ev (fun k => spec_l10Missing.l1 k rows cs x8 dg acc (i : Int) l) r := by
  intro d
  induction d with
  | zero =>
    intro i acc hi ha h
    refine Ev.step (fun k => by simp only [spec_l10Missing.l1]; rw [if_neg (by omega)]) ?_
    rw [List.drop_of_length_le (by omega), List.filter_nil, List.append_nil] at h
    exact h
  | succ d ih =>
    intro i acc hi ha h
    rw [dropL cs i (by omega), List.filter_cons] at h
    refine Ev.step (fun k => by simp only [spec_l10Missing.l1]; rw [if_pos (by omega), if_pos (by omega), rd_L1_nat]) ?_
    refine Ev.bind (l10Has_ev dg (cs.getD i []) (by rw [hdg]; exact hcs _ (memL cs i (by omega)))) ?_
    cases hb : hasB dg (cs.getD i []) with
    | true =>
      rw [hb] at h
      simp only [if_true]
      refine Ev.congr (fun k => by rw [wrap_id (by omega) (by omega), show (i : Int) + 1 = ((i + 1 : Nat) : Int) by omega]) ?_
      exact ih (i + 1) acc (by omega) (by omega) h
    | false =>
      rw [hb] at h
      simp only [Bool.false_eq_true, if_false]
      refine Ev.congr (fun k => by rw [if_pos (by omega), wrap_id (by omega) (by omega), show (i : Int) + 1 = ((i + 1 : Nat) : Int) by omega]) ?_
      refine ih (i + 1) _ (by omega) (by rw [List.length_append, List.length_singleton]; omega) ?_
      rw [List.append_assoc]
      exact h
theorem missing_cons (l : List Int) (cs : List (List Int)) (r : Int) (rows : List Int) : missing l cs (r :: rows) = missing l (cs.filter (fun c => !hasB (dgs l r) c)) rows := by
  unfold missing
  rw [List.filter_filter]
  refine List.filter_congr fun c _ => ?_
  rw [List.all_cons, Bool.and_comm]
theorem l10Missing_l0 (l : List Int) (hl : l.length ≤ 8) (hz : Sz l) (rows : List Int) (hr : ∀ r ∈ rows, 0 ≤ r ∧ r ≤ 1000000000) (hrl : rows.length ≤ 140737488351232) : ∀ (d i : Nat) (cs : List (List Int)), i + d = rows.length → (∀ c ∈ cs, Ch l.length c) → cs.length ≤ 100000 →
    Ev (fun k => spec_l10Missing.l0 k rows cs (i : Int) l) (missing l cs (rows.drop i)) := by
  intro d
  induction d with
  | zero =>
    intro i cs hi hcs hlen
    refine Ev.step (fun k => by simp only [spec_l10Missing.l0]; rw [if_neg (by omega)]) ?_
    rw [List.drop_of_length_le (by omega), missing_nil]
    exact Ev.now _
  | succ d ih =>
    intro i cs hi hcs hlen
    have hx : 0 ≤ rows.getD i 0 ∧ rows.getD i 0 ≤ 1000000000 := hr _ (by rw [List.getD_eq_getElem?_getD, List.getElem?_eq_getElem (show i < rows.length by omega)]; exact List.getElem_mem _)
    refine Ev.step (fun k => by simp only [spec_l10Missing.l0]; rw [if_pos (by omega), if_pos (by omega), rd_nat]) ?_
    refine Ev.bind (l01Digits_ev l hl hz _ hx.1 hx.2) ?_
    refine l10Missing_l1 l rows (dgs l (rows.getD i 0)) cs (dgs_length _ _) hcs hlen (i : Int) _ cs.length 0 [] (by omega) (by simp; omega) ?_
    rw [List.drop_zero, List.nil_append, wrap_id (by omega) (by omega), show (i : Int) + 1 = ((i + 1 : Nat) : Int) by omega, drop_get rows i (by omega), missing_cons]
    exact ih (i + 1) _ (by omega) (fun c hc => hcs c (List.mem_filter.1 hc).1) (Nat.le_trans (List.length_filter_le _ _) hlen)
theorem l10Missing_ev (l : List Int) (hl : l.length ≤ 8) (hz : Sz l) (rows : List Int) (hr : ∀ r ∈ rows, 0 ≤ r ∧ r ≤ 1000000000) (hrl : rows.length ≤ 140737488351232) (cs : List (List Int)) (hcs : ∀ c ∈ cs, Ch l.length c) (hlen : cs.length ≤ 100000) :
    Ev (fun k => spec_l10Missing.f k l cs rows) (missing l cs rows) := l10Missing_l0 l hl hz rows hr hrl rows.length 0 cs (by omega) hcs hlen
theorem l01Own_val (l : List Int) (h : l.length < 17592186044416) : spec_l01Own.f l = some l := by
  unfold spec_l01Own.f
  rw [Option.bind_some, if_pos (by simpa using h), List.nil_append]
theorem l10Places_l1 (l : List Int) (x2 : Int) (i : Nat) (hi : i ≤ 100) (T : List (List Int)) (hT : ∀ t ∈ T, t.length ≤ 1000) (hTl : T.length ≤ 100000) (r : List (List Int)) : ∀ (d m : Nat) (acc : List (List Int)), m + d = T.length → acc.length + d ≤ 100000 →
    Ev (fun k => spec_l10Places.l0 k x2 (acc ++ (T.drop m).map (fun r => (i : Int) :: r)) ((i + 1 : Nat) : Int) l) r →
    Ev (fun k => spec_l10Places.l1 k x2 acc (i : Int) T (m : Int) l) r := by
  intro d
  induction d with
  | zero =>
    intro m acc hm ha h
    refine Ev.step (fun k => by simp only [spec_l10Places.l1]; rw [if_neg (by omega), wrap_id (by omega) (by omega), show (i : Int) + 1 = ((i + 1 : Nat) : Int) by omega]) ?_
    rw [List.drop_of_length_le (by omega), List.map_nil, List.append_nil] at h
    exact h
  | succ d ih =>
    intro m acc hm ha h
    rw [dropL T m (by omega), List.map_cons] at h
    have h1 := hT _ (memL T m (by omega))
    refine Ev.step (fun k => by simp only [spec_l10Places.l1]; rw [if_pos (by omega), Option.bind_some, if_pos (by omega), rd_L1_nat, if_pos (by simp only [List.length_singleton]; omega), if_pos (by omega), wrap_id (by omega) (by omega), show (m : Int) + 1 = ((m + 1 : Nat) : Int) by omega]) ?_
    refine ih (m + 1) _ (by omega) (by rw [List.length_append, List.length_singleton]; omega) ?_
    rw [List.append_assoc]
    exact h
theorem l10Places_ev (l : List Int) (hl : l.length ≤ 8) : ∀ (d b : Nat), d ≤ 3 → b ≤ l.length → Ev (fun k => spec_l10Places.f k l (b : Int) (d : Int)) (places l.length d b) := by
  intro d
  induction d with
  | zero =>
    intro b _ hb
    refine Ev.step (fun k => by simp only [spec_l10Places.f]; rw [if_pos (by omega)]) ?_
    exact Ev.now _
  | succ d ih =>
    intro b hd hb
    have L : ∀ (e i : Nat) (acc : List (List Int)), i + e = l.length → acc.length + 512 * e ≤ 10000 → Ev (fun k => spec_l10Places.l0 k ((d + 1 : Nat) : Int) acc (i : Int) l) (acc ++ run (fun i => (places l.length d (i + 1)).map (fun r => i :: r)) (i : Int) e) := by
      intro e
      induction e with
      | zero =>
        intro i acc hi ha
        refine Ev.step (fun k => by simp only [spec_l10Places.l0]; rw [if_neg (by omega)]) ?_
        rw [show run (fun i => (places l.length d (i + 1)).map (fun r => i :: r)) (i : Int) 0 = [] from rfl, List.append_nil]
        exact Ev.now _
      | succ e ih2 =>
        intro i acc hi ha
        refine Ev.step (fun k => by simp only [spec_l10Places.l0]; rw [if_pos (by omega), wrap_id (by omega) (by omega), wrap_id (by omega) (by omega), show (i : Int) + 1 = ((i + 1 : Nat) : Int) by omega, show ((d + 1 : Nat) : Int) - 1 = (d : Int) by omega]) ?_
        refine Ev.bind (ih (i + 1) (by omega) (by omega)) ?_
        have h8 := places_len l.length hl d ((i + 1 : Nat) : Int) (by omega)
        have h9 : 8 ^ d ≤ 8 ^ 3 := Nat.pow_le_pow_right (by decide) (by omega)
        have h10 : (8 : Nat) ^ 3 = 512 := rfl
        refine l10Places_l1 l _ i (by omega) _ (fun t ht => by have := places_each l.length d _ t ht; omega) (by omega) _ _ 0 acc (Nat.zero_add _) (by omega) ?_
        have h := ih2 (i + 1) (acc ++ (places l.length d ((i + 1 : Nat) : Int)).map (fun r => (i : Int) :: r)) (by omega) (by rw [List.length_append, List.length_map]; omega)
        rw [List.drop_zero]
        rw [List.append_assoc] at h
        exact h
    refine Ev.step (fun k => by simp only [spec_l10Places.f]; rw [if_neg (by omega)]) ?_
    have h := L (l.length - b) b [] (by omega) (by simp; omega)
    rw [List.nil_append] at h
    show Ev _ (run (fun i => (places l.length d (i + 1)).map (fun r => i :: r)) (b : Int) ((l.length : Int) - b).toNat)
    rw [show ((l.length : Int) - (b : Int)).toNat = l.length - b by omega]
    exact h
/- Q4 -/
theorem l10Digits_l2 (l p : List Int) (j : Nat) (hj : j < p.length) (hp : 0 ≤ at' p j ∧ at' p j < l.length) (q : Nat) (hq : at' l (at' p j) = q) (hq4 : q ≤ 4) (cur : List (List Int)) (m : Nat) (hm : m < cur.length) (hml : cur.length ≤ 100000) (hc : (cur.getD m []).length ≤ 1000) (r : List (List Int)) :
    ∀ (e v : Nat) (new : List (List Int)), v + e = q → new.length + e ≤ 1000000 →
    Ev (fun k => spec_l10Digits.l1 k p cur (j : Int) (new ++ (List.range' v e).map (fun (v : Nat) => cur.getD m [] ++ [(v : Int)])) ((m + 1 : Nat) : Int) l) r →
    Ev (fun k => spec_l10Digits.l2 k p cur (j : Int) new (m : Int) (v : Int) l) r := by
  have hp' : 0 ≤ rd p (j : Int) ∧ rd p (j : Int) < l.length := hp
  have hq' : rd l (rd p (j : Int)) = q := hq
  intro e
  induction e with
  | zero =>
    intro v new hv hn h
    refine Ev.step (fun k => by simp only [spec_l10Digits.l2]; rw [if_pos (by omega), if_pos (by omega), if_pos (by omega), if_pos (by omega), if_neg (by omega), wrap_id (by omega) (by omega), show (m : Int) + 1 = ((m + 1 : Nat) : Int) by omega]) ?_
    rw [List.range'_zero, List.map_nil, List.append_nil] at h
    exact h
  | succ e ih =>
    intro v new hv hn h
    rw [List.range'_succ, List.map_cons] at h
    refine Ev.step (fun k => by simp only [spec_l10Digits.l2]; rw [if_pos (by omega), if_pos (by omega), if_pos (by omega), if_pos (by omega), if_pos (by omega), if_pos (by omega), if_pos (by omega), rd_L1_nat, l01Own_val _ (by omega), Option.bind_some, if_pos (by omega), if_pos (by omega), wrap_id (by omega) (by omega), show (v : Int) + 1 = ((v + 1 : Nat) : Int) by omega]) ?_
    refine ih (v + 1) _ (by omega) (by rw [List.length_append, List.length_singleton]; omega) ?_
    rw [List.append_assoc]
    exact h
/-- One place more. -/
def digStep (l : List Int) (cur : List (List Int)) (i : Int) : List (List Int) := cur.flatMap (fun c => (List.range (at' l i).toNat).map (fun (v : Nat) => c ++ [(v : Int)]))
theorem digStep_cons (l : List Int) (c : List Int) (cur : List (List Int)) (i : Int) : digStep l (c :: cur) i = (List.range (at' l i).toNat).map (fun (v : Nat) => c ++ [(v : Int)]) ++ digStep l cur i := by unfold digStep; rw [List.flatMap_cons]
theorem digStep_len (l : List Int) (i : Int) (h : at' l i ≤ 4) : ∀ cur : List (List Int), (digStep l cur i).length ≤ 4 * cur.length
  | [] => Nat.le_refl 0
  | c :: cur => by
    have := digStep_len l i h cur
    rw [digStep_cons, List.length_append, List.length_map, List.length_range, List.length_cons]
    omega
theorem digStep_each (l : List Int) (i : Int) (n : Nat) (cur : List (List Int)) (h : ∀ c ∈ cur, c.length ≤ n) : ∀ c ∈ digStep l cur i, c.length ≤ n + 1 := by
  intro c hc
  obtain ⟨d, hd, hc⟩ := List.mem_flatMap.1 hc
  obtain ⟨v, _, rfl⟩ := List.mem_map.1 hc
  have := h d hd
  rw [List.length_append, List.length_singleton]
  omega
theorem l10Digits_l1 (l p : List Int) (hz : Sz l) (j : Nat) (hj : j < p.length) (hjl : j ≤ 100) (hp : 0 ≤ at' p j ∧ at' p j < l.length) (cur : List (List Int)) (hml : cur.length ≤ 100000) (hc : ∀ c ∈ cur, c.length ≤ 1000) (r : List (List Int)) :
    ∀ (e m : Nat) (new : List (List Int)), m + e = cur.length → new.length + 4 * e ≤ 1000000 →
    Ev (fun k => spec_l10Digits.l0 k p (new ++ digStep l (cur.drop m) (at' p j)) ((j + 1 : Nat) : Int) l) r →
    Ev (fun k => spec_l10Digits.l1 k p cur (j : Int) new (m : Int) l) r := by
  have hq := at_range hz hp.1 hp.2
  intro e
  induction e with
  | zero =>
    intro m new hm hn h
    refine Ev.step (fun k => by simp only [spec_l10Digits.l1]; rw [if_neg (by omega), wrap_id (by omega) (by omega), show (j : Int) + 1 = ((j + 1 : Nat) : Int) by omega]) ?_
    rw [List.drop_of_length_le (by omega), show digStep l [] (at' p j) = [] from rfl, List.append_nil] at h
    exact h
  | succ e ih =>
    intro m new hm hn h
    rw [dropL cur m (by omega), digStep_cons] at h
    refine Ev.step (fun k => by simp only [spec_l10Digits.l1]; rw [if_pos (by omega)]) ?_
    refine l10Digits_l2 l p j hj hp (at' l (at' p j)).toNat (by omega) (by omega) cur m (by omega) hml (hc _ (memL cur m (by omega))) r (at' l (at' p j)).toNat 0 new (by omega) (by omega) ?_
    refine ih (m + 1) _ (by omega) (by rw [List.length_append, List.length_map, List.length_range']; omega) ?_
    rw [List.append_assoc, ← List.range_eq_range']
    exact h
theorem l10Digits_l0 (l p : List Int) (hz : Sz l) (hpl : Pl l p) : ∀ (e j : Nat) (cur : List (List Int)), j + e = p.length → cur.length * 4 ^ e ≤ 64 → (∀ c ∈ cur, c.length ≤ j) →
    Ev (fun k => spec_l10Digits.l0 k p cur (j : Int) l) ((p.drop j).foldl (digStep l) cur) := by
  obtain ⟨hp3, hpi⟩ := hpl
  intro e
  induction e with
  | zero =>
    intro j cur hj h4 hc
    refine Ev.step (fun k => by simp only [spec_l10Digits.l0]; rw [if_neg (by omega)]) ?_
    rw [List.drop_of_length_le (by omega)]
    exact Ev.now _
  | succ e ih =>
    intro j cur hj h4 hc
    have hp : 0 ≤ at' p j ∧ at' p j < l.length := hpi _ (by show p.getD j 0 ∈ p; rw [List.getD_eq_getElem?_getD, List.getElem?_eq_getElem (show j < p.length by omega)]; exact List.getElem_mem _)
    have hq := at_range hz hp.1 hp.2
    have h5 : 1 ≤ 4 ^ e := Nat.pow_pos (by decide)
    rw [Nat.pow_succ, Nat.mul_comm (4 ^ e) 4, ← Nat.mul_assoc] at h4
    have h6 : cur.length * 4 * 1 ≤ cur.length * 4 * 4 ^ e := Nat.mul_le_mul_left _ h5
    refine Ev.step (fun k => by simp only [spec_l10Digits.l0]; rw [if_pos (by omega)]) ?_
    refine l10Digits_l1 l p hz j (by omega) (by omega) hp cur (by omega) (fun c h => by have := hc c h; omega) _ cur.length 0 [] (by omega) (by simp; omega) ?_
    rw [List.drop_zero, List.nil_append, drop_get p j (by omega), List.foldl_cons]
    have h7 := digStep_len l (at' p j) (by omega) cur
    have h8 : (digStep l cur (at' p j)).length * 4 ^ e ≤ 4 * cur.length * 4 ^ e := Nat.mul_le_mul_right _ h7
    rw [Nat.mul_comm 4 cur.length] at h8
    exact ih (j + 1) _ (by omega) (by omega) (digStep_each l (at' p j) j cur hc)
theorem l10Digits_ev (l p : List Int) (hz : Sz l) (hpl : Pl l p) : Ev (fun k => spec_l10Digits.f k l p) (digs l p) := by
  have h4 : 1 * 4 ^ p.length ≤ 64 := by
    have h3 := hpl.1
    generalize p.length = n at h3
    rcases n with _|_|_|_|n <;> first | decide | omega
  exact l10Digits_l0 l p hz hpl p.length 0 [[]] (by omega) h4 (fun c hc => by rw [List.mem_singleton.1 hc]; exact Nat.le_refl 0)
theorem digs_each {l : List Int} (hl : Sz l) {p : List Int} (hp : Pl l p) : ∀ d ∈ digs l p, d.length = p.length := by
  intro d hd
  rw [digs_eq hl p hp.2] at hd
  obtain ⟨v, _, rfl⟩ := List.mem_map.1 hd
  exact dec_length _ _ _
theorem l10All_l1 (l : List Int) (P : List (List Int)) (i : Nat) (hi : i < P.length) (hil : P.length ≤ 100000) (hpi : (P.getD i []).length ≤ 1000) (D : List (List Int)) (hD : ∀ d ∈ D, d.length ≤ 1000) (hDl : D.length ≤ 1000) (r : List (List Int)) :
    ∀ (e m : Nat) (acc : List (List Int)), m + e = D.length → acc.length + e ≤ 1000000 →
    Ev (fun k => spec_l10All.l0 k P (acc ++ (D.drop m).map (fun d => P.getD i [] ++ d)) ((i + 1 : Nat) : Int) l) r →
    Ev (fun k => spec_l10All.l1 k P acc (i : Int) D (m : Int) l) r := by
  intro e
  induction e with
  | zero =>
    intro m acc hm ha h
    refine Ev.step (fun k => by simp only [spec_l10All.l1]; rw [if_neg (by omega), wrap_id (by omega) (by omega), show (i : Int) + 1 = ((i + 1 : Nat) : Int) by omega]) ?_
    rw [List.drop_of_length_le (by omega), List.map_nil, List.append_nil] at h
    exact h
  | succ e ih =>
    intro m acc hm ha h
    rw [dropL D m (by omega), List.map_cons] at h
    have h1 := hD _ (memL D m (by omega))
    refine Ev.step (fun k => by simp only [spec_l10All.l1]; rw [if_pos (by omega), if_pos (by omega), if_pos (by omega), rd_L1_nat, rd_L1_nat, l01Own_val _ (by omega), Option.bind_some, if_pos (by omega), if_pos (by omega), if_pos (by omega), wrap_id (by omega) (by omega), show (m : Int) + 1 = ((m + 1 : Nat) : Int) by omega]) ?_
    refine ih (m + 1) _ (by omega) (by rw [List.length_append, List.length_singleton]; omega) ?_
    rw [List.append_assoc]
    exact h
theorem l10All_l0 (l : List Int) (hz : Sz l) (P : List (List Int)) (hP : ∀ p ∈ P, Pl l p) (hPl : P.length ≤ 512) : ∀ (e i : Nat) (acc : List (List Int)), i + e = P.length → acc.length + 64 * e ≤ 100000 →
    Ev (fun k => spec_l10All.l0 k P acc (i : Int) l) (acc ++ allC l (P.drop i)) := by
  intro e
  induction e with
  | zero =>
    intro i acc hi ha
    refine Ev.step (fun k => by simp only [spec_l10All.l0]; rw [if_neg (by omega)]) ?_
    rw [List.drop_of_length_le (by omega), show allC l [] = [] from rfl, List.append_nil]
    exact Ev.now _
  | succ e ih =>
    intro i acc hi ha
    have hp := hP _ (memL P i (by omega))
    have h1 := digs_len hz hp
    have h2 := szp_range hz hp (P.getD i []).length
    rw [List.take_length] at h2
    have h3 := hp.1
    refine Ev.step (fun k => by simp only [spec_l10All.l0]; rw [if_pos (by omega), if_pos (by omega), rd_L1_nat]) ?_
    refine Ev.bind (l10Digits_ev l _ hz hp) ?_
    refine l10All_l1 l P i (by omega) (by omega) (by omega) _ (fun d hd => by have := digs_each hz hp d hd; omega) (by omega) _ _ 0 acc (Nat.zero_add _) (by omega) ?_
    have h := ih (i + 1) (acc ++ (digs l (P.getD i [])).map (fun d => P.getD i [] ++ d)) (by omega) (by rw [List.length_append, List.length_map]; omega)
    rw [List.drop_zero, dropL P i (by omega), allC_cons, ← List.append_assoc]
    exact h
theorem places_pl (l : List Int) (t : Nat) (ht : t ≤ 3) : ∀ p ∈ places l.length t 0, Pl l p := by rw [← ext_nil]; exact ext_pl l.length t l rfl ht
theorem places_512 (l : List Int) (hl : l.length ≤ 8) (t : Nat) (ht : t ≤ 3) : (places l.length t 0).length ≤ 512 := by rw [← ext_nil]; exact ext_len512 l.length t hl ht
theorem l10All_ev (l : List Int) (hl : l.length ≤ 8) (hz : Sz l) (t : Nat) (ht : t ≤ 3) : Ev (fun k => spec_l10All.f k l (t : Int)) (allC l (places l.length t 0)) := by
  have h := l10All_l0 l hz (places l.length t 0) (places_pl l t ht) (places_512 l hl t ht) (places l.length t 0).length 0 [] (Nat.zero_add _) (by have := places_512 l hl t ht; simp; omega)
  rw [List.drop_zero, List.nil_append] at h
  exact Ev.bind (l10Places_ev l hl t 0 ht (Nat.zero_le _)) h
theorem allC_ch (l : List Int) (hz : Sz l) (P : List (List Int)) (hP : ∀ p ∈ P, Pl l p) : ∀ c ∈ allC l P, Ch l.length c := by
  intro c hc
  obtain ⟨p, hp, hc⟩ := List.mem_flatMap.1 hc
  obtain ⟨d, hd, rfl⟩ := List.mem_map.1 hc
  have h1 := digs_each hz (hP p hp) d hd
  have h2 := (hP p hp).1
  refine ⟨by rw [List.length_append]; omega, fun i hi => ?_⟩
  have h3 : i < p.length := by rw [List.length_append] at hi; omega
  rw [at_left p d i h3]
  exact (hP p hp).2 _ (List.getElem_mem h3)
theorem allC_le (l : List Int) (hl : l.length ≤ 8) (hz : Sz l) (t : Nat) (ht : t ≤ 3) : (allC l (places l.length t 0)).length ≤ 100000 := by
  have h1 := allC_len hz (places l.length t 0) 0 (places_pl l t ht)
  have h2 := tot_le_max hz (places_pl l t ht) (places_512 l hl t ht)
  omega
/-- The greatest number of places up to t with nothing missing. -/
def down (l rows : List Int) : Nat → Int
  | 0 => 0
  | t + 1 => if 0 ∈ often l rows (t + 1) then down l rows t else ((t + 1 : Nat) : Int)
theorem best_succ (l rows : List Int) : ∀ (d t : Nat) (b : Int), best l rows (d + 1) t b = if 0 ∈ often l rows (t + d) then best l rows d t b else ((t + d : Nat) : Int)
  | 0, t, b => rfl
  | d + 1, t, b => by
    have h := best_succ l rows d (t + 1) (if 0 ∈ often l rows t then b else t)
    rw [show t + 1 + d = t + (d + 1) by omega] at h
    exact h
theorem best_down (l rows : List Int) : ∀ d : Nat, best l rows d 1 0 = down l rows d
  | 0 => rfl
  | d + 1 => by
    rw [best_succ, best_down l rows d, show 1 + d = d + 1 by omega]; rfl
/- Q7 -/
theorem toInt64S_l0 (l : List Int) (hl : l.length ≤ 35184372088832) : ∀ (d i : Nat) (x : List Int), i + d = l.length → x.length = l.length → (∀ j, j < i → x.getD j 0 = l.getD j 0) → Ev (fun k => laws_toInt64S.l0 k l x (i : Int)) l := by
  intro d
  induction d with
  | zero =>
    intro i x hi hx h
    refine Ev.step (fun k => by simp only [laws_toInt64S.l0]; rw [if_neg (by omega)]) ?_
    have e : x = l := by
      refine List.ext_getElem hx (fun j h1 h2 => ?_)
      have h3 := h j (by omega)
      rw [List.getD_eq_getElem?_getD, List.getD_eq_getElem?_getD, List.getElem?_eq_getElem h1, List.getElem?_eq_getElem h2] at h3
      exact h3
    rw [e]
    exact Ev.now _
  | succ d ih =>
    intro i x hi hx h
    refine Ev.step (fun k => by simp only [laws_toInt64S.l0]; rw [if_pos (by omega), if_pos (by omega), if_pos (by omega), rd_nat, show ((i : Int)).toNat = i by omega, wrap_id (by omega) (by omega), show (i : Int) + 1 = ((i + 1 : Nat) : Int) by omega]) ?_
    refine ih (i + 1) _ (by omega) (by rw [List.length_set]; exact hx) (fun j hj => ?_)
    rw [List.getD_eq_getElem?_getD, List.getElem?_set]
    by_cases c : i = j
    · rw [if_pos c, if_pos (by omega), ← c]; rfl
    · rw [if_neg c, ← List.getD_eq_getElem?_getD]
      exact h j (by omega)
theorem toInt64S_ev (l : List Int) (hl : l.length ≤ 35184372088832) : Ev (fun k => laws_toInt64S.f k l) l := by
  unfold laws_toInt64S.f
  refine Ev.congr (fun k => by rw [if_pos (by omega), if_pos (by omega)]) ?_
  exact toInt64S_l0 l hl l.length 0 _ (by omega) (by rw [List.length_replicate]; omega) (fun j hj => by omega)
theorem toSpace_ev (l : List Int) (hl : l.length ≤ 35184372088832) : Ev (fun k => laws_toSpace.f k l) l := Ev.bind (toInt64S_ev l hl) (Ev.now l)
theorem eqInt64S_l0 (l : List Int) (hl : l.length ≤ 35184372088832) : ∀ (d i : Nat), i + d = l.length → Ev (fun k => laws_eqInt64S.l0 k l l (i : Int)) true := by
  intro d
  induction d with
  | zero =>
    intro i hi
    refine Ev.step (fun k => by simp only [laws_eqInt64S.l0]; rw [if_neg (by omega)]) ?_
    exact Ev.now _
  | succ d ih =>
    intro i hi
    refine Ev.step (fun k => by simp only [laws_eqInt64S.l0]; rw [if_pos (by omega), if_pos (by omega), if_pos (by omega), if_true, wrap_id (by omega) (by omega), show (i : Int) + 1 = ((i + 1 : Nat) : Int) by omega]) ?_
    exact ih (i + 1) (by omega)
theorem eqInt64S_ev (l : List Int) (hl : l.length ≤ 35184372088832) : Ev (fun k => laws_eqInt64S.f k l l) true := by
  unfold laws_eqInt64S.f
  refine Ev.congr (fun k => by rw [if_pos rfl]) ?_
  exact eqInt64S_l0 l hl l.length 0 (by omega)
theorem eqSpace_ev (l : List Int) (hl : l.length ≤ 35184372088832) : Ev (fun k => laws_eqSpace.f k l l) true := by
  unfold laws_eqSpace.f
  refine Ev.bind (eqInt64S_ev l hl) ?_
  simp only [if_true]
  exact Ev.now _
theorem szSpace_val (l : List Int) (x : Int) (hx : 0 ≤ x ∧ x ≤ 1048576) (hl : l.length ≤ 9223372036854775807) : laws_szSpace.f l x = some (if l.length ≤ x then x - l.length else -1) := by
  unfold laws_szSpace.f laws_szInt64S.f
  rw [wrap_id (by omega) (by omega)]
  by_cases c : (l.length : Int) ≤ x
  · rw [if_pos c, if_neg (by omega), Option.bind_some, if_neg (by omega)]
  · rw [if_neg c, if_pos (by omega), Option.bind_some, if_pos (by omega)]
/-- a, a + 1, .. -/
def ups (a : Int) : Nat → List Int
  | 0 => []
  | n + 1 => a :: ups (a + 1) n
theorem ups_length : ∀ (n : Nat) (a : Int), (ups a n).length = n
  | 0, _ => rfl
  | n + 1, a => by show (ups (a + 1) n).length + 1 = n + 1; rw [ups_length n]
theorem ups_at : ∀ (n : Nat) (a : Int) (i : Nat), i < n → (ups a n).getD i 0 = a + i
  | n + 1, a, 0, _ => by show a = a + ((0 : Nat) : Int); omega
  | n + 1, a, i + 1, h => by
    have := ups_at n (a + 1) i (by omega)
    show (ups (a + 1) n).getD i 0 = _
    rw [this]
    omega
theorem markInt64S_l0 (n : Nat) (hn : n ≤ 35184372088832) (a : Int) (ha : 0 ≤ a ∧ a ≤ 35184372088832) : ∀ (d i : Nat) (x : List Int), i + d = n → x.length = n → (∀ j, j < i → x.getD j 0 = a + j) → Ev (fun k => laws_markInt64S.l0 k x (a + i) (i : Int)) (a + n, ups a n) := by
  intro d
  induction d with
  | zero =>
    intro i x hi hx h
    refine Ev.step (fun k => by simp only [laws_markInt64S.l0]; rw [if_neg (by omega)]) ?_
    have e : x = ups a n := by
      refine List.ext_getElem (by rw [hx, ups_length]) (fun j h1 h2 => ?_)
      have h3 := h j (by omega)
      have h4 := ups_at n a j (by omega)
      rw [List.getD_eq_getElem?_getD, List.getElem?_eq_getElem h1] at h3
      rw [List.getD_eq_getElem?_getD, List.getElem?_eq_getElem h2] at h4
      exact h3.trans h4.symm
    rw [e, show i = n by omega]
    exact Ev.now _
  | succ d ih =>
    intro i x hi hx h
    refine Ev.step (fun k => by simp only [laws_markInt64S.l0]; rw [if_pos (by omega), if_pos (by omega), show ((i : Int)).toNat = i by omega, wrap_id (by omega) (by omega), wrap_id (by omega) (by omega), show a + (i : Int) + 1 = a + ((i + 1 : Nat) : Int) by omega, show (i : Int) + 1 = ((i + 1 : Nat) : Int) by omega]) ?_
    refine ih (i + 1) _ (by omega) (by rw [List.length_set]; exact hx) (fun j hj => ?_)
    rw [List.getD_eq_getElem?_getD, List.getElem?_set]
    by_cases c : i = j
    · rw [if_pos c, if_pos (by omega), ← c]; rfl
    · rw [if_neg c, ← List.getD_eq_getElem?_getD]
      exact h j (by omega)
theorem markInt64S_ev (l : List Int) (a : Int) (hl : l.length ≤ 35184372088832) (ha : 0 ≤ a ∧ a ≤ 35184372088832) : Ev (fun k => laws_markInt64S.f k l a) (a + l.length, ups a l.length) := by
  have h := markInt64S_l0 l.length hl a ha l.length 0 l (by omega) rfl (fun j hj => by omega)
  rw [show a + ((0 : Nat) : Int) = a by omega] at h
  exact h
theorem markSpace_ev (l : List Int) (a : Int) (hl : l.length ≤ 35184372088832) (ha : 0 ≤ a ∧ a ≤ 35184372088832) : Ev (fun k => laws_markSpace.f k l a) (a + l.length, ups a l.length) := Ev.bind (markInt64S_ev l a hl ha) (Ev.now _)
theorem heldInt64S_l0 (n : Nat) (hn : n ≤ 35184372088832) (a : Int) (ha : 0 ≤ a ∧ a ≤ 35184372088832) : ∀ (d i : Nat), i + d = n → Ev (fun k => laws_heldInt64S.l0 k (ups a n) (a + i) (i : Int)) (a + n) := by
  have hl := ups_length n a
  intro d
  induction d with
  | zero =>
    intro i hi
    refine Ev.step (fun k => by simp only [laws_heldInt64S.l0]; rw [if_neg (by omega)]) ?_
    rw [show i = n by omega]
    exact Ev.now _
  | succ d ih =>
    intro i hi
    have h4 := ups_at n a i (by omega)
    refine Ev.step (fun k => by simp only [laws_heldInt64S.l0]; rw [if_pos (by omega), if_pos (by omega), rd_nat, if_pos h4, wrap_id (by omega) (by omega), wrap_id (by omega) (by omega), show a + (i : Int) + 1 = a + ((i + 1 : Nat) : Int) by omega, show (i : Int) + 1 = ((i + 1 : Nat) : Int) by omega]) ?_
    exact ih (i + 1) (by omega)
theorem heldInt64S_ev (n : Nat) (a : Int) (hl : n ≤ 35184372088832) (ha : 0 ≤ a ∧ a ≤ 35184372088832) : Ev (fun k => laws_heldInt64S.f k (ups a n) a) (a + n) := by
  have h := heldInt64S_l0 n hl a ha n 0 (by omega)
  rw [show a + ((0 : Nat) : Int) = a by omega] at h
  exact h
/- Q8 -/
theorem one_of (rows : List Int) (i : Nat) (h : i < rows.length) : (rows.take (i + 1)).drop i = [rows.getD i 0] := by
  rw [List.take_succ_eq_append_getElem h, List.drop_append_of_le_length (by rw [List.length_take]; omega), List.drop_of_length_le (by rw [List.length_take]; omega), List.nil_append, List.getD_eq_getElem?_getD, List.getElem?_eq_getElem h]; rfl
theorem missing_le (l : List Int) (cs : List (List Int)) (rows : List Int) : (missing l cs rows).length ≤ cs.length := List.length_filter_le _ _
theorem missing_ch {l : List Int} {n : Nat} {cs : List (List Int)} (h : ∀ c ∈ cs, Ch n c) (rows : List Int) : ∀ c ∈ missing l cs rows, Ch n c := fun c hc => h c (List.mem_filter.1 hc).1
theorem NewChoices_l0 (l : List Int) (hl : l.length ≤ 8) (hz : Sz l) (rows : List Int) (hr : ∀ r ∈ rows, 0 ≤ r ∧ r ≤ 1000000000) (hrl : rows.length ≤ 35184372088832) : ∀ (d i : Nat) (cs : List (List Int)) (out : List Int), i + d = rows.length → (∀ c ∈ cs, Ch l.length c) → cs.length ≤ 100000 → out.length = i → out.length + d < 17592186044416 →
    Ev (fun k => spec_NewChoices.l0 k rows cs out (i : Int) l) (out ++ specNew l cs (rows.drop i), 0) := by
  intro d
  induction d with
  | zero =>
    intro i cs out hi hcs hlen hout hb
    refine Ev.step (fun k => by simp only [spec_NewChoices.l0]; rw [if_neg (by omega)]) ?_
    rw [List.drop_of_length_le (by omega)]
    show Ev _ (out ++ [], (0 : Int))
    rw [List.append_nil]
    exact Ev.now _
  | succ d ih =>
    intro i cs out hi hcs hlen hout hb
    have hx : 0 ≤ rows.getD i 0 ∧ rows.getD i 0 ≤ 1000000000 := hr _ (by rw [List.getD_eq_getElem?_getD, List.getElem?_eq_getElem (show i < rows.length by omega)]; exact List.getElem_mem _)
    have hm := missing_le l cs [rows.getD i 0]
    refine Ev.step (fun k => by simp only [spec_NewChoices.l0]; rw [if_pos (by omega), if_pos (by omega), wrap_id (x := (i : Int) + 1) (by omega) (by omega), if_pos (by omega), if_pos (by omega), show ((i : Int)).toNat = i by omega, show ((i : Int) + 1).toNat = i + 1 by omega, one_of rows i (by omega), show (i : Int) + 1 = ((i + 1 : Nat) : Int) by omega]) ?_
    refine Ev.bind (l10Missing_ev l hl hz [rows.getD i 0] (fun r h => by rw [List.mem_singleton.1 h]; exact hx) (by simp) cs hcs hlen) ?_
    refine Ev.congr (fun k => by rw [if_pos (by omega), wrap_id (x := (cs.length : Int) - _) (by omega) (by omega)]) ?_
    have h := ih (i + 1) (missing l cs [rows.getD i 0]) (out ++ [(cs.length : Int) - (missing l cs [rows.getD i 0]).length]) (by omega) (missing_ch hcs _) (by omega) (by rw [List.length_append, List.length_singleton]; omega) (by rw [List.length_append, List.length_singleton]; omega)
    rw [List.append_assoc] at h
    rw [drop_get rows i (by omega)]
    exact h
theorem spec_NewChoices_ev (l rows : List Int) (t : Int) (hrl : rows.length ≤ 1099511627776) : Ev (fun k => spec_NewChoices.f k l rows t) (newChoicesOf l rows t) := by
  unfold spec_NewChoices.f newChoicesOf
  refine Ev.bind (l10Rows_ev l rows t (by omega)) ?_
  by_cases c : rowsCode l rows t = 0
  · obtain ⟨hz, h8, h1, hp, hr2, hw, ht1, ht3, ht4⟩ := rowsCode_zero c
    obtain ⟨tn, rfl⟩ : ∃ tn : Nat, t = tn := ⟨t.toNat, by omega⟩
    simp only [if_pos c]
    refine Ev.bind (l10All_ev l h8 hz tn (by omega)) ?_
    have h := NewChoices_l0 l h8 hz rows (fun r hr => by have := hw r hr; omega) (by omega) rows.length 0 (allC l (places l.length tn 0)) [] (by omega) (allC_ch l hz _ (places_pl l tn (by omega))) (allC_le l h8 hz tn (by omega)) rfl (by simp; omega)
    rw [List.nil_append, List.drop_zero, ← newTo_eq hz (places_pl l tn (by omega)) rows (fun r hr => (hw r hr).1), ← ext_nil] at h
    rw [show ((tn : Int)).toNat = tn by omega]
    rw [← ext_nil]
    exact h
  · simp only [if_neg c]
    exact Ev.now _
theorem newChoicesOf_len (l rows : List Int) (t : Int) : (newChoicesOf l rows t).1.length ≤ rows.length := by
  unfold newChoicesOf
  by_cases c : rowsCode l rows t = 0
  · rw [if_pos c]
    exact Nat.le_of_eq (newTo_length _ _ _ _ _).2
  · rw [if_neg c]
    exact Nat.zero_le _
theorem law_NewChoices (l rows : List Int) (t : Int) (hl : l.length ≤ maxLen) (hr : rows.length ≤ maxLen) (_ : (Lit.int .i64 t).wf = true) : ∃ k, laws_FnExactNewChoices.f k l rows t = some true := by
  replace hl : l.length ≤ 9223372036854775807 := hl
  refine Ev.rounds (g := fun k => laws_FnExactNewChoices.f k l rows t) ?_
  unfold laws_FnExactNewChoices.f
  by_cases c1 : (rows.length : Int) > 1048576
  · refine Ev.congr (fun k => by rw [if_pos c1]) (Ev.now _)
  · refine Ev.congr (fun k => by rw [if_neg c1, szSpace_val l 1048576 (by omega) hl, Option.bind_some]) ?_
    by_cases c2 : (l.length : Int) ≤ 1048576
    · refine Ev.congr (fun k => by rw [if_pos c2, if_neg (by omega)]) ?_
      have hi : impl_NewChoices.f l rows t = some (newChoicesOf l rows t) := by unfold impl_NewChoices.f; rw [if_pos (by omega)]
      have hS := toSpace_ev l (by omega)
      have hI := toInt64S_ev rows (by omega)
      have hle := newChoicesOf_len l rows t
      obtain ⟨r, hrr⟩ : ∃ r, newChoicesOf l rows t = r := ⟨_, rfl⟩
      rw [hrr] at hle hi
      have hsp := spec_NewChoices_ev l rows t (by omega)
      rw [hrr] at hsp
      obtain ⟨r1, r2⟩ := r
      simp only at hle
      have hb : ∀ x : Int, (x != x) = false := fun x => by simp
      refine Ev.bind hS ?_
      refine Ev.bind hI ?_
      refine Ev.bind hsp ?_
      refine Ev.bind hS ?_
      refine Ev.bind hI ?_
      refine Ev.congr (fun k => by rw [hi, Option.bind_some]) ?_
      refine Ev.bind (eqInt64S_ev r1 (by omega)) ?_
      refine Ev.congr (fun k => by rw [if_pos rfl, hb]) ?_
      refine Ev.step (fun k => by simp only [laws_FnExactNewChoices.j0, Bool.false_eq_true, if_false]; rfl) ?_
      refine Ev.bind hS ?_
      refine Ev.bind (eqSpace_ev l (by omega)) ?_
      simp only [if_true]
      refine Ev.bind hI ?_
      refine Ev.bind (eqInt64S_ev rows (by omega)) ?_
      simp only [if_true]
      refine Ev.bind (markSpace_ev l 1 (by omega) (by omega)) ?_
      refine Ev.bind (markInt64S_ev rows (1 + l.length) (by omega) (by omega)) ?_
      refine Ev.congr (fun k => by rw [if_neg (by omega)]) ?_
      refine Ev.bind (eqInt64S_ev r1 (by omega)) ?_
      refine Ev.congr (fun k => by rw [if_pos rfl, hb]) ?_
      refine Ev.step (fun k => by simp only [laws_FnExactNewChoices.j1, Bool.false_eq_true, if_false]; rfl) ?_
      refine Ev.bind (markInt64S_ev r1 1 (by omega) (by omega)) ?_
      refine Ev.bind (heldInt64S_ev r1.length 1 (by omega) (by omega)) ?_
      refine Ev.congr (fun k => by rw [if_neg (by omega), if_pos rfl]) ?_
      refine Ev.bind hS ?_
      refine Ev.bind hI ?_
      refine Ev.congr (fun k => by rw [hi, Option.bind_some]) ?_
      refine Ev.bind (eqInt64S_ev r1 (by omega)) ?_
      refine Ev.congr (fun k => by rw [if_pos rfl, hb]) ?_
      refine Ev.step (fun k => by simp only [laws_FnExactNewChoices.j2, Bool.false_eq_true, if_false]; rfl) ?_
      refine Ev.bind (heldInt64S_ev r1.length 1 (by omega) (by omega)) ?_
      refine Ev.congr (fun k => by rw [if_neg (by omega), if_pos rfl]) ?_
      exact Ev.now _
    · refine Ev.congr (fun k => by rw [if_neg c2, if_pos (by omega)]) (Ev.now _)
end Go.Proofs.Ytionaakahhgdjaa.P
