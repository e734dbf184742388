/-
  The walk of the law, and its plain law: laws.FnValidStartsMore answers true, whatever the arguments (the listed table as the program's text lays it).
-/
import Derived.Test.YtaoeopeempmnnaaDoorKYB1
import Derived.Test.YtaoeopeempmnnaaDoorKYB2
import Derived.Test.YtaoeopeempmnnaaDoorKYB3
import Derived.Test.YtaoeopeempmnnaaDoorKYB4
import Derived.Test.YtaoeopeempmnnaaDoorKYB5
import Derived.Test.YtaoeopeempmnnaaDoorKYB6
namespace Go.Proofs.YtaoeopeempmnnaaDoor.PA
open Go.RowKit Go.Proofs.YtaoeopeempmnnaaDoorW.PrintWords Go.Proofs.YtaoeopeempmnnaaDoorW.PrintLast Go.Proofs.YtaoeopeempmnnaaDoorW.PrintMore
attribute [local go_sem] max2_int min2_int max_two min_two
set_option linter.unusedVariables false
set_option linter.unusedSimpArgs false

mutual
noncomputable def laws_FnValidStartsMore.j0 : Nat → List (S33) → List Int → Int → List Int → Bool → Bool → Option (Bool)
  | 0, _, _, _, _, _, _ => none
  | k + 1, x3, x4, x5, x6, x7, x35 => if x35 = true then ((spec_ValidStarts.f k x3 x4 x5 x6).bind fun t615 => (some (x7 == t615))) else (laws_FnValidStartsMore.l0 k x3 x4 x6 (([] : List Int)) 0)
noncomputable def laws_FnValidStartsMore.l0 : Nat → List (S33) → List Int → List Int → List Int → Int → Option (Bool)
  | 0, _, _, _, _, _ => none
  | k + 1, x3, x4, x6, x8, x9 => if x9 < (x4.length : Int) then (if x8.length < 17592186044416 then (laws_FnValidStartsMore.l0 k x3 x4 x6 (x8 ++ [8]) (wrap64 (x9 + 1))) else (none)) else ((impl_ValidStarts.f x3 x8 4 x6).bind fun t622 => (some t622))
end
noncomputable def laws_FnValidStartsMore.f (k : Nat) (l0 : List Int) : Option (Bool) := if (l0.length : Int) > 1048576 then (some true) else ((spec_DrawValidStarts.f l0).bind fun bt603 => ((impl_ValidStarts.f bt603.1 bt603.2.1 bt603.2.2.1 bt603.2.2.2).bind fun t613 => ((spec_ValidStarts.f k bt603.1 bt603.2.1 bt603.2.2.1 bt603.2.2.2).bind fun t614 => (if (t613 != t614) = true then (laws_FnValidStartsMore.j0 k bt603.1 bt603.2.1 bt603.2.2.1 bt603.2.2.2 t613 true) else (laws_FnValidStartsMore.j0 k bt603.1 bt603.2.1 bt603.2.2.1 bt603.2.2.2 t613 (!t613))))))
set_option maxHeartbeats 8000000 in
set_option maxRecDepth 100000 in
theorem laws_FnValidStartsMore.calls (k : Nat) (A0 : Option Addr) (c0 : Nat) (l0 : List Int) (r : Bool) (w : World) (hT_ : Tab w) (hr0 : Kd.C (Kd.int .u8) w A0 l0.length l0) (hc0 : l0.length ≤ c0) (h : laws_FnValidStartsMore.f k l0 = some r) :
    Calls Tryd.prog 4 #[.slice A0 l0.length c0] w fun e w' => e = .returned (.bool r) ∧ Below w.heap.size w w' := by
  have HR0 := Aside0.mk hr0
  have HC0 := Aside0.mk hc0
  clear hr0 hc0
  have HTab_ := Aside0.mk hT_; clear hT_; have HB := Aside0.mk (Below.refl w.heap.size w)
  have H : (if (l0.length : Int) > 1048576 then (some true) else ((spec_DrawValidStarts.f l0).bind fun bt603 => ((impl_ValidStarts.f bt603.1 bt603.2.1 bt603.2.2.1 bt603.2.2.2).bind fun t613 => ((spec_ValidStarts.f k bt603.1 bt603.2.1 bt603.2.2.1 bt603.2.2.2).bind fun t614 => (if (t613 != t614) = true then (laws_FnValidStartsMore.j0 k bt603.1 bt603.2.1 bt603.2.2.1 bt603.2.2.2 t613 true) else (laws_FnValidStartsMore.j0 k bt603.1 bt603.2.1 bt603.2.2.1 bt603.2.2.2 t613 (!t613))))))) = some r := h
  clear h
  by_cases c2 : (l0.length : Int) > 1048576
  · rw [if_pos c2] at H
    have c2b0 : decide (1048576 < (l0.length : Int)) = true := decide_eq_true c2
    have c2b1 : decide (1048576 < l0.length) = true := decide_eq_true (by omega)
    clear c2
    obtain rfl := Option.some.inj H
    go_enter Tryd.func4, Tryd.ntmps4
    go_wp2
    go_ret
    exact ⟨ze, zb HB.out⟩
  rw [if_neg c2] at H
  have c2b0 : decide (1048576 < (l0.length : Int)) = false := decide_eq_false c2
  have c2b1 : decide (1048576 < l0.length) = false := decide_eq_false (by omega)
  clear c2
  replace H := Option.bind_eq_some_iff.mp H
  obtain ⟨⟨t603, t606, t609, t610⟩, A30, H⟩ := H
  replace H : ((impl_ValidStarts.f t603 t606 t609 t610).bind fun t613 => ((spec_ValidStarts.f k t603 t606 t609 t610).bind fun t614 => (if (t613 != t614) = true then (laws_FnValidStartsMore.j0 k t603 t606 t609 t610 t613 true) else (laws_FnValidStartsMore.j0 k t603 t606 t609 t610 t613 (!t613))))) = some r := H
  have A3 := Aside0.mk A30
  clear A30
  replace H := Option.bind_eq_some_iff.mp H
  obtain ⟨t613, A40, H⟩ := H
  replace H : ((spec_ValidStarts.f k t603 t606 t609 t610).bind fun t614 => (if (t613 != t614) = true then (laws_FnValidStartsMore.j0 k t603 t606 t609 t610 t613 true) else (laws_FnValidStartsMore.j0 k t603 t606 t609 t610 t613 (!t613)))) = some r := H
  have A4 := Aside0.mk A40
  clear A40
  have HC5 := Aside0.mk H
  clear H
  go_enter Tryd.func4, Tryd.ntmps4
  go_upto_region 5 with (first | ((with_reducible refine gate_callee (f := 15) rfl ?_); refine goesL_ (some 15) rfl rfl Tryd.func15 (by kernel_rfl) rfl #[.slice A0 l0.length c0] rfl (by (try simp only [List.map_toArray, List.map_cons, List.map_nil]); first | done | rfl | (simp only [List.length_drop, List.length_take]; rfl)) ?_; (with_reducible refine (spec_DrawValidStarts.calls _ _ l0 t603 t606 t609 t610 _ ?side1 ?side2 A3.out).mono ?_); (case side1 => exact zt HR0.out); (case side2 => exact HC0.out); rintro e w6 ⟨v604, v607, v611, rfl, ho0, ho1, ho2, hb⟩; refine ⟨_, rfl, ?_⟩; have n0_ := Aside0.mk (Kd.V_lower (Kd.V_mono (ok' := fun k_ => True) ho0 (fun k_ hk_ => trivial)) (below_size (zb HB.out))); have n1_ := Aside0.mk (Kd.V_lower (Kd.V_mono (ok' := fun k_ => True) ho1 (fun k_ hk_ => trivial)) (below_size (zb HB.out))); have n2_ := Aside0.mk (Kd.V_lower (Kd.V_mono (ok' := fun k_ => True) ho2 (fun k_ hk_ => trivial)) (below_size (zb HB.out))); have n3_ := Aside0.mk (below_step (zb HB.out) hb); clear HB; have HO605 := n0_; have HO608 := n1_; have HO612 := n2_; have HB := n3_; clear n0_ n1_ n2_ n3_; (try clear hb); (try clear ho0); (try clear ho1); (try clear ho2); obtain ⟨Ao7, co7, eo7⟩ := Kd.V_slice HO605.out; subst eo7; obtain ⟨Ao8, co8, eo8⟩ := Kd.V_slice HO608.out; subst eo8; obtain ⟨Ao9, co9, eo9⟩ := Kd.V_slice HO612.out; subst eo9) | ((with_reducible refine gate_callee (f := 16) rfl ?_); refine goesL_ (some 24) rfl rfl Tryd.func16 (by kernel_rfl) rfl #[.slice Ao7 t603.length co7, .slice Ao8 t606.length co8, .int .i64 t609, .slice Ao9 t610.length co9] rfl (by (try simp only [List.map_toArray, List.map_cons, List.map_nil]); first | done | rfl | (simp only [List.length_drop, List.length_take]; rfl)) ?_; (with_reducible refine (impl_ValidStarts.calls _ _ t603 _ _ t606 t609 _ _ t610 t613 _ ?sideT ?side1 ?side2 ?side3 ?side4 ?side5 ?side6 A4.out).mono ?_); (case sideT => exact Tab.below' HTab_.out (zb HB.out)); (case side1 => repeat (first | exact (Kd.V_reads' HO605.out).2.2 | (with_reducible refine Kd.C_alloc ?_ _) | (with_reducible refine Kd.C_drewN ?_ _) | (with_reducible refine Kd.C_drew ?_))); (case side2 => exact (Kd.V_reads' HO605.out).2.1); (case side3 => repeat (first | exact (Kd.V_reads' HO608.out).2.2 | (with_reducible refine Kd.C_alloc ?_ _) | (with_reducible refine Kd.C_drewN ?_ _) | (with_reducible refine Kd.C_drew ?_))); (case side4 => exact (Kd.V_reads' HO608.out).2.1); (case side5 => repeat (first | exact (Kd.V_reads' HO612.out).2.2 | (with_reducible refine Kd.C_alloc ?_ _) | (with_reducible refine Kd.C_drewN ?_ _) | (with_reducible refine Kd.C_drew ?_))); (case side6 => exact (Kd.V_reads' HO612.out).2.1); rintro e w10 ⟨rfl, hb⟩; refine ⟨_, rfl, ?_⟩; have n0_ := Aside0.mk (Kd.V_below (zv HO605.out) hb); have n1_ := Aside0.mk (Kd.V_below (zv HO608.out) hb); have n2_ := Aside0.mk (Kd.V_below (zv HO612.out) hb); have n3_ := Aside0.mk (below_step (zb HB.out) hb); clear HO605 HO608 HO612 HB; have HO605 := n0_; have HO608 := n1_; have HO612 := n2_; have HB := n3_; clear n0_ n1_ n2_ n3_; (try clear hb); (try clear hb2); (try clear hk); (try clear hi)))
  (try simp only [Act.put, List.setIfInBounds_toArray, List.set_cons_zero, List.set_cons_succ])
  go_cut [35] (fun v35 wc => ∃ (kq : Nat) (x35_4 : Bool), v35 = .bool x35_4 ∧ Aside0 (laws_FnValidStartsMore.j0 kq t603 t606 t609 t610 t613 x35_4 = some r) ∧ Aside0 (kq ≤ k) ∧ Aside0 (Kd.V k33 33 wc w.heap.size (fun _ => True) (.slice Ao7 t603.length co7) t603) ∧ Aside0 (Kd.V (Kd.int .i64) 3 wc w.heap.size (fun _ => True) (.slice Ao8 t606.length co8) t606) ∧ Aside0 (Kd.V (Kd.int .i64) 3 wc w.heap.size (fun _ => True) (.slice Ao9 t610.length co9) t610) ∧ Aside0 (Below w.heap.size w wc))
  case first =>
    have H := HC5.out
    clear HC5
    replace H := Option.bind_eq_some_iff.mp H
    obtain ⟨t614, A110, H⟩ := H
    replace H : (if (t613 != t614) = true then (laws_FnValidStartsMore.j0 k t603 t606 t609 t610 t613 true) else (laws_FnValidStartsMore.j0 k t603 t606 t609 t610 t613 (!t613))) = some r := H
    have A11 := Aside0.mk A110
    clear A110
    by_cases c12 : (t613 != t614) = true
    · rw [if_pos c12] at H
      have c12b0 : (t613 != t614) = true := c12
      (try (have c12b1 : decide (t613 = t614) = false := by simpa using c12))
      (try (have c12b2 : (t613 == t614) = false := by simpa using c12))
      (try (have c12b3 : ¬ (t613 = t614) := by simpa using c12))
      clear c12
      (first | rw [c12b0] | (simp only [i64_w, i32_w]; rw [c12b0]) | skip)
      have H' := Aside0.mk H
      clear H
      go_wp2_with (first | ((with_reducible refine gate_callee (f := 17) rfl ?_); refine goesL_ (some 30) rfl rfl Tryd.func17 (by kernel_rfl) rfl #[.slice Ao7 t603.length co7, .slice Ao8 t606.length co8, .int .i64 t609, .slice Ao9 t610.length co9] rfl (by (try simp only [List.map_toArray, List.map_cons, List.map_nil]); first | done | rfl | (simp only [List.length_drop, List.length_take]; rfl)) ?_; (with_reducible refine (spec_ValidStarts.calls k _ _ t603 _ _ t606 t609 _ _ t610 t614 _ ?side1 ?side2 ?side3 ?side4 ?side5 ?side6 A11.out).mono ?_); (case side1 => repeat (first | exact (Kd.V_reads' HO605.out).2.2 | (with_reducible refine Kd.C_alloc ?_ _) | (with_reducible refine Kd.C_drewN ?_ _) | (with_reducible refine Kd.C_drew ?_))); (case side2 => exact (Kd.V_reads' HO605.out).2.1); (case side3 => repeat (first | exact (Kd.V_reads' HO608.out).2.2 | (with_reducible refine Kd.C_alloc ?_ _) | (with_reducible refine Kd.C_drewN ?_ _) | (with_reducible refine Kd.C_drew ?_))); (case side4 => exact (Kd.V_reads' HO608.out).2.1); (case side5 => repeat (first | exact (Kd.V_reads' HO612.out).2.2 | (with_reducible refine Kd.C_alloc ?_ _) | (with_reducible refine Kd.C_drewN ?_ _) | (with_reducible refine Kd.C_drew ?_))); (case side6 => exact (Kd.V_reads' HO612.out).2.1); rintro e w13 ⟨rfl, hb⟩; refine ⟨_, rfl, ?_⟩; have n0_ := Aside0.mk (Kd.V_below (zv HO605.out) hb); have n1_ := Aside0.mk (Kd.V_below (zv HO608.out) hb); have n2_ := Aside0.mk (Kd.V_below (zv HO612.out) hb); have n3_ := Aside0.mk (below_step (zb HB.out) hb); clear HO605 HO608 HO612 HB; have HO605 := n0_; have HO608 := n1_; have HO612 := n2_; have HB := n3_; clear n0_ n1_ n2_ n3_; (try clear hb); (try clear hb2); (try clear hk); (try clear hi)))
      go_meet
      case rel => exact ⟨_, (true), (zf), H', ⟨by first | omega | exact Nat.le_refl _⟩, ⟨by (with_reducible repeat (first | apply Kd.V_alloc | apply Kd.V_drewN | apply Kd.V_drew)); exact HO605.out⟩, ⟨by (with_reducible repeat (first | apply Kd.V_alloc | apply Kd.V_drewN | apply Kd.V_drew)); exact HO608.out⟩, ⟨by (with_reducible repeat (first | apply Kd.V_alloc | apply Kd.V_drewN | apply Kd.V_drew)); exact HO612.out⟩, ⟨zb HB.out⟩⟩
    rw [if_neg c12] at H
    have c12b0 : (t613 != t614) = false := by simpa using c12
    (try (have c12b1 : decide (t613 = t614) = true := by simpa using c12))
    (try (have c12b2 : (t613 == t614) = true := by simpa using c12))
    clear c12
    (first | rw [c12b0] | (simp only [i64_w, i32_w]; rw [c12b0]) | skip)
    have H' := Aside0.mk H
    clear H
    go_wp2_with (first | ((with_reducible refine gate_callee (f := 17) rfl ?_); refine goesL_ (some 30) rfl rfl Tryd.func17 (by kernel_rfl) rfl #[.slice Ao7 t603.length co7, .slice Ao8 t606.length co8, .int .i64 t609, .slice Ao9 t610.length co9] rfl (by (try simp only [List.map_toArray, List.map_cons, List.map_nil]); first | done | rfl | (simp only [List.length_drop, List.length_take]; rfl)) ?_; (with_reducible refine (spec_ValidStarts.calls k _ _ t603 _ _ t606 t609 _ _ t610 t614 _ ?side1 ?side2 ?side3 ?side4 ?side5 ?side6 A11.out).mono ?_); (case side1 => repeat (first | exact (Kd.V_reads' HO605.out).2.2 | (with_reducible refine Kd.C_alloc ?_ _) | (with_reducible refine Kd.C_drewN ?_ _) | (with_reducible refine Kd.C_drew ?_))); (case side2 => exact (Kd.V_reads' HO605.out).2.1); (case side3 => repeat (first | exact (Kd.V_reads' HO608.out).2.2 | (with_reducible refine Kd.C_alloc ?_ _) | (with_reducible refine Kd.C_drewN ?_ _) | (with_reducible refine Kd.C_drew ?_))); (case side4 => exact (Kd.V_reads' HO608.out).2.1); (case side5 => repeat (first | exact (Kd.V_reads' HO612.out).2.2 | (with_reducible refine Kd.C_alloc ?_ _) | (with_reducible refine Kd.C_drewN ?_ _) | (with_reducible refine Kd.C_drew ?_))); (case side6 => exact (Kd.V_reads' HO612.out).2.1); rintro e w14 ⟨rfl, hb⟩; refine ⟨_, rfl, ?_⟩; have n0_ := Aside0.mk (Kd.V_below (zv HO605.out) hb); have n1_ := Aside0.mk (Kd.V_below (zv HO608.out) hb); have n2_ := Aside0.mk (Kd.V_below (zv HO612.out) hb); have n3_ := Aside0.mk (below_step (zb HB.out) hb); clear HO605 HO608 HO612 HB; have HO605 := n0_; have HO608 := n1_; have HO612 := n2_; have HB := n3_; clear n0_ n1_ n2_ n3_; (try clear hb); (try clear hb2); (try clear hk); (try clear hi)))
    go_meet
    case rel => exact ⟨_, (!t613), (zf), H', ⟨by first | omega | exact Nat.le_refl _⟩, ⟨by (with_reducible repeat (first | apply Kd.V_alloc | apply Kd.V_drewN | apply Kd.V_drew)); exact HO605.out⟩, ⟨by (with_reducible repeat (first | apply Kd.V_alloc | apply Kd.V_drewN | apply Kd.V_drew)); exact HO608.out⟩, ⟨by (with_reducible repeat (first | apply Kd.V_alloc | apply Kd.V_drewN | apply Kd.V_drew)); exact HO612.out⟩, ⟨zb HB.out⟩⟩
  case rest =>
    clear HC5
    try clear c1
    try clear c2
    try clear c2b0
    try clear c2b1
    try clear p2
    try clear c4
    try clear c12
    try clear c12b0
    try clear c12b1
    try clear c12b2
    obtain ⟨kq, x35_4, rfl, HA, HJ4, HO_3, HO_4, HO_6, HB⟩ := hcut
    cases kq with
    | zero => exact absurd HA.out (by simp [laws_FnValidStartsMore.j0])
    | succ kj4 =>
      have H := HA.out
      clear HA
      simp only [laws_FnValidStartsMore.j0] at H
      by_cases c15 : x35_4 = true
      · subst c15
        have H1 : ((spec_ValidStarts.f kj4 t603 t606 t609 t610).bind fun t615 => (some (t613 == t615))) = some r := by rw [if_pos rfl] at H; exact H
        clear H
        have H := H1
        clear H1
        replace H := Option.bind_eq_some_iff.mp H
        obtain ⟨t615, A160, H⟩ := H
        replace H : (some (t613 == t615)) = some r := H
        have A16 := Aside0.mk A160
        clear A160
        obtain rfl := Option.some.inj H
        go_wp2_with (first | ((with_reducible refine gate_callee (f := 17) rfl ?_); refine goesL_ (some 41) rfl rfl Tryd.func17 (by kernel_rfl) rfl #[.slice Ao7 t603.length co7, .slice Ao8 t606.length co8, .int .i64 t609, .slice Ao9 t610.length co9] rfl (by (try simp only [List.map_toArray, List.map_cons, List.map_nil]); first | done | rfl | (simp only [List.length_drop, List.length_take]; rfl)) ?_; (with_reducible refine (spec_ValidStarts.calls kj4 _ _ t603 _ _ t606 t609 _ _ t610 t615 _ ?side1 ?side2 ?side3 ?side4 ?side5 ?side6 A16.out).mono ?_); (case side1 => repeat (first | exact (Kd.V_reads' HO_3.out).2.2 | (with_reducible refine Kd.C_alloc ?_ _) | (with_reducible refine Kd.C_drewN ?_ _) | (with_reducible refine Kd.C_drew ?_))); (case side2 => exact (Kd.V_reads' HO_3.out).2.1); (case side3 => repeat (first | exact (Kd.V_reads' HO_4.out).2.2 | (with_reducible refine Kd.C_alloc ?_ _) | (with_reducible refine Kd.C_drewN ?_ _) | (with_reducible refine Kd.C_drew ?_))); (case side4 => exact (Kd.V_reads' HO_4.out).2.1); (case side5 => repeat (first | exact (Kd.V_reads' HO_6.out).2.2 | (with_reducible refine Kd.C_alloc ?_ _) | (with_reducible refine Kd.C_drewN ?_ _) | (with_reducible refine Kd.C_drew ?_))); (case side6 => exact (Kd.V_reads' HO_6.out).2.1); rintro e w17 ⟨rfl, hb⟩; refine ⟨_, rfl, ?_⟩; have n0_ := Aside0.mk (Kd.V_below (zv HO_3.out) hb); have n1_ := Aside0.mk (Kd.V_below (zv HO_4.out) hb); have n2_ := Aside0.mk (Kd.V_below (zv HO_6.out) hb); have n3_ := Aside0.mk (below_step (zb HB.out) hb); clear HO_3 HO_4 HO_6 HB; have HO_3 := n0_; have HO_4 := n1_; have HO_6 := n2_; have HB := n3_; clear n0_ n1_ n2_ n3_; (try clear hb); (try clear hb2); (try clear hk); (try clear hi)))
        go_ret
        exact ⟨ze, zb HB.out⟩
      replace c15 := Bool.eq_false_iff.mpr c15
      subst c15
      have H1 : (laws_FnValidStartsMore.l0 kj4 t603 t606 t610 (([] : List Int)) 0) = some r := by rw [if_neg (show ¬ (false = true) by decide)] at H; exact H
      clear H
      have H := H1
      clear H1
      obtain ⟨y616, hy616⟩ : ∃ y_ : List Int, y_ = (([] : List Int)) := ⟨_, rfl⟩
      replace H : (laws_FnValidStartsMore.l0 kj4 t603 t606 t610 y616 0) = some r := by first | (rw [hy616]; with_reducible exact H) | (have H2_ := (Option.bind_some _ _).symm.trans H; rw [hy616]; with_reducible exact H2_) | (have H2_ := (Option.bind_some _ _).symm.trans H; with_reducible exact H2_) | with_reducible exact H | (rw [hy616]; exact H) | exact H
      have Ny616 := Aside0.mk hy616
      clear hy616
      have H' := Aside0.mk H
      clear H
      go_wp2_with (first | ((with_reducible refine gate_dst (N := 43) rfl ?_); refine Kd.R_lit (Kd.int .i64) _ 3 ?hg (N := 43) ?hd (xs := ([] : List Int)) (inner := []) (ok := fun _ => True) (okp := fun _ => True) ?hr ?hp (fun _ hk => hk) trivial (Below.refl _ _) (Nat.le_refl _) (by simp) ?_; (case hd => rfl); (case hg => rfl); (case hr => first | (go_simp; done) | (go_simp; rfl)); (case hp => exact (Reps.none _ _)); intro v617 w18 ho19 hb hg_ hnew_; clear hg_ hnew_; (first | rw [← Ny616.out] at ho19 | (simp only [Int.reduceToNat] at ho19; rw [← Ny616.out] at ho19)); have n0_ := Aside0.mk (Kd.V_elder' (zv HO_3.out) (Kd.R_base ho19) hb); have n1_ := Aside0.mk (Kd.V_elder' (zv HO_4.out) (Kd.R_base ho19) hb); have n2_ := Aside0.mk (Kd.V_elder' (zv HO_6.out) (Kd.R_base ho19) hb); have n3_ := Aside0.mk (Kd.R_lower ho19 (below_size (zb HB.out))); have n4_ := Aside0.mk (below_step (zb HB.out) hb); clear HO_3 HO_4 HO_6 HB; have HO_3 := n0_; have HO_4 := n1_; have HO_6 := n2_; have HO618 := n3_; have HB := n4_; clear n0_ n1_ n2_ n3_ n4_; clear hb ho19))
      go_loopg [8, 9] kj4 (fun kq v8 v9 w' => ∃ (x8_2 : List Int) (x9_2 : Int), v9 = .int .i64 x9_2 ∧ Aside0 (laws_FnValidStartsMore.l0 kq t603 t606 t610 x8_2 x9_2 = some r) ∧ Aside0 (kq ≤ kj4) ∧ Aside0 (Kd.V k33 33 w' w.heap.size (fun k_ => some k_ ≠ (v8 : Value).ownBlock) (.slice Ao7 t603.length co7) t603) ∧ Aside0 (Kd.V (Kd.int .i64) 3 w' w.heap.size (fun k_ => some k_ ≠ (v8 : Value).ownBlock) (.slice Ao8 t606.length co8) t606) ∧ Aside0 (Kd.V (Kd.int .i64) 3 w' w.heap.size (fun k_ => some k_ ≠ (v8 : Value).ownBlock) (.slice Ao9 t610.length co9) t610) ∧ Aside0 (Kd.R (Kd.int .i64) 3 w' w.heap.size (fun _ => True) v8 x8_2) ∧ Aside0 (Below w.heap.size w w'))
      case atStart => exact ⟨(y616), (0), (zf), H', ⟨Nat.le_refl _⟩, ⟨by (with_reducible repeat (first | apply Kd.V_alloc | apply Kd.V_drewN | apply Kd.V_drew)); exact Kd.V_mono HO_3.out (fun _ hk => hk.2)⟩, ⟨by (with_reducible repeat (first | apply Kd.V_alloc | apply Kd.V_drewN | apply Kd.V_drew)); exact Kd.V_mono HO_4.out (fun _ hk => hk.2)⟩, ⟨by (with_reducible repeat (first | apply Kd.V_alloc | apply Kd.V_drewN | apply Kd.V_drew)); exact Kd.V_mono HO_6.out (fun _ hk => hk.2)⟩, ⟨by (with_reducible repeat (first | apply Kd.R_alloc | apply Kd.R_drewN | apply Kd.R_drew)); exact HO618.out⟩, ⟨zb HB.out⟩⟩
      case round =>
        clear H'
        try clear c1
        try clear c2
        try clear c2b0
        try clear c2b1
        try clear p2
        try clear c4
        try clear c12
        try clear c12b0
        try clear c12b1
        try clear c12b2
        try clear c15
        try clear c16
        try clear c17
        try clear p2
        obtain ⟨x8_2, x9_2, rfl, HA, HK2, HO_3, HO_4, HO_6, HO_8, HB⟩ := hrel
        cases gk with
        | zero => exact absurd HA.out (by simp [laws_FnValidStartsMore.l0])
        | succ k2 =>
          have H := HA.out
          clear HA
          simp only [laws_FnValidStartsMore.l0] at H
          by_cases c20 : x9_2 < (t606.length : Int)
          · rw [if_pos c20] at H
            have c20b0 : decide (x9_2 < (t606.length : Int)) = true := decide_eq_true c20
            clear c20
            by_cases c21 : x8_2.length < 17592186044416
            · rw [if_pos c21] at H
              have LMc21 := Aside0.mk c21
              clear c21
              obtain ⟨y619, hy619⟩ : ∃ y_ : List Int, y_ = (x8_2 ++ [8]) := ⟨_, rfl⟩
              replace H : (laws_FnValidStartsMore.l0 k2 t603 t606 t610 y619 (wrap64 (x9_2 + 1))) = some r := by first | (rw [hy619]; with_reducible exact H) | (have H2_ := (Option.bind_some _ _).symm.trans H; rw [hy619]; with_reducible exact H2_) | (have H2_ := (Option.bind_some _ _).symm.trans H; with_reducible exact H2_) | with_reducible exact H | (rw [hy619]; exact H) | exact H
              have Ny619 := Aside0.mk hy619
              clear hy619
              have H' := Aside0.mk H
              clear H
              go_wp2_with (first | ((with_reducible refine gate_builtin (b := .append) (xs := #[.tmp 50, .tmp 51]) rfl ?_); at_builtin; refine Kd.R_append (Kd.int .i64) (w0 := w) w.heap.size rfl (.tmp 50) (.tmp 51) 24 3 (.int .i64 0) 8 rfl Tryd.underlying24 info3 rfl (by decide) (by omega) u8 x8_2 8 [.int .i64 8] (fun _ => True) (fun _ => False) rfl rfl ?aP (fun _ hk => hk.elim) ?aF ?aO ?aB ?aS ?aL ?_; (case aP => exact rfl); (case aB => exact (zb HB.out)); (case aF => exact (fun _ _ => trivial)); (case aO => exact (zr HO_8.out)); (case aS => exact (below_size (zb HB.out))); (case aL => have := LMc21.out; omega); intro v620 w22 ho hb hg hat; rw [← Ny619.out] at ho; have n0_ := Aside0.mk (Kd.V_afterv (ok := (fun _ => True)) (by (with_reducible repeat (first | apply Kd.V_alloc | apply Kd.V_drewN | apply Kd.V_drew)); exact Kd.V_mono HO_3.out (fun _ hk => ⟨trivial, hk⟩)) hg hat); have n1_ := Aside0.mk (Kd.V_afterv (ok := (fun _ => True)) (by (with_reducible repeat (first | apply Kd.V_alloc | apply Kd.V_drewN | apply Kd.V_drew)); exact Kd.V_mono HO_4.out (fun _ hk => ⟨trivial, hk⟩)) hg hat); have n2_ := Aside0.mk (Kd.V_afterv (ok := (fun _ => True)) (by (with_reducible repeat (first | apply Kd.V_alloc | apply Kd.V_drewN | apply Kd.V_drew)); exact Kd.V_mono HO_6.out (fun _ hk => ⟨trivial, hk⟩)) hg hat); have n3_ := Aside0.mk (hb); have n4_ := Aside0.mk (ho); clear HO_3 HO_4 HO_6 HB HO_8; have HO_3 := n0_; have HO_4 := n1_; have HO_6 := n2_; have HB := n3_; have HO621 := n4_; clear n0_ n1_ n2_ n3_ n4_; clear ho hb hg hat))
              go_roundg k2
              case measure => have := HJ4.out; have := HK2.out; omega
              case rel => exact ⟨(y619), (wrap64 (x9_2 + 1)), (zf), H', ⟨by have := HJ4.out; have := HK2.out; omega⟩, ⟨by (with_reducible repeat (first | apply Kd.V_alloc | apply Kd.V_drewN | apply Kd.V_drew)); exact Kd.V_mono HO_3.out (fun _ hk => hk.2)⟩, ⟨by (with_reducible repeat (first | apply Kd.V_alloc | apply Kd.V_drewN | apply Kd.V_drew)); exact Kd.V_mono HO_4.out (fun _ hk => hk.2)⟩, ⟨by (with_reducible repeat (first | apply Kd.V_alloc | apply Kd.V_drewN | apply Kd.V_drew)); exact Kd.V_mono HO_6.out (fun _ hk => hk.2)⟩, ⟨by (with_reducible repeat (first | apply Kd.R_alloc | apply Kd.R_drewN | apply Kd.R_drew)); exact HO621.out⟩, ⟨zb HB.out⟩⟩
            rw [if_neg c21] at H
            exact absurd H (by simp)
          rw [if_neg c20] at H
          have c20b0 : decide (x9_2 < (t606.length : Int)) = false := decide_eq_false c20
          clear c20
          replace H := Option.bind_eq_some_iff.mp H
          obtain ⟨t622, A230, H⟩ := H
          replace H : (some t622) = some r := H
          have A23 := Aside0.mk A230
          clear A230
          obtain rfl := Option.some.inj H
          obtain ⟨Ao24, co24, eo24⟩ := Kd.R_slice HO_8.out
          subst eo24
          go_wp2_with (first | ((with_reducible refine gate_callee (f := 16) rfl ?_); refine goesL_ (some 56) rfl rfl Tryd.func16 (by kernel_rfl) rfl #[.slice Ao7 t603.length co7, .slice Ao24 x8_2.length co24, .int .i64 4, .slice Ao9 t610.length co9] rfl (by (try simp only [List.map_toArray, List.map_cons, List.map_nil]); first | done | rfl | (simp only [List.length_drop, List.length_take]; rfl)) ?_; (with_reducible refine (impl_ValidStarts.calls _ _ t603 _ _ x8_2 4 _ _ t610 t622 _ ?sideT ?side1 ?side2 ?side3 ?side4 ?side5 ?side6 A23.out).mono ?_); (case sideT => exact Tab.below' HTab_.out (zb HB.out)); (case side1 => repeat (first | exact (Kd.V_reads' HO_3.out).2.2 | (with_reducible refine Kd.C_alloc ?_ _) | (with_reducible refine Kd.C_drewN ?_ _) | (with_reducible refine Kd.C_drew ?_))); (case side2 => exact (Kd.V_reads' HO_3.out).2.1); (case side3 => exact zt (Kd.R_reads' HO_8.out).2.2); (case side4 => exact (Kd.R_reads' HO_8.out).2.1); (case side5 => repeat (first | exact (Kd.V_reads' HO_6.out).2.2 | (with_reducible refine Kd.C_alloc ?_ _) | (with_reducible refine Kd.C_drewN ?_ _) | (with_reducible refine Kd.C_drew ?_))); (case side6 => exact (Kd.V_reads' HO_6.out).2.1); rintro e w25 ⟨rfl, hb⟩; refine ⟨_, rfl, ?_⟩; have n0_ := Aside0.mk (Kd.V_below (zv HO_3.out) hb); have n1_ := Aside0.mk (Kd.V_below (zv HO_4.out) hb); have n2_ := Aside0.mk (Kd.V_below (zv HO_6.out) hb); have n3_ := Aside0.mk (Kd.R_below (zr HO_8.out) hb); have n4_ := Aside0.mk (below_step (zb HB.out) hb); clear HO_3 HO_4 HO_6 HO_8 HB; have HO_3 := n0_; have HO_4 := n1_; have HO_6 := n2_; have HO_8 := n3_; have HB := n4_; clear n0_ n1_ n2_ n3_ n4_; (try clear hb); (try clear hb2); (try clear hk); (try clear hi)))
          go_ret
          exact ⟨ze, zb HB.out⟩

end Go.Proofs.YtaoeopeempmnnaaDoor.PA

/-
  PLAIN: the law FnValidStartsMore answers true.
-/
namespace Go.Proofs.YtaoeopeempmnnaaDoor
open Go Go.RowKit Go.Proofs.YtaoeopeempmnnaaDoor.M Go.Proofs.YtaoeopeempmnnaaDoorW.PrintWords Go.Proofs.YtaoeopeempmnnaaDoorW.PrintLast Go.Proofs.YtaoeopeempmnnaaDoorW.PrintMore Go.Proofs.YtaoeopeempmnnaaDoor.PA
set_option linter.unusedSimpArgs false
set_option linter.unusedVariables false

theorem vm_l0 (g : List TkD) (room : List Int) (wk : Int) (st : List Int) (hF : Fine g room wk st) (hr8 : room.length ≤ 8) : ∀ (r i : Nat) (x : List Int), i + r = room.length → x = List.replicate i 8 → Gives (fun k => laws_FnValidStartsMore.l0 k g room st x (i : Int)) true
  | 0, i, x, h, hx => by
    refine Gives.of_succ (fun k => by rw [laws_FnValidStartsMore.l0]) ?_
    refine Gives.neg (by omega) ?_
    rw [show i = room.length by omega] at hx
    have h2 := (starts_fine g x 4 st).2 (by rw [hx]; exact hF.more)
    refine Gives.bind (v := true) (Gives.now (by unfold impl_ValidStarts.f; rw [h2])) (Gives.const _)
  | r + 1, i, x, h, hx => by
    have hxl : x.length ≤ 8 := by rw [hx]; simp; omega
    refine Gives.of_succ (fun k => by rw [laws_FnValidStartsMore.l0]) ?_
    refine Gives.pos (by omega) (Gives.pos (by omega) ?_)
    rw [wrap_succ i (by omega)]
    exact vm_l0 g room wk st hF hr8 r (i + 1) _ (by omega) (by rw [hx, List.replicate_succ'])
theorem lawVM_gives (l0 : List Int) (hw : ∀ x ∈ l0, (Lit.int .u8 x).wf = true) : Gives (fun k => laws_FnValidStartsMore.f k l0) true := by
  unfold laws_FnValidStartsMore.f
  by_cases c1 : (l0.length : Int) > 1048576
  · exact Gives.pos c1 (Gives.const _)
  refine Gives.neg c1 ?_
  obtain ⟨⟨g, room, wk, st⟩, hv, hd⟩ := draw_ok l0 hw
  obtain ⟨s1, s2, s3, s4⟩ := hd.small
  have hS := specValidStarts_gives g room wk st s1 s2 s3 s4
  refine Gives.bind (Gives.now hv) ?_
  refine Gives.bind (v := (startsM g room wk st).isSome) (Gives.now rfl) ?_
  refine Gives.bind hS ?_
  refine Gives.neg (by simp) ?_
  simp only
  cases hB : (startsM g room wk st).isSome with
  | false =>
    rw [hB] at hS
    refine Gives.of_succ (fun k => by rw [laws_FnValidStartsMore.j0]) ?_
    exact Gives.pos rfl (Gives.bind hS (Gives.const _))
  | true =>
    refine Gives.of_succ (fun k => by rw [laws_FnValidStartsMore.j0]) ?_
    exact Gives.neg (by simp) (vm_l0 g room wk st ((starts_fine g room wk st).1 hB) hd.hr room.length 0 [] (by omega) rfl)
end Go.Proofs.YtaoeopeempmnnaaDoor

