/-
  The walk of the law, and its plain law: laws.FnValidStarts answers true, whatever the arguments (the listed table as the program's text lays it).
-/
import Derived.Test.YtaoeopeempmnnaaDoorKYB1
import Derived.Test.YtaoeopeempmnnaaDoorKYB2
import Derived.Test.YtaoeopeempmnnaaDoorKYB3
import Derived.Test.YtaoeopeempmnnaaDoorKYB4
import Derived.Test.YtaoeopeempmnnaaDoorKYB5
import Derived.Test.YtaoeopeempmnnaaDoorKYB6
namespace Go.Proofs.YtaoeopeempmnnaaDoor.PA
open Go.RowKit Go.Proofs.YtaoeopeempmnnaaDoorW.PrintWords Go.Proofs.YtaoeopeempmnnaaDoorW.PrintLast Go.Proofs.YtaoeopeempmnnaaDoorW.PrintMore
attribute [local go_sem] max2_int min2_int max_two min_two
set_option linter.unusedVariables false
set_option linter.unusedSimpArgs false

mutual
noncomputable def laws_FnValidStarts.j0 : Nat → List (S33) → List Int → Int → List Int → Bool → Bool → Option (Bool)
  | 0, _, _, _, _, _, _ => none
  | k + 1, x3, x4, x5, x6, x7, x35 => if x35 = true then ((spec_ValidStarts.f k x3 x4 x5 x6).bind fun t593 => (some (x7 == t593))) else (laws_FnValidStarts.l0 k x3 x4 x5 x6 (([] : List Int)) 0)
noncomputable def laws_FnValidStarts.l0 : Nat → List (S33) → List Int → Int → List Int → List Int → Int → Option (Bool)
  | 0, _, _, _, _, _, _ => none
  | k + 1, x3, x4, x5, x6, x8, x9 => if x9 < (x6.length : Int) then (if 0 ≤ x9 then (if (rd x6 x9) = 200 then (some true) else (if x8.length < 17592186044416 then (laws_FnValidStarts.l0 k x3 x4 x5 x6 (x8 ++ [wrap64 ((rd x6 x9) + 1)]) (wrap64 (x9 + 1))) else (none))) else (none)) else ((impl_ValidStarts.f x3 x4 x5 x8).bind fun t602 => (some t602))
end
noncomputable def laws_FnValidStarts.f (k : Nat) (l0 : List Int) : Option (Bool) := if (l0.length : Int) > 1048576 then (some true) else ((spec_DrawValidStarts.f l0).bind fun bt581 => ((impl_ValidStarts.f bt581.1 bt581.2.1 bt581.2.2.1 bt581.2.2.2).bind fun t591 => ((spec_ValidStarts.f k bt581.1 bt581.2.1 bt581.2.2.1 bt581.2.2.2).bind fun t592 => (if (t591 != t592) = true then (laws_FnValidStarts.j0 k bt581.1 bt581.2.1 bt581.2.2.1 bt581.2.2.2 t591 true) else (laws_FnValidStarts.j0 k bt581.1 bt581.2.1 bt581.2.2.1 bt581.2.2.2 t591 (!t591))))))
set_option maxHeartbeats 8000000 in
set_option maxRecDepth 100000 in
theorem laws_FnValidStarts.calls (k : Nat) (A0 : Option Addr) (c0 : Nat) (l0 : List Int) (r : Bool) (w : World) (hT_ : Tab w) (hr0 : Kd.C (Kd.int .u8) w A0 l0.length l0) (hc0 : l0.length ≤ c0) (h : laws_FnValidStarts.f k l0 = some r) :
    Calls Tryd.prog 3 #[.slice A0 l0.length c0] w fun e w' => e = .returned (.bool r) ∧ Below w.heap.size w w' := by
  have HR0 := Aside0.mk hr0
  have HC0 := Aside0.mk hc0
  clear hr0 hc0
  have HTab_ := Aside0.mk hT_; clear hT_; have HB := Aside0.mk (Below.refl w.heap.size w)
  have H : (if (l0.length : Int) > 1048576 then (some true) else ((spec_DrawValidStarts.f l0).bind fun bt581 => ((impl_ValidStarts.f bt581.1 bt581.2.1 bt581.2.2.1 bt581.2.2.2).bind fun t591 => ((spec_ValidStarts.f k bt581.1 bt581.2.1 bt581.2.2.1 bt581.2.2.2).bind fun t592 => (if (t591 != t592) = true then (laws_FnValidStarts.j0 k bt581.1 bt581.2.1 bt581.2.2.1 bt581.2.2.2 t591 true) else (laws_FnValidStarts.j0 k bt581.1 bt581.2.1 bt581.2.2.1 bt581.2.2.2 t591 (!t591))))))) = some r := h
  clear h
  by_cases c2 : (l0.length : Int) > 1048576
  · rw [if_pos c2] at H
    have c2b0 : decide (1048576 < (l0.length : Int)) = true := decide_eq_true c2
    have c2b1 : decide (1048576 < l0.length) = true := decide_eq_true (by omega)
    clear c2
    obtain rfl := Option.some.inj H
    go_enter Tryd.func3, Tryd.ntmps3
    go_wp2
    go_ret
    exact ⟨ze, zb HB.out⟩
  rw [if_neg c2] at H
  have c2b0 : decide (1048576 < (l0.length : Int)) = false := decide_eq_false c2
  have c2b1 : decide (1048576 < l0.length) = false := decide_eq_false (by omega)
  clear c2
  replace H := Option.bind_eq_some_iff.mp H
  obtain ⟨⟨t581, t584, t587, t588⟩, A30, H⟩ := H
  replace H : ((impl_ValidStarts.f t581 t584 t587 t588).bind fun t591 => ((spec_ValidStarts.f k t581 t584 t587 t588).bind fun t592 => (if (t591 != t592) = true then (laws_FnValidStarts.j0 k t581 t584 t587 t588 t591 true) else (laws_FnValidStarts.j0 k t581 t584 t587 t588 t591 (!t591))))) = some r := H
  have A3 := Aside0.mk A30
  clear A30
  replace H := Option.bind_eq_some_iff.mp H
  obtain ⟨t591, A40, H⟩ := H
  replace H : ((spec_ValidStarts.f k t581 t584 t587 t588).bind fun t592 => (if (t591 != t592) = true then (laws_FnValidStarts.j0 k t581 t584 t587 t588 t591 true) else (laws_FnValidStarts.j0 k t581 t584 t587 t588 t591 (!t591)))) = some r := H
  have A4 := Aside0.mk A40
  clear A40
  have HC5 := Aside0.mk H
  clear H
  go_enter Tryd.func3, Tryd.ntmps3
  go_upto_region 5 with (first | ((with_reducible refine gate_callee (f := 15) rfl ?_); refine goesL_ (some 15) rfl rfl Tryd.func15 (by kernel_rfl) rfl #[.slice A0 l0.length c0] rfl (by (try simp only [List.map_toArray, List.map_cons, List.map_nil]); first | done | rfl | (simp only [List.length_drop, List.length_take]; rfl)) ?_; (with_reducible refine (spec_DrawValidStarts.calls _ _ l0 t581 t584 t587 t588 _ ?side1 ?side2 A3.out).mono ?_); (case side1 => exact zt HR0.out); (case side2 => exact HC0.out); rintro e w6 ⟨v582, v585, v589, rfl, ho0, ho1, ho2, hb⟩; refine ⟨_, rfl, ?_⟩; have n0_ := Aside0.mk (Kd.V_lower (Kd.V_mono (ok' := fun k_ => True) ho0 (fun k_ hk_ => trivial)) (below_size (zb HB.out))); have n1_ := Aside0.mk (Kd.V_lower (Kd.V_mono (ok' := fun k_ => True) ho1 (fun k_ hk_ => trivial)) (below_size (zb HB.out))); have n2_ := Aside0.mk (Kd.V_lower (Kd.V_mono (ok' := fun k_ => True) ho2 (fun k_ hk_ => trivial)) (below_size (zb HB.out))); have n3_ := Aside0.mk (below_step (zb HB.out) hb); clear HB; have HO583 := n0_; have HO586 := n1_; have HO590 := n2_; have HB := n3_; clear n0_ n1_ n2_ n3_; (try clear hb); (try clear ho0); (try clear ho1); (try clear ho2); obtain ⟨Ao7, co7, eo7⟩ := Kd.V_slice HO583.out; subst eo7; obtain ⟨Ao8, co8, eo8⟩ := Kd.V_slice HO586.out; subst eo8; obtain ⟨Ao9, co9, eo9⟩ := Kd.V_slice HO590.out; subst eo9) | ((with_reducible refine gate_callee (f := 16) rfl ?_); refine goesL_ (some 24) rfl rfl Tryd.func16 (by kernel_rfl) rfl #[.slice Ao7 t581.length co7, .slice Ao8 t584.length co8, .int .i64 t587, .slice Ao9 t588.length co9] rfl (by (try simp only [List.map_toArray, List.map_cons, List.map_nil]); first | done | rfl | (simp only [List.length_drop, List.length_take]; rfl)) ?_; (with_reducible refine (impl_ValidStarts.calls _ _ t581 _ _ t584 t587 _ _ t588 t591 _ ?sideT ?side1 ?side2 ?side3 ?side4 ?side5 ?side6 A4.out).mono ?_); (case sideT => exact Tab.below' HTab_.out (zb HB.out)); (case side1 => repeat (first | exact (Kd.V_reads' HO583.out).2.2 | (with_reducible refine Kd.C_alloc ?_ _) | (with_reducible refine Kd.C_drewN ?_ _) | (with_reducible refine Kd.C_drew ?_))); (case side2 => exact (Kd.V_reads' HO583.out).2.1); (case side3 => repeat (first | exact (Kd.V_reads' HO586.out).2.2 | (with_reducible refine Kd.C_alloc ?_ _) | (with_reducible refine Kd.C_drewN ?_ _) | (with_reducible refine Kd.C_drew ?_))); (case side4 => exact (Kd.V_reads' HO586.out).2.1); (case side5 => repeat (first | exact (Kd.V_reads' HO590.out).2.2 | (with_reducible refine Kd.C_alloc ?_ _) | (with_reducible refine Kd.C_drewN ?_ _) | (with_reducible refine Kd.C_drew ?_))); (case side6 => exact (Kd.V_reads' HO590.out).2.1); rintro e w10 ⟨rfl, hb⟩; refine ⟨_, rfl, ?_⟩; have n0_ := Aside0.mk (Kd.V_below (zv HO583.out) hb); have n1_ := Aside0.mk (Kd.V_below (zv HO586.out) hb); have n2_ := Aside0.mk (Kd.V_below (zv HO590.out) hb); have n3_ := Aside0.mk (below_step (zb HB.out) hb); clear HO583 HO586 HO590 HB; have HO583 := n0_; have HO586 := n1_; have HO590 := n2_; have HB := n3_; clear n0_ n1_ n2_ n3_; (try clear hb); (try clear hb2); (try clear hk); (try clear hi)))
  (try simp only [Act.put, List.setIfInBounds_toArray, List.set_cons_zero, List.set_cons_succ])
  go_cut [35] (fun v35 wc => ∃ (kq : Nat) (x35_4 : Bool), v35 = .bool x35_4 ∧ Aside0 (laws_FnValidStarts.j0 kq t581 t584 t587 t588 t591 x35_4 = some r) ∧ Aside0 (kq ≤ k) ∧ Aside0 (Kd.V k33 33 wc w.heap.size (fun _ => True) (.slice Ao7 t581.length co7) t581) ∧ Aside0 (Kd.V (Kd.int .i64) 3 wc w.heap.size (fun _ => True) (.slice Ao8 t584.length co8) t584) ∧ Aside0 (Kd.V (Kd.int .i64) 3 wc w.heap.size (fun _ => True) (.slice Ao9 t588.length co9) t588) ∧ Aside0 (Below w.heap.size w wc))
  case first =>
    have H := HC5.out
    clear HC5
    replace H := Option.bind_eq_some_iff.mp H
    obtain ⟨t592, A110, H⟩ := H
    replace H : (if (t591 != t592) = true then (laws_FnValidStarts.j0 k t581 t584 t587 t588 t591 true) else (laws_FnValidStarts.j0 k t581 t584 t587 t588 t591 (!t591))) = some r := H
    have A11 := Aside0.mk A110
    clear A110
    by_cases c12 : (t591 != t592) = true
    · rw [if_pos c12] at H
      have c12b0 : (t591 != t592) = true := c12
      (try (have c12b1 : decide (t591 = t592) = false := by simpa using c12))
      (try (have c12b2 : (t591 == t592) = false := by simpa using c12))
      (try (have c12b3 : ¬ (t591 = t592) := by simpa using c12))
      clear c12
      (first | rw [c12b0] | (simp only [i64_w, i32_w]; rw [c12b0]) | skip)
      have H' := Aside0.mk H
      clear H
      go_wp2_with (first | ((with_reducible refine gate_callee (f := 17) rfl ?_); refine goesL_ (some 30) rfl rfl Tryd.func17 (by kernel_rfl) rfl #[.slice Ao7 t581.length co7, .slice Ao8 t584.length co8, .int .i64 t587, .slice Ao9 t588.length co9] rfl (by (try simp only [List.map_toArray, List.map_cons, List.map_nil]); first | done | rfl | (simp only [List.length_drop, List.length_take]; rfl)) ?_; (with_reducible refine (spec_ValidStarts.calls k _ _ t581 _ _ t584 t587 _ _ t588 t592 _ ?side1 ?side2 ?side3 ?side4 ?side5 ?side6 A11.out).mono ?_); (case side1 => repeat (first | exact (Kd.V_reads' HO583.out).2.2 | (with_reducible refine Kd.C_alloc ?_ _) | (with_reducible refine Kd.C_drewN ?_ _) | (with_reducible refine Kd.C_drew ?_))); (case side2 => exact (Kd.V_reads' HO583.out).2.1); (case side3 => repeat (first | exact (Kd.V_reads' HO586.out).2.2 | (with_reducible refine Kd.C_alloc ?_ _) | (with_reducible refine Kd.C_drewN ?_ _) | (with_reducible refine Kd.C_drew ?_))); (case side4 => exact (Kd.V_reads' HO586.out).2.1); (case side5 => repeat (first | exact (Kd.V_reads' HO590.out).2.2 | (with_reducible refine Kd.C_alloc ?_ _) | (with_reducible refine Kd.C_drewN ?_ _) | (with_reducible refine Kd.C_drew ?_))); (case side6 => exact (Kd.V_reads' HO590.out).2.1); rintro e w13 ⟨rfl, hb⟩; refine ⟨_, rfl, ?_⟩; have n0_ := Aside0.mk (Kd.V_below (zv HO583.out) hb); have n1_ := Aside0.mk (Kd.V_below (zv HO586.out) hb); have n2_ := Aside0.mk (Kd.V_below (zv HO590.out) hb); have n3_ := Aside0.mk (below_step (zb HB.out) hb); clear HO583 HO586 HO590 HB; have HO583 := n0_; have HO586 := n1_; have HO590 := n2_; have HB := n3_; clear n0_ n1_ n2_ n3_; (try clear hb); (try clear hb2); (try clear hk); (try clear hi)))
      go_meet
      case rel => exact ⟨_, (true), (zf), H', ⟨by first | omega | exact Nat.le_refl _⟩, ⟨by (with_reducible repeat (first | apply Kd.V_alloc | apply Kd.V_drewN | apply Kd.V_drew)); exact HO583.out⟩, ⟨by (with_reducible repeat (first | apply Kd.V_alloc | apply Kd.V_drewN | apply Kd.V_drew)); exact HO586.out⟩, ⟨by (with_reducible repeat (first | apply Kd.V_alloc | apply Kd.V_drewN | apply Kd.V_drew)); exact HO590.out⟩, ⟨zb HB.out⟩⟩
    rw [if_neg c12] at H
    have c12b0 : (t591 != t592) = false := by simpa using c12
    (try (have c12b1 : decide (t591 = t592) = true := by simpa using c12))
    (try (have c12b2 : (t591 == t592) = true := by simpa using c12))
    clear c12
    (first | rw [c12b0] | (simp only [i64_w, i32_w]; rw [c12b0]) | skip)
    have H' := Aside0.mk H
    clear H
    go_wp2_with (first | ((with_reducible refine gate_callee (f := 17) rfl ?_); refine goesL_ (some 30) rfl rfl Tryd.func17 (by kernel_rfl) rfl #[.slice Ao7 t581.length co7, .slice Ao8 t584.length co8, .int .i64 t587, .slice Ao9 t588.length co9] rfl (by (try simp only [List.map_toArray, List.map_cons, List.map_nil]); first | done | rfl | (simp only [List.length_drop, List.length_take]; rfl)) ?_; (with_reducible refine (spec_ValidStarts.calls k _ _ t581 _ _ t584 t587 _ _ t588 t592 _ ?side1 ?side2 ?side3 ?side4 ?side5 ?side6 A11.out).mono ?_); (case side1 => repeat (first | exact (Kd.V_reads' HO583.out).2.2 | (with_reducible refine Kd.C_alloc ?_ _) | (with_reducible refine Kd.C_drewN ?_ _) | (with_reducible refine Kd.C_drew ?_))); (case side2 => exact (Kd.V_reads' HO583.out).2.1); (case side3 => repeat (first | exact (Kd.V_reads' HO586.out).2.2 | (with_reducible refine Kd.C_alloc ?_ _) | (with_reducible refine Kd.C_drewN ?_ _) | (with_reducible refine Kd.C_drew ?_))); (case side4 => exact (Kd.V_reads' HO586.out).2.1); (case side5 => repeat (first | exact (Kd.V_reads' HO590.out).2.2 | (with_reducible refine Kd.C_alloc ?_ _) | (with_reducible refine Kd.C_drewN ?_ _) | (with_reducible refine Kd.C_drew ?_))); (case side6 => exact (Kd.V_reads' HO590.out).2.1); rintro e w14 ⟨rfl, hb⟩; refine ⟨_, rfl, ?_⟩; have n0_ := Aside0.mk (Kd.V_below (zv HO583.out) hb); have n1_ := Aside0.mk (Kd.V_below (zv HO586.out) hb); have n2_ := Aside0.mk (Kd.V_below (zv HO590.out) hb); have n3_ := Aside0.mk (below_step (zb HB.out) hb); clear HO583 HO586 HO590 HB; have HO583 := n0_; have HO586 := n1_; have HO590 := n2_; have HB := n3_; clear n0_ n1_ n2_ n3_; (try clear hb); (try clear hb2); (try clear hk); (try clear hi)))
    go_meet
    case rel => exact ⟨_, (!t591), (zf), H', ⟨by first | omega | exact Nat.le_refl _⟩, ⟨by (with_reducible repeat (first | apply Kd.V_alloc | apply Kd.V_drewN | apply Kd.V_drew)); exact HO583.out⟩, ⟨by (with_reducible repeat (first | apply Kd.V_alloc | apply Kd.V_drewN | apply Kd.V_drew)); exact HO586.out⟩, ⟨by (with_reducible repeat (first | apply Kd.V_alloc | apply Kd.V_drewN | apply Kd.V_drew)); exact HO590.out⟩, ⟨zb HB.out⟩⟩
  case rest =>
    clear HC5
    try clear c1
    try clear c2
    try clear c2b0
    try clear c2b1
    try clear p2
    try clear c3
    try clear c12
    try clear c12b0
    try clear c12b1
    try clear c12b2
    obtain ⟨kq, x35_4, rfl, HA, HJ4, HO_3, HO_4, HO_6, HB⟩ := hcut
    cases kq with
    | zero => exact absurd HA.out (by simp [laws_FnValidStarts.j0])
    | succ kj4 =>
      have H := HA.out
      clear HA
      simp only [laws_FnValidStarts.j0] at H
      by_cases c15 : x35_4 = true
      · subst c15
        have H1 : ((spec_ValidStarts.f kj4 t581 t584 t587 t588).bind fun t593 => (some (t591 == t593))) = some r := by rw [if_pos rfl] at H; exact H
        clear H
        have H := H1
        clear H1
        replace H := Option.bind_eq_some_iff.mp H
        obtain ⟨t593, A160, H⟩ := H
        replace H : (some (t591 == t593)) = some r := H
        have A16 := Aside0.mk A160
        clear A160
        obtain rfl := Option.some.inj H
        go_wp2_with (first | ((with_reducible refine gate_callee (f := 17) rfl ?_); refine goesL_ (some 41) rfl rfl Tryd.func17 (by kernel_rfl) rfl #[.slice Ao7 t581.length co7, .slice Ao8 t584.length co8, .int .i64 t587, .slice Ao9 t588.length co9] rfl (by (try simp only [List.map_toArray, List.map_cons, List.map_nil]); first | done | rfl | (simp only [List.length_drop, List.length_take]; rfl)) ?_; (with_reducible refine (spec_ValidStarts.calls kj4 _ _ t581 _ _ t584 t587 _ _ t588 t593 _ ?side1 ?side2 ?side3 ?side4 ?side5 ?side6 A16.out).mono ?_); (case side1 => repeat (first | exact (Kd.V_reads' HO_3.out).2.2 | (with_reducible refine Kd.C_alloc ?_ _) | (with_reducible refine Kd.C_drewN ?_ _) | (with_reducible refine Kd.C_drew ?_))); (case side2 => exact (Kd.V_reads' HO_3.out).2.1); (case side3 => repeat (first | exact (Kd.V_reads' HO_4.out).2.2 | (with_reducible refine Kd.C_alloc ?_ _) | (with_reducible refine Kd.C_drewN ?_ _) | (with_reducible refine Kd.C_drew ?_))); (case side4 => exact (Kd.V_reads' HO_4.out).2.1); (case side5 => repeat (first | exact (Kd.V_reads' HO_6.out).2.2 | (with_reducible refine Kd.C_alloc ?_ _) | (with_reducible refine Kd.C_drewN ?_ _) | (with_reducible refine Kd.C_drew ?_))); (case side6 => exact (Kd.V_reads' HO_6.out).2.1); rintro e w17 ⟨rfl, hb⟩; refine ⟨_, rfl, ?_⟩; have n0_ := Aside0.mk (Kd.V_below (zv HO_3.out) hb); have n1_ := Aside0.mk (Kd.V_below (zv HO_4.out) hb); have n2_ := Aside0.mk (Kd.V_below (zv HO_6.out) hb); have n3_ := Aside0.mk (below_step (zb HB.out) hb); clear HO_3 HO_4 HO_6 HB; have HO_3 := n0_; have HO_4 := n1_; have HO_6 := n2_; have HB := n3_; clear n0_ n1_ n2_ n3_; (try clear hb); (try clear hb2); (try clear hk); (try clear hi)))
        go_ret
        exact ⟨ze, zb HB.out⟩
      replace c15 := Bool.eq_false_iff.mpr c15
      subst c15
      have H1 : (laws_FnValidStarts.l0 kj4 t581 t584 t587 t588 (([] : List Int)) 0) = some r := by rw [if_neg (show ¬ (false = true) by decide)] at H; exact H
      clear H
      have H := H1
      clear H1
      obtain ⟨y594, hy594⟩ : ∃ y_ : List Int, y_ = (([] : List Int)) := ⟨_, rfl⟩
      replace H : (laws_FnValidStarts.l0 kj4 t581 t584 t587 t588 y594 0) = some r := by first | (rw [hy594]; with_reducible exact H) | (have H2_ := (Option.bind_some _ _).symm.trans H; rw [hy594]; with_reducible exact H2_) | (have H2_ := (Option.bind_some _ _).symm.trans H; with_reducible exact H2_) | with_reducible exact H | (rw [hy594]; exact H) | exact H
      have Ny594 := Aside0.mk hy594
      clear hy594
      have H' := Aside0.mk H
      clear H
      go_wp2_with (first | ((with_reducible refine gate_dst (N := 43) rfl ?_); refine Kd.R_lit (Kd.int .i64) _ 3 ?hg (N := 43) ?hd (xs := ([] : List Int)) (inner := []) (ok := fun _ => True) (okp := fun _ => True) ?hr ?hp (fun _ hk => hk) trivial (Below.refl _ _) (Nat.le_refl _) (by simp) ?_; (case hd => rfl); (case hg => rfl); (case hr => first | (go_simp; done) | (go_simp; rfl)); (case hp => exact (Reps.none _ _)); intro v595 w18 ho19 hb hg_ hnew_; clear hg_ hnew_; (first | rw [← Ny594.out] at ho19 | (simp only [Int.reduceToNat] at ho19; rw [← Ny594.out] at ho19)); have n0_ := Aside0.mk (Kd.V_elder' (zv HO_3.out) (Kd.R_base ho19) hb); have n1_ := Aside0.mk (Kd.V_elder' (zv HO_4.out) (Kd.R_base ho19) hb); have n2_ := Aside0.mk (Kd.V_elder' (zv HO_6.out) (Kd.R_base ho19) hb); have n3_ := Aside0.mk (Kd.R_lower ho19 (below_size (zb HB.out))); have n4_ := Aside0.mk (below_step (zb HB.out) hb); clear HO_3 HO_4 HO_6 HB; have HO_3 := n0_; have HO_4 := n1_; have HO_6 := n2_; have HO596 := n3_; have HB := n4_; clear n0_ n1_ n2_ n3_ n4_; clear hb ho19))
      go_loopg [8, 9] kj4 (fun kq v8 v9 w' => ∃ (x8_2 : List Int) (x9_2 : Int), v9 = .int .i64 x9_2 ∧ Aside0 (laws_FnValidStarts.l0 kq t581 t584 t587 t588 x8_2 x9_2 = some r) ∧ Aside0 (kq ≤ kj4) ∧ Aside0 (Kd.V k33 33 w' w.heap.size (fun k_ => some k_ ≠ (v8 : Value).ownBlock) (.slice Ao7 t581.length co7) t581) ∧ Aside0 (Kd.V (Kd.int .i64) 3 w' w.heap.size (fun k_ => some k_ ≠ (v8 : Value).ownBlock) (.slice Ao8 t584.length co8) t584) ∧ Aside0 (Kd.V (Kd.int .i64) 3 w' w.heap.size (fun k_ => some k_ ≠ (v8 : Value).ownBlock) (.slice Ao9 t588.length co9) t588) ∧ Aside0 (Kd.R (Kd.int .i64) 3 w' w.heap.size (fun _ => True) v8 x8_2) ∧ Aside0 (Below w.heap.size w w'))
      case atStart => exact ⟨(y594), (0), (zf), H', ⟨Nat.le_refl _⟩, ⟨by (with_reducible repeat (first | apply Kd.V_alloc | apply Kd.V_drewN | apply Kd.V_drew)); exact Kd.V_mono HO_3.out (fun _ hk => hk.2)⟩, ⟨by (with_reducible repeat (first | apply Kd.V_alloc | apply Kd.V_drewN | apply Kd.V_drew)); exact Kd.V_mono HO_4.out (fun _ hk => hk.2)⟩, ⟨by (with_reducible repeat (first | apply Kd.V_alloc | apply Kd.V_drewN | apply Kd.V_drew)); exact Kd.V_mono HO_6.out (fun _ hk => hk.2)⟩, ⟨by (with_reducible repeat (first | apply Kd.R_alloc | apply Kd.R_drewN | apply Kd.R_drew)); exact HO596.out⟩, ⟨zb HB.out⟩⟩
      case round =>
        clear H'
        try clear c1
        try clear c2
        try clear c2b0
        try clear c2b1
        try clear p2
        try clear c3
        try clear c12
        try clear c12b0
        try clear c12b1
        try clear c12b2
        try clear c15
        try clear c16
        try clear c17
        try clear p2
        obtain ⟨x8_2, x9_2, rfl, HA, HK2, HO_3, HO_4, HO_6, HO_8, HB⟩ := hrel
        cases gk with
        | zero => exact absurd HA.out (by simp [laws_FnValidStarts.l0])
        | succ k2 =>
          have H := HA.out
          clear HA
          simp only [laws_FnValidStarts.l0] at H
          by_cases c20 : x9_2 < (t588.length : Int)
          · rw [if_pos c20] at H
            have c20b0 : decide (x9_2 < (t588.length : Int)) = true := decide_eq_true c20
            clear c20
            by_cases c21 : 0 ≤ x9_2
            · rw [if_pos c21] at H
              have c21b0 : decide (0 ≤ x9_2) = true := decide_eq_true c21
              clear c21
              by_cases c22 : (rd t588 x9_2) = 200
              · rw [if_pos c22] at H
                have c22b0 : ((rd t588 x9_2) == 200) = true := beq_iff_eq.mpr c22
                have c22b1 : ((rd t588 x9_2) != 200) = false := bne_eq_false_iff_eq.mpr c22
                clear c22
                obtain rfl := Option.some.inj H
                have p597 : 0 ≤ (x9_2 : Int) := of_decide_eq_true (za)
                have q597 : x9_2 < (t588.length : Int) := of_decide_eq_true (za)
                obtain ⟨ad597, e597, hx597_0⟩ := Kd.at_int (Kd.V_reads' HO_6.out).2.2 x9_2 p597 q597
                cases e597
                replace p597 := eq_true p597
                replace q597 := eq_true q597
                go_wp2
                go_ret
                exact ⟨ze, zb HB.out⟩
              rw [if_neg c22] at H
              have c22b0 : ((rd t588 x9_2) == 200) = false := beq_eq_false_iff_ne.mpr c22
              have c22b1 : ((rd t588 x9_2) != 200) = true := bne_iff_ne.mpr c22
              by_cases c23 : x8_2.length < 17592186044416
              · rw [if_pos c23] at H
                have LMc23 := Aside0.mk c23
                clear c23
                obtain ⟨y599, hy599⟩ : ∃ y_ : List Int, y_ = (x8_2 ++ [wrap64 ((rd t588 x9_2) + 1)]) := ⟨_, rfl⟩
                replace H : (laws_FnValidStarts.l0 k2 t581 t584 t587 t588 y599 (wrap64 (x9_2 + 1))) = some r := by first | (rw [hy599]; with_reducible exact H) | (have H2_ := (Option.bind_some _ _).symm.trans H; rw [hy599]; with_reducible exact H2_) | (have H2_ := (Option.bind_some _ _).symm.trans H; with_reducible exact H2_) | with_reducible exact H | (rw [hy599]; exact H) | exact H
                have Ny599 := Aside0.mk hy599
                clear hy599
                have H' := Aside0.mk H
                clear H
                have p597 : 0 ≤ (x9_2 : Int) := of_decide_eq_true (za)
                have q597 : x9_2 < (t588.length : Int) := of_decide_eq_true (za)
                obtain ⟨ad597, e597, hx597_0⟩ := Kd.at_int (Kd.V_reads' HO_6.out).2.2 x9_2 p597 q597
                cases e597
                replace p597 := eq_true p597
                replace q597 := eq_true q597
                have p598 : 0 ≤ (x9_2 : Int) := of_decide_eq_true (za)
                have q598 : x9_2 < (t588.length : Int) := of_decide_eq_true (za)
                obtain ⟨ad598, e598, hx598_0⟩ := Kd.at_int (Kd.V_reads' HO_6.out).2.2 x9_2 p598 q598
                obtain rfl : ad597 = ad598 := (by injection e598)
                replace p598 := eq_true p598
                replace q598 := eq_true q598
                go_wp2_with (first | ((with_reducible refine gate_builtin (b := .append) (xs := #[.tmp 55, .tmp 61]) rfl ?_); at_builtin; refine Kd.R_append (Kd.int .i64) (w0 := w) w.heap.size rfl (.tmp 55) (.tmp 61) 24 3 (.int .i64 0) 8 rfl Tryd.underlying24 info3 rfl (by decide) (by omega) u8 x8_2 (wrap64 ((rd t588 x9_2) + 1)) [.int .i64 (wrap64 ((rd t588 x9_2) + 1))] (fun _ => True) (fun _ => False) rfl rfl ?aP (fun _ hk => hk.elim) ?aF ?aO ?aB ?aS ?aL ?_; (case aP => exact rfl); (case aB => exact (zb HB.out)); (case aF => exact (fun _ _ => trivial)); (case aO => exact (zr HO_8.out)); (case aS => exact (below_size (zb HB.out))); (case aL => have := LMc23.out; omega); intro v600 w24 ho hb hg hat; rw [← Ny599.out] at ho; have n0_ := Aside0.mk (Kd.V_afterv (ok := (fun _ => True)) (by (with_reducible repeat (first | apply Kd.V_alloc | apply Kd.V_drewN | apply Kd.V_drew)); exact Kd.V_mono HO_3.out (fun _ hk => ⟨trivial, hk⟩)) hg hat); have n1_ := Aside0.mk (Kd.V_afterv (ok := (fun _ => True)) (by (with_reducible repeat (first | apply Kd.V_alloc | apply Kd.V_drewN | apply Kd.V_drew)); exact Kd.V_mono HO_4.out (fun _ hk => ⟨trivial, hk⟩)) hg hat); have n2_ := Aside0.mk (Kd.V_afterv (ok := (fun _ => True)) (by (with_reducible repeat (first | apply Kd.V_alloc | apply Kd.V_drewN | apply Kd.V_drew)); exact Kd.V_mono HO_6.out (fun _ hk => ⟨trivial, hk⟩)) hg hat); have n3_ := Aside0.mk (hb); have n4_ := Aside0.mk (ho); clear HO_3 HO_4 HO_6 HB HO_8; have HO_3 := n0_; have HO_4 := n1_; have HO_6 := n2_; have HB := n3_; have HO601 := n4_; clear n0_ n1_ n2_ n3_ n4_; clear ho hb hg hat))
                go_roundg k2
                case measure => have := HJ4.out; have := HK2.out; omega
                case rel => exact ⟨(y599), (wrap64 (x9_2 + 1)), (zf), H', ⟨by have := HJ4.out; have := HK2.out; omega⟩, ⟨by (with_reducible repeat (first | apply Kd.V_alloc | apply Kd.V_drewN | apply Kd.V_drew)); exact Kd.V_mono HO_3.out (fun _ hk => hk.2)⟩, ⟨by (with_reducible repeat (first | apply Kd.V_alloc | apply Kd.V_drewN | apply Kd.V_drew)); exact Kd.V_mono HO_4.out (fun _ hk => hk.2)⟩, ⟨by (with_reducible repeat (first | apply Kd.V_alloc | apply Kd.V_drewN | apply Kd.V_drew)); exact Kd.V_mono HO_6.out (fun _ hk => hk.2)⟩, ⟨by (with_reducible repeat (first | apply Kd.R_alloc | apply Kd.R_drewN | apply Kd.R_drew)); exact HO601.out⟩, ⟨zb HB.out⟩⟩
              rw [if_neg c23] at H
              exact absurd H (by simp)
            rw [if_neg c21] at H
            exact absurd H (by simp)
          rw [if_neg c20] at H
          have c20b0 : decide (x9_2 < (t588.length : Int)) = false := decide_eq_false c20
          clear c20
          replace H := Option.bind_eq_some_iff.mp H
          obtain ⟨t602, A250, H⟩ := H
          replace H : (some t602) = some r := H
          have A25 := Aside0.mk A250
          clear A250
          obtain rfl := Option.some.inj H
          obtain ⟨Ao26, co26, eo26⟩ := Kd.R_slice HO_8.out
          subst eo26
          go_wp2_with (first | ((with_reducible refine gate_callee (f := 16) rfl ?_); refine goesL_ (some 67) rfl rfl Tryd.func16 (by kernel_rfl) rfl #[.slice Ao7 t581.length co7, .slice Ao8 t584.length co8, .int .i64 t587, .slice Ao26 x8_2.length co26] rfl (by (try simp only [List.map_toArray, List.map_cons, List.map_nil]); first | done | rfl | (simp only [List.length_drop, List.length_take]; rfl)) ?_; (with_reducible refine (impl_ValidStarts.calls _ _ t581 _ _ t584 t587 _ _ x8_2 t602 _ ?sideT ?side1 ?side2 ?side3 ?side4 ?side5 ?side6 A25.out).mono ?_); (case sideT => exact Tab.below' HTab_.out (zb HB.out)); (case side1 => repeat (first | exact (Kd.V_reads' HO_3.out).2.2 | (with_reducible refine Kd.C_alloc ?_ _) | (with_reducible refine Kd.C_drewN ?_ _) | (with_reducible refine Kd.C_drew ?_))); (case side2 => exact (Kd.V_reads' HO_3.out).2.1); (case side3 => repeat (first | exact (Kd.V_reads' HO_4.out).2.2 | (with_reducible refine Kd.C_alloc ?_ _) | (with_reducible refine Kd.C_drewN ?_ _) | (with_reducible refine Kd.C_drew ?_))); (case side4 => exact (Kd.V_reads' HO_4.out).2.1); (case side5 => exact zt (Kd.R_reads' HO_8.out).2.2); (case side6 => exact (Kd.R_reads' HO_8.out).2.1); rintro e w27 ⟨rfl, hb⟩; refine ⟨_, rfl, ?_⟩; have n0_ := Aside0.mk (Kd.V_below (zv HO_3.out) hb); have n1_ := Aside0.mk (Kd.V_below (zv HO_4.out) hb); have n2_ := Aside0.mk (Kd.V_below (zv HO_6.out) hb); have n3_ := Aside0.mk (Kd.R_below (zr HO_8.out) hb); have n4_ := Aside0.mk (below_step (zb HB.out) hb); clear HO_3 HO_4 HO_6 HO_8 HB; have HO_3 := n0_; have HO_4 := n1_; have HO_6 := n2_; have HO_8 := n3_; have HB := n4_; clear n0_ n1_ n2_ n3_ n4_; (try clear hb); (try clear hb2); (try clear hk); (try clear hi)))
          go_ret
          exact ⟨ze, zb HB.out⟩

end Go.Proofs.YtaoeopeempmnnaaDoor.PA

/-
  PLAIN: the law FnValidStarts answers true.
-/
namespace Go.Proofs.YtaoeopeempmnnaaDoor
open Go Go.RowKit Go.Proofs.YtaoeopeempmnnaaDoor.M Go.Proofs.YtaoeopeempmnnaaDoorW.PrintWords Go.Proofs.YtaoeopeempmnnaaDoorW.PrintLast Go.Proofs.YtaoeopeempmnnaaDoorW.PrintMore Go.Proofs.YtaoeopeempmnnaaDoor.PA
set_option linter.unusedSimpArgs false
set_option linter.unusedVariables false

theorem vs_l0 (g : List TkD) (room : List Int) (wk : Int) (st : List Int) (hF : Fine g room wk st) : ∀ (r i : Nat) (x : List Int), i + r = st.length → x = (st.take i).map (· + 1) → (∀ j : Nat, j < i → rd st (j : Int) + 1 ≤ 200) → Gives (fun k => laws_FnValidStarts.l0 k g room wk st x (i : Int)) true
  | 0, i, x, h, hx, hj => by
    have hl := hF.hlen
    refine Gives.of_succ (fun k => by rw [laws_FnValidStarts.l0]) ?_
    refine Gives.neg (by omega) ?_
    rw [List.take_of_length_le (by omega)] at hx
    have h2 := (starts_fine g room wk x).2 (by rw [hx]; exact hF.moved 1 (by omega) (fun j hj' => hj j (by omega)))
    refine Gives.bind (v := true) (Gives.now (by unfold impl_ValidStarts.f; rw [h2])) (Gives.const _)
  | r + 1, i, x, h, hx, hj => by
    have hl := hF.hlen
    have h8 := hF.h8
    have hin := hF.hin i (by omega)
    refine Gives.of_succ (fun k => by rw [laws_FnValidStarts.l0]) ?_
    refine Gives.pos (by omega) (Gives.pos (by omega) ?_)
    by_cases c : rd st (i : Int) = 200
    · exact Gives.pos c (Gives.const _)
    have hxl : x.length ≤ 8 := by rw [hx]; simp; omega
    rw [wrap_succ i (by omega), wrap_sm (rd st (i : Int) + 1) (by omega) (by omega)]
    refine Gives.neg c (Gives.pos (by omega) (vs_l0 g room wk st hF r (i + 1) _ (by omega) (by rw [take_rd st i (by omega), List.map_append, hx]; rfl) (fun j hj' => ?_)))
    by_cases hji : j = i
    · subst hji; omega
    exact hj j (by omega)
theorem lawVS_gives (l0 : List Int) (hw : ∀ x ∈ l0, (Lit.int .u8 x).wf = true) : Gives (fun k => laws_FnValidStarts.f k l0) true := by
  unfold laws_FnValidStarts.f
  by_cases c1 : (l0.length : Int) > 1048576
  · exact Gives.pos c1 (Gives.const _)
  refine Gives.neg c1 ?_
  obtain ⟨⟨g, room, wk, st⟩, hv, hd⟩ := draw_ok l0 hw
  obtain ⟨s1, s2, s3, s4⟩ := hd.small
  have hS := specValidStarts_gives g room wk st s1 s2 s3 s4
  refine Gives.bind (Gives.now hv) ?_
  refine Gives.bind (v := (startsM g room wk st).isSome) (Gives.now rfl) ?_
  refine Gives.bind hS ?_
  refine Gives.neg (by simp) ?_
  simp only
  cases hB : (startsM g room wk st).isSome with
  | false =>
    rw [hB] at hS
    refine Gives.of_succ (fun k => by rw [laws_FnValidStarts.j0]) ?_
    exact Gives.pos rfl (Gives.bind hS (Gives.const _))
  | true =>
    refine Gives.of_succ (fun k => by rw [laws_FnValidStarts.j0]) ?_
    exact Gives.neg (by simp) (vs_l0 g room wk st ((starts_fine g room wk st).1 hB) st.length 0 [] (by omega) rfl (fun j hj => absurd hj (by omega)))
end Go.Proofs.YtaoeopeempmnnaaDoor

