/-
  The walk of the law, and its plain law: laws.FnEndTimeLater answers true, whatever the arguments (the listed table as the program's text lays it).
-/
import Derived.Test.YtaoeopeempmnnaaDoorKYB1
import Derived.Test.YtaoeopeempmnnaaDoorKYB2
import Derived.Test.YtaoeopeempmnnaaDoorKYB3
import Derived.Test.YtaoeopeempmnnaaDoorKYB4
import Derived.Test.YtaoeopeempmnnaaDoorKYB5
import Derived.Test.YtaoeopeempmnnaaDoorKYB6
namespace Go.Proofs.YtaoeopeempmnnaaDoor.PA
open Go.RowKit Go.Proofs.YtaoeopeempmnnaaDoorW.PrintWords Go.Proofs.YtaoeopeempmnnaaDoorW.PrintLast Go.Proofs.YtaoeopeempmnnaaDoorW.PrintMore
attribute [local go_sem] max2_int min2_int max_two min_two
set_option linter.unusedVariables false
set_option linter.unusedSimpArgs false

mutual
noncomputable def laws_FnEndTimeLater.j0 : Nat → List (S33) → List Int → Int → List Int → Int → Bool → Option (Bool)
  | 0, _, _, _, _, _, _ => none
  | k + 1, x3, x4, x5, x6, x7, x40 => if x40 = true then ((spec_EndTime.f k x3 x4 x5 x6).bind fun t654 => (some (x7 == t654))) else (laws_FnEndTimeLater.l0 k x3 x4 x5 x6 x7 (([] : List Int)) 0)
noncomputable def laws_FnEndTimeLater.l0 : Nat → List (S33) → List Int → Int → List Int → Int → List Int → Int → Option (Bool)
  | 0, _, _, _, _, _, _, _ => none
  | k + 1, x3, x4, x5, x6, x7, x8, x9 => if x9 < (x6.length : Int) then (if 0 ≤ x9 then (if (wrap64 ((rd x6 x9) + 2)) > 200 then (some true) else (if x8.length < 17592186044416 then (laws_FnEndTimeLater.l0 k x3 x4 x5 x6 x7 (x8 ++ [wrap64 ((rd x6 x9) + 2)]) (wrap64 (x9 + 1))) else (none))) else (none)) else ((impl_EndTime.f x3 x4 x5 x8).bind fun t663 => (some (t663 == (wrap64 (x7 + 2)))))
end
noncomputable def laws_FnEndTimeLater.f (k : Nat) (l0 : List Int) : Option (Bool) := if (l0.length : Int) > 1048576 then (some true) else ((spec_DrawEndTime.f l0).bind fun bt642 => ((impl_EndTime.f bt642.1 bt642.2.1 bt642.2.2.1 bt642.2.2.2).bind fun t652 => ((spec_EndTime.f k bt642.1 bt642.2.1 bt642.2.2.1 bt642.2.2.2).bind fun t653 => (if t652 = t653 then (if t652 < 0 then (laws_FnEndTimeLater.j0 k bt642.1 bt642.2.1 bt642.2.2.1 bt642.2.2.2 t652 true) else (laws_FnEndTimeLater.j0 k bt642.1 bt642.2.1 bt642.2.2.1 bt642.2.2.2 t652 ((bt642.1.length : Int) == 0))) else (laws_FnEndTimeLater.j0 k bt642.1 bt642.2.1 bt642.2.2.1 bt642.2.2.2 t652 true)))))
set_option maxHeartbeats 8000000 in
set_option maxRecDepth 100000 in
theorem laws_FnEndTimeLater.calls (k : Nat) (A0 : Option Addr) (c0 : Nat) (l0 : List Int) (r : Bool) (w : World) (hT_ : Tab w) (hr0 : Kd.C (Kd.int .u8) w A0 l0.length l0) (hc0 : l0.length ≤ c0) (h : laws_FnEndTimeLater.f k l0 = some r) :
    Calls Tryd.prog 8 #[.slice A0 l0.length c0] w fun e w' => e = .returned (.bool r) ∧ Below w.heap.size w w' := by
  have HR0 := Aside0.mk hr0
  have HC0 := Aside0.mk hc0
  clear hr0 hc0
  have HTab_ := Aside0.mk hT_; clear hT_; have HB := Aside0.mk (Below.refl w.heap.size w)
  have H : (if (l0.length : Int) > 1048576 then (some true) else ((spec_DrawEndTime.f l0).bind fun bt642 => ((impl_EndTime.f bt642.1 bt642.2.1 bt642.2.2.1 bt642.2.2.2).bind fun t652 => ((spec_EndTime.f k bt642.1 bt642.2.1 bt642.2.2.1 bt642.2.2.2).bind fun t653 => (if t652 = t653 then (if t652 < 0 then (laws_FnEndTimeLater.j0 k bt642.1 bt642.2.1 bt642.2.2.1 bt642.2.2.2 t652 true) else (laws_FnEndTimeLater.j0 k bt642.1 bt642.2.1 bt642.2.2.1 bt642.2.2.2 t652 ((bt642.1.length : Int) == 0))) else (laws_FnEndTimeLater.j0 k bt642.1 bt642.2.1 bt642.2.2.1 bt642.2.2.2 t652 true)))))) = some r := h
  clear h
  by_cases c2 : (l0.length : Int) > 1048576
  · rw [if_pos c2] at H
    have c2b0 : decide (1048576 < (l0.length : Int)) = true := decide_eq_true c2
    have c2b1 : decide (1048576 < l0.length) = true := decide_eq_true (by omega)
    clear c2
    obtain rfl := Option.some.inj H
    go_enter Tryd.func8, Tryd.ntmps8
    go_wp2
    go_ret
    exact ⟨ze, zb HB.out⟩
  rw [if_neg c2] at H
  have c2b0 : decide (1048576 < (l0.length : Int)) = false := decide_eq_false c2
  have c2b1 : decide (1048576 < l0.length) = false := decide_eq_false (by omega)
  clear c2
  replace H := Option.bind_eq_some_iff.mp H
  obtain ⟨⟨t642, t645, t648, t649⟩, A30, H⟩ := H
  replace H : ((impl_EndTime.f t642 t645 t648 t649).bind fun t652 => ((spec_EndTime.f k t642 t645 t648 t649).bind fun t653 => (if t652 = t653 then (if t652 < 0 then (laws_FnEndTimeLater.j0 k t642 t645 t648 t649 t652 true) else (laws_FnEndTimeLater.j0 k t642 t645 t648 t649 t652 ((t642.length : Int) == 0))) else (laws_FnEndTimeLater.j0 k t642 t645 t648 t649 t652 true)))) = some r := H
  have A3 := Aside0.mk A30
  clear A30
  replace H := Option.bind_eq_some_iff.mp H
  obtain ⟨t652, A40, H⟩ := H
  replace H : ((spec_EndTime.f k t642 t645 t648 t649).bind fun t653 => (if t652 = t653 then (if t652 < 0 then (laws_FnEndTimeLater.j0 k t642 t645 t648 t649 t652 true) else (laws_FnEndTimeLater.j0 k t642 t645 t648 t649 t652 ((t642.length : Int) == 0))) else (laws_FnEndTimeLater.j0 k t642 t645 t648 t649 t652 true))) = some r := H
  have A4 := Aside0.mk A40
  clear A40
  have HC5 := Aside0.mk H
  clear H
  go_enter Tryd.func8, Tryd.ntmps8
  go_upto_region 5 with (first | ((with_reducible refine gate_callee (f := 22) rfl ?_); refine goesL_ (some 15) rfl rfl Tryd.func22 (by kernel_rfl) rfl #[.slice A0 l0.length c0] rfl (by (try simp only [List.map_toArray, List.map_cons, List.map_nil]); first | done | rfl | (simp only [List.length_drop, List.length_take]; rfl)) ?_; (with_reducible refine (spec_DrawEndTime.calls _ _ l0 t642 t645 t648 t649 _ ?side1 ?side2 A3.out).mono ?_); (case side1 => exact zt HR0.out); (case side2 => exact HC0.out); rintro e w6 ⟨v643, v646, v650, rfl, ho0, ho1, ho2, hb⟩; refine ⟨_, rfl, ?_⟩; have n0_ := Aside0.mk (Kd.V_lower (Kd.V_mono (ok' := fun k_ => True) ho0 (fun k_ hk_ => trivial)) (below_size (zb HB.out))); have n1_ := Aside0.mk (Kd.V_lower (Kd.V_mono (ok' := fun k_ => True) ho1 (fun k_ hk_ => trivial)) (below_size (zb HB.out))); have n2_ := Aside0.mk (Kd.V_lower (Kd.V_mono (ok' := fun k_ => True) ho2 (fun k_ hk_ => trivial)) (below_size (zb HB.out))); have n3_ := Aside0.mk (below_step (zb HB.out) hb); clear HB; have HO644 := n0_; have HO647 := n1_; have HO651 := n2_; have HB := n3_; clear n0_ n1_ n2_ n3_; (try clear hb); (try clear ho0); (try clear ho1); (try clear ho2); obtain ⟨Ao7, co7, eo7⟩ := Kd.V_slice HO644.out; subst eo7; obtain ⟨Ao8, co8, eo8⟩ := Kd.V_slice HO647.out; subst eo8; obtain ⟨Ao9, co9, eo9⟩ := Kd.V_slice HO651.out; subst eo9) | ((with_reducible refine gate_callee (f := 23) rfl ?_); refine goesL_ (some 24) rfl rfl Tryd.func23 (by kernel_rfl) rfl #[.slice Ao7 t642.length co7, .slice Ao8 t645.length co8, .int .i64 t648, .slice Ao9 t649.length co9] rfl (by (try simp only [List.map_toArray, List.map_cons, List.map_nil]); first | done | rfl | (simp only [List.length_drop, List.length_take]; rfl)) ?_; (with_reducible refine (impl_EndTime.calls _ _ t642 _ _ t645 t648 _ _ t649 t652 _ ?sideT ?side1 ?side2 ?side3 ?side4 ?side5 ?side6 A4.out).mono ?_); (case sideT => exact Tab.below' HTab_.out (zb HB.out)); (case side1 => repeat (first | exact (Kd.V_reads' HO644.out).2.2 | (with_reducible refine Kd.C_alloc ?_ _) | (with_reducible refine Kd.C_drewN ?_ _) | (with_reducible refine Kd.C_drew ?_))); (case side2 => exact (Kd.V_reads' HO644.out).2.1); (case side3 => repeat (first | exact (Kd.V_reads' HO647.out).2.2 | (with_reducible refine Kd.C_alloc ?_ _) | (with_reducible refine Kd.C_drewN ?_ _) | (with_reducible refine Kd.C_drew ?_))); (case side4 => exact (Kd.V_reads' HO647.out).2.1); (case side5 => repeat (first | exact (Kd.V_reads' HO651.out).2.2 | (with_reducible refine Kd.C_alloc ?_ _) | (with_reducible refine Kd.C_drewN ?_ _) | (with_reducible refine Kd.C_drew ?_))); (case side6 => exact (Kd.V_reads' HO651.out).2.1); rintro e w10 ⟨rfl, hb⟩; refine ⟨_, rfl, ?_⟩; have n0_ := Aside0.mk (Kd.V_below (zv HO644.out) hb); have n1_ := Aside0.mk (Kd.V_below (zv HO647.out) hb); have n2_ := Aside0.mk (Kd.V_below (zv HO651.out) hb); have n3_ := Aside0.mk (below_step (zb HB.out) hb); clear HO644 HO647 HO651 HB; have HO644 := n0_; have HO647 := n1_; have HO651 := n2_; have HB := n3_; clear n0_ n1_ n2_ n3_; (try clear hb); (try clear hb2); (try clear hk); (try clear hi)))
  (try simp only [Act.put, List.setIfInBounds_toArray, List.set_cons_zero, List.set_cons_succ])
  go_cut [40] (fun v40 wc => ∃ (kq : Nat) (x40_4 : Bool), v40 = .bool x40_4 ∧ Aside0 (laws_FnEndTimeLater.j0 kq t642 t645 t648 t649 t652 x40_4 = some r) ∧ Aside0 (kq ≤ k) ∧ Aside0 (Kd.V k33 33 wc w.heap.size (fun _ => True) (.slice Ao7 t642.length co7) t642) ∧ Aside0 (Kd.V (Kd.int .i64) 3 wc w.heap.size (fun _ => True) (.slice Ao8 t645.length co8) t645) ∧ Aside0 (Kd.V (Kd.int .i64) 3 wc w.heap.size (fun _ => True) (.slice Ao9 t649.length co9) t649) ∧ Aside0 (Below w.heap.size w wc))
  case first =>
    have H := HC5.out
    clear HC5
    replace H := Option.bind_eq_some_iff.mp H
    obtain ⟨t653, A110, H⟩ := H
    replace H : (if t652 = t653 then (if t652 < 0 then (laws_FnEndTimeLater.j0 k t642 t645 t648 t649 t652 true) else (laws_FnEndTimeLater.j0 k t642 t645 t648 t649 t652 ((t642.length : Int) == 0))) else (laws_FnEndTimeLater.j0 k t642 t645 t648 t649 t652 true)) = some r := H
    have A11 := Aside0.mk A110
    clear A110
    by_cases c12 : t652 = t653
    · rw [if_pos c12] at H
      have c12b0 : (t652 == t653) = true := beq_iff_eq.mpr c12
      have c12b1 : (t652 != t653) = false := bne_eq_false_iff_eq.mpr c12
      clear c12
      (first | rw [c12b0] | (simp only [i64_w, i32_w]; rw [c12b0]) | skip)
      by_cases c13 : t652 < 0
      · rw [if_pos c13] at H
        have c13b0 : decide (t652 < 0) = true := decide_eq_true c13
        clear c13
        have H' := Aside0.mk H
        clear H
        go_wp2_with (first | ((with_reducible refine gate_callee (f := 24) rfl ?_); refine goesL_ (some 30) rfl rfl Tryd.func24 (by kernel_rfl) rfl #[.slice Ao7 t642.length co7, .slice Ao8 t645.length co8, .int .i64 t648, .slice Ao9 t649.length co9] rfl (by (try simp only [List.map_toArray, List.map_cons, List.map_nil]); first | done | rfl | (simp only [List.length_drop, List.length_take]; rfl)) ?_; (with_reducible refine (spec_EndTime.calls k _ _ t642 _ _ t645 t648 _ _ t649 t653 _ ?side1 ?side2 ?side3 ?side4 ?side5 ?side6 A11.out).mono ?_); (case side1 => repeat (first | exact (Kd.V_reads' HO644.out).2.2 | (with_reducible refine Kd.C_alloc ?_ _) | (with_reducible refine Kd.C_drewN ?_ _) | (with_reducible refine Kd.C_drew ?_))); (case side2 => exact (Kd.V_reads' HO644.out).2.1); (case side3 => repeat (first | exact (Kd.V_reads' HO647.out).2.2 | (with_reducible refine Kd.C_alloc ?_ _) | (with_reducible refine Kd.C_drewN ?_ _) | (with_reducible refine Kd.C_drew ?_))); (case side4 => exact (Kd.V_reads' HO647.out).2.1); (case side5 => repeat (first | exact (Kd.V_reads' HO651.out).2.2 | (with_reducible refine Kd.C_alloc ?_ _) | (with_reducible refine Kd.C_drewN ?_ _) | (with_reducible refine Kd.C_drew ?_))); (case side6 => exact (Kd.V_reads' HO651.out).2.1); rintro e w14 ⟨rfl, hb⟩; refine ⟨_, rfl, ?_⟩; have n0_ := Aside0.mk (Kd.V_below (zv HO644.out) hb); have n1_ := Aside0.mk (Kd.V_below (zv HO647.out) hb); have n2_ := Aside0.mk (Kd.V_below (zv HO651.out) hb); have n3_ := Aside0.mk (below_step (zb HB.out) hb); clear HO644 HO647 HO651 HB; have HO644 := n0_; have HO647 := n1_; have HO651 := n2_; have HB := n3_; clear n0_ n1_ n2_ n3_; (try clear hb); (try clear hb2); (try clear hk); (try clear hi)))
        go_meet
        case rel => exact ⟨_, (true), (zf), H', ⟨by first | omega | exact Nat.le_refl _⟩, ⟨by (with_reducible repeat (first | apply Kd.V_alloc | apply Kd.V_drewN | apply Kd.V_drew)); exact HO644.out⟩, ⟨by (with_reducible repeat (first | apply Kd.V_alloc | apply Kd.V_drewN | apply Kd.V_drew)); exact HO647.out⟩, ⟨by (with_reducible repeat (first | apply Kd.V_alloc | apply Kd.V_drewN | apply Kd.V_drew)); exact HO651.out⟩, ⟨zb HB.out⟩⟩
      rw [if_neg c13] at H
      have c13b0 : decide (t652 < 0) = false := decide_eq_false c13
      clear c13
      have H' := Aside0.mk H
      clear H
      go_wp2_with (first | ((with_reducible refine gate_callee (f := 24) rfl ?_); refine goesL_ (some 30) rfl rfl Tryd.func24 (by kernel_rfl) rfl #[.slice Ao7 t642.length co7, .slice Ao8 t645.length co8, .int .i64 t648, .slice Ao9 t649.length co9] rfl (by (try simp only [List.map_toArray, List.map_cons, List.map_nil]); first | done | rfl | (simp only [List.length_drop, List.length_take]; rfl)) ?_; (with_reducible refine (spec_EndTime.calls k _ _ t642 _ _ t645 t648 _ _ t649 t653 _ ?side1 ?side2 ?side3 ?side4 ?side5 ?side6 A11.out).mono ?_); (case side1 => repeat (first | exact (Kd.V_reads' HO644.out).2.2 | (with_reducible refine Kd.C_alloc ?_ _) | (with_reducible refine Kd.C_drewN ?_ _) | (with_reducible refine Kd.C_drew ?_))); (case side2 => exact (Kd.V_reads' HO644.out).2.1); (case side3 => repeat (first | exact (Kd.V_reads' HO647.out).2.2 | (with_reducible refine Kd.C_alloc ?_ _) | (with_reducible refine Kd.C_drewN ?_ _) | (with_reducible refine Kd.C_drew ?_))); (case side4 => exact (Kd.V_reads' HO647.out).2.1); (case side5 => repeat (first | exact (Kd.V_reads' HO651.out).2.2 | (with_reducible refine Kd.C_alloc ?_ _) | (with_reducible refine Kd.C_drewN ?_ _) | (with_reducible refine Kd.C_drew ?_))); (case side6 => exact (Kd.V_reads' HO651.out).2.1); rintro e w15 ⟨rfl, hb⟩; refine ⟨_, rfl, ?_⟩; have n0_ := Aside0.mk (Kd.V_below (zv HO644.out) hb); have n1_ := Aside0.mk (Kd.V_below (zv HO647.out) hb); have n2_ := Aside0.mk (Kd.V_below (zv HO651.out) hb); have n3_ := Aside0.mk (below_step (zb HB.out) hb); clear HO644 HO647 HO651 HB; have HO644 := n0_; have HO647 := n1_; have HO651 := n2_; have HB := n3_; clear n0_ n1_ n2_ n3_; (try clear hb); (try clear hb2); (try clear hk); (try clear hi)))
      go_meet
      case rel => exact ⟨_, (((t642.length : Int) == 0)), (zf), H', ⟨by first | omega | exact Nat.le_refl _⟩, ⟨by (with_reducible repeat (first | apply Kd.V_alloc | apply Kd.V_drewN | apply Kd.V_drew)); exact HO644.out⟩, ⟨by (with_reducible repeat (first | apply Kd.V_alloc | apply Kd.V_drewN | apply Kd.V_drew)); exact HO647.out⟩, ⟨by (with_reducible repeat (first | apply Kd.V_alloc | apply Kd.V_drewN | apply Kd.V_drew)); exact HO651.out⟩, ⟨zb HB.out⟩⟩
    rw [if_neg c12] at H
    have c12b0 : (t652 == t653) = false := beq_eq_false_iff_ne.mpr c12
    have c12b1 : (t652 != t653) = true := bne_iff_ne.mpr c12
    (first | rw [c12b0] | (simp only [i64_w, i32_w]; rw [c12b0]) | skip)
    have H' := Aside0.mk H
    clear H
    go_wp2_with (first | ((with_reducible refine gate_callee (f := 24) rfl ?_); refine goesL_ (some 30) rfl rfl Tryd.func24 (by kernel_rfl) rfl #[.slice Ao7 t642.length co7, .slice Ao8 t645.length co8, .int .i64 t648, .slice Ao9 t649.length co9] rfl (by (try simp only [List.map_toArray, List.map_cons, List.map_nil]); first | done | rfl | (simp only [List.length_drop, List.length_take]; rfl)) ?_; (with_reducible refine (spec_EndTime.calls k _ _ t642 _ _ t645 t648 _ _ t649 t653 _ ?side1 ?side2 ?side3 ?side4 ?side5 ?side6 A11.out).mono ?_); (case side1 => repeat (first | exact (Kd.V_reads' HO644.out).2.2 | (with_reducible refine Kd.C_alloc ?_ _) | (with_reducible refine Kd.C_drewN ?_ _) | (with_reducible refine Kd.C_drew ?_))); (case side2 => exact (Kd.V_reads' HO644.out).2.1); (case side3 => repeat (first | exact (Kd.V_reads' HO647.out).2.2 | (with_reducible refine Kd.C_alloc ?_ _) | (with_reducible refine Kd.C_drewN ?_ _) | (with_reducible refine Kd.C_drew ?_))); (case side4 => exact (Kd.V_reads' HO647.out).2.1); (case side5 => repeat (first | exact (Kd.V_reads' HO651.out).2.2 | (with_reducible refine Kd.C_alloc ?_ _) | (with_reducible refine Kd.C_drewN ?_ _) | (with_reducible refine Kd.C_drew ?_))); (case side6 => exact (Kd.V_reads' HO651.out).2.1); rintro e w16 ⟨rfl, hb⟩; refine ⟨_, rfl, ?_⟩; have n0_ := Aside0.mk (Kd.V_below (zv HO644.out) hb); have n1_ := Aside0.mk (Kd.V_below (zv HO647.out) hb); have n2_ := Aside0.mk (Kd.V_below (zv HO651.out) hb); have n3_ := Aside0.mk (below_step (zb HB.out) hb); clear HO644 HO647 HO651 HB; have HO644 := n0_; have HO647 := n1_; have HO651 := n2_; have HB := n3_; clear n0_ n1_ n2_ n3_; (try clear hb); (try clear hb2); (try clear hk); (try clear hi)))
    go_meet
    case rel => exact ⟨_, (true), (zf), H', ⟨by first | omega | exact Nat.le_refl _⟩, ⟨by (with_reducible repeat (first | apply Kd.V_alloc | apply Kd.V_drewN | apply Kd.V_drew)); exact HO644.out⟩, ⟨by (with_reducible repeat (first | apply Kd.V_alloc | apply Kd.V_drewN | apply Kd.V_drew)); exact HO647.out⟩, ⟨by (with_reducible repeat (first | apply Kd.V_alloc | apply Kd.V_drewN | apply Kd.V_drew)); exact HO651.out⟩, ⟨zb HB.out⟩⟩
  case rest =>
    clear HC5
    try clear c1
    try clear c2
    try clear c2b0
    try clear c2b1
    try clear p2
    try clear c8
    try clear c12
    try clear c12b0
    try clear c12b1
    try clear c13
    try clear c13b0
    obtain ⟨kq, x40_4, rfl, HA, HJ4, HO_3, HO_4, HO_6, HB⟩ := hcut
    cases kq with
    | zero => exact absurd HA.out (by simp [laws_FnEndTimeLater.j0])
    | succ kj4 =>
      have H := HA.out
      clear HA
      simp only [laws_FnEndTimeLater.j0] at H
      by_cases c17 : x40_4 = true
      · subst c17
        have H1 : ((spec_EndTime.f kj4 t642 t645 t648 t649).bind fun t654 => (some (t652 == t654))) = some r := by rw [if_pos rfl] at H; exact H
        clear H
        have H := H1
        clear H1
        replace H := Option.bind_eq_some_iff.mp H
        obtain ⟨t654, A180, H⟩ := H
        replace H : (some (t652 == t654)) = some r := H
        have A18 := Aside0.mk A180
        clear A180
        obtain rfl := Option.some.inj H
        go_wp2_with (first | ((with_reducible refine gate_callee (f := 24) rfl ?_); refine goesL_ (some 46) rfl rfl Tryd.func24 (by kernel_rfl) rfl #[.slice Ao7 t642.length co7, .slice Ao8 t645.length co8, .int .i64 t648, .slice Ao9 t649.length co9] rfl (by (try simp only [List.map_toArray, List.map_cons, List.map_nil]); first | done | rfl | (simp only [List.length_drop, List.length_take]; rfl)) ?_; (with_reducible refine (spec_EndTime.calls kj4 _ _ t642 _ _ t645 t648 _ _ t649 t654 _ ?side1 ?side2 ?side3 ?side4 ?side5 ?side6 A18.out).mono ?_); (case side1 => repeat (first | exact (Kd.V_reads' HO_3.out).2.2 | (with_reducible refine Kd.C_alloc ?_ _) | (with_reducible refine Kd.C_drewN ?_ _) | (with_reducible refine Kd.C_drew ?_))); (case side2 => exact (Kd.V_reads' HO_3.out).2.1); (case side3 => repeat (first | exact (Kd.V_reads' HO_4.out).2.2 | (with_reducible refine Kd.C_alloc ?_ _) | (with_reducible refine Kd.C_drewN ?_ _) | (with_reducible refine Kd.C_drew ?_))); (case side4 => exact (Kd.V_reads' HO_4.out).2.1); (case side5 => repeat (first | exact (Kd.V_reads' HO_6.out).2.2 | (with_reducible refine Kd.C_alloc ?_ _) | (with_reducible refine Kd.C_drewN ?_ _) | (with_reducible refine Kd.C_drew ?_))); (case side6 => exact (Kd.V_reads' HO_6.out).2.1); rintro e w19 ⟨rfl, hb⟩; refine ⟨_, rfl, ?_⟩; have n0_ := Aside0.mk (Kd.V_below (zv HO_3.out) hb); have n1_ := Aside0.mk (Kd.V_below (zv HO_4.out) hb); have n2_ := Aside0.mk (Kd.V_below (zv HO_6.out) hb); have n3_ := Aside0.mk (below_step (zb HB.out) hb); clear HO_3 HO_4 HO_6 HB; have HO_3 := n0_; have HO_4 := n1_; have HO_6 := n2_; have HB := n3_; clear n0_ n1_ n2_ n3_; (try clear hb); (try clear hb2); (try clear hk); (try clear hi)))
        go_ret
        exact ⟨ze, zb HB.out⟩
      replace c17 := Bool.eq_false_iff.mpr c17
      subst c17
      have H1 : (laws_FnEndTimeLater.l0 kj4 t642 t645 t648 t649 t652 (([] : List Int)) 0) = some r := by rw [if_neg (show ¬ (false = true) by decide)] at H; exact H
      clear H
      have H := H1
      clear H1
      obtain ⟨y655, hy655⟩ : ∃ y_ : List Int, y_ = (([] : List Int)) := ⟨_, rfl⟩
      replace H : (laws_FnEndTimeLater.l0 kj4 t642 t645 t648 t649 t652 y655 0) = some r := by first | (rw [hy655]; with_reducible exact H) | (have H2_ := (Option.bind_some _ _).symm.trans H; rw [hy655]; with_reducible exact H2_) | (have H2_ := (Option.bind_some _ _).symm.trans H; with_reducible exact H2_) | with_reducible exact H | (rw [hy655]; exact H) | exact H
      have Ny655 := Aside0.mk hy655
      clear hy655
      have H' := Aside0.mk H
      clear H
      go_wp2_with (first | ((with_reducible refine gate_dst (N := 48) rfl ?_); (try (refine gate_guard (by rfl) ?_; dsimp only)); refine Kd.R_lit (Kd.int .i64) _ 3 ?hg (N := 48) ?hd (xs := ([] : List Int)) (inner := []) (ok := fun _ => True) (okp := fun _ => True) ?hr ?hp (fun _ hk => hk) trivial (Below.refl _ _) (Nat.le_refl _) (by simp) ?_; (case hd => rfl); (case hg => rfl); (case hr => first | (go_simp; done) | (go_simp; rfl)); (case hp => exact (Reps.none _ _)); intro v656 w20 ho21 hb hg_ hnew_; clear hg_ hnew_; (first | rw [← Ny655.out] at ho21 | (simp only [Int.reduceToNat] at ho21; rw [← Ny655.out] at ho21)); have n0_ := Aside0.mk (Kd.V_elder' (zv HO_3.out) (Kd.R_base ho21) hb); have n1_ := Aside0.mk (Kd.V_elder' (zv HO_4.out) (Kd.R_base ho21) hb); have n2_ := Aside0.mk (Kd.V_elder' (zv HO_6.out) (Kd.R_base ho21) hb); have n3_ := Aside0.mk (Kd.R_lower ho21 (below_size (zb HB.out))); have n4_ := Aside0.mk (below_step (zb HB.out) hb); clear HO_3 HO_4 HO_6 HB; have HO_3 := n0_; have HO_4 := n1_; have HO_6 := n2_; have HO657 := n3_; have HB := n4_; clear n0_ n1_ n2_ n3_ n4_; clear hb ho21))
      go_loopg [8, 9] kj4 (fun kq v8 v9 w' => ∃ (x8_2 : List Int) (x9_2 : Int), v9 = .int .i64 x9_2 ∧ Aside0 (laws_FnEndTimeLater.l0 kq t642 t645 t648 t649 t652 x8_2 x9_2 = some r) ∧ Aside0 (kq ≤ kj4) ∧ Aside0 (Kd.V k33 33 w' w.heap.size (fun k_ => some k_ ≠ (v8 : Value).ownBlock) (.slice Ao7 t642.length co7) t642) ∧ Aside0 (Kd.V (Kd.int .i64) 3 w' w.heap.size (fun k_ => some k_ ≠ (v8 : Value).ownBlock) (.slice Ao8 t645.length co8) t645) ∧ Aside0 (Kd.V (Kd.int .i64) 3 w' w.heap.size (fun k_ => some k_ ≠ (v8 : Value).ownBlock) (.slice Ao9 t649.length co9) t649) ∧ Aside0 (Kd.R (Kd.int .i64) 3 w' w.heap.size (fun _ => True) v8 x8_2) ∧ Aside0 (Below w.heap.size w w'))
      case atStart => exact ⟨(y655), (0), (zf), H', ⟨Nat.le_refl _⟩, ⟨by (with_reducible repeat (first | apply Kd.V_alloc | apply Kd.V_drewN | apply Kd.V_drew)); exact Kd.V_mono HO_3.out (fun _ hk => hk.2)⟩, ⟨by (with_reducible repeat (first | apply Kd.V_alloc | apply Kd.V_drewN | apply Kd.V_drew)); exact Kd.V_mono HO_4.out (fun _ hk => hk.2)⟩, ⟨by (with_reducible repeat (first | apply Kd.V_alloc | apply Kd.V_drewN | apply Kd.V_drew)); exact Kd.V_mono HO_6.out (fun _ hk => hk.2)⟩, ⟨by (with_reducible repeat (first | apply Kd.R_alloc | apply Kd.R_drewN | apply Kd.R_drew)); exact HO657.out⟩, ⟨zb HB.out⟩⟩
      case round =>
        clear H'
        try clear c1
        try clear c2
        try clear c2b0
        try clear c2b1
        try clear p2
        try clear c8
        try clear c12
        try clear c12b0
        try clear c12b1
        try clear c13
        try clear c13b0
        try clear c17
        try clear p2
        obtain ⟨x8_2, x9_2, rfl, HA, HK2, HO_3, HO_4, HO_6, HO_8, HB⟩ := hrel
        cases gk with
        | zero => exact absurd HA.out (by simp [laws_FnEndTimeLater.l0])
        | succ k2 =>
          have H := HA.out
          clear HA
          simp only [laws_FnEndTimeLater.l0] at H
          by_cases c22 : x9_2 < (t649.length : Int)
          · rw [if_pos c22] at H
            have c22b0 : decide (x9_2 < (t649.length : Int)) = true := decide_eq_true c22
            clear c22
            by_cases c23 : 0 ≤ x9_2
            · rw [if_pos c23] at H
              have c23b0 : decide (0 ≤ x9_2) = true := decide_eq_true c23
              clear c23
              by_cases c24 : (wrap64 ((rd t649 x9_2) + 2)) > 200
              · rw [if_pos c24] at H
                have c24b0 : decide (200 < (wrap64 ((rd t649 x9_2) + 2))) = true := decide_eq_true c24
                clear c24
                obtain rfl := Option.some.inj H
                have p658 : 0 ≤ (x9_2 : Int) := of_decide_eq_true (za)
                have q658 : x9_2 < (t649.length : Int) := of_decide_eq_true (za)
                obtain ⟨ad658, e658, hx658_0⟩ := Kd.at_int (Kd.V_reads' HO_6.out).2.2 x9_2 p658 q658
                cases e658
                replace p658 := eq_true p658
                replace q658 := eq_true q658
                go_wp2
                go_ret
                exact ⟨ze, zb HB.out⟩
              rw [if_neg c24] at H
              have c24b0 : decide (200 < (wrap64 ((rd t649 x9_2) + 2))) = false := decide_eq_false c24
              clear c24
              by_cases c25 : x8_2.length < 17592186044416
              · rw [if_pos c25] at H
                have LMc25 := Aside0.mk c25
                clear c25
                obtain ⟨y660, hy660⟩ : ∃ y_ : List Int, y_ = (x8_2 ++ [wrap64 ((rd t649 x9_2) + 2)]) := ⟨_, rfl⟩
                replace H : (laws_FnEndTimeLater.l0 k2 t642 t645 t648 t649 t652 y660 (wrap64 (x9_2 + 1))) = some r := by first | (rw [hy660]; with_reducible exact H) | (have H2_ := (Option.bind_some _ _).symm.trans H; rw [hy660]; with_reducible exact H2_) | (have H2_ := (Option.bind_some _ _).symm.trans H; with_reducible exact H2_) | with_reducible exact H | (rw [hy660]; exact H) | exact H
                have Ny660 := Aside0.mk hy660
                clear hy660
                have H' := Aside0.mk H
                clear H
                have p658 : 0 ≤ (x9_2 : Int) := of_decide_eq_true (za)
                have q658 : x9_2 < (t649.length : Int) := of_decide_eq_true (za)
                obtain ⟨ad658, e658, hx658_0⟩ := Kd.at_int (Kd.V_reads' HO_6.out).2.2 x9_2 p658 q658
                cases e658
                replace p658 := eq_true p658
                replace q658 := eq_true q658
                have p659 : 0 ≤ (x9_2 : Int) := of_decide_eq_true (za)
                have q659 : x9_2 < (t649.length : Int) := of_decide_eq_true (za)
                obtain ⟨ad659, e659, hx659_0⟩ := Kd.at_int (Kd.V_reads' HO_6.out).2.2 x9_2 p659 q659
                obtain rfl : ad658 = ad659 := (by injection e659)
                replace p659 := eq_true p659
                replace q659 := eq_true q659
                go_wp2_with (first | ((with_reducible refine gate_builtin (b := .append) (xs := #[.tmp 61, .tmp 67]) rfl ?_); (try (refine gate_guard (by rfl) ?_; dsimp only)); at_builtin; refine Kd.R_append (Kd.int .i64) (w0 := w) w.heap.size rfl (.tmp 61) (.tmp 67) 24 3 (.int .i64 0) 8 rfl Tryd.underlying24 info3 rfl (by decide) (by omega) u8 x8_2 (wrap64 ((rd t649 x9_2) + 2)) [.int .i64 (wrap64 ((rd t649 x9_2) + 2))] (fun _ => True) (fun _ => False) rfl rfl ?aP (fun _ hk => hk.elim) ?aF ?aO ?aB ?aS ?aL ?_; (case aP => exact rfl); (case aB => exact (zb HB.out)); (case aF => exact (fun _ _ => trivial)); (case aO => exact (zr HO_8.out)); (case aS => exact (below_size (zb HB.out))); (case aL => have := LMc25.out; omega); intro v661 w26 ho hb hg hat; rw [← Ny660.out] at ho; have n0_ := Aside0.mk (Kd.V_afterv (ok := (fun _ => True)) (by (with_reducible repeat (first | apply Kd.V_alloc | apply Kd.V_drewN | apply Kd.V_drew)); exact Kd.V_mono HO_3.out (fun _ hk => ⟨trivial, hk⟩)) hg hat); have n1_ := Aside0.mk (Kd.V_afterv (ok := (fun _ => True)) (by (with_reducible repeat (first | apply Kd.V_alloc | apply Kd.V_drewN | apply Kd.V_drew)); exact Kd.V_mono HO_4.out (fun _ hk => ⟨trivial, hk⟩)) hg hat); have n2_ := Aside0.mk (Kd.V_afterv (ok := (fun _ => True)) (by (with_reducible repeat (first | apply Kd.V_alloc | apply Kd.V_drewN | apply Kd.V_drew)); exact Kd.V_mono HO_6.out (fun _ hk => ⟨trivial, hk⟩)) hg hat); have n3_ := Aside0.mk (hb); have n4_ := Aside0.mk (ho); clear HO_3 HO_4 HO_6 HB HO_8; have HO_3 := n0_; have HO_4 := n1_; have HO_6 := n2_; have HB := n3_; have HO662 := n4_; clear n0_ n1_ n2_ n3_ n4_; clear ho hb hg hat))
                go_roundg k2
                case measure => have := HJ4.out; have := HK2.out; omega
                case rel => exact ⟨(y660), (wrap64 (x9_2 + 1)), (zf), H', ⟨by have := HJ4.out; have := HK2.out; omega⟩, ⟨by (with_reducible repeat (first | apply Kd.V_alloc | apply Kd.V_drewN | apply Kd.V_drew)); exact Kd.V_mono HO_3.out (fun _ hk => hk.2)⟩, ⟨by (with_reducible repeat (first | apply Kd.V_alloc | apply Kd.V_drewN | apply Kd.V_drew)); exact Kd.V_mono HO_4.out (fun _ hk => hk.2)⟩, ⟨by (with_reducible repeat (first | apply Kd.V_alloc | apply Kd.V_drewN | apply Kd.V_drew)); exact Kd.V_mono HO_6.out (fun _ hk => hk.2)⟩, ⟨by (with_reducible repeat (first | apply Kd.R_alloc | apply Kd.R_drewN | apply Kd.R_drew)); exact HO662.out⟩, ⟨zb HB.out⟩⟩
              rw [if_neg c25] at H
              exact absurd H (by simp)
            rw [if_neg c23] at H
            exact absurd H (by simp)
          rw [if_neg c22] at H
          have c22b0 : decide (x9_2 < (t649.length : Int)) = false := decide_eq_false c22
          clear c22
          replace H := Option.bind_eq_some_iff.mp H
          obtain ⟨t663, A270, H⟩ := H
          replace H : (some (t663 == (wrap64 (t652 + 2)))) = some r := H
          have A27 := Aside0.mk A270
          clear A270
          obtain rfl := Option.some.inj H
          obtain ⟨Ao28, co28, eo28⟩ := Kd.R_slice HO_8.out
          subst eo28
          go_wp2_with (first | ((with_reducible refine gate_callee (f := 23) rfl ?_); refine goesL_ (some 73) rfl rfl Tryd.func23 (by kernel_rfl) rfl #[.slice Ao7 t642.length co7, .slice Ao8 t645.length co8, .int .i64 t648, .slice Ao28 x8_2.length co28] rfl (by (try simp only [List.map_toArray, List.map_cons, List.map_nil]); first | done | rfl | (simp only [List.length_drop, List.length_take]; rfl)) ?_; (with_reducible refine (impl_EndTime.calls _ _ t642 _ _ t645 t648 _ _ x8_2 t663 _ ?sideT ?side1 ?side2 ?side3 ?side4 ?side5 ?side6 A27.out).mono ?_); (case sideT => exact Tab.below' HTab_.out (zb HB.out)); (case side1 => repeat (first | exact (Kd.V_reads' HO_3.out).2.2 | (with_reducible refine Kd.C_alloc ?_ _) | (with_reducible refine Kd.C_drewN ?_ _) | (with_reducible refine Kd.C_drew ?_))); (case side2 => exact (Kd.V_reads' HO_3.out).2.1); (case side3 => repeat (first | exact (Kd.V_reads' HO_4.out).2.2 | (with_reducible refine Kd.C_alloc ?_ _) | (with_reducible refine Kd.C_drewN ?_ _) | (with_reducible refine Kd.C_drew ?_))); (case side4 => exact (Kd.V_reads' HO_4.out).2.1); (case side5 => exact zt (Kd.R_reads' HO_8.out).2.2); (case side6 => exact (Kd.R_reads' HO_8.out).2.1); rintro e w29 ⟨rfl, hb⟩; refine ⟨_, rfl, ?_⟩; have n0_ := Aside0.mk (Kd.V_below (zv HO_3.out) hb); have n1_ := Aside0.mk (Kd.V_below (zv HO_4.out) hb); have n2_ := Aside0.mk (Kd.V_below (zv HO_6.out) hb); have n3_ := Aside0.mk (Kd.R_below (zr HO_8.out) hb); have n4_ := Aside0.mk (below_step (zb HB.out) hb); clear HO_3 HO_4 HO_6 HO_8 HB; have HO_3 := n0_; have HO_4 := n1_; have HO_6 := n2_; have HO_8 := n3_; have HB := n4_; clear n0_ n1_ n2_ n3_ n4_; (try clear hb); (try clear hb2); (try clear hk); (try clear hi)))
          go_ret
          exact ⟨ze, zb HB.out⟩

end Go.Proofs.YtaoeopeempmnnaaDoor.PA

/-
  PLAIN: the law FnEndTimeLater answers true.
-/
namespace Go.Proofs.YtaoeopeempmnnaaDoor
open Go Go.RowKit Go.Proofs.YtaoeopeempmnnaaDoor.M Go.Proofs.YtaoeopeempmnnaaDoorW.PrintWords Go.Proofs.YtaoeopeempmnnaaDoorW.PrintLast Go.Proofs.YtaoeopeempmnnaaDoorW.PrintMore Go.Proofs.YtaoeopeempmnnaaDoor.PA
set_option linter.unusedSimpArgs false
set_option linter.unusedVariables false

theorem el_l0 (g : List TkD) (room : List Int) (wk : Int) (st : List Int) (hF : Fine g room wk st) (hp : 0 < g.length) : ∀ (r i : Nat) (x : List Int), i + r = st.length → x = (st.take i).map (· + 2) → (∀ j : Nat, j < i → rd st (j : Int) + 2 ≤ 200) → Gives (fun k => laws_FnEndTimeLater.l0 k g room wk st (endM g st) x (i : Int)) true
  | 0, i, x, h, hx, hj => by
    have hl := hF.hlen
    refine Gives.of_succ (fun k => by rw [laws_FnEndTimeLater.l0]) ?_
    refine Gives.neg (by omega) ?_
    rw [List.take_of_length_le (by omega)] at hx
    have hF2 := hF.moved 2 (by omega) (fun j hj' => hj j (by omega))
    have e0 := hF.end.h0
    have e1 := hF.end.h1
    refine Gives.bind (v := endM g st + 2) (Gives.now (by unfold impl_EndTime.f; rw [hx, endTime_fine hF2, hF.end_moved hp 2 hF2])) ?_
    rw [wrap_sm (endM g st + 2) (by omega) (by omega)]
    exact Gives.now (by simp)
  | r + 1, i, x, h, hx, hj => by
    have hl := hF.hlen
    have h8 := hF.h8
    have hin := hF.hin i (by omega)
    refine Gives.of_succ (fun k => by rw [laws_FnEndTimeLater.l0]) ?_
    refine Gives.pos (by omega) (Gives.pos (by omega) ?_)
    rw [wrap_sm (rd st (i : Int) + 2) (by omega) (by omega)]
    by_cases c : rd st (i : Int) + 2 > 200
    · exact Gives.pos c (Gives.const _)
    have hxl : x.length ≤ 8 := by rw [hx]; simp; omega
    rw [wrap_succ i (by omega)]
    refine Gives.neg c (Gives.pos (by omega) (el_l0 g room wk st hF hp r (i + 1) _ (by omega) (by rw [take_rd st i (by omega), List.map_append, hx]; rfl) (fun j hj' => ?_)))
    by_cases hji : j = i
    · subst hji; omega
    exact hj j (by omega)
theorem lawEL_gives (l0 : List Int) (hw : ∀ x ∈ l0, (Lit.int .u8 x).wf = true) : Gives (fun k => laws_FnEndTimeLater.f k l0) true := by
  unfold laws_FnEndTimeLater.f
  by_cases c1 : (l0.length : Int) > 1048576
  · exact Gives.pos c1 (Gives.const _)
  refine Gives.neg c1 ?_
  obtain ⟨⟨g, room, wk, st⟩, hv, hd⟩ := draw_ok l0 hw
  obtain ⟨s1, s2, s3, s4⟩ := hd.small
  have hS := specEndTime_gives g room wk st s1 s2 s3 s4
  have hj : Gives (fun k => laws_FnEndTimeLater.j0 k g room wk st (endTimeM g room wk st) true) true := by
    refine Gives.of_succ (fun k => by rw [laws_FnEndTimeLater.j0]) ?_
    exact Gives.pos rfl (Gives.bind hS (Gives.now (by simp)))
  refine Gives.bind (v := (g, room, wk, st)) (Gives.now (by unfold spec_DrawEndTime.f; rw [hv]; rfl)) ?_
  refine Gives.bind (v := endTimeM g room wk st) (Gives.now rfl) ?_
  refine Gives.bind hS ?_
  refine Gives.pos rfl ?_
  simp only
  by_cases hF : Fine g room wk st
  · have e0 := hF.end.h0
    rw [endTime_fine hF] at hj ⊢
    refine Gives.neg (by omega) ?_
    by_cases cz : g.length = 0
    · rw [show ((g.length : Int) == 0) = true by simp [cz]]
      exact hj
    rw [show ((g.length : Int) == 0) = false from beq_eq_false_iff_ne.2 (show (g.length : Int) ≠ 0 by omega)]
    refine Gives.of_succ (fun k => by rw [laws_FnEndTimeLater.j0]) ?_
    exact Gives.neg (by simp) (el_l0 g room wk st hF (by omega) st.length 0 [] (by omega) rfl (fun j hj => absurd hj (by omega)))
  refine Gives.pos (by rw [endTime_not hF]; omega) hj
end Go.Proofs.YtaoeopeempmnnaaDoor

