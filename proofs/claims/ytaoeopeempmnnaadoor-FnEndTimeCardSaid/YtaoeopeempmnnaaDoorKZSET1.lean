/-
  The walk of the law, and its plain law: laws.FnEndTime answers true, whatever the arguments (the listed table as the program's text lays it).
-/
import Derived.Test.YtaoeopeempmnnaaDoorKZB1
import Derived.Test.YtaoeopeempmnnaaDoorKZB2
import Derived.Test.YtaoeopeempmnnaaDoorKZB3
import Derived.Test.YtaoeopeempmnnaaDoorKZB4
import Derived.Test.YtaoeopeempmnnaaDoorKZB5
import Derived.Test.YtaoeopeempmnnaaDoorKZB6
namespace Go.Proofs.YtaoeopeempmnnaaDoor.PA
open Go.RowKit Go.Proofs.YtaoeopeempmnnaaDoorW.PrintWords Go.Proofs.YtaoeopeempmnnaaDoorW.PrintLast Go.Proofs.YtaoeopeempmnnaaDoorW.PrintMore
attribute [local go_sem] max2_int min2_int max_two min_two
set_option linter.unusedVariables false
set_option linter.unusedSimpArgs false

noncomputable def spec_DrawEndTime.f (l0 : List Int) : Option ((List (S33)) × List Int × Int × List Int) := (spec_DrawValidStarts.f l0).bind fun bt499 => (some (bt499.1, bt499.2.1, bt499.2.2.1, bt499.2.2.2))
set_option maxHeartbeats 8000000 in
set_option maxRecDepth 100000 in
theorem spec_DrawEndTime.calls (A0 : Option Addr) (c0 : Nat) (l0 : List Int) (r1 : List (S33)) (r2 : List Int) (r3 : Int) (r4 : List Int) (w : World) (hr0 : Kd.C (Kd.int .u8) w A0 l0.length l0) (hc0 : l0.length ≤ c0) (h : spec_DrawEndTime.f l0 = some (r1, r2, r3, r4)) :
    Calls Tryd.prog 22 #[.slice A0 l0.length c0] w fun e w' => ∃ v0_ v1_ v3_ : Value, e = .returned (.tuple #[v0_, v1_, .int .i64 r3, v3_]) ∧ Kd.V k33 33 w' w.heap.size (fun k_ => (w.heap.size ≤ k_)) v0_ r1 ∧ Kd.V (Kd.int .i64) 3 w' w.heap.size (fun k_ => (w.heap.size ≤ k_)) v1_ r2 ∧ Kd.V (Kd.int .i64) 3 w' w.heap.size (fun k_ => (w.heap.size ≤ k_)) v3_ r4 ∧ Below w.heap.size w w' := by
  have HR0 := Aside0.mk hr0
  have HC0 := Aside0.mk hc0
  clear hr0 hc0
  have HB := Aside0.mk (Below.refl w.heap.size w)
  have H : ((spec_DrawValidStarts.f l0).bind fun bt499 => (some (bt499.1, bt499.2.1, bt499.2.2.1, bt499.2.2.2))) = some (r1, r2, r3, r4) := h
  clear h
  replace H := Option.bind_eq_some_iff.mp H
  obtain ⟨⟨t499, t502, t505, t506⟩, A20, H⟩ := H
  replace H : (some (t499, t502, t505, t506)) = some (r1, r2, r3, r4) := H
  have A2 := Aside0.mk A20
  clear A20
  simp only [Option.some.injEq, Prod.mk.injEq] at H
  obtain ⟨rfl, rfl, rfl, rfl⟩ := H
  go_enter Tryd.func22, Tryd.ntmps22
  go_wp2_with (first | ((with_reducible refine gate_callee (f := 15) rfl ?_); refine goesL_ (some 7) rfl rfl Tryd.func15 (by kernel_rfl) rfl #[.slice A0 l0.length c0] rfl (by (try simp only [List.map_toArray, List.map_cons, List.map_nil]); first | done | rfl | (simp only [List.length_drop, List.length_take]; rfl)) ?_; (with_reducible refine (spec_DrawValidStarts.calls _ _ l0 t499 t502 t505 t506 _ ?side1 ?side2 A2.out).mono ?_); (case side1 => exact zt HR0.out); (case side2 => exact HC0.out); rintro e w3 ⟨v500, v503, v507, rfl, ho0, ho1, ho2, hb⟩; refine ⟨_, rfl, ?_⟩; have n0_ := Aside0.mk (Kd.V_lower (Kd.V_mono (ok' := fun k_ => (w.heap.size ≤ k_)) ho0 (fun k_ hk_ => (Nat.le_trans (below_size (zb HB.out)) hk_))) (below_size (zb HB.out))); have n1_ := Aside0.mk (Kd.V_lower (Kd.V_mono (ok' := fun k_ => (w.heap.size ≤ k_)) ho1 (fun k_ hk_ => (Nat.le_trans (below_size (zb HB.out)) hk_))) (below_size (zb HB.out))); have n2_ := Aside0.mk (Kd.V_lower (Kd.V_mono (ok' := fun k_ => (w.heap.size ≤ k_)) ho2 (fun k_ hk_ => (Nat.le_trans (below_size (zb HB.out)) hk_))) (below_size (zb HB.out))); have n3_ := Aside0.mk (below_step (zb HB.out) hb); clear HB; have HO501 := n0_; have HO504 := n1_; have HO508 := n2_; have HB := n3_; clear n0_ n1_ n2_ n3_; (try clear hb); (try clear ho0); (try clear ho1); (try clear ho2)))
  refine bodyPost_ret (results_list (rs := [.tmp 2, .tmp 3, .tmp 4, .tmp 5]) rfl (by simp) (.tmp (.tmp (.tmp (.tmp .nil))))) rfl ?_
  exact ⟨_, _, _, ze, zv HO501.out, zv HO504.out, zv HO508.out, zb HB.out⟩

attribute [local go_sem] max2_int min2_int max_two min_two
set_option linter.unusedVariables false
set_option linter.unusedSimpArgs false

attribute [local go_sem] max2_int min2_int max_two min_two
set_option linter.unusedVariables false
set_option linter.unusedSimpArgs false

attribute [local go_sem] max2_int min2_int max_two min_two
set_option linter.unusedVariables false
set_option linter.unusedSimpArgs false

attribute [local go_sem] max2_int min2_int max_two min_two
set_option linter.unusedVariables false
set_option linter.unusedSimpArgs false

attribute [local go_sem] max2_int min2_int max_two min_two
set_option linter.unusedVariables false
set_option linter.unusedSimpArgs false

attribute [local go_sem] max2_int min2_int max_two min_two
set_option linter.unusedVariables false
set_option linter.unusedSimpArgs false

mutual
noncomputable def laws_FnEndTime.j0 : Nat → List (S33) → List Int → Int → List Int → Int → Bool → Option (Bool)
  | 0, _, _, _, _, _, _ => none
  | k + 1, x3, x4, x5, x6, x7, x42 => if x42 = true then ((spec_EndTime.f k x3 x4 x5 x6).bind fun t635 => (some (x7 == t635))) else (if (x3.length : Int) = 0 then (laws_FnEndTime.j1 k x3 x6 x7 (x7 == 0)) else (laws_FnEndTime.j1 k x3 x6 x7 false))
noncomputable def laws_FnEndTime.j1 : Nat → List (S33) → List Int → Int → Bool → Option (Bool)
  | 0, _, _, _, _ => none
  | k + 1, x3, x6, x7, x8 => laws_FnEndTime.l0 k x3 x6 x7 x8 0
noncomputable def laws_FnEndTime.l0 : Nat → List (S33) → List Int → Int → Bool → Int → Option (Bool)
  | 0, _, _, _, _, _ => none
  | k + 1, x3, x6, x7, x8, x9 => if x9 < (x3.length : Int) then (if x8 = true then (if 0 ≤ x9 then (if x9 < (x6.length : Int) then (if (wrap64 ((rd x6 x9) + ((rd_T33 x3 x9).f0))) > x7 then (some false) else (laws_FnEndTime.l0 k x3 x6 x7 true (wrap64 (x9 + 1)))) else (none)) else (none)) else (if 0 ≤ x9 then (if x9 < (x6.length : Int) then (if (wrap64 ((rd x6 x9) + ((rd_T33 x3 x9).f0))) > x7 then (some false) else (laws_FnEndTime.l0 k x3 x6 x7 ((wrap64 ((rd x6 x9) + ((rd_T33 x3 x9).f0))) == x7) (wrap64 (x9 + 1)))) else (none)) else (none))) else (some x8)
end
noncomputable def laws_FnEndTime.f (k : Nat) (l0 : List Int) : Option (Bool) := if (l0.length : Int) > 1048576 then (some true) else ((spec_DrawEndTime.f l0).bind fun bt623 => ((impl_EndTime.f bt623.1 bt623.2.1 bt623.2.2.1 bt623.2.2.2).bind fun t633 => ((spec_EndTime.f k bt623.1 bt623.2.1 bt623.2.2.1 bt623.2.2.2).bind fun t634 => (if t633 = t634 then (if t633 < 0 then (laws_FnEndTime.j0 k bt623.1 bt623.2.1 bt623.2.2.1 bt623.2.2.2 t633 true) else (laws_FnEndTime.j0 k bt623.1 bt623.2.1 bt623.2.2.1 bt623.2.2.2 t633 ((bt623.2.2.2.length : Int) != (bt623.1.length : Int)))) else (laws_FnEndTime.j0 k bt623.1 bt623.2.1 bt623.2.2.1 bt623.2.2.2 t633 true)))))
set_option maxHeartbeats 8000000 in
set_option maxRecDepth 100000 in
theorem laws_FnEndTime.calls (k : Nat) (A0 : Option Addr) (c0 : Nat) (l0 : List Int) (r : Bool) (w : World) (hT_ : Tab w) (hr0 : Kd.C (Kd.int .u8) w A0 l0.length l0) (hc0 : l0.length ≤ c0) (h : laws_FnEndTime.f k l0 = some r) :
    Calls Tryd.prog 7 #[.slice A0 l0.length c0] w fun e w' => e = .returned (.bool r) ∧ Below w.heap.size w w' := by
  have HR0 := Aside0.mk hr0
  have HC0 := Aside0.mk hc0
  clear hr0 hc0
  have HTab_ := Aside0.mk hT_; clear hT_; have HB := Aside0.mk (Below.refl w.heap.size w)
  have H : (if (l0.length : Int) > 1048576 then (some true) else ((spec_DrawEndTime.f l0).bind fun bt623 => ((impl_EndTime.f bt623.1 bt623.2.1 bt623.2.2.1 bt623.2.2.2).bind fun t633 => ((spec_EndTime.f k bt623.1 bt623.2.1 bt623.2.2.1 bt623.2.2.2).bind fun t634 => (if t633 = t634 then (if t633 < 0 then (laws_FnEndTime.j0 k bt623.1 bt623.2.1 bt623.2.2.1 bt623.2.2.2 t633 true) else (laws_FnEndTime.j0 k bt623.1 bt623.2.1 bt623.2.2.1 bt623.2.2.2 t633 ((bt623.2.2.2.length : Int) != (bt623.1.length : Int)))) else (laws_FnEndTime.j0 k bt623.1 bt623.2.1 bt623.2.2.1 bt623.2.2.2 t633 true)))))) = some r := h
  clear h
  by_cases c2 : (l0.length : Int) > 1048576
  · rw [if_pos c2] at H
    have c2b0 : decide (1048576 < (l0.length : Int)) = true := decide_eq_true c2
    have c2b1 : decide (1048576 < l0.length) = true := decide_eq_true (by omega)
    clear c2
    obtain rfl := Option.some.inj H
    go_enter Tryd.func7, Tryd.ntmps7
    go_wp2
    repeat (go_quiet (fail); try go_wp2)
    go_ret
    exact ⟨ze, zb HB.out⟩
  rw [if_neg c2] at H
  have c2b0 : decide (1048576 < (l0.length : Int)) = false := decide_eq_false c2
  have c2b1 : decide (1048576 < l0.length) = false := decide_eq_false (by omega)
  clear c2
  replace H := Option.bind_eq_some_iff.mp H
  obtain ⟨⟨t623, t626, t629, t630⟩, A30, H⟩ := H
  replace H : ((impl_EndTime.f t623 t626 t629 t630).bind fun t633 => ((spec_EndTime.f k t623 t626 t629 t630).bind fun t634 => (if t633 = t634 then (if t633 < 0 then (laws_FnEndTime.j0 k t623 t626 t629 t630 t633 true) else (laws_FnEndTime.j0 k t623 t626 t629 t630 t633 ((t630.length : Int) != (t623.length : Int)))) else (laws_FnEndTime.j0 k t623 t626 t629 t630 t633 true)))) = some r := H
  have A3 := Aside0.mk A30
  clear A30
  replace H := Option.bind_eq_some_iff.mp H
  obtain ⟨t633, A40, H⟩ := H
  replace H : ((spec_EndTime.f k t623 t626 t629 t630).bind fun t634 => (if t633 = t634 then (if t633 < 0 then (laws_FnEndTime.j0 k t623 t626 t629 t630 t633 true) else (laws_FnEndTime.j0 k t623 t626 t629 t630 t633 ((t630.length : Int) != (t623.length : Int)))) else (laws_FnEndTime.j0 k t623 t626 t629 t630 t633 true))) = some r := H
  have A4 := Aside0.mk A40
  clear A40
  have HC5 := Aside0.mk H
  clear H
  go_enter Tryd.func7, Tryd.ntmps7
  go_upto_region 5 with (first | (go_at_call 22; (with_reducible refine (spec_DrawEndTime.calls _ _ l0 t623 t626 t629 t630 _ ?side1 ?side2 A3.out).mono ?_); (case side1 => exact zt HR0.out); (case side2 => exact HC0.out); rintro e w6 ⟨v624, v627, v631, rfl, ho0, ho1, ho2, hb⟩; have n0_ := Aside0.mk (Kd.V_lower (Kd.V_mono (ok' := fun k_ => True) ho0 (fun k_ hk_ => trivial)) (below_size (zb HB.out))); have n1_ := Aside0.mk (Kd.V_lower (Kd.V_mono (ok' := fun k_ => True) ho1 (fun k_ hk_ => trivial)) (below_size (zb HB.out))); have n2_ := Aside0.mk (Kd.V_lower (Kd.V_mono (ok' := fun k_ => True) ho2 (fun k_ hk_ => trivial)) (below_size (zb HB.out))); have n3_ := Aside0.mk (below_step (zb HB.out) hb); clear HB; have HO625 := n0_; have HO628 := n1_; have HO632 := n2_; have HB := n3_; clear n0_ n1_ n2_ n3_; (try clear hb); (try clear ho0); (try clear ho1); (try clear ho2); obtain ⟨Ao7, co7, eo7⟩ := Kd.V_slice HO625.out; subst eo7; obtain ⟨Ao8, co8, eo8⟩ := Kd.V_slice HO628.out; subst eo8; obtain ⟨Ao9, co9, eo9⟩ := Kd.V_slice HO632.out; subst eo9) | (go_at_call 23; (with_reducible refine (impl_EndTime.calls _ _ t623 _ _ t626 t629 _ _ t630 t633 _ ?sideT ?side1 ?side2 ?side3 ?side4 ?side5 ?side6 A4.out).mono ?_); (case sideT => exact Tab.below' HTab_.out (zb HB.out)); (case side1 => repeat (first | exact (Kd.V_reads' HO625.out).2.2 | (with_reducible refine Kd.C_alloc ?_ _) | (with_reducible refine Kd.C_drewN ?_ _) | (with_reducible refine Kd.C_drew ?_))); (case side2 => exact (Kd.V_reads' HO625.out).2.1); (case side3 => repeat (first | exact (Kd.V_reads' HO628.out).2.2 | (with_reducible refine Kd.C_alloc ?_ _) | (with_reducible refine Kd.C_drewN ?_ _) | (with_reducible refine Kd.C_drew ?_))); (case side4 => exact (Kd.V_reads' HO628.out).2.1); (case side5 => repeat (first | exact (Kd.V_reads' HO632.out).2.2 | (with_reducible refine Kd.C_alloc ?_ _) | (with_reducible refine Kd.C_drewN ?_ _) | (with_reducible refine Kd.C_drew ?_))); (case side6 => exact (Kd.V_reads' HO632.out).2.1); rintro e w10 ⟨rfl, hb⟩; have n0_ := Aside0.mk (Kd.V_below (zv HO625.out) hb); have n1_ := Aside0.mk (Kd.V_below (zv HO628.out) hb); have n2_ := Aside0.mk (Kd.V_below (zv HO632.out) hb); have n3_ := Aside0.mk (below_step (zb HB.out) hb); clear HO625 HO628 HO632 HB; have HO625 := n0_; have HO628 := n1_; have HO632 := n2_; have HB := n3_; clear n0_ n1_ n2_ n3_; (try clear hb); (try clear hb2); (try clear hk); (try clear hi)))
  repeat (go_quiet (first | (go_at_call 22; (with_reducible refine (spec_DrawEndTime.calls _ _ l0 t623 t626 t629 t630 _ ?side1 ?side2 A3.out).mono ?_); (case side1 => exact zt HR0.out); (case side2 => exact HC0.out); rintro e w6 ⟨v624, v627, v631, rfl, ho0, ho1, ho2, hb⟩; have n0_ := Aside0.mk (Kd.V_lower (Kd.V_mono (ok' := fun k_ => True) ho0 (fun k_ hk_ => trivial)) (below_size (zb HB.out))); have n1_ := Aside0.mk (Kd.V_lower (Kd.V_mono (ok' := fun k_ => True) ho1 (fun k_ hk_ => trivial)) (below_size (zb HB.out))); have n2_ := Aside0.mk (Kd.V_lower (Kd.V_mono (ok' := fun k_ => True) ho2 (fun k_ hk_ => trivial)) (below_size (zb HB.out))); have n3_ := Aside0.mk (below_step (zb HB.out) hb); clear HB; have HO625 := n0_; have HO628 := n1_; have HO632 := n2_; have HB := n3_; clear n0_ n1_ n2_ n3_; (try clear hb); (try clear ho0); (try clear ho1); (try clear ho2); obtain ⟨Ao7, co7, eo7⟩ := Kd.V_slice HO625.out; subst eo7; obtain ⟨Ao8, co8, eo8⟩ := Kd.V_slice HO628.out; subst eo8; obtain ⟨Ao9, co9, eo9⟩ := Kd.V_slice HO632.out; subst eo9) | (go_at_call 23; (with_reducible refine (impl_EndTime.calls _ _ t623 _ _ t626 t629 _ _ t630 t633 _ ?sideT ?side1 ?side2 ?side3 ?side4 ?side5 ?side6 A4.out).mono ?_); (case sideT => exact Tab.below' HTab_.out (zb HB.out)); (case side1 => repeat (first | exact (Kd.V_reads' HO625.out).2.2 | (with_reducible refine Kd.C_alloc ?_ _) | (with_reducible refine Kd.C_drewN ?_ _) | (with_reducible refine Kd.C_drew ?_))); (case side2 => exact (Kd.V_reads' HO625.out).2.1); (case side3 => repeat (first | exact (Kd.V_reads' HO628.out).2.2 | (with_reducible refine Kd.C_alloc ?_ _) | (with_reducible refine Kd.C_drewN ?_ _) | (with_reducible refine Kd.C_drew ?_))); (case side4 => exact (Kd.V_reads' HO628.out).2.1); (case side5 => repeat (first | exact (Kd.V_reads' HO632.out).2.2 | (with_reducible refine Kd.C_alloc ?_ _) | (with_reducible refine Kd.C_drewN ?_ _) | (with_reducible refine Kd.C_drew ?_))); (case side6 => exact (Kd.V_reads' HO632.out).2.1); rintro e w10 ⟨rfl, hb⟩; have n0_ := Aside0.mk (Kd.V_below (zv HO625.out) hb); have n1_ := Aside0.mk (Kd.V_below (zv HO628.out) hb); have n2_ := Aside0.mk (Kd.V_below (zv HO632.out) hb); have n3_ := Aside0.mk (below_step (zb HB.out) hb); clear HO625 HO628 HO632 HB; have HO625 := n0_; have HO628 := n1_; have HO632 := n2_; have HB := n3_; clear n0_ n1_ n2_ n3_; (try clear hb); (try clear hb2); (try clear hk); (try clear hi))); go_upto_region 5 with (first | (go_at_call 22; (with_reducible refine (spec_DrawEndTime.calls _ _ l0 t623 t626 t629 t630 _ ?side1 ?side2 A3.out).mono ?_); (case side1 => exact zt HR0.out); (case side2 => exact HC0.out); rintro e w6 ⟨v624, v627, v631, rfl, ho0, ho1, ho2, hb⟩; have n0_ := Aside0.mk (Kd.V_lower (Kd.V_mono (ok' := fun k_ => True) ho0 (fun k_ hk_ => trivial)) (below_size (zb HB.out))); have n1_ := Aside0.mk (Kd.V_lower (Kd.V_mono (ok' := fun k_ => True) ho1 (fun k_ hk_ => trivial)) (below_size (zb HB.out))); have n2_ := Aside0.mk (Kd.V_lower (Kd.V_mono (ok' := fun k_ => True) ho2 (fun k_ hk_ => trivial)) (below_size (zb HB.out))); have n3_ := Aside0.mk (below_step (zb HB.out) hb); clear HB; have HO625 := n0_; have HO628 := n1_; have HO632 := n2_; have HB := n3_; clear n0_ n1_ n2_ n3_; (try clear hb); (try clear ho0); (try clear ho1); (try clear ho2); obtain ⟨Ao7, co7, eo7⟩ := Kd.V_slice HO625.out; subst eo7; obtain ⟨Ao8, co8, eo8⟩ := Kd.V_slice HO628.out; subst eo8; obtain ⟨Ao9, co9, eo9⟩ := Kd.V_slice HO632.out; subst eo9) | (go_at_call 23; (with_reducible refine (impl_EndTime.calls _ _ t623 _ _ t626 t629 _ _ t630 t633 _ ?sideT ?side1 ?side2 ?side3 ?side4 ?side5 ?side6 A4.out).mono ?_); (case sideT => exact Tab.below' HTab_.out (zb HB.out)); (case side1 => repeat (first | exact (Kd.V_reads' HO625.out).2.2 | (with_reducible refine Kd.C_alloc ?_ _) | (with_reducible refine Kd.C_drewN ?_ _) | (with_reducible refine Kd.C_drew ?_))); (case side2 => exact (Kd.V_reads' HO625.out).2.1); (case side3 => repeat (first | exact (Kd.V_reads' HO628.out).2.2 | (with_reducible refine Kd.C_alloc ?_ _) | (with_reducible refine Kd.C_drewN ?_ _) | (with_reducible refine Kd.C_drew ?_))); (case side4 => exact (Kd.V_reads' HO628.out).2.1); (case side5 => repeat (first | exact (Kd.V_reads' HO632.out).2.2 | (with_reducible refine Kd.C_alloc ?_ _) | (with_reducible refine Kd.C_drewN ?_ _) | (with_reducible refine Kd.C_drew ?_))); (case side6 => exact (Kd.V_reads' HO632.out).2.1); rintro e w10 ⟨rfl, hb⟩; have n0_ := Aside0.mk (Kd.V_below (zv HO625.out) hb); have n1_ := Aside0.mk (Kd.V_below (zv HO628.out) hb); have n2_ := Aside0.mk (Kd.V_below (zv HO632.out) hb); have n3_ := Aside0.mk (below_step (zb HB.out) hb); clear HO625 HO628 HO632 HB; have HO625 := n0_; have HO628 := n1_; have HO632 := n2_; have HB := n3_; clear n0_ n1_ n2_ n3_; (try clear hb); (try clear hb2); (try clear hk); (try clear hi))))
  (try simp only [Act.put, List.setIfInBounds_toArray, List.set_cons_zero, List.set_cons_succ])
  go_cut [42] (fun v42 wc => ∃ (kq : Nat) (x42_4 : Bool), v42 = .bool x42_4 ∧ Aside0 (laws_FnEndTime.j0 kq t623 t626 t629 t630 t633 x42_4 = some r) ∧ Aside0 (kq ≤ k) ∧ Aside0 (Kd.V k33 33 wc w.heap.size (fun _ => True) (.slice Ao7 t623.length co7) t623) ∧ Aside0 (Kd.V (Kd.int .i64) 3 wc w.heap.size (fun _ => True) (.slice Ao8 t626.length co8) t626) ∧ Aside0 (Kd.V (Kd.int .i64) 3 wc w.heap.size (fun _ => True) (.slice Ao9 t630.length co9) t630) ∧ Aside0 (Below w.heap.size w wc))
  case first =>
    have H := HC5.out
    clear HC5
    replace H := Option.bind_eq_some_iff.mp H
    obtain ⟨t634, A110, H⟩ := H
    replace H : (if t633 = t634 then (if t633 < 0 then (laws_FnEndTime.j0 k t623 t626 t629 t630 t633 true) else (laws_FnEndTime.j0 k t623 t626 t629 t630 t633 ((t630.length : Int) != (t623.length : Int)))) else (laws_FnEndTime.j0 k t623 t626 t629 t630 t633 true)) = some r := H
    have A11 := Aside0.mk A110
    clear A110
    by_cases c12 : t633 = t634
    · rw [if_pos c12] at H
      have c12b0 : (t633 == t634) = true := beq_iff_eq.mpr c12
      have c12b1 : (t633 != t634) = false := bne_eq_false_iff_eq.mpr c12
      clear c12
      (first | rw [c12b0] | (simp only [i64_w, i32_w]; rw [c12b0]) | skip)
      by_cases c13 : t633 < 0
      · rw [if_pos c13] at H
        have c13b0 : decide (t633 < 0) = true := decide_eq_true c13
        clear c13
        have H' := Aside0.mk H
        clear H
        go_wp2_with (first | (go_at_call 24; (with_reducible refine (spec_EndTime.calls k _ _ t623 _ _ t626 t629 _ _ t630 t634 _ ?side1 ?side2 ?side3 ?side4 ?side5 ?side6 A11.out).mono ?_); (case side1 => repeat (first | exact (Kd.V_reads' HO625.out).2.2 | (with_reducible refine Kd.C_alloc ?_ _) | (with_reducible refine Kd.C_drewN ?_ _) | (with_reducible refine Kd.C_drew ?_))); (case side2 => exact (Kd.V_reads' HO625.out).2.1); (case side3 => repeat (first | exact (Kd.V_reads' HO628.out).2.2 | (with_reducible refine Kd.C_alloc ?_ _) | (with_reducible refine Kd.C_drewN ?_ _) | (with_reducible refine Kd.C_drew ?_))); (case side4 => exact (Kd.V_reads' HO628.out).2.1); (case side5 => repeat (first | exact (Kd.V_reads' HO632.out).2.2 | (with_reducible refine Kd.C_alloc ?_ _) | (with_reducible refine Kd.C_drewN ?_ _) | (with_reducible refine Kd.C_drew ?_))); (case side6 => exact (Kd.V_reads' HO632.out).2.1); rintro e w14 ⟨rfl, hb⟩; have n0_ := Aside0.mk (Kd.V_below (zv HO625.out) hb); have n1_ := Aside0.mk (Kd.V_below (zv HO628.out) hb); have n2_ := Aside0.mk (Kd.V_below (zv HO632.out) hb); have n3_ := Aside0.mk (below_step (zb HB.out) hb); clear HO625 HO628 HO632 HB; have HO625 := n0_; have HO628 := n1_; have HO632 := n2_; have HB := n3_; clear n0_ n1_ n2_ n3_; (try clear hb); (try clear hb2); (try clear hk); (try clear hi)))
        repeat (go_quiet (first | (go_at_call 24; (with_reducible refine (spec_EndTime.calls k _ _ t623 _ _ t626 t629 _ _ t630 t634 _ ?side1 ?side2 ?side3 ?side4 ?side5 ?side6 A11.out).mono ?_); (case side1 => repeat (first | exact (Kd.V_reads' HO625.out).2.2 | (with_reducible refine Kd.C_alloc ?_ _) | (with_reducible refine Kd.C_drewN ?_ _) | (with_reducible refine Kd.C_drew ?_))); (case side2 => exact (Kd.V_reads' HO625.out).2.1); (case side3 => repeat (first | exact (Kd.V_reads' HO628.out).2.2 | (with_reducible refine Kd.C_alloc ?_ _) | (with_reducible refine Kd.C_drewN ?_ _) | (with_reducible refine Kd.C_drew ?_))); (case side4 => exact (Kd.V_reads' HO628.out).2.1); (case side5 => repeat (first | exact (Kd.V_reads' HO632.out).2.2 | (with_reducible refine Kd.C_alloc ?_ _) | (with_reducible refine Kd.C_drewN ?_ _) | (with_reducible refine Kd.C_drew ?_))); (case side6 => exact (Kd.V_reads' HO632.out).2.1); rintro e w14 ⟨rfl, hb⟩; have n0_ := Aside0.mk (Kd.V_below (zv HO625.out) hb); have n1_ := Aside0.mk (Kd.V_below (zv HO628.out) hb); have n2_ := Aside0.mk (Kd.V_below (zv HO632.out) hb); have n3_ := Aside0.mk (below_step (zb HB.out) hb); clear HO625 HO628 HO632 HB; have HO625 := n0_; have HO628 := n1_; have HO632 := n2_; have HB := n3_; clear n0_ n1_ n2_ n3_; (try clear hb); (try clear hb2); (try clear hk); (try clear hi))); try go_wp2_with (first | (go_at_call 24; (with_reducible refine (spec_EndTime.calls k _ _ t623 _ _ t626 t629 _ _ t630 t634 _ ?side1 ?side2 ?side3 ?side4 ?side5 ?side6 A11.out).mono ?_); (case side1 => repeat (first | exact (Kd.V_reads' HO625.out).2.2 | (with_reducible refine Kd.C_alloc ?_ _) | (with_reducible refine Kd.C_drewN ?_ _) | (with_reducible refine Kd.C_drew ?_))); (case side2 => exact (Kd.V_reads' HO625.out).2.1); (case side3 => repeat (first | exact (Kd.V_reads' HO628.out).2.2 | (with_reducible refine Kd.C_alloc ?_ _) | (with_reducible refine Kd.C_drewN ?_ _) | (with_reducible refine Kd.C_drew ?_))); (case side4 => exact (Kd.V_reads' HO628.out).2.1); (case side5 => repeat (first | exact (Kd.V_reads' HO632.out).2.2 | (with_reducible refine Kd.C_alloc ?_ _) | (with_reducible refine Kd.C_drewN ?_ _) | (with_reducible refine Kd.C_drew ?_))); (case side6 => exact (Kd.V_reads' HO632.out).2.1); rintro e w14 ⟨rfl, hb⟩; have n0_ := Aside0.mk (Kd.V_below (zv HO625.out) hb); have n1_ := Aside0.mk (Kd.V_below (zv HO628.out) hb); have n2_ := Aside0.mk (Kd.V_below (zv HO632.out) hb); have n3_ := Aside0.mk (below_step (zb HB.out) hb); clear HO625 HO628 HO632 HB; have HO625 := n0_; have HO628 := n1_; have HO632 := n2_; have HB := n3_; clear n0_ n1_ n2_ n3_; (try clear hb); (try clear hb2); (try clear hk); (try clear hi))))
        go_meet
        case rel => exact ⟨_, (true), (zf), H', ⟨by first | omega | exact Nat.le_refl _⟩, ⟨by (with_reducible repeat (first | apply Kd.V_alloc | apply Kd.V_drewN | apply Kd.V_drew)); exact HO625.out⟩, ⟨by (with_reducible repeat (first | apply Kd.V_alloc | apply Kd.V_drewN | apply Kd.V_drew)); exact HO628.out⟩, ⟨by (with_reducible repeat (first | apply Kd.V_alloc | apply Kd.V_drewN | apply Kd.V_drew)); exact HO632.out⟩, ⟨zb HB.out⟩⟩
      rw [if_neg c13] at H
      have c13b0 : decide (t633 < 0) = false := decide_eq_false c13
      clear c13
      have H' := Aside0.mk H
      clear H
      go_wp2_with (first | (go_at_call 24; (with_reducible refine (spec_EndTime.calls k _ _ t623 _ _ t626 t629 _ _ t630 t634 _ ?side1 ?side2 ?side3 ?side4 ?side5 ?side6 A11.out).mono ?_); (case side1 => repeat (first | exact (Kd.V_reads' HO625.out).2.2 | (with_reducible refine Kd.C_alloc ?_ _) | (with_reducible refine Kd.C_drewN ?_ _) | (with_reducible refine Kd.C_drew ?_))); (case side2 => exact (Kd.V_reads' HO625.out).2.1); (case side3 => repeat (first | exact (Kd.V_reads' HO628.out).2.2 | (with_reducible refine Kd.C_alloc ?_ _) | (with_reducible refine Kd.C_drewN ?_ _) | (with_reducible refine Kd.C_drew ?_))); (case side4 => exact (Kd.V_reads' HO628.out).2.1); (case side5 => repeat (first | exact (Kd.V_reads' HO632.out).2.2 | (with_reducible refine Kd.C_alloc ?_ _) | (with_reducible refine Kd.C_drewN ?_ _) | (with_reducible refine Kd.C_drew ?_))); (case side6 => exact (Kd.V_reads' HO632.out).2.1); rintro e w15 ⟨rfl, hb⟩; have n0_ := Aside0.mk (Kd.V_below (zv HO625.out) hb); have n1_ := Aside0.mk (Kd.V_below (zv HO628.out) hb); have n2_ := Aside0.mk (Kd.V_below (zv HO632.out) hb); have n3_ := Aside0.mk (below_step (zb HB.out) hb); clear HO625 HO628 HO632 HB; have HO625 := n0_; have HO628 := n1_; have HO632 := n2_; have HB := n3_; clear n0_ n1_ n2_ n3_; (try clear hb); (try clear hb2); (try clear hk); (try clear hi)))
      repeat (go_quiet (first | (go_at_call 24; (with_reducible refine (spec_EndTime.calls k _ _ t623 _ _ t626 t629 _ _ t630 t634 _ ?side1 ?side2 ?side3 ?side4 ?side5 ?side6 A11.out).mono ?_); (case side1 => repeat (first | exact (Kd.V_reads' HO625.out).2.2 | (with_reducible refine Kd.C_alloc ?_ _) | (with_reducible refine Kd.C_drewN ?_ _) | (with_reducible refine Kd.C_drew ?_))); (case side2 => exact (Kd.V_reads' HO625.out).2.1); (case side3 => repeat (first | exact (Kd.V_reads' HO628.out).2.2 | (with_reducible refine Kd.C_alloc ?_ _) | (with_reducible refine Kd.C_drewN ?_ _) | (with_reducible refine Kd.C_drew ?_))); (case side4 => exact (Kd.V_reads' HO628.out).2.1); (case side5 => repeat (first | exact (Kd.V_reads' HO632.out).2.2 | (with_reducible refine Kd.C_alloc ?_ _) | (with_reducible refine Kd.C_drewN ?_ _) | (with_reducible refine Kd.C_drew ?_))); (case side6 => exact (Kd.V_reads' HO632.out).2.1); rintro e w15 ⟨rfl, hb⟩; have n0_ := Aside0.mk (Kd.V_below (zv HO625.out) hb); have n1_ := Aside0.mk (Kd.V_below (zv HO628.out) hb); have n2_ := Aside0.mk (Kd.V_below (zv HO632.out) hb); have n3_ := Aside0.mk (below_step (zb HB.out) hb); clear HO625 HO628 HO632 HB; have HO625 := n0_; have HO628 := n1_; have HO632 := n2_; have HB := n3_; clear n0_ n1_ n2_ n3_; (try clear hb); (try clear hb2); (try clear hk); (try clear hi))); try go_wp2_with (first | (go_at_call 24; (with_reducible refine (spec_EndTime.calls k _ _ t623 _ _ t626 t629 _ _ t630 t634 _ ?side1 ?side2 ?side3 ?side4 ?side5 ?side6 A11.out).mono ?_); (case side1 => repeat (first | exact (Kd.V_reads' HO625.out).2.2 | (with_reducible refine Kd.C_alloc ?_ _) | (with_reducible refine Kd.C_drewN ?_ _) | (with_reducible refine Kd.C_drew ?_))); (case side2 => exact (Kd.V_reads' HO625.out).2.1); (case side3 => repeat (first | exact (Kd.V_reads' HO628.out).2.2 | (with_reducible refine Kd.C_alloc ?_ _) | (with_reducible refine Kd.C_drewN ?_ _) | (with_reducible refine Kd.C_drew ?_))); (case side4 => exact (Kd.V_reads' HO628.out).2.1); (case side5 => repeat (first | exact (Kd.V_reads' HO632.out).2.2 | (with_reducible refine Kd.C_alloc ?_ _) | (with_reducible refine Kd.C_drewN ?_ _) | (with_reducible refine Kd.C_drew ?_))); (case side6 => exact (Kd.V_reads' HO632.out).2.1); rintro e w15 ⟨rfl, hb⟩; have n0_ := Aside0.mk (Kd.V_below (zv HO625.out) hb); have n1_ := Aside0.mk (Kd.V_below (zv HO628.out) hb); have n2_ := Aside0.mk (Kd.V_below (zv HO632.out) hb); have n3_ := Aside0.mk (below_step (zb HB.out) hb); clear HO625 HO628 HO632 HB; have HO625 := n0_; have HO628 := n1_; have HO632 := n2_; have HB := n3_; clear n0_ n1_ n2_ n3_; (try clear hb); (try clear hb2); (try clear hk); (try clear hi))))
      go_meet
      case rel => exact ⟨_, (((t630.length : Int) != (t623.length : Int))), (zf), H', ⟨by first | omega | exact Nat.le_refl _⟩, ⟨by (with_reducible repeat (first | apply Kd.V_alloc | apply Kd.V_drewN | apply Kd.V_drew)); exact HO625.out⟩, ⟨by (with_reducible repeat (first | apply Kd.V_alloc | apply Kd.V_drewN | apply Kd.V_drew)); exact HO628.out⟩, ⟨by (with_reducible repeat (first | apply Kd.V_alloc | apply Kd.V_drewN | apply Kd.V_drew)); exact HO632.out⟩, ⟨zb HB.out⟩⟩
    rw [if_neg c12] at H
    have c12b0 : (t633 == t634) = false := beq_eq_false_iff_ne.mpr c12
    have c12b1 : (t633 != t634) = true := bne_iff_ne.mpr c12
    (first | rw [c12b0] | (simp only [i64_w, i32_w]; rw [c12b0]) | skip)
    have H' := Aside0.mk H
    clear H
    go_wp2_with (first | (go_at_call 24; (with_reducible refine (spec_EndTime.calls k _ _ t623 _ _ t626 t629 _ _ t630 t634 _ ?side1 ?side2 ?side3 ?side4 ?side5 ?side6 A11.out).mono ?_); (case side1 => repeat (first | exact (Kd.V_reads' HO625.out).2.2 | (with_reducible refine Kd.C_alloc ?_ _) | (with_reducible refine Kd.C_drewN ?_ _) | (with_reducible refine Kd.C_drew ?_))); (case side2 => exact (Kd.V_reads' HO625.out).2.1); (case side3 => repeat (first | exact (Kd.V_reads' HO628.out).2.2 | (with_reducible refine Kd.C_alloc ?_ _) | (with_reducible refine Kd.C_drewN ?_ _) | (with_reducible refine Kd.C_drew ?_))); (case side4 => exact (Kd.V_reads' HO628.out).2.1); (case side5 => repeat (first | exact (Kd.V_reads' HO632.out).2.2 | (with_reducible refine Kd.C_alloc ?_ _) | (with_reducible refine Kd.C_drewN ?_ _) | (with_reducible refine Kd.C_drew ?_))); (case side6 => exact (Kd.V_reads' HO632.out).2.1); rintro e w16 ⟨rfl, hb⟩; have n0_ := Aside0.mk (Kd.V_below (zv HO625.out) hb); have n1_ := Aside0.mk (Kd.V_below (zv HO628.out) hb); have n2_ := Aside0.mk (Kd.V_below (zv HO632.out) hb); have n3_ := Aside0.mk (below_step (zb HB.out) hb); clear HO625 HO628 HO632 HB; have HO625 := n0_; have HO628 := n1_; have HO632 := n2_; have HB := n3_; clear n0_ n1_ n2_ n3_; (try clear hb); (try clear hb2); (try clear hk); (try clear hi)))
    repeat (go_quiet (first | (go_at_call 24; (with_reducible refine (spec_EndTime.calls k _ _ t623 _ _ t626 t629 _ _ t630 t634 _ ?side1 ?side2 ?side3 ?side4 ?side5 ?side6 A11.out).mono ?_); (case side1 => repeat (first | exact (Kd.V_reads' HO625.out).2.2 | (with_reducible refine Kd.C_alloc ?_ _) | (with_reducible refine Kd.C_drewN ?_ _) | (with_reducible refine Kd.C_drew ?_))); (case side2 => exact (Kd.V_reads' HO625.out).2.1); (case side3 => repeat (first | exact (Kd.V_reads' HO628.out).2.2 | (with_reducible refine Kd.C_alloc ?_ _) | (with_reducible refine Kd.C_drewN ?_ _) | (with_reducible refine Kd.C_drew ?_))); (case side4 => exact (Kd.V_reads' HO628.out).2.1); (case side5 => repeat (first | exact (Kd.V_reads' HO632.out).2.2 | (with_reducible refine Kd.C_alloc ?_ _) | (with_reducible refine Kd.C_drewN ?_ _) | (with_reducible refine Kd.C_drew ?_))); (case side6 => exact (Kd.V_reads' HO632.out).2.1); rintro e w16 ⟨rfl, hb⟩; have n0_ := Aside0.mk (Kd.V_below (zv HO625.out) hb); have n1_ := Aside0.mk (Kd.V_below (zv HO628.out) hb); have n2_ := Aside0.mk (Kd.V_below (zv HO632.out) hb); have n3_ := Aside0.mk (below_step (zb HB.out) hb); clear HO625 HO628 HO632 HB; have HO625 := n0_; have HO628 := n1_; have HO632 := n2_; have HB := n3_; clear n0_ n1_ n2_ n3_; (try clear hb); (try clear hb2); (try clear hk); (try clear hi))); try go_wp2_with (first | (go_at_call 24; (with_reducible refine (spec_EndTime.calls k _ _ t623 _ _ t626 t629 _ _ t630 t634 _ ?side1 ?side2 ?side3 ?side4 ?side5 ?side6 A11.out).mono ?_); (case side1 => repeat (first | exact (Kd.V_reads' HO625.out).2.2 | (with_reducible refine Kd.C_alloc ?_ _) | (with_reducible refine Kd.C_drewN ?_ _) | (with_reducible refine Kd.C_drew ?_))); (case side2 => exact (Kd.V_reads' HO625.out).2.1); (case side3 => repeat (first | exact (Kd.V_reads' HO628.out).2.2 | (with_reducible refine Kd.C_alloc ?_ _) | (with_reducible refine Kd.C_drewN ?_ _) | (with_reducible refine Kd.C_drew ?_))); (case side4 => exact (Kd.V_reads' HO628.out).2.1); (case side5 => repeat (first | exact (Kd.V_reads' HO632.out).2.2 | (with_reducible refine Kd.C_alloc ?_ _) | (with_reducible refine Kd.C_drewN ?_ _) | (with_reducible refine Kd.C_drew ?_))); (case side6 => exact (Kd.V_reads' HO632.out).2.1); rintro e w16 ⟨rfl, hb⟩; have n0_ := Aside0.mk (Kd.V_below (zv HO625.out) hb); have n1_ := Aside0.mk (Kd.V_below (zv HO628.out) hb); have n2_ := Aside0.mk (Kd.V_below (zv HO632.out) hb); have n3_ := Aside0.mk (below_step (zb HB.out) hb); clear HO625 HO628 HO632 HB; have HO625 := n0_; have HO628 := n1_; have HO632 := n2_; have HB := n3_; clear n0_ n1_ n2_ n3_; (try clear hb); (try clear hb2); (try clear hk); (try clear hi))))
    go_meet
    case rel => exact ⟨_, (true), (zf), H', ⟨by first | omega | exact Nat.le_refl _⟩, ⟨by (with_reducible repeat (first | apply Kd.V_alloc | apply Kd.V_drewN | apply Kd.V_drew)); exact HO625.out⟩, ⟨by (with_reducible repeat (first | apply Kd.V_alloc | apply Kd.V_drewN | apply Kd.V_drew)); exact HO628.out⟩, ⟨by (with_reducible repeat (first | apply Kd.V_alloc | apply Kd.V_drewN | apply Kd.V_drew)); exact HO632.out⟩, ⟨zb HB.out⟩⟩
  case rest =>
    clear HC5
    try clear c1
    try clear c2
    try clear c2b0
    try clear c2b1
    try clear p2
    try clear c7
    try clear c12
    try clear c12b0
    try clear c12b1
    try clear c13
    try clear c13b0
    obtain ⟨kq, x42_4, rfl, HA, HJ4, HO_3, HO_4, HO_6, HB⟩ := hcut
    cases kq with
    | zero => exact absurd HA.out (by simp [laws_FnEndTime.j0])
    | succ kj4 =>
      have H := HA.out
      clear HA
      simp only [laws_FnEndTime.j0] at H
      by_cases c17 : x42_4 = true
      · subst c17
        have H1 : ((spec_EndTime.f kj4 t623 t626 t629 t630).bind fun t635 => (some (t633 == t635))) = some r := by rw [if_pos rfl] at H; exact H
        clear H
        have H := H1
        clear H1
        replace H := Option.bind_eq_some_iff.mp H
        obtain ⟨t635, A180, H⟩ := H
        replace H : (some (t633 == t635)) = some r := H
        have A18 := Aside0.mk A180
        clear A180
        obtain rfl := Option.some.inj H
        go_wp2_with (first | (go_at_call 24; (with_reducible refine (spec_EndTime.calls kj4 _ _ t623 _ _ t626 t629 _ _ t630 t635 _ ?side1 ?side2 ?side3 ?side4 ?side5 ?side6 A18.out).mono ?_); (case side1 => repeat (first | exact (Kd.V_reads' HO_3.out).2.2 | (with_reducible refine Kd.C_alloc ?_ _) | (with_reducible refine Kd.C_drewN ?_ _) | (with_reducible refine Kd.C_drew ?_))); (case side2 => exact (Kd.V_reads' HO_3.out).2.1); (case side3 => repeat (first | exact (Kd.V_reads' HO_4.out).2.2 | (with_reducible refine Kd.C_alloc ?_ _) | (with_reducible refine Kd.C_drewN ?_ _) | (with_reducible refine Kd.C_drew ?_))); (case side4 => exact (Kd.V_reads' HO_4.out).2.1); (case side5 => repeat (first | exact (Kd.V_reads' HO_6.out).2.2 | (with_reducible refine Kd.C_alloc ?_ _) | (with_reducible refine Kd.C_drewN ?_ _) | (with_reducible refine Kd.C_drew ?_))); (case side6 => exact (Kd.V_reads' HO_6.out).2.1); rintro e w19 ⟨rfl, hb⟩; have n0_ := Aside0.mk (Kd.V_below (zv HO_3.out) hb); have n1_ := Aside0.mk (Kd.V_below (zv HO_4.out) hb); have n2_ := Aside0.mk (Kd.V_below (zv HO_6.out) hb); have n3_ := Aside0.mk (below_step (zb HB.out) hb); clear HO_3 HO_4 HO_6 HB; have HO_3 := n0_; have HO_4 := n1_; have HO_6 := n2_; have HB := n3_; clear n0_ n1_ n2_ n3_; (try clear hb); (try clear hb2); (try clear hk); (try clear hi)))
        repeat (go_quiet (first | (go_at_call 24; (with_reducible refine (spec_EndTime.calls kj4 _ _ t623 _ _ t626 t629 _ _ t630 t635 _ ?side1 ?side2 ?side3 ?side4 ?side5 ?side6 A18.out).mono ?_); (case side1 => repeat (first | exact (Kd.V_reads' HO_3.out).2.2 | (with_reducible refine Kd.C_alloc ?_ _) | (with_reducible refine Kd.C_drewN ?_ _) | (with_reducible refine Kd.C_drew ?_))); (case side2 => exact (Kd.V_reads' HO_3.out).2.1); (case side3 => repeat (first | exact (Kd.V_reads' HO_4.out).2.2 | (with_reducible refine Kd.C_alloc ?_ _) | (with_reducible refine Kd.C_drewN ?_ _) | (with_reducible refine Kd.C_drew ?_))); (case side4 => exact (Kd.V_reads' HO_4.out).2.1); (case side5 => repeat (first | exact (Kd.V_reads' HO_6.out).2.2 | (with_reducible refine Kd.C_alloc ?_ _) | (with_reducible refine Kd.C_drewN ?_ _) | (with_reducible refine Kd.C_drew ?_))); (case side6 => exact (Kd.V_reads' HO_6.out).2.1); rintro e w19 ⟨rfl, hb⟩; have n0_ := Aside0.mk (Kd.V_below (zv HO_3.out) hb); have n1_ := Aside0.mk (Kd.V_below (zv HO_4.out) hb); have n2_ := Aside0.mk (Kd.V_below (zv HO_6.out) hb); have n3_ := Aside0.mk (below_step (zb HB.out) hb); clear HO_3 HO_4 HO_6 HB; have HO_3 := n0_; have HO_4 := n1_; have HO_6 := n2_; have HB := n3_; clear n0_ n1_ n2_ n3_; (try clear hb); (try clear hb2); (try clear hk); (try clear hi))); try go_wp2_with (first | (go_at_call 24; (with_reducible refine (spec_EndTime.calls kj4 _ _ t623 _ _ t626 t629 _ _ t630 t635 _ ?side1 ?side2 ?side3 ?side4 ?side5 ?side6 A18.out).mono ?_); (case side1 => repeat (first | exact (Kd.V_reads' HO_3.out).2.2 | (with_reducible refine Kd.C_alloc ?_ _) | (with_reducible refine Kd.C_drewN ?_ _) | (with_reducible refine Kd.C_drew ?_))); (case side2 => exact (Kd.V_reads' HO_3.out).2.1); (case side3 => repeat (first | exact (Kd.V_reads' HO_4.out).2.2 | (with_reducible refine Kd.C_alloc ?_ _) | (with_reducible refine Kd.C_drewN ?_ _) | (with_reducible refine Kd.C_drew ?_))); (case side4 => exact (Kd.V_reads' HO_4.out).2.1); (case side5 => repeat (first | exact (Kd.V_reads' HO_6.out).2.2 | (with_reducible refine Kd.C_alloc ?_ _) | (with_reducible refine Kd.C_drewN ?_ _) | (with_reducible refine Kd.C_drew ?_))); (case side6 => exact (Kd.V_reads' HO_6.out).2.1); rintro e w19 ⟨rfl, hb⟩; have n0_ := Aside0.mk (Kd.V_below (zv HO_3.out) hb); have n1_ := Aside0.mk (Kd.V_below (zv HO_4.out) hb); have n2_ := Aside0.mk (Kd.V_below (zv HO_6.out) hb); have n3_ := Aside0.mk (below_step (zb HB.out) hb); clear HO_3 HO_4 HO_6 HB; have HO_3 := n0_; have HO_4 := n1_; have HO_6 := n2_; have HB := n3_; clear n0_ n1_ n2_ n3_; (try clear hb); (try clear hb2); (try clear hk); (try clear hi))))
        go_ret
        exact ⟨ze, zb HB.out⟩
      replace c17 := Bool.eq_false_iff.mpr c17
      subst c17
      have H1 : (if (t623.length : Int) = 0 then (laws_FnEndTime.j1 kj4 t623 t630 t633 (t633 == 0)) else (laws_FnEndTime.j1 kj4 t623 t630 t633 false)) = some r := by rw [if_neg (show ¬ (false = true) by decide)] at H; exact H
      clear H
      have H := H1
      clear H1
      have HC20 := Aside0.mk H
      clear H
      go_upto_region 7 with (fail)
      repeat (go_quiet (fail); go_upto_region 7 with (fail))
      go_cut [8] (fun v8 wc => ∃ (kq : Nat) (x8_19 : Bool), v8 = .bool x8_19 ∧ Aside0 (laws_FnEndTime.j1 kq t623 t630 t633 x8_19 = some r) ∧ Aside0 (kq ≤ kj4) ∧ Aside0 (Kd.V k33 33 wc w.heap.size (fun _ => True) (.slice Ao7 t623.length co7) t623) ∧ Aside0 (Kd.V (Kd.int .i64) 3 wc w.heap.size (fun _ => True) (.slice Ao9 t630.length co9) t630) ∧ Aside0 (Below w.heap.size w wc))
      case first =>
        have H := HC20.out
        clear HC20
        by_cases c21 : (t623.length : Int) = 0
        · rw [if_pos c21] at H
          have c21b0 : ((t623.length : Int) == 0) = true := beq_iff_eq.mpr c21
          have c21b1 : ((t623.length : Int) != 0) = false := bne_eq_false_iff_eq.mpr c21
          clear c21
          (first | rw [c21b0] | (simp only [i64_w, i32_w]; rw [c21b0]) | skip)
          have H' := Aside0.mk H
          clear H
          go_wp2
          repeat (go_quiet (fail); try go_wp2)
          go_meet
          case rel => exact ⟨_, ((t633 == 0)), (zf), H', ⟨by have := HJ4.out; first | omega | exact Nat.le_refl _⟩, ⟨by (with_reducible repeat (first | apply Kd.V_alloc | apply Kd.V_drewN | apply Kd.V_drew)); exact HO_3.out⟩, ⟨by (with_reducible repeat (first | apply Kd.V_alloc | apply Kd.V_drewN | apply Kd.V_drew)); exact HO_6.out⟩, ⟨zb HB.out⟩⟩
        rw [if_neg c21] at H
        have c21b0 : ((t623.length : Int) == 0) = false := beq_eq_false_iff_ne.mpr c21
        have c21b1 : ((t623.length : Int) != 0) = true := bne_iff_ne.mpr c21
        have c21b2 : ¬ (t623 = []) := fun h_ => c21 (by rw [h_]; rfl)
        (first | rw [c21b0] | (simp only [i64_w, i32_w]; rw [c21b0]) | skip)
        have H' := Aside0.mk H
        clear H
        go_wp2
        repeat (go_quiet (fail); try go_wp2)
        go_meet
        case rel => exact ⟨_, (false), (zf), H', ⟨by have := HJ4.out; first | omega | exact Nat.le_refl _⟩, ⟨by (with_reducible repeat (first | apply Kd.V_alloc | apply Kd.V_drewN | apply Kd.V_drew)); exact HO_3.out⟩, ⟨by (with_reducible repeat (first | apply Kd.V_alloc | apply Kd.V_drewN | apply Kd.V_drew)); exact HO_6.out⟩, ⟨zb HB.out⟩⟩
      case rest =>
        clear HC20
        try clear c1
        try clear c2
        try clear c2b0
        try clear c2b1
        try clear p2
        try clear c7
        try clear c12
        try clear c12b0
        try clear c12b1
        try clear c13
        try clear c13b0
        try clear c17
        try clear c21
        try clear c21b0
        try clear c21b1
        try clear c21b2
        try clear p2
        obtain ⟨kq, x8_19, rfl, HA, HJ19, HO_3, HO_6, HB⟩ := hcut
        cases kq with
        | zero => exact absurd HA.out (by simp [laws_FnEndTime.j1])
        | succ kj19 =>
          have H := HA.out
          clear HA
          simp only [laws_FnEndTime.j1] at H
          have H' := Aside0.mk H
          clear H
          go_wp2
          repeat (go_quiet (fail); try go_wp2)
          go_loopg [8, 9] kj19 (fun kq v8 v9 w' => ∃ (x8_3 : Bool) (x9_3 : Int), v8 = .bool x8_3 ∧ v9 = .int .i64 x9_3 ∧ Aside0 (laws_FnEndTime.l0 kq t623 t630 t633 x8_3 x9_3 = some r) ∧ Aside0 (kq ≤ kj19) ∧ Aside0 (Kd.V k33 33 w' w.heap.size (fun _ => True) (.slice Ao7 t623.length co7) t623) ∧ Aside0 (Kd.V (Kd.int .i64) 3 w' w.heap.size (fun _ => True) (.slice Ao9 t630.length co9) t630) ∧ Aside0 (Below w.heap.size w w'))
          case atStart => exact ⟨(x8_19), (0), (zf), (zf), H', ⟨Nat.le_refl _⟩, ⟨by (with_reducible repeat (first | apply Kd.V_alloc | apply Kd.V_drewN | apply Kd.V_drew)); exact HO_3.out⟩, ⟨by (with_reducible repeat (first | apply Kd.V_alloc | apply Kd.V_drewN | apply Kd.V_drew)); exact HO_6.out⟩, ⟨zb HB.out⟩⟩
          case round =>
            clear H'
            try clear c1
            try clear c2
            try clear c2b0
            try clear c2b1
            try clear p2
            try clear c7
            try clear c12
            try clear c12b0
            try clear c12b1
            try clear c13
            try clear c13b0
            try clear c17
            try clear c21
            try clear c21b0
            try clear c21b1
            try clear c21b2
            try clear p2
            obtain ⟨x8_3, x9_3, rfl, rfl, HA, HK3, HO_3, HO_6, HB⟩ := hrel
            cases gk with
            | zero => exact absurd HA.out (by simp [laws_FnEndTime.l0])
            | succ k3 =>
              have H := HA.out
              clear HA
              simp only [laws_FnEndTime.l0] at H
              by_cases c22 : x9_3 < (t623.length : Int)
              · rw [if_pos c22] at H
                have c22b0 : decide (x9_3 < (t623.length : Int)) = true := decide_eq_true c22
                clear c22
                by_cases c23 : x8_3 = true
                · subst c23
                  have H1 : (if 0 ≤ x9_3 then (if x9_3 < (t630.length : Int) then (if (wrap64 ((rd t630 x9_3) + ((rd_T33 t623 x9_3).f0))) > t633 then (some false) else (laws_FnEndTime.l0 k3 t623 t630 t633 true (wrap64 (x9_3 + 1)))) else (none)) else (none)) = some r := by rw [if_pos rfl] at H; exact H
                  clear H
                  have H := H1
                  clear H1
                  by_cases c24 : 0 ≤ x9_3
                  · rw [if_pos c24] at H
                    have c24b0 : decide (0 ≤ x9_3) = true := decide_eq_true c24
                    clear c24
                    by_cases c25 : x9_3 < (t630.length : Int)
                    · rw [if_pos c25] at H
                      have c25b0 : decide (x9_3 < (t630.length : Int)) = true := decide_eq_true c25
                      clear c25
                      by_cases c26 : (wrap64 ((rd t630 x9_3) + ((rd_T33 t623 x9_3).f0))) > t633
                      · rw [if_pos c26] at H
                        have c26b0 : decide (t633 < (wrap64 ((rd t630 x9_3) + ((rd_T33 t623 x9_3).f0)))) = true := decide_eq_true c26
                        clear c26
                        obtain rfl := Option.some.inj H
                        have p636 : 0 ≤ (x9_3 : Int) := of_decide_eq_true (za)
                        have q636 : x9_3 < (t630.length : Int) := of_decide_eq_true (za)
                        obtain ⟨ad636, e636, hx636_0⟩ := Kd.at_int (Kd.V_reads' HO_6.out).2.2 x9_3 p636 q636
                        cases e636
                        replace p636 := eq_true p636
                        replace q636 := eq_true q636
                        have p637 : 0 ≤ (x9_3 : Int) := of_decide_eq_true (za)
                        have q637 : x9_3 < (t623.length : Int) := of_decide_eq_true (za)
                        obtain ⟨ad637, A637_1, c637_1, e637, hx637_0, hx637_1, hx637_2, hx637_3, hl637_1, hi637_1⟩ := at_T33 (Kd.V_reads' HO_3.out).2.2 x9_3 p637 q637
                        cases e637
                        obtain ⟨ce637, hce637, hMe637, hcc637⟩ := Kd.V_get HO_3.out z33 x9_3 p637 (by first | exact q637 | exact of_decide_eq_true (za) | (have e_ := (Kd.V_reads' HO_3.out).1; omega))
                        obtain ⟨ua637_1, uc637_1, rfl, ul637_1, ge637_1⟩ := k33_openF hMe637
                        have hv637_1 := hcc637 1 _ rfl
                        rw [add_field _ _ 1 (by omega)] at hv637_1
                        replace hv637_1 := Option.some.inj (hv637_1.symm.trans hx637_1)
                        injection hv637_1 with hva_ hvn_ hvc_
                        rw [hva_] at ge637_1
                        rw [hvc_] at ul637_1
                        have HL637_1 := Aside0.mk (show Kd.V (Kd.int .i64) 3 _ w.heap.size _ _ ((rd_T33 t623 x9_3).f1) from Kd.V_mk ul637_1 ge637_1)
                        clear hva_ hvn_ hvc_ ge637_1 ul637_1
                        clear hcc637 hce637
                        have HR637_1 := Aside0.mk hi637_1
                        have HC637_1 := Aside0.mk hl637_1
                        clear hi637_1 hl637_1
                        replace p637 := eq_true p637
                        replace q637 := eq_true q637
                        go_wp2
                        repeat (go_quiet (fail); try go_wp2)
                        go_ret
                        exact ⟨ze, zb HB.out⟩
                      rw [if_neg c26] at H
                      have c26b0 : decide (t633 < (wrap64 ((rd t630 x9_3) + ((rd_T33 t623 x9_3).f0)))) = false := decide_eq_false c26
                      clear c26
                      have H' := Aside0.mk H
                      clear H
                      have p636 : 0 ≤ (x9_3 : Int) := of_decide_eq_true (za)
                      have q636 : x9_3 < (t630.length : Int) := of_decide_eq_true (za)
                      obtain ⟨ad636, e636, hx636_0⟩ := Kd.at_int (Kd.V_reads' HO_6.out).2.2 x9_3 p636 q636
                      cases e636
                      replace p636 := eq_true p636
                      replace q636 := eq_true q636
                      have p637 : 0 ≤ (x9_3 : Int) := of_decide_eq_true (za)
                      have q637 : x9_3 < (t623.length : Int) := of_decide_eq_true (za)
                      obtain ⟨ad637, A637_1, c637_1, e637, hx637_0, hx637_1, hx637_2, hx637_3, hl637_1, hi637_1⟩ := at_T33 (Kd.V_reads' HO_3.out).2.2 x9_3 p637 q637
                      cases e637
                      obtain ⟨ce637, hce637, hMe637, hcc637⟩ := Kd.V_get HO_3.out z33 x9_3 p637 (by first | exact q637 | exact of_decide_eq_true (za) | (have e_ := (Kd.V_reads' HO_3.out).1; omega))
                      obtain ⟨ua637_1, uc637_1, rfl, ul637_1, ge637_1⟩ := k33_openF hMe637
                      have hv637_1 := hcc637 1 _ rfl
                      rw [add_field _ _ 1 (by omega)] at hv637_1
                      replace hv637_1 := Option.some.inj (hv637_1.symm.trans hx637_1)
                      injection hv637_1 with hva_ hvn_ hvc_
                      rw [hva_] at ge637_1
                      rw [hvc_] at ul637_1
                      have HL637_1 := Aside0.mk (show Kd.V (Kd.int .i64) 3 _ w.heap.size _ _ ((rd_T33 t623 x9_3).f1) from Kd.V_mk ul637_1 ge637_1)
                      clear hva_ hvn_ hvc_ ge637_1 ul637_1
                      clear hcc637 hce637
                      have HR637_1 := Aside0.mk hi637_1
                      have HC637_1 := Aside0.mk hl637_1
                      clear hi637_1 hl637_1
                      replace p637 := eq_true p637
                      replace q637 := eq_true q637
                      go_wp2
                      repeat (go_quiet (fail); try go_wp2)
                      go_roundg k3
                      case measure => have := HJ4.out; have := HJ19.out; have := HK3.out; omega
                      case rel => exact ⟨(true), (wrap64 (x9_3 + 1)), (zf), (zf), H', ⟨by have := HJ4.out; have := HJ19.out; have := HK3.out; omega⟩, ⟨by (with_reducible repeat (first | apply Kd.V_alloc | apply Kd.V_drewN | apply Kd.V_drew)); exact HO_3.out⟩, ⟨by (with_reducible repeat (first | apply Kd.V_alloc | apply Kd.V_drewN | apply Kd.V_drew)); exact HO_6.out⟩, ⟨zb HB.out⟩⟩
                    rw [if_neg c25] at H
                    exact absurd H (by simp)
                  rw [if_neg c24] at H
                  exact absurd H (by simp)
                replace c23 := Bool.eq_false_iff.mpr c23
                subst c23
                have H1 : (if 0 ≤ x9_3 then (if x9_3 < (t630.length : Int) then (if (wrap64 ((rd t630 x9_3) + ((rd_T33 t623 x9_3).f0))) > t633 then (some false) else (laws_FnEndTime.l0 k3 t623 t630 t633 ((wrap64 ((rd t630 x9_3) + ((rd_T33 t623 x9_3).f0))) == t633) (wrap64 (x9_3 + 1)))) else (none)) else (none)) = some r := by rw [if_neg (show ¬ (false = true) by decide)] at H; exact H
                clear H
                have H := H1
                clear H1
                by_cases c27 : 0 ≤ x9_3
                · rw [if_pos c27] at H
                  have c27b0 : decide (0 ≤ x9_3) = true := decide_eq_true c27
                  clear c27
                  by_cases c28 : x9_3 < (t630.length : Int)
                  · rw [if_pos c28] at H
                    have c28b0 : decide (x9_3 < (t630.length : Int)) = true := decide_eq_true c28
                    clear c28
                    by_cases c29 : (wrap64 ((rd t630 x9_3) + ((rd_T33 t623 x9_3).f0))) > t633
                    · rw [if_pos c29] at H
                      have c29b0 : decide (t633 < (wrap64 ((rd t630 x9_3) + ((rd_T33 t623 x9_3).f0)))) = true := decide_eq_true c29
                      clear c29
                      obtain rfl := Option.some.inj H
                      have p638 : 0 ≤ (x9_3 : Int) := of_decide_eq_true (za)
                      have q638 : x9_3 < (t630.length : Int) := of_decide_eq_true (za)
                      obtain ⟨ad638, e638, hx638_0⟩ := Kd.at_int (Kd.V_reads' HO_6.out).2.2 x9_3 p638 q638
                      cases e638
                      replace p638 := eq_true p638
                      replace q638 := eq_true q638
                      have p639 : 0 ≤ (x9_3 : Int) := of_decide_eq_true (za)
                      have q639 : x9_3 < (t623.length : Int) := of_decide_eq_true (za)
                      obtain ⟨ad639, A639_1, c639_1, e639, hx639_0, hx639_1, hx639_2, hx639_3, hl639_1, hi639_1⟩ := at_T33 (Kd.V_reads' HO_3.out).2.2 x9_3 p639 q639
                      cases e639
                      obtain ⟨ce639, hce639, hMe639, hcc639⟩ := Kd.V_get HO_3.out z33 x9_3 p639 (by first | exact q639 | exact of_decide_eq_true (za) | (have e_ := (Kd.V_reads' HO_3.out).1; omega))
                      obtain ⟨ua639_1, uc639_1, rfl, ul639_1, ge639_1⟩ := k33_openF hMe639
                      have hv639_1 := hcc639 1 _ rfl
                      rw [add_field _ _ 1 (by omega)] at hv639_1
                      replace hv639_1 := Option.some.inj (hv639_1.symm.trans hx639_1)
                      injection hv639_1 with hva_ hvn_ hvc_
                      rw [hva_] at ge639_1
                      rw [hvc_] at ul639_1
                      have HL639_1 := Aside0.mk (show Kd.V (Kd.int .i64) 3 _ w.heap.size _ _ ((rd_T33 t623 x9_3).f1) from Kd.V_mk ul639_1 ge639_1)
                      clear hva_ hvn_ hvc_ ge639_1 ul639_1
                      clear hcc639 hce639
                      have HR639_1 := Aside0.mk hi639_1
                      have HC639_1 := Aside0.mk hl639_1
                      clear hi639_1 hl639_1
                      replace p639 := eq_true p639
                      replace q639 := eq_true q639
                      have p640 : 0 ≤ (x9_3 : Int) := of_decide_eq_true (za)
                      have q640 : x9_3 < (t630.length : Int) := of_decide_eq_true (za)
                      obtain ⟨ad640, e640, hx640_0⟩ := Kd.at_int (Kd.V_reads' HO_6.out).2.2 x9_3 p640 q640
                      obtain rfl : ad638 = ad640 := (by injection e640)
                      replace p640 := eq_true p640
                      replace q640 := eq_true q640
                      have p641 : 0 ≤ (x9_3 : Int) := of_decide_eq_true (za)
                      have q641 : x9_3 < (t623.length : Int) := of_decide_eq_true (za)
                      obtain ⟨ad641, A641_1, c641_1, e641, hx641_0, hx641_1, hx641_2, hx641_3, hl641_1, hi641_1⟩ := at_T33 (Kd.V_reads' HO_3.out).2.2 x9_3 p641 q641
                      obtain rfl : ad639 = ad641 := (by injection e641)
                      obtain ⟨ce641, hce641, hMe641, hcc641⟩ := Kd.V_get HO_3.out z33 x9_3 p641 (by first | exact q641 | exact of_decide_eq_true (za) | (have e_ := (Kd.V_reads' HO_3.out).1; omega))
                      obtain ⟨ua641_1, uc641_1, rfl, ul641_1, ge641_1⟩ := k33_openF hMe641
                      have hv641_1 := hcc641 1 _ rfl
                      rw [add_field _ _ 1 (by omega)] at hv641_1
                      replace hv641_1 := Option.some.inj (hv641_1.symm.trans hx641_1)
                      injection hv641_1 with hva_ hvn_ hvc_
                      rw [hva_] at ge641_1
                      rw [hvc_] at ul641_1
                      have HL641_1 := Aside0.mk (show Kd.V (Kd.int .i64) 3 _ w.heap.size _ _ ((rd_T33 t623 x9_3).f1) from Kd.V_mk ul641_1 ge641_1)
                      clear hva_ hvn_ hvc_ ge641_1 ul641_1
                      clear hcc641 hce641
                      have HR641_1 := Aside0.mk hi641_1
                      have HC641_1 := Aside0.mk hl641_1
                      clear hi641_1 hl641_1
                      replace p641 := eq_true p641
                      replace q641 := eq_true q641
                      have ea_ := Option.some.inj (hx639_1.symm.trans hx641_1)
                      injection ea_ with ea_ en_ ec_
                      subst ea_
                      subst ec_
                      clear en_
                      go_wp2
                      repeat (go_quiet (fail); try go_wp2)
                      go_ret
                      exact ⟨ze, zb HB.out⟩
                    rw [if_neg c29] at H
                    have c29b0 : decide (t633 < (wrap64 ((rd t630 x9_3) + ((rd_T33 t623 x9_3).f0)))) = false := decide_eq_false c29
                    clear c29
                    have H' := Aside0.mk H
                    clear H
                    have p638 : 0 ≤ (x9_3 : Int) := of_decide_eq_true (za)
                    have q638 : x9_3 < (t630.length : Int) := of_decide_eq_true (za)
                    obtain ⟨ad638, e638, hx638_0⟩ := Kd.at_int (Kd.V_reads' HO_6.out).2.2 x9_3 p638 q638
                    cases e638
                    replace p638 := eq_true p638
                    replace q638 := eq_true q638
                    have p639 : 0 ≤ (x9_3 : Int) := of_decide_eq_true (za)
                    have q639 : x9_3 < (t623.length : Int) := of_decide_eq_true (za)
                    obtain ⟨ad639, A639_1, c639_1, e639, hx639_0, hx639_1, hx639_2, hx639_3, hl639_1, hi639_1⟩ := at_T33 (Kd.V_reads' HO_3.out).2.2 x9_3 p639 q639
                    cases e639
                    obtain ⟨ce639, hce639, hMe639, hcc639⟩ := Kd.V_get HO_3.out z33 x9_3 p639 (by first | exact q639 | exact of_decide_eq_true (za) | (have e_ := (Kd.V_reads' HO_3.out).1; omega))
                    obtain ⟨ua639_1, uc639_1, rfl, ul639_1, ge639_1⟩ := k33_openF hMe639
                    have hv639_1 := hcc639 1 _ rfl
                    rw [add_field _ _ 1 (by omega)] at hv639_1
                    replace hv639_1 := Option.some.inj (hv639_1.symm.trans hx639_1)
                    injection hv639_1 with hva_ hvn_ hvc_
                    rw [hva_] at ge639_1
                    rw [hvc_] at ul639_1
                    have HL639_1 := Aside0.mk (show Kd.V (Kd.int .i64) 3 _ w.heap.size _ _ ((rd_T33 t623 x9_3).f1) from Kd.V_mk ul639_1 ge639_1)
                    clear hva_ hvn_ hvc_ ge639_1 ul639_1
                    clear hcc639 hce639
                    have HR639_1 := Aside0.mk hi639_1
                    have HC639_1 := Aside0.mk hl639_1
                    clear hi639_1 hl639_1
                    replace p639 := eq_true p639
                    replace q639 := eq_true q639
                    have p640 : 0 ≤ (x9_3 : Int) := of_decide_eq_true (za)
                    have q640 : x9_3 < (t630.length : Int) := of_decide_eq_true (za)
                    obtain ⟨ad640, e640, hx640_0⟩ := Kd.at_int (Kd.V_reads' HO_6.out).2.2 x9_3 p640 q640
                    obtain rfl : ad638 = ad640 := (by injection e640)
                    replace p640 := eq_true p640
                    replace q640 := eq_true q640
                    have p641 : 0 ≤ (x9_3 : Int) := of_decide_eq_true (za)
                    have q641 : x9_3 < (t623.length : Int) := of_decide_eq_true (za)
                    obtain ⟨ad641, A641_1, c641_1, e641, hx641_0, hx641_1, hx641_2, hx641_3, hl641_1, hi641_1⟩ := at_T33 (Kd.V_reads' HO_3.out).2.2 x9_3 p641 q641
                    obtain rfl : ad639 = ad641 := (by injection e641)
                    obtain ⟨ce641, hce641, hMe641, hcc641⟩ := Kd.V_get HO_3.out z33 x9_3 p641 (by first | exact q641 | exact of_decide_eq_true (za) | (have e_ := (Kd.V_reads' HO_3.out).1; omega))
                    obtain ⟨ua641_1, uc641_1, rfl, ul641_1, ge641_1⟩ := k33_openF hMe641
                    have hv641_1 := hcc641 1 _ rfl
                    rw [add_field _ _ 1 (by omega)] at hv641_1
                    replace hv641_1 := Option.some.inj (hv641_1.symm.trans hx641_1)
                    injection hv641_1 with hva_ hvn_ hvc_
                    rw [hva_] at ge641_1
                    rw [hvc_] at ul641_1
                    have HL641_1 := Aside0.mk (show Kd.V (Kd.int .i64) 3 _ w.heap.size _ _ ((rd_T33 t623 x9_3).f1) from Kd.V_mk ul641_1 ge641_1)
                    clear hva_ hvn_ hvc_ ge641_1 ul641_1
                    clear hcc641 hce641
                    have HR641_1 := Aside0.mk hi641_1
                    have HC641_1 := Aside0.mk hl641_1
                    clear hi641_1 hl641_1
                    replace p641 := eq_true p641
                    replace q641 := eq_true q641
                    have ea_ := Option.some.inj (hx639_1.symm.trans hx641_1)
                    injection ea_ with ea_ en_ ec_
                    subst ea_
                    subst ec_
                    clear en_
                    go_wp2
                    repeat (go_quiet (fail); try go_wp2)
                    go_roundg k3
                    case measure => have := HJ4.out; have := HJ19.out; have := HK3.out; omega
                    case rel => exact ⟨(((wrap64 ((rd t630 x9_3) + ((rd_T33 t623 x9_3).f0))) == t633)), (wrap64 (x9_3 + 1)), (zf), (zf), H', ⟨by have := HJ4.out; have := HJ19.out; have := HK3.out; omega⟩, ⟨by (with_reducible repeat (first | apply Kd.V_alloc | apply Kd.V_drewN | apply Kd.V_drew)); exact HO_3.out⟩, ⟨by (with_reducible repeat (first | apply Kd.V_alloc | apply Kd.V_drewN | apply Kd.V_drew)); exact HO_6.out⟩, ⟨zb HB.out⟩⟩
                  rw [if_neg c28] at H
                  exact absurd H (by simp)
                rw [if_neg c27] at H
                exact absurd H (by simp)
              rw [if_neg c22] at H
              have c22b0 : decide (x9_3 < (t623.length : Int)) = false := decide_eq_false c22
              clear c22
              obtain rfl := Option.some.inj H
              go_wp2
              repeat (go_quiet (fail); try go_wp2)
              go_ret
              exact ⟨ze, zb HB.out⟩

end Go.Proofs.YtaoeopeempmnnaaDoor.PA

/-
  PLAIN: the law FnEndTime answers true.
-/
namespace Go.Proofs.YtaoeopeempmnnaaDoor
open Go Go.RowKit Go.Proofs.YtaoeopeempmnnaaDoor.M Go.Proofs.YtaoeopeempmnnaaDoorW.PrintWords Go.Proofs.YtaoeopeempmnnaaDoorW.PrintLast Go.Proofs.YtaoeopeempmnnaaDoorW.PrintMore Go.Proofs.YtaoeopeempmnnaaDoor.PA
set_option linter.unusedSimpArgs false
set_option linter.unusedVariables false

theorem et_l0 (g : List TkD) (room : List Int) (wk : Int) (st : List Int) (hF : Fine g room wk st) (n : Int) (hn : EndIs g st n) : ∀ (r i : Nat) (b : Bool), i + r = g.length → (b = true ∨ ∃ j : Nat, i ≤ j ∧ j < g.length ∧ n = rd st (j : Int) + (rd_T33 g (j : Int)).f0) → Gives (fun k => laws_FnEndTime.l0 k g st n b (i : Int)) true
  | 0, i, b, h, hb => by
    refine Gives.of_succ (fun k => by rw [laws_FnEndTime.l0]) ?_
    refine Gives.neg (by omega) ?_
    rcases hb with hb | ⟨j, h1, h2, _⟩
    · rw [hb]; exact Gives.const _
    omega
  | r + 1, i, b, h, hb => by
    have hl := hF.hlen
    have h8 := hF.h8
    obtain ⟨e1, e2, e3⟩ := hF.over i (by omega)
    have hge := hn.hge i (by omega)
    refine Gives.of_succ (fun k => by rw [laws_FnEndTime.l0]) ?_
    refine Gives.pos (by omega) ?_
    rw [wrap_succ i (by omega), e1]
    by_cases c : b = true
    · exact Gives.pos c (Gives.pos (by omega) (Gives.pos (by omega) (Gives.neg (by omega) (et_l0 g room wk st hF n hn r (i + 1) true (by omega) (Or.inl rfl)))))
    refine Gives.neg c (Gives.pos (by omega) (Gives.pos (by omega) (Gives.neg (by omega) (et_l0 g room wk st hF n hn r (i + 1) _ (by omega) ?_))))
    rcases hb with hb | ⟨j, h1, h2, h3⟩
    · exact absurd hb c
    by_cases hji : j = i
    · subst hji; exact Or.inl (by simp [h3])
    exact Or.inr ⟨j, by omega, h2, h3⟩
theorem lawET_gives (l0 : List Int) (hw : ∀ x ∈ l0, (Lit.int .u8 x).wf = true) : Gives (fun k => laws_FnEndTime.f k l0) true := by
  unfold laws_FnEndTime.f
  by_cases c1 : (l0.length : Int) > 1048576
  · exact Gives.pos c1 (Gives.const _)
  refine Gives.neg c1 ?_
  obtain ⟨⟨g, room, wk, st⟩, hv, hd⟩ := draw_ok l0 hw
  obtain ⟨s1, s2, s3, s4⟩ := hd.small
  have hS := specEndTime_gives g room wk st s1 s2 s3 s4
  refine Gives.bind (v := (g, room, wk, st)) (Gives.now (by unfold spec_DrawEndTime.f; rw [hv]; rfl)) ?_
  refine Gives.bind (v := endTimeM g room wk st) (Gives.now rfl) ?_
  refine Gives.bind hS ?_
  refine Gives.pos rfl ?_
  simp only
  by_cases hF : Fine g room wk st
  · have hE := hF.end
    have hl := hF.hlen
    rw [endTime_fine hF]
    have e0 := hE.h0
    refine Gives.neg (by omega) ?_
    refine Gives.of_succ (fun k => by rw [laws_FnEndTime.j0]) ?_
    refine Gives.neg (by simp [hl]) ?_
    by_cases cz : (g.length : Int) = 0
    · refine Gives.pos cz (Gives.of_succ (fun k => by rw [laws_FnEndTime.j1]) ?_)
      exact et_l0 g room wk st hF _ hE g.length 0 _ (by omega) (Or.inl (by rw [hE.hz (by omega)]; rfl))
    refine Gives.neg cz (Gives.of_succ (fun k => by rw [laws_FnEndTime.j1]) ?_)
    obtain ⟨j, hj, hj2⟩ := hE.hat (by omega)
    exact et_l0 g room wk st hF _ hE g.length 0 _ (by omega) (Or.inr ⟨j, by omega, hj, hj2⟩)
  rw [endTime_not hF] at hS ⊢
  refine Gives.pos (by omega) ?_
  refine Gives.of_succ (fun k => by rw [laws_FnEndTime.j0]) ?_
  exact Gives.pos rfl (Gives.bind hS (Gives.const _))
end Go.Proofs.YtaoeopeempmnnaaDoor

