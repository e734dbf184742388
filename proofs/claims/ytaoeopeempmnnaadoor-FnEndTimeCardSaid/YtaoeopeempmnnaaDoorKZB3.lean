/-
  Part 3 of the proofs that laws of this seat answer true: contracts and plain laws, whatever the arguments.
-/
import Derived.Test.YtaoeopeempmnnaaDoorKZB1
import Derived.Test.YtaoeopeempmnnaaDoorKZB2
namespace Go.Proofs.YtaoeopeempmnnaaDoor.PA
open Go.RowKit Go.Proofs.YtaoeopeempmnnaaDoorW.PrintWords Go.Proofs.YtaoeopeempmnnaaDoorW.PrintLast Go.Proofs.YtaoeopeempmnnaaDoorW.PrintMore
attribute [local go_sem] max2_int min2_int max_two min_two
set_option linter.unusedVariables false
set_option linter.unusedSimpArgs false

def impl_everything.f (a0 : Int) : Option (Int) := if 0 ≤ a0 then (some (IntKind.u16.wrap ((shl .u16 1 a0) - 1))) else (none)
set_option maxHeartbeats 8000000 in
set_option maxRecDepth 100000 in
theorem impl_everything.calls (a0 : Int) (r : Int) (w : World) (h : impl_everything.f a0 = some r) :
    Calls Tryd.prog 73 #[.int .i64 a0] w fun e w' => e = .returned (.int .u16 r) ∧ Drawn0 w w' := by
  have H : (if 0 ≤ a0 then (some (IntKind.u16.wrap ((shl .u16 1 a0) - 1))) else (none)) = some r := h
  clear h
  by_cases c2 : 0 ≤ a0
  · rw [if_pos c2] at H
    have c2b0 := eq_true c2
    have c2b1 : decide (0 ≤ a0) = true := decide_eq_true c2
    clear c2
    obtain ⟨ji3, hji3⟩ : ∃ j_ : Int, (shl .u16 1 a0) = j_ := ⟨_, rfl⟩
    replace H : (some (IntKind.u16.wrap ((ji3) - 1))) = some r := by first | (rw [hji3] at H; exact H) | (simp only [hji3] at H ⊢; exact H)
    have hji3_ : (IntKind.u16.wrap (1 * 2 ^ min a0.toNat 16)) = ji3 := hji3
    have hji3z : a0 ≤ 16 → (IntKind.u16.wrap (1 * 2 ^ a0.toNat)) = ji3 := shl_small hji3
    have hji3u : (IntKind.u16.wrap (2 ^ min a0.toNat 16)) = ji3 := by have h_ := hji3_; rw [Int.one_mul] at h_; exact h_
    have hji3v : a0 ≤ 16 → (IntKind.u16.wrap (2 ^ a0.toNat)) = ji3 := fun hle_ => by have h_ := hji3z hle_; rw [Int.one_mul] at h_; exact h_
    obtain rfl := Option.some.inj H
    go_enter Tryd.func73, Tryd.ntmps73
    go_wp2
    go_ret
    exact ⟨by first | rfl | (simp; done) | (simp only [← hji3] <;> (first | rfl | simp)) | (simp [*]; done), zd⟩
  rw [if_neg c2] at H
  exact absurd H (by simp)

/-- A state of type 72 at block g of W; what its slices lead to came in by w0. -/
def IsS72 (w0 W : World) (g : Nat) (f0 : List Int) (f1 : Int) : Prop := ∃ A0 c0, W.heap[g]? = some (.cells #[.slice A0 f0.length c0, .int .i64 f1] 72 (0, 0)) ∧ w0.heap.size ≤ g ∧ Kd.C (Kd.int .u8) w0 A0 f0.length f0
theorem IsS72.grown {w0 W : World} {g : Nat} {f0 : List Int} {f1 : Int} {W1 : World} {row : Option Nat} (h : IsS72 w0 W g f0 f1) (hw : W.grownBy W1 row) (hne : some g ≠ row) : IsS72 w0 W1 g f0 f1 := by
  obtain ⟨A0, c0, hb, hg, hr0⟩ := h
  exact ⟨A0, c0, blk_grown hb hw hne, hg, hr0⟩
theorem IsS72.own_neN {w0 W : World} {g : Nat} {f0 : List Int} {f1 : Int} {α : Type} {d : Kd α} {e : Nat} {base : Nat} {ok : Nat → Prop} {v : Value} {xs : List α} (h : IsS72 w0 W g f0 f1) (ho : Kd.N d e W base ok v xs) (ht : e ≠ 72) : some g ≠ v.ownBlock := by
  obtain ⟨A0, c0, hb, hg, hr0⟩ := h
  exact Kd.N_ne ho hb ht
theorem IsS72.fresh {w0 W : World} {g : Nat} {f0 : List Int} {f1 : Int} (h : IsS72 w0 W g f0 f1) : ∀ k, W.heap.size ≤ k → k ≠ g := by
  obtain ⟨A0, c0, hb, hg, hr0⟩ := h
  exact Kd.freshB hb
theorem IsS72.below {w0 W : World} {g : Nat} {f0 : List Int} {f1 : Int} {W1 : World} (h : IsS72 w0 W g f0 f1) (hw : Below W.heap.size W W1) : IsS72 w0 W1 g f0 f1 := h.grown (grown_of_below hw none) (by simp)
theorem IsS72.drewN {w0 W : World} {g : Nat} {f0 : List Int} {f1 : Int} (h : IsS72 w0 W g f0 f1) (m : Nat) : IsS72 w0 (W.drewN m) g f0 f1 := h
theorem IsS72.drew {w0 W : World} {g : Nat} {f0 : List Int} {f1 : Int} (h : IsS72 w0 W g f0 f1) : IsS72 w0 W.drew g f0 f1 := h
theorem IsS72.apart {w0 W : World} {g : Nat} {f0 : List Int} {f1 : Int} {α : Type} {d : Kd α} {e : Nat} {base : Nat} {ok : Nat → Prop} {v : Value} {xs : List α} (h : IsS72 w0 W g f0 f1) (ho : d.R e W base ok v xs) (ht : ∀ q, q ∈ e :: d.E → q ≠ 72) : d.R e W base (fun k => ok k ∧ k ≠ g) v xs := by
  obtain ⟨A0, c0, hb, hg, hr0⟩ := h
  exact Kd.R_types ho hb ht
theorem IsS72.own_ne {w0 W : World} {g : Nat} {f0 : List Int} {f1 : Int} {α : Type} {d : Kd α} {e : Nat} {base : Nat} {ok : Nat → Prop} {v : Value} {xs : List α} (h : IsS72 w0 W g f0 f1) (ho : d.R e W base ok v xs) (ht : e ≠ 72) : some g ≠ v.ownBlock := by
  obtain ⟨A0, c0, hb, hg, hr0⟩ := h
  exact Kd.R_ne ho hb ht
theorem IsS72.apartQ {w0 W : World} {g : Nat} {f0 : List Int} {f1 : Int} {α : Type} {d : Kd α} {e : Nat} {base : Nat} {ok : Nat → Prop} {v : Value} {xs : List α} (h : IsS72 w0 W g f0 f1) (ho : d.Q e W base ok v xs) (ht : ∀ q, q ∈ e :: d.E → q ≠ 72) : d.Q e W base (fun k => ok k ∧ k ≠ g) v xs := by
  obtain ⟨A0, c0, hb, hg, hr0⟩ := h
  exact Kd.Q_types ho hb ht
theorem IsS72.apartS {w0 W : World} {g : Nat} {f0 : List Int} {f1 : Int} {α : Type} {d : Kd α} {e : Nat} {base : Nat} {ok : Nat → Prop} {v : Value} {xs : List α} (h : IsS72 w0 W g f0 f1) (ho : d.S e W base ok v xs) (ht : ∀ q, q ∈ e :: d.E → q ≠ 72) : d.S e W base (fun k => ok k ∧ k ≠ g) v xs := by
  obtain ⟨A0, c0, hb, hg, hr0⟩ := h
  exact Kd.S_types ho hb ht
theorem IsS72.own_neS {w0 W : World} {g : Nat} {f0 : List Int} {f1 : Int} {α : Type} {d : Kd α} {e : Nat} {base : Nat} {ok : Nat → Prop} {v : Value} {xs : List α} (h : IsS72 w0 W g f0 f1) (ho : d.S e W base ok v xs) (ht : e ≠ 72) : some g ≠ v.ownBlock := by
  obtain ⟨A0, c0, hb, hg, hr0⟩ := h
  exact Kd.S_ne ho hb ht
theorem IsS72.lt {w0 W : World} {g : Nat} {f0 : List Int} {f1 : Int} (h : IsS72 w0 W g f0 f1) : g < W.heap.size := by
  obtain ⟨A0, c0, hb, hg, hr0⟩ := h
  exact blk_lt hb
theorem IsS72.ge {w0 W : World} {g : Nat} {f0 : List Int} {f1 : Int} (h : IsS72 w0 W g f0 f1) : w0.heap.size ≤ g := by
  obtain ⟨A0, c0, hb, hg, hr0⟩ := h
  exact hg
theorem IsS72.far {w0 W : World} {g : Nat} {f0 : List Int} {f1 : Int} {p : Addr} (h : IsS72 w0 W g f0 f1) (hne : g ≠ p.block) (u : Value) : IsS72 w0 (W.setCell p u) g f0 f1 := by
  obtain ⟨A0, c0, hb, hg, hr0⟩ := h
  exact ⟨A0, c0, blk_far hb hne u, hg, hr0⟩
theorem cellS72_0 {W : World} {g : Nat} {A0 : Option Addr} {c0 : Nat} {f0 : List Int} {f1 : Int} (h : W.heap[g]? = some (.cells #[.slice A0 f0.length c0, .int .i64 f1] 72 (0, 0))) : W.cell? ⟨g, 0, none⟩ = some (.slice A0 f0.length c0) := (blk_cell h 0).trans rfl
theorem cellS72_1 {W : World} {g : Nat} {A0 : Option Addr} {c0 : Nat} {f0 : List Int} {f1 : Int} (h : W.heap[g]? = some (.cells #[.slice A0 f0.length c0, .int .i64 f1] 72 (0, 0))) : W.cell? ⟨g, 1, none⟩ = some (.int .i64 f1) := (blk_cell h 1).trans rfl
theorem IsS72.set_1 {w0 W : World} {g : Nat} {f0 : List Int} {f1 : Int} (h : IsS72 w0 W g f0 f1) (x : Int) : IsS72 w0 (W.setCell ⟨g, 1, none⟩ (.int .i64 x)) g f0 x := by
  obtain ⟨A0, c0, hb, hg, hr0⟩ := h
  exact ⟨A0, c0, by simpa using blk_set hb 1 (.int .i64 x), hg, hr0⟩
def spec_reader_pick.j0 : Nat → Int → Bool → List Int → Int → Option (Int × Int)
  | 0, _, _, _, _ => none
  | k + 1, x1, x24, x1000, x1001 => if x24 = true then (some (0, x1001)) else (if (wrap64 (x1001 - 1)) < (x1000.length : Int) then (if 0 ≤ (wrap64 (x1001 - 1)) then (if x1 = 0 then (none) else (some (Int.tmod (wrap64 (rd x1000 (wrap64 (x1001 - 1)))) x1, x1001))) else (none)) else (if (x1000.length : Int) = 0 then (none) else (if 0 ≤ (Int.tmod (wrap64 (x1001 - 1)) (x1000.length : Int)) then (if (Int.tmod (wrap64 (x1001 - 1)) (x1000.length : Int)) < (x1000.length : Int) then (if 0 ≤ (Int.tmod (wrap64 ((wrap64 ((wrap64 (x1001 - 1)) * 7)) + 3)) (x1000.length : Int)) then (if (Int.tmod (wrap64 ((wrap64 ((wrap64 (x1001 - 1)) * 7)) + 3)) (x1000.length : Int)) < (x1000.length : Int) then (if x1 = 0 then (none) else (some (Int.tmod (Go.bits .xor .i64 (wrap64 ((wrap64 ((wrap64 ((wrap64 ((wrap64 (rd x1000 (Int.tmod (wrap64 (x1001 - 1)) (x1000.length : Int)))) * 131)) + (wrap64 ((wrap64 (rd x1000 (Int.tmod (wrap64 ((wrap64 ((wrap64 (x1001 - 1)) * 7)) + 3)) (x1000.length : Int)))) * 1117)))) + (wrap64 ((wrap64 (x1001 - 1)) * 29)))) + (wrap64 ((wrap64 (Int.tdiv (wrap64 (x1001 - 1)) (x1000.length : Int))) * 53)))) (wrap64 (Int.tdiv (wrap64 ((wrap64 ((wrap64 ((wrap64 ((wrap64 (rd x1000 (Int.tmod (wrap64 (x1001 - 1)) (x1000.length : Int)))) * 131)) + (wrap64 ((wrap64 (rd x1000 (Int.tmod (wrap64 ((wrap64 ((wrap64 (x1001 - 1)) * 7)) + 3)) (x1000.length : Int)))) * 1117)))) + (wrap64 ((wrap64 (x1001 - 1)) * 29)))) + (wrap64 ((wrap64 (Int.tdiv (wrap64 (x1001 - 1)) (x1000.length : Int))) * 53)))) 64))) x1, x1001))) else (none)) else (none)) else (none)) else (none))))
def spec_reader_pick.f (k : Nat) (s0_0 : List Int) (s0_1 : Int) (a1 : Int) : Option (Int × Int) := if a1 < 1 then (spec_reader_pick.j0 k a1 true s0_0 (wrap64 (s0_1 + 1))) else (spec_reader_pick.j0 k a1 ((s0_0.length : Int) == 0) s0_0 (wrap64 (s0_1 + 1)))
set_option maxHeartbeats 8000000 in
set_option maxRecDepth 100000 in
theorem spec_reader_pick.calls (k : Nat) (g : Nat) (s0_0 : List Int) (s0_1 : Int) (a1 : Int) (r1 : Int) (r2 : Int) (w0 w : World) (hI : IsS72 w0 w g s0_0 s0_1) (hB : Below w0.heap.size w0 w) (h : spec_reader_pick.f k s0_0 s0_1 a1 = some (r1, r2)) :
    Calls Tryd.prog 59 #[.pointer (some ⟨g, 0, none⟩), .int .i64 a1] w fun e w' => e = .returned (.int .i64 r1) ∧ IsS72 w0 w' g s0_0 r2 ∧ Below w0.heap.size w0 w' ∧ KeepBut w w' g none := by
  have HI0 := Aside0.mk hI
  have HK := Aside0.mk (KeepBut.refl w g none)
  have HL := Aside0.mk hB.size
  clear hI
  have HW0 := Aside0.mk hB.size
  have HB := Aside0.mk hB
  clear hB
  have H : (if a1 < 1 then (spec_reader_pick.j0 k a1 true s0_0 (wrap64 (s0_1 + 1))) else (spec_reader_pick.j0 k a1 ((s0_0.length : Int) == 0) s0_0 (wrap64 (s0_1 + 1)))) = some (r1, r2) := h
  clear h
  have HC3 := Aside0.mk H
  clear H
  obtain ⟨ASz4_0, cSz4_0, HGz4, hgz4, HSz4_0⟩ := HI0.out
  have hcz4_0 := cellS72_0 HGz4
  have hcz4_1 := cellS72_1 HGz4
  have hfz4_1 := blk_frozen HGz4 1
  clear HGz4 hgz4
  go_enter Tryd.func59, Tryd.ntmps59
  go_upto_region 2 with (fail)
  repeat (go_quiet (fail); go_upto_region 2 with (fail))
  go_cut [24] (fun v24 wc => ∃ (kq : Nat) (x24_2 : Bool), v24 = .bool x24_2 ∧ Aside0 (spec_reader_pick.j0 kq a1 x24_2 s0_0 (wrap64 (s0_1 + 1)) = some (r1, r2)) ∧ Aside0 (kq ≤ k) ∧ Aside0 (IsS72 w0 wc g s0_0 (wrap64 (s0_1 + 1))) ∧ Aside0 (KeepBut w wc g none) ∧ Aside0 (Below w0.heap.size w0 wc))
  case first =>
    have H := HC3.out
    clear HC3
    by_cases c5 : a1 < 1
    · rw [if_pos c5] at H
      have c5b0 : decide (a1 < 1) = true := decide_eq_true c5
      clear c5
      (first | rw [c5b0] | (simp only [i64_w, i32_w]; rw [c5b0]) | skip)
      have H' := Aside0.mk H
      clear H
      go_wp2
      repeat (go_quiet (fail); try go_wp2)
      go_meet
      case rel => exact ⟨_, (true), (zf), H', ⟨by first | omega | exact Nat.le_refl _⟩, ⟨zi0 HI0.out⟩, ⟨zk HK.out⟩, ⟨zc0 HB.out HI0.out⟩⟩
    rw [if_neg c5] at H
    have c5b0 : decide (a1 < 1) = false := decide_eq_false c5
    clear c5
    (first | rw [c5b0] | (simp only [i64_w, i32_w]; rw [c5b0]) | skip)
    have H' := Aside0.mk H
    clear H
    obtain ⟨ASz6_0, cSz6_0, HGz6, hgz6, HSz6_0⟩ := HI0.out
    have hcz6_0 := cellS72_0 HGz6
    have hcz6_1 := cellS72_1 HGz6
    have hfz6_1 := blk_frozen HGz6 1
    clear HGz6 hgz6
    go_wp2
    repeat (go_quiet (fail); try go_wp2)
    go_meet
    case rel => exact ⟨_, (((s0_0.length : Int) == 0)), (zf), H', ⟨by first | omega | exact Nat.le_refl _⟩, ⟨zi0 HI0.out⟩, ⟨zk HK.out⟩, ⟨zc0 HB.out HI0.out⟩⟩
  case rest =>
    clear HC3
    try clear p2
    try clear c5
    try clear c5b0
    try clear p6
    try clear hcz4_0
    try clear hcz4_1
    try clear hcz6_0
    try clear hcz6_1
    try clear hfz4_1
    try clear hfz6_1
    obtain ⟨kq, x24_2, rfl, HA, HJ2, HI0, HK, HB⟩ := hcut
    cases kq with
    | zero => exact absurd HA.out (by simp [spec_reader_pick.j0])
    | succ kj2 =>
      have H := HA.out
      clear HA
      simp only [spec_reader_pick.j0] at H
      by_cases c7 : x24_2 = true
      · subst c7
        have H1 : (some (0, (wrap64 (s0_1 + 1)))) = some (r1, r2) := by rw [if_pos rfl] at H; exact H
        clear H
        have H := H1
        clear H1
        simp only [Option.some.injEq, Prod.mk.injEq] at H
        obtain ⟨rfl, rfl⟩ := H
        go_wp2
        repeat (go_quiet (fail); try go_wp2)
        go_ret
        exact ⟨ze, zi0 HI0.out, zc0 HB.out HI0.out, zk HK.out⟩
      replace c7 := Bool.eq_false_iff.mpr c7
      subst c7
      have H1 : (if (wrap64 ((wrap64 (s0_1 + 1)) - 1)) < (s0_0.length : Int) then (if 0 ≤ (wrap64 ((wrap64 (s0_1 + 1)) - 1)) then (if a1 = 0 then (none) else (some (Int.tmod (wrap64 (rd s0_0 (wrap64 ((wrap64 (s0_1 + 1)) - 1)))) a1, (wrap64 (s0_1 + 1))))) else (none)) else (if (s0_0.length : Int) = 0 then (none) else (if 0 ≤ (Int.tmod (wrap64 ((wrap64 (s0_1 + 1)) - 1)) (s0_0.length : Int)) then (if (Int.tmod (wrap64 ((wrap64 (s0_1 + 1)) - 1)) (s0_0.length : Int)) < (s0_0.length : Int) then (if 0 ≤ (Int.tmod (wrap64 ((wrap64 ((wrap64 ((wrap64 (s0_1 + 1)) - 1)) * 7)) + 3)) (s0_0.length : Int)) then (if (Int.tmod (wrap64 ((wrap64 ((wrap64 ((wrap64 (s0_1 + 1)) - 1)) * 7)) + 3)) (s0_0.length : Int)) < (s0_0.length : Int) then (if a1 = 0 then (none) else (some (Int.tmod (Go.bits .xor .i64 (wrap64 ((wrap64 ((wrap64 ((wrap64 ((wrap64 (rd s0_0 (Int.tmod (wrap64 ((wrap64 (s0_1 + 1)) - 1)) (s0_0.length : Int)))) * 131)) + (wrap64 ((wrap64 (rd s0_0 (Int.tmod (wrap64 ((wrap64 ((wrap64 ((wrap64 (s0_1 + 1)) - 1)) * 7)) + 3)) (s0_0.length : Int)))) * 1117)))) + (wrap64 ((wrap64 ((wrap64 (s0_1 + 1)) - 1)) * 29)))) + (wrap64 ((wrap64 (Int.tdiv (wrap64 ((wrap64 (s0_1 + 1)) - 1)) (s0_0.length : Int))) * 53)))) (wrap64 (Int.tdiv (wrap64 ((wrap64 ((wrap64 ((wrap64 ((wrap64 (rd s0_0 (Int.tmod (wrap64 ((wrap64 (s0_1 + 1)) - 1)) (s0_0.length : Int)))) * 131)) + (wrap64 ((wrap64 (rd s0_0 (Int.tmod (wrap64 ((wrap64 ((wrap64 ((wrap64 (s0_1 + 1)) - 1)) * 7)) + 3)) (s0_0.length : Int)))) * 1117)))) + (wrap64 ((wrap64 ((wrap64 (s0_1 + 1)) - 1)) * 29)))) + (wrap64 ((wrap64 (Int.tdiv (wrap64 ((wrap64 (s0_1 + 1)) - 1)) (s0_0.length : Int))) * 53)))) 64))) a1, (wrap64 (s0_1 + 1))))) else (none)) else (none)) else (none)) else (none)))) = some (r1, r2) := by rw [if_neg (show ¬ (false = true) by decide)] at H; exact H
      clear H
      have H := H1
      clear H1
      by_cases c8 : (wrap64 ((wrap64 (s0_1 + 1)) - 1)) < (s0_0.length : Int)
      · rw [if_pos c8] at H
        have c8b0 : decide ((wrap64 ((wrap64 (s0_1 + 1)) - 1)) < (s0_0.length : Int)) = true := decide_eq_true c8
        clear c8
        obtain ⟨ji9, hji9⟩ : ∃ j_ : Int, (wrap64 ((wrap64 (s0_1 + 1)) - 1)) = j_ := ⟨_, rfl⟩
        replace H : (if 0 ≤ (ji9) then (if a1 = 0 then (none) else (some (Int.tmod (wrap64 (rd s0_0 (ji9))) a1, (wrap64 (s0_1 + 1))))) else (none)) = some (r1, r2) := by first | (rw [hji9] at H; exact H) | (simp only [hji9] at H ⊢; exact H)
        (try rw [hji9] at c8b0)
        have hji9w : (IntKind.i64.wrap ((wrap64 (s0_1 + 1)) - 1)) = ji9 := (i64_w _).trans hji9
        by_cases c10 : 0 ≤ (ji9)
        · rw [if_pos c10] at H
          have c10b0 : decide (0 ≤ (ji9)) = true := decide_eq_true c10
          clear c10
          by_cases c11 : a1 = 0
          · rw [if_pos c11] at H
            exact absurd H (by simp)
          rw [if_neg c11] at H
          have c11b0 : (a1 == 0) = false := beq_eq_false_iff_ne.mpr c11
          have c11b1 : (a1 != 0) = true := bne_iff_ne.mpr c11
          simp only [Option.some.injEq, Prod.mk.injEq] at H
          obtain ⟨rfl, rfl⟩ := H
          obtain ⟨ASz12_0, cSz12_0, HGz12, hgz12, HSz12_0⟩ := HI0.out
          have hcz12_0 := cellS72_0 HGz12
          have hcz12_1 := cellS72_1 HGz12
          have hfz12_1 := blk_frozen HGz12 1
          clear HGz12 hgz12
          have p226 : 0 ≤ ((ji9) : Int) := of_decide_eq_true (za)
          have q226 : (ji9) < (s0_0.length : Int) := of_decide_eq_true (za)
          obtain ⟨ad226, e226, hx226_0⟩ := Kd.at_int HSz12_0 (ji9) p226 q226
          cases e226
          replace hx226_0 := pw_cell_below HB.out hx226_0
          replace p226 := eq_true p226
          replace q226 := eq_true q226
          go_wp2
          repeat (go_quiet (fail); try go_wp2)
          go_ret
          exact ⟨by first | rfl | (simp [errW_none, errW_some] <;> rfl) | (simp only [← hji9]; first | rfl | (simp [errW_none, errW_some] <;> rfl)) | (simp [*, errW_none, errW_some] <;> rfl), zi0 HI0.out, zc0 HB.out HI0.out, zk HK.out⟩
        rw [if_neg c10] at H
        exact absurd H (by simp)
      rw [if_neg c8] at H
      have c8b0 : decide ((wrap64 ((wrap64 (s0_1 + 1)) - 1)) < (s0_0.length : Int)) = false := decide_eq_false c8
      clear c8
      by_cases c13 : (s0_0.length : Int) = 0
      · rw [if_pos c13] at H
        exact absurd H (by simp)
      rw [if_neg c13] at H
      have c13b0 : ((s0_0.length : Int) == 0) = false := beq_eq_false_iff_ne.mpr c13
      have c13b1 : ((s0_0.length : Int) != 0) = true := bne_iff_ne.mpr c13
      have c13b2 : ¬ (s0_0 = []) := fun h_ => c13 (by rw [h_]; rfl)
      obtain ⟨ji14, hji14⟩ : ∃ j_ : Int, (Int.tmod (wrap64 ((wrap64 (s0_1 + 1)) - 1)) (s0_0.length : Int)) = j_ := ⟨_, rfl⟩
      replace H : (if 0 ≤ (ji14) then (if (ji14) < (s0_0.length : Int) then (if 0 ≤ (Int.tmod (wrap64 ((wrap64 ((wrap64 ((wrap64 (s0_1 + 1)) - 1)) * 7)) + 3)) (s0_0.length : Int)) then (if (Int.tmod (wrap64 ((wrap64 ((wrap64 ((wrap64 (s0_1 + 1)) - 1)) * 7)) + 3)) (s0_0.length : Int)) < (s0_0.length : Int) then (if a1 = 0 then (none) else (some (Int.tmod (Go.bits .xor .i64 (wrap64 ((wrap64 ((wrap64 ((wrap64 ((wrap64 (rd s0_0 (ji14))) * 131)) + (wrap64 ((wrap64 (rd s0_0 (Int.tmod (wrap64 ((wrap64 ((wrap64 ((wrap64 (s0_1 + 1)) - 1)) * 7)) + 3)) (s0_0.length : Int)))) * 1117)))) + (wrap64 ((wrap64 ((wrap64 (s0_1 + 1)) - 1)) * 29)))) + (wrap64 ((wrap64 (Int.tdiv (wrap64 ((wrap64 (s0_1 + 1)) - 1)) (s0_0.length : Int))) * 53)))) (wrap64 (Int.tdiv (wrap64 ((wrap64 ((wrap64 ((wrap64 ((wrap64 (rd s0_0 (ji14))) * 131)) + (wrap64 ((wrap64 (rd s0_0 (Int.tmod (wrap64 ((wrap64 ((wrap64 ((wrap64 (s0_1 + 1)) - 1)) * 7)) + 3)) (s0_0.length : Int)))) * 1117)))) + (wrap64 ((wrap64 ((wrap64 (s0_1 + 1)) - 1)) * 29)))) + (wrap64 ((wrap64 (Int.tdiv (wrap64 ((wrap64 (s0_1 + 1)) - 1)) (s0_0.length : Int))) * 53)))) 64))) a1, (wrap64 (s0_1 + 1))))) else (none)) else (none)) else (none)) else (none)) = some (r1, r2) := by first | (rw [hji14] at H; exact H) | (simp only [hji14] at H ⊢; exact H)
      by_cases c15 : 0 ≤ (ji14)
      · rw [if_pos c15] at H
        have c15b0 : decide (0 ≤ (ji14)) = true := decide_eq_true c15
        clear c15
        by_cases c16 : (ji14) < (s0_0.length : Int)
        · rw [if_pos c16] at H
          have c16b0 : decide ((ji14) < (s0_0.length : Int)) = true := decide_eq_true c16
          clear c16
          obtain ⟨ji17, hji17⟩ : ∃ j_ : Int, (Int.tmod (wrap64 ((wrap64 ((wrap64 ((wrap64 (s0_1 + 1)) - 1)) * 7)) + 3)) (s0_0.length : Int)) = j_ := ⟨_, rfl⟩
          replace H : (if 0 ≤ (ji17) then (if (ji17) < (s0_0.length : Int) then (if a1 = 0 then (none) else (some (Int.tmod (Go.bits .xor .i64 (wrap64 ((wrap64 ((wrap64 ((wrap64 ((wrap64 (rd s0_0 (ji14))) * 131)) + (wrap64 ((wrap64 (rd s0_0 (ji17))) * 1117)))) + (wrap64 ((wrap64 ((wrap64 (s0_1 + 1)) - 1)) * 29)))) + (wrap64 ((wrap64 (Int.tdiv (wrap64 ((wrap64 (s0_1 + 1)) - 1)) (s0_0.length : Int))) * 53)))) (wrap64 (Int.tdiv (wrap64 ((wrap64 ((wrap64 ((wrap64 ((wrap64 (rd s0_0 (ji14))) * 131)) + (wrap64 ((wrap64 (rd s0_0 (ji17))) * 1117)))) + (wrap64 ((wrap64 ((wrap64 (s0_1 + 1)) - 1)) * 29)))) + (wrap64 ((wrap64 (Int.tdiv (wrap64 ((wrap64 (s0_1 + 1)) - 1)) (s0_0.length : Int))) * 53)))) 64))) a1, (wrap64 (s0_1 + 1))))) else (none)) else (none)) = some (r1, r2) := by first | (rw [hji17] at H; exact H) | (simp only [hji17] at H ⊢; exact H)
          by_cases c18 : 0 ≤ (ji17)
          · rw [if_pos c18] at H
            have c18b0 : decide (0 ≤ (ji17)) = true := decide_eq_true c18
            clear c18
            by_cases c19 : (ji17) < (s0_0.length : Int)
            · rw [if_pos c19] at H
              have c19b0 : decide ((ji17) < (s0_0.length : Int)) = true := decide_eq_true c19
              clear c19
              by_cases c20 : a1 = 0
              · rw [if_pos c20] at H
                exact absurd H (by simp)
              rw [if_neg c20] at H
              have c20b0 : (a1 == 0) = false := beq_eq_false_iff_ne.mpr c20
              have c20b1 : (a1 != 0) = true := bne_iff_ne.mpr c20
              simp only [Option.some.injEq, Prod.mk.injEq] at H
              obtain ⟨rfl, rfl⟩ := H
              obtain ⟨ASz21_0, cSz21_0, HGz21, hgz21, HSz21_0⟩ := HI0.out
              have hcz21_0 := cellS72_0 HGz21
              have hcz21_1 := cellS72_1 HGz21
              have hfz21_1 := blk_frozen HGz21 1
              clear HGz21 hgz21
              have p227 : 0 ≤ ((ji14) : Int) := of_decide_eq_true (za)
              have q227 : (ji14) < (s0_0.length : Int) := of_decide_eq_true (za)
              obtain ⟨ad227, e227, hx227_0⟩ := Kd.at_int HSz21_0 (ji14) p227 q227
              cases e227
              replace hx227_0 := pw_cell_below HB.out hx227_0
              replace p227 := eq_true p227
              replace q227 := eq_true q227
              have p228 : 0 ≤ ((ji17) : Int) := of_decide_eq_true (za)
              have q228 : (ji17) < (s0_0.length : Int) := of_decide_eq_true (za)
              obtain ⟨ad228, e228, hx228_0⟩ := Kd.at_int HSz21_0 (ji17) p228 q228
              obtain rfl : ad227 = ad228 := (by injection e228)
              replace hx228_0 := pw_cell_below HB.out hx228_0
              replace p228 := eq_true p228
              replace q228 := eq_true q228
              go_wp2
              repeat (go_quiet (fail); try go_wp2)
              go_ret
              exact ⟨by first | rfl | (simp [errW_none, errW_some] <;> rfl) | (simp only [← hji14, ← hji17]; first | rfl | (simp [errW_none, errW_some] <;> rfl)) | (simp [*, errW_none, errW_some] <;> rfl), zi0 HI0.out, zc0 HB.out HI0.out, zk HK.out⟩
            rw [if_neg c19] at H
            exact absurd H (by simp)
          rw [if_neg c18] at H
          exact absurd H (by simp)
        rw [if_neg c16] at H
        exact absurd H (by simp)
      rw [if_neg c15] at H
      exact absurd H (by simp)

def spec_reader_one.f (k : Nat) (s0_0 : List Int) (s0_1 : Int) (l1 : List Int) : Option (Int × Int) := (spec_reader_pick.f k s0_0 s0_1 (l1.length : Int)).bind fun bt229 => (if 0 ≤ bt229.1 then (if bt229.1 < (l1.length : Int) then (some (rd l1 bt229.1, bt229.2)) else (none)) else (none))
set_option maxHeartbeats 8000000 in
set_option maxRecDepth 100000 in
theorem spec_reader_one.calls (k : Nat) (g : Nat) (s0_0 : List Int) (s0_1 : Int) (A1 : Option Addr) (c1 : Nat) (l1 : List Int) (r1 : Int) (r2 : Int) (w0 w : World) (hI : IsS72 w0 w g s0_0 s0_1) (hB : Below w0.heap.size w0 w) (hr1 : Kd.C (Kd.int .i64) w A1 l1.length l1) (hc1 : l1.length ≤ c1) (hf1 : ∀ ad, A1 = some ad → 0 < l1.length → ad.block ≠ g) (h : spec_reader_one.f k s0_0 s0_1 l1 = some (r1, r2)) :
    Calls Tryd.prog 54 #[.pointer (some ⟨g, 0, none⟩), .slice A1 l1.length c1] w fun e w' => e = .returned (.int .i64 r1) ∧ IsS72 w0 w' g s0_0 r2 ∧ Below w0.heap.size w0 w' ∧ KeepBut w w' g none := by
  have HR1 := Aside0.mk hr1
  have HC1 := Aside0.mk hc1
  clear hr1 hc1
  have HI0 := Aside0.mk hI
  have HK := Aside0.mk (KeepBut.refl w g none)
  have HL := Aside0.mk hB.size
  clear hI
  have HW0 := Aside0.mk hB.size
  have HB := Aside0.mk hB
  clear hB
  have H : ((spec_reader_pick.f k s0_0 s0_1 (l1.length : Int)).bind fun bt229 => (if 0 ≤ bt229.1 then (if bt229.1 < (l1.length : Int) then (some (rd l1 bt229.1, bt229.2)) else (none)) else (none))) = some (r1, r2) := h
  clear h
  replace H := Option.bind_eq_some_iff.mp H
  obtain ⟨⟨t229, t230⟩, A30, H⟩ := H
  replace H : (if 0 ≤ t229 then (if t229 < (l1.length : Int) then (some (rd l1 t229, t230)) else (none)) else (none)) = some (r1, r2) := H
  have A3 := Aside0.mk A30
  clear A30
  by_cases c4 : 0 ≤ t229
  · rw [if_pos c4] at H
    have c4b0 : decide (0 ≤ t229) = true := decide_eq_true c4
    clear c4
    by_cases c5 : t229 < (l1.length : Int)
    · rw [if_pos c5] at H
      have c5b0 : decide (t229 < (l1.length : Int)) = true := decide_eq_true c5
      clear c5
      simp only [Option.some.injEq, Prod.mk.injEq] at H
      obtain ⟨rfl, rfl⟩ := H
      go_enter Tryd.func54, Tryd.ntmps54
      go_wp2_with (first | ((with_reducible refine gate_callee (f := 59) rfl ?_); refine goesL_ (some 9) rfl rfl Tryd.func59 (by kernel_rfl) rfl #[.pointer (some ⟨g, 0, none⟩), .int .i64 (l1.length : Int)] rfl (by (try simp only [List.map_toArray, List.map_cons, List.map_nil]); first | done | rfl | (simp only [List.length_drop, List.length_take]; rfl)) ?_; (with_reducible refine (spec_reader_pick.calls k g s0_0 s0_1 (l1.length : Int) t229 t230 w0 _ ?side1 ?side2 A3.out).mono ?_); (case side1 => repeat (first | (with_reducible first | exact HI0.out | apply IsS72.alloc | apply IsS72.drewN | apply IsS72.drew | apply IsS72.set_1) | exact HI0.out)); (case side2 => repeat (first | (with_reducible first | exact HB.out | apply below_alloc | apply pw_below_drewN | apply below_drew1 | refine below_set ?_ (IsS72.ge HI0.out)) | exact HB.out)); rintro e w6 ⟨rfl, hi, hb, hk⟩; refine ⟨_, rfl, ?_⟩; have n0_ := Aside0.mk (KeepBut.trans (zk HK.out) hk (.inl rfl)); have n1_ := Aside0.mk (hb); have n2_ := Aside0.mk (hi); clear HK HB HI0; have HK := n0_; have HB := n1_; have HI0 := n2_; clear n0_ n1_ n2_; (try clear hb); (try clear hb2); (try clear hk); (try clear hi); have p231 : 0 ≤ (t229 : Int) := of_decide_eq_true (za); have q231 : t229 < (l1.length : Int) := of_decide_eq_true (za); obtain ⟨ad231, e231, hx231_0⟩ := Kd.at_int HR1.out t229 p231 q231; cases e231; replace hx231_0 := keep_cell HK.out hx231_0 (by first | (rw [add_block]; exact hf1 _ rfl (by omega)) | exact hf1 _ rfl (by omega) | exact hf1 ad231 rfl (by omega)); replace p231 := eq_true p231; replace q231 := eq_true q231))
      go_ret
      exact ⟨ze, zi0 HI0.out, zc0 HB.out HI0.out, zk HK.out⟩
    rw [if_neg c5] at H
    exact absurd H (by simp)
  rw [if_neg c4] at H
  exact absurd H (by simp)

def spec_copyInts.f (l0 : List Int) : Option (List Int) := (some (([] : List Int) : List Int)).bind fun y232 => (if y232.length + l0.length < 17592186044416 then (some (y232 ++ l0)) else (none))
set_option maxHeartbeats 8000000 in
set_option maxRecDepth 100000 in
theorem spec_copyInts.calls (A0 : Option Addr) (c0 : Nat) (l0 : List Int) (r : List Int) (w : World) (hr0 : Kd.C (Kd.int .i64) w A0 l0.length l0) (hc0 : l0.length ≤ c0) (h : spec_copyInts.f l0 = some r) :
    Calls Tryd.prog 81 #[.slice A0 l0.length c0] w fun e w' => ∃ v0_ : Value, e = .returned (v0_) ∧ Kd.R (Kd.int .i64) 3 w' w.heap.size (fun _ => True) v0_ r ∧ Below w.heap.size w w' := by
  have HR0 := Aside0.mk hr0
  have HC0 := Aside0.mk hc0
  clear hr0 hc0
  have HB := Aside0.mk (Below.refl w.heap.size w)
  have H : ((some (([] : List Int) : List Int)).bind fun y232 => (if y232.length + l0.length < 17592186044416 then (some (y232 ++ l0)) else (none))) = some r := h
  clear h
  obtain ⟨y232, hy232⟩ : ∃ y_ : List Int, y_ = (([] : List Int)) := ⟨_, rfl⟩
  replace H : (if y232.length + l0.length < 17592186044416 then (some (y232 ++ l0)) else (none)) = some r := by first | (rw [hy232]; with_reducible exact H) | (have H2_ := (Option.bind_some _ _).symm.trans H; rw [hy232]; with_reducible exact H2_) | (have H2_ := (Option.bind_some _ _).symm.trans H; with_reducible exact H2_) | with_reducible exact H | (rw [hy232]; exact H) | exact H
  have Ny232 := Aside0.mk hy232
  clear hy232
  by_cases c2 : y232.length + l0.length < 17592186044416
  · rw [if_pos c2] at H
    have LMc2 := Aside0.mk c2
    clear c2
    obtain ⟨y235, hy235⟩ : ∃ y_ : List Int, y_ = (y232 ++ l0) := ⟨_, rfl⟩
    replace H : (some y235) = some r := by first | (rw [hy235]; with_reducible exact H) | (have H2_ := (Option.bind_some _ _).symm.trans H; rw [hy235]; with_reducible exact H2_) | (have H2_ := (Option.bind_some _ _).symm.trans H; with_reducible exact H2_) | with_reducible exact H | (rw [hy235]; exact H) | exact H
    have Ny235 := Aside0.mk hy235
    clear hy235
    obtain rfl := Option.some.inj H
    go_enter Tryd.func81, Tryd.ntmps81
    go_wp2_with (first | ((with_reducible refine gate_dst (N := 3) rfl ?_); refine Kd.R_lit (Kd.int .i64) _ 3 ?hg (N := 3) ?hd (xs := ([] : List Int)) (inner := []) (ok := fun _ => True) (okp := fun _ => True) ?hr ?hp (fun _ hk => hk) trivial (Below.refl _ _) (Nat.le_refl _) (by simp) ?_; (case hd => rfl); (case hg => rfl); (case hr => first | (go_simp; done) | (go_simp; rfl)); (case hp => exact (Reps.none _ _)); intro v233 w3 ho4 hb hg_ hnew_; clear hg_ hnew_; (first | rw [← Ny232.out] at ho4 | (simp only [Int.reduceToNat] at ho4; rw [← Ny232.out] at ho4)); have n0_ := Aside0.mk (Kd.R_lower ho4 (below_size (zb HB.out))); have n1_ := Aside0.mk (below_step (zb HB.out) hb); clear HB; have HO234 := n0_; have HB := n1_; clear n0_ n1_; clear hb ho4) | ((with_reducible refine gate_builtin (b := .append) (xs := #[.tmp 3, .tmp 4]) rfl ?_); at_builtin; refine Kd.R_append_rows (Kd.int .i64) (w0 := w) w.heap.size rfl (.tmp 3) (.tmp 4) 24 3 (.int .i64 0) 8 rfl Tryd.underlying24 info3 rfl (by decide) (by omega) v233 y232 l0 _ _ _ (fun _ => True) (fun _ => False) rfl rfl ?aO ?aR (fun _ _ h => h) (fun _ h => h.elim) ?aF ?aB ?aS ?aL ?_; (case aR => exact zt (Kd.C_below HR0.out HB.out)); (case aB => exact (zb HB.out)); (case aF => exact (fun _ _ => trivial)); (case aO => exact (zr HO234.out)); (case aS => exact (below_size (zb HB.out))); (case aL => have := LMc2.out; omega); intro v236 w5 ho hb hg hat; rw [← Ny235.out] at ho; have n0_ := Aside0.mk (hb); have n1_ := Aside0.mk (ho); clear HB HO234; have HB := n0_; have HO237 := n1_; clear n0_ n1_; clear ho hb hg hat))
    go_ret
    exact ⟨_, ze, zr HO237.out, zb HB.out⟩
  rw [if_neg c2] at H
  exact absurd H (by simp)

def spec_reader_spoil.f (k : Nat) (s0_0 : List Int) (s0_1 : Int) (l1 : List Int) (a2 : Int) : Option (List Int × Int) := (spec_copyInts.f l1).bind fun t238 => ((spec_reader_pick.f k s0_0 s0_1 20).bind fun bt241 => (if bt241.1 = 0 then (if t238.length < 17592186044416 then (some ((t238 ++ [a2]), bt241.2)) else (none)) else (if bt241.1 = 1 then (if (t238.length : Int) > 0 then (if 1 ≤ (t238.length : Int) then (some ((t238.drop (1 : Int).toNat), bt241.2)) else (none)) else (some (t238, bt241.2))) else (if bt241.1 = 2 then (if (t238.length : Int) > 0 then ((spec_reader_pick.f k s0_0 bt241.2 (t238.length : Int)).bind fun bt249 => ((spec_reader_one.f k s0_0 bt249.2 (([(-1), a2, 0, 1] : List Int))).bind fun bt254 => (if 0 ≤ bt249.1 then (if bt249.1 < (t238.length : Int) then (some ((t238.set (bt249.1 : Int).toNat bt254.1), bt254.2)) else (none)) else (none)))) else (some (t238, bt241.2))) else (some (t238, bt241.2))))))
set_option maxHeartbeats 8000000 in
set_option maxRecDepth 100000 in
theorem spec_reader_spoil.calls (k : Nat) (g : Nat) (s0_0 : List Int) (s0_1 : Int) (A1 : Option Addr) (c1 : Nat) (l1 : List Int) (a2 : Int) (r1 : List Int) (r2 : Int) (w0 w : World) (hI : IsS72 w0 w g s0_0 s0_1) (hB : Below w0.heap.size w0 w) (hr1 : Kd.C (Kd.int .i64) w A1 l1.length l1) (hc1 : l1.length ≤ c1) (hf1 : ∀ ad, A1 = some ad → 0 < l1.length → ad.block ≠ g) (h : spec_reader_spoil.f k s0_0 s0_1 l1 a2 = some (r1, r2)) :
    Calls Tryd.prog 60 #[.pointer (some ⟨g, 0, none⟩), .slice A1 l1.length c1, .int .i64 a2] w fun e w' => ∃ v0_ : Value, e = .returned (v0_) ∧ Kd.Q (Kd.int .i64) 3 w' w.heap.size (fun _ => True) v0_ r1 ∧ IsS72 w0 w' g s0_0 r2 ∧ Below w0.heap.size w0 w' ∧ KeepBut w w' g none := by
  have HR1 := Aside0.mk hr1
  have HC1 := Aside0.mk hc1
  clear hr1 hc1
  have HI0 := Aside0.mk hI
  have HK := Aside0.mk (KeepBut.refl w g none)
  have HL := Aside0.mk hB.size
  clear hI
  have HW0 := Aside0.mk hB.size
  have HB := Aside0.mk hB
  clear hB
  have H : ((spec_copyInts.f l1).bind fun t238 => ((spec_reader_pick.f k s0_0 s0_1 20).bind fun bt241 => (if bt241.1 = 0 then (if t238.length < 17592186044416 then (some ((t238 ++ [a2]), bt241.2)) else (none)) else (if bt241.1 = 1 then (if (t238.length : Int) > 0 then (if 1 ≤ (t238.length : Int) then (some ((t238.drop (1 : Int).toNat), bt241.2)) else (none)) else (some (t238, bt241.2))) else (if bt241.1 = 2 then (if (t238.length : Int) > 0 then ((spec_reader_pick.f k s0_0 bt241.2 (t238.length : Int)).bind fun bt249 => ((spec_reader_one.f k s0_0 bt249.2 (([(-1), a2, 0, 1] : List Int))).bind fun bt254 => (if 0 ≤ bt249.1 then (if bt249.1 < (t238.length : Int) then (some ((t238.set (bt249.1 : Int).toNat bt254.1), bt254.2)) else (none)) else (none)))) else (some (t238, bt241.2))) else (some (t238, bt241.2))))))) = some (r1, r2) := h
  clear h
  replace H := Option.bind_eq_some_iff.mp H
  obtain ⟨t238, A40, H⟩ := H
  replace H : ((spec_reader_pick.f k s0_0 s0_1 20).bind fun bt241 => (if bt241.1 = 0 then (if t238.length < 17592186044416 then (some ((t238 ++ [a2]), bt241.2)) else (none)) else (if bt241.1 = 1 then (if (t238.length : Int) > 0 then (if 1 ≤ (t238.length : Int) then (some ((t238.drop (1 : Int).toNat), bt241.2)) else (none)) else (some (t238, bt241.2))) else (if bt241.1 = 2 then (if (t238.length : Int) > 0 then ((spec_reader_pick.f k s0_0 bt241.2 (t238.length : Int)).bind fun bt249 => ((spec_reader_one.f k s0_0 bt249.2 (([(-1), a2, 0, 1] : List Int))).bind fun bt254 => (if 0 ≤ bt249.1 then (if bt249.1 < (t238.length : Int) then (some ((t238.set (bt249.1 : Int).toNat bt254.1), bt254.2)) else (none)) else (none)))) else (some (t238, bt241.2))) else (some (t238, bt241.2)))))) = some (r1, r2) := H
  have A4 := Aside0.mk A40
  clear A40
  replace H := Option.bind_eq_some_iff.mp H
  obtain ⟨⟨t241, t242⟩, A50, H⟩ := H
  replace H : (if t241 = 0 then (if t238.length < 17592186044416 then (some ((t238 ++ [a2]), t242)) else (none)) else (if t241 = 1 then (if (t238.length : Int) > 0 then (if 1 ≤ (t238.length : Int) then (some ((t238.drop (1 : Int).toNat), t242)) else (none)) else (some (t238, t242))) else (if t241 = 2 then (if (t238.length : Int) > 0 then ((spec_reader_pick.f k s0_0 t242 (t238.length : Int)).bind fun bt249 => ((spec_reader_one.f k s0_0 bt249.2 (([(-1), a2, 0, 1] : List Int))).bind fun bt254 => (if 0 ≤ bt249.1 then (if bt249.1 < (t238.length : Int) then (some ((t238.set (bt249.1 : Int).toNat bt254.1), bt254.2)) else (none)) else (none)))) else (some (t238, t242))) else (some (t238, t242))))) = some (r1, r2) := H
  have A5 := Aside0.mk A50
  clear A50
  by_cases c6 : t241 = 0
  · rw [if_pos c6] at H
    have c6b0 : (t241 == 0) = true := beq_iff_eq.mpr c6
    have c6b1 : (t241 != 0) = false := bne_eq_false_iff_eq.mpr c6
    clear c6
    by_cases c7 : t238.length < 17592186044416
    · rw [if_pos c7] at H
      have LMc7 := Aside0.mk c7
      clear c7
      obtain ⟨y243, hy243⟩ : ∃ y_ : List Int, y_ = (t238 ++ [a2]) := ⟨_, rfl⟩
      replace H : (some (y243, t242)) = some (r1, r2) := by first | (rw [hy243]; with_reducible exact H) | (have H2_ := (Option.bind_some _ _).symm.trans H; rw [hy243]; with_reducible exact H2_) | (have H2_ := (Option.bind_some _ _).symm.trans H; with_reducible exact H2_) | with_reducible exact H | (rw [hy243]; exact H) | exact H
      have Ny243 := Aside0.mk hy243
      clear hy243
      simp only [Option.some.injEq, Prod.mk.injEq] at H
      obtain ⟨rfl, rfl⟩ := H
      go_enter Tryd.func60, Tryd.ntmps60
      go_wp2_with (first | ((with_reducible refine gate_callee (f := 81) rfl ?_); refine goesL_ (some 9) rfl rfl Tryd.func81 (by kernel_rfl) rfl #[.slice A1 l1.length c1] rfl (by (try simp only [List.map_toArray, List.map_cons, List.map_nil]); first | done | rfl | (simp only [List.length_drop, List.length_take]; rfl)) ?_; (with_reducible refine (spec_copyInts.calls _ _ l1 t238 _ ?side1 ?side2 A4.out).mono ?_); (case side1 => exact Kd.C_keep 0 HR1.out (zk HK.out) hf1); (case side2 => exact HC1.out); rintro e w8 ⟨v239, rfl, ho0, hb⟩; refine ⟨_, rfl, ?_⟩; have n0_ := Aside0.mk (Kd.R_lower ho0 (keep_size (w := w) (g := g) (row := none) (zk HK.out))); have n1_ := Aside0.mk (IsS72.below (zi0 HI0.out) hb); have n2_ := Aside0.mk (KeepBut.trans (zk HK.out) (KeepBut.of_below hb g none) (.inl rfl)); have n3_ := Aside0.mk (below_step (zc0 HB.out HI0.out) hb); clear HI0 HK HB; have HO240 := n0_; have HI0 := n1_; have HK := n2_; have HB := n3_; clear n0_ n1_ n2_ n3_; (try clear hb); (try clear ho0)) | ((with_reducible refine gate_callee (f := 59) rfl ?_); refine goesL_ (some 11) rfl rfl Tryd.func59 (by kernel_rfl) rfl #[.pointer (some ⟨g, 0, none⟩), .int .i64 20] rfl (by (try simp only [List.map_toArray, List.map_cons, List.map_nil]); first | done | rfl | (simp only [List.length_drop, List.length_take]; rfl)) ?_; (with_reducible refine (spec_reader_pick.calls k g s0_0 s0_1 20 t241 t242 w0 _ ?side1 ?side2 A5.out).mono ?_); (case side1 => repeat (first | (with_reducible first | exact HI0.out | apply IsS72.alloc | apply IsS72.drewN | apply IsS72.drew | apply IsS72.set_1) | exact HI0.out)); (case side2 => repeat (first | (with_reducible first | exact HB.out | apply below_alloc | apply pw_below_drewN | apply below_drew1 | refine below_set ?_ (IsS72.ge HI0.out)) | exact HB.out)); rintro e w9 ⟨rfl, hi, hb, hk⟩; refine ⟨_, rfl, ?_⟩; have n0_ := Aside0.mk (Kd.R_mono (Kd.R_keep (IsS72.apart (show IsS72 w0 _ g s0_0 s0_1 from zi0 HI0.out) (zr HO240.out) (by decide)) hk (fun _ h => h.2)) (fun _ h => h.1)); have n1_ := Aside0.mk (KeepBut.trans (zk HK.out) hk (.inl rfl)); have n2_ := Aside0.mk (hb); have n3_ := Aside0.mk (hi); clear HO240 HK HB HI0; have HO240 := n0_; have HK := n1_; have HB := n2_; have HI0 := n3_; clear n0_ n1_ n2_ n3_; (try clear hb); (try clear hb2); (try clear hk); (try clear hi)) | ((with_reducible refine gate_builtin (b := .append) (xs := #[.tmp 14, .tmp 16]) rfl ?_); at_builtin; refine Kd.R_append (Kd.int .i64) w.heap.size rfl (.tmp 14) (.tmp 16) 24 3 (.int .i64 0) 8 rfl Tryd.underlying24 info3 rfl (by decide) (by omega) v239 t238 a2 [.int .i64 a2] (fun _ => True) (fun _ => False) rfl rfl ?aP (fun _ hk => hk.elim) ?aF ?aO (Below.refl _ _) ?aS ?aL ?_; (case aP => exact rfl); (case aF => exact (fun _ _ => trivial)); (case aO => exact (zr HO240.out)); (case aS => exact (keep_size (w := w) (g := g) (row := none) (zk HK.out))); (case aL => have := LMc7.out; omega); intro v244 w10 ho hb hg hat; rw [← Ny243.out] at ho; have n0_ := Aside0.mk (IsS72.grown (zi0 HI0.out) hg (IsS72.own_ne HI0.out HO240.out (by decide))); have n1_ := Aside0.mk (below_weaken (zc0 HB.out HI0.out) HL.out hb); have n2_ := Aside0.mk (KeepBut.trans (zk HK.out) (KeepBut.of_grown hg g) (Kd.R_base2 HO240.out)); have n3_ := Aside0.mk (ho); clear HI0 HB HK HO240; have HI0 := n0_; have HB := n1_; have HK := n2_; have HO245 := n3_; clear n0_ n1_ n2_ n3_; clear ho hb hg hat))
      go_ret
      exact ⟨_, ze, Kd.Q_of_R (zr HO245.out), zi0 HI0.out, zc0 HB.out HI0.out, zk HK.out⟩
    rw [if_neg c7] at H
    exact absurd H (by simp)
  rw [if_neg c6] at H
  have c6b0 : (t241 == 0) = false := beq_eq_false_iff_ne.mpr c6
  have c6b1 : (t241 != 0) = true := bne_iff_ne.mpr c6
  by_cases c11 : t241 = 1
  · rw [if_pos c11] at H
    have c11b0 : (t241 == 1) = true := beq_iff_eq.mpr c11
    have c11b1 : (t241 != 1) = false := bne_eq_false_iff_eq.mpr c11
    clear c11
    by_cases c12 : (t238.length : Int) > 0
    · rw [if_pos c12] at H
      have c12b0 : decide (0 < (t238.length : Int)) = true := decide_eq_true c12
      have c12b1 : decide (0 < t238.length) = true := decide_eq_true (by omega)
      clear c12
      by_cases c13 : 1 ≤ (t238.length : Int)
      · rw [if_pos c13] at H
        have c13b0 := eq_true c13
        have c13b1 : decide (1 ≤ (t238.length : Int)) = true := decide_eq_true c13
        clear c13
        obtain ⟨y246, hy246⟩ : ∃ y_ : List Int, y_ = (t238.drop (1 : Int).toNat) := ⟨_, rfl⟩
        replace H : (some (y246, t242)) = some (r1, r2) := by first | (rw [hy246]; with_reducible exact H) | (have H2_ := (Option.bind_some _ _).symm.trans H; rw [hy246]; with_reducible exact H2_) | (have H2_ := (Option.bind_some _ _).symm.trans H; with_reducible exact H2_) | with_reducible exact H | (rw [hy246]; exact H) | exact H
        have Ny246 := Aside0.mk hy246
        clear hy246
        simp only [Option.some.injEq, Prod.mk.injEq] at H
        obtain ⟨rfl, rfl⟩ := H
        go_enter Tryd.func60, Tryd.ntmps60
        go_wp2_with (first | ((with_reducible refine gate_callee (f := 81) rfl ?_); refine goesL_ (some 9) rfl rfl Tryd.func81 (by kernel_rfl) rfl #[.slice A1 l1.length c1] rfl (by (try simp only [List.map_toArray, List.map_cons, List.map_nil]); first | done | rfl | (simp only [List.length_drop, List.length_take]; rfl)) ?_; (with_reducible refine (spec_copyInts.calls _ _ l1 t238 _ ?side1 ?side2 A4.out).mono ?_); (case side1 => exact Kd.C_keep 0 HR1.out (zk HK.out) hf1); (case side2 => exact HC1.out); rintro e w14 ⟨v239, rfl, ho0, hb⟩; refine ⟨_, rfl, ?_⟩; have n0_ := Aside0.mk (Kd.R_lower ho0 (keep_size (w := w) (g := g) (row := none) (zk HK.out))); have n1_ := Aside0.mk (IsS72.below (zi0 HI0.out) hb); have n2_ := Aside0.mk (KeepBut.trans (zk HK.out) (KeepBut.of_below hb g none) (.inl rfl)); have n3_ := Aside0.mk (below_step (zc0 HB.out HI0.out) hb); clear HI0 HK HB; have HO240 := n0_; have HI0 := n1_; have HK := n2_; have HB := n3_; clear n0_ n1_ n2_ n3_; (try clear hb); (try clear ho0)) | ((with_reducible refine gate_callee (f := 59) rfl ?_); refine goesL_ (some 11) rfl rfl Tryd.func59 (by kernel_rfl) rfl #[.pointer (some ⟨g, 0, none⟩), .int .i64 20] rfl (by (try simp only [List.map_toArray, List.map_cons, List.map_nil]); first | done | rfl | (simp only [List.length_drop, List.length_take]; rfl)) ?_; (with_reducible refine (spec_reader_pick.calls k g s0_0 s0_1 20 t241 t242 w0 _ ?side1 ?side2 A5.out).mono ?_); (case side1 => repeat (first | (with_reducible first | exact HI0.out | apply IsS72.alloc | apply IsS72.drewN | apply IsS72.drew | apply IsS72.set_1) | exact HI0.out)); (case side2 => repeat (first | (with_reducible first | exact HB.out | apply below_alloc | apply pw_below_drewN | apply below_drew1 | refine below_set ?_ (IsS72.ge HI0.out)) | exact HB.out)); rintro e w15 ⟨rfl, hi, hb, hk⟩; refine ⟨_, rfl, ?_⟩; have n0_ := Aside0.mk (Kd.R_mono (Kd.R_keep (IsS72.apart (show IsS72 w0 _ g s0_0 s0_1 from zi0 HI0.out) (zr HO240.out) (by decide)) hk (fun _ h => h.2)) (fun _ h => h.1)); have n1_ := Aside0.mk (KeepBut.trans (zk HK.out) hk (.inl rfl)); have n2_ := Aside0.mk (hb); have n3_ := Aside0.mk (hi); clear HO240 HK HB HI0; have HO240 := n0_; have HK := n1_; have HB := n2_; have HI0 := n3_; clear n0_ n1_ n2_ n3_; (try clear hb); (try clear hb2); (try clear hk); (try clear hi); obtain ⟨Ao16, co16, eo16⟩ := Kd.R_slice HO240.out; subst eo16; have q17 : (1 : Int) ≤ ((t238.length : Int) : Int) := of_decide_eq_true (za); obtain ⟨i017, hi017, _, hsz17, _⟩ := info_parts info3; have hcut17 := cut_from (P := Tryd.prog) 24 3 .i64 Tryd.underlying24 hi017 1 hsz17 Ao16 t238.length co16 1 (by omega) q17; have hr17 := Kd.Q_drop (k := (1 : Int).toNat) (Kd.Q_of_R HO240.out) (by omega); obtain ⟨A17, hA17⟩ : ∃ A1, A1 = (if co16 = (1 : Int).toNat then Ao16 else (Ao16 : Option Addr).map (·.add ((1 : Int).toNat * 1))) := ⟨_, rfl⟩; obtain ⟨c17, hc17⟩ : ∃ c1, c1 = co16 - (1 : Int).toNat := ⟨_, rfl⟩; have hy17 : y246.length = t238.length - (1 : Int).toNat := (by rw [Ny246.out, List.length_drop]); rw [← Ny246.out] at hr17; rw [← hy17, ← hA17, ← hc17] at hcut17; replace hr17 : Kd.Q (Kd.int .i64) 3 w15 w.heap.size (fun _ => True) (.slice A17 y246.length c17) y246 := (by rw [hA17, hc17, hy17]; exact hr17); have HE17 : Aside0 ((Value.slice A17 y246.length c17).ownBlock = (.slice Ao16 t238.length co16 : Value).ownBlock) := ⟨by rw [hA17]; split <;> (cases (Ao16 : Option Addr) <;> rfl)⟩; clear hy17 hi017 hsz17 HO240 hA17 hc17; have HO248 := Aside0.mk hr17; clear hr17; replace q17 := eq_true q17))
        go_ret
        exact ⟨_, ze, zq HO248.out, zi0 HI0.out, zc0 HB.out HI0.out, zk HK.out⟩
      rw [if_neg c13] at H
      exact absurd H (by simp)
    rw [if_neg c12] at H
    have c12b0 : decide (0 < (t238.length : Int)) = false := decide_eq_false c12
    have c12b1 : decide (0 < t238.length) = false := decide_eq_false (by omega)
    clear c12
    simp only [Option.some.injEq, Prod.mk.injEq] at H
    obtain ⟨rfl, rfl⟩ := H
    go_enter Tryd.func60, Tryd.ntmps60
    go_wp2_with (first | ((with_reducible refine gate_callee (f := 81) rfl ?_); refine goesL_ (some 9) rfl rfl Tryd.func81 (by kernel_rfl) rfl #[.slice A1 l1.length c1] rfl (by (try simp only [List.map_toArray, List.map_cons, List.map_nil]); first | done | rfl | (simp only [List.length_drop, List.length_take]; rfl)) ?_; (with_reducible refine (spec_copyInts.calls _ _ l1 t238 _ ?side1 ?side2 A4.out).mono ?_); (case side1 => exact Kd.C_keep 0 HR1.out (zk HK.out) hf1); (case side2 => exact HC1.out); rintro e w18 ⟨v239, rfl, ho0, hb⟩; refine ⟨_, rfl, ?_⟩; have n0_ := Aside0.mk (Kd.R_lower ho0 (keep_size (w := w) (g := g) (row := none) (zk HK.out))); have n1_ := Aside0.mk (IsS72.below (zi0 HI0.out) hb); have n2_ := Aside0.mk (KeepBut.trans (zk HK.out) (KeepBut.of_below hb g none) (.inl rfl)); have n3_ := Aside0.mk (below_step (zc0 HB.out HI0.out) hb); clear HI0 HK HB; have HO240 := n0_; have HI0 := n1_; have HK := n2_; have HB := n3_; clear n0_ n1_ n2_ n3_; (try clear hb); (try clear ho0)) | ((with_reducible refine gate_callee (f := 59) rfl ?_); refine goesL_ (some 11) rfl rfl Tryd.func59 (by kernel_rfl) rfl #[.pointer (some ⟨g, 0, none⟩), .int .i64 20] rfl (by (try simp only [List.map_toArray, List.map_cons, List.map_nil]); first | done | rfl | (simp only [List.length_drop, List.length_take]; rfl)) ?_; (with_reducible refine (spec_reader_pick.calls k g s0_0 s0_1 20 t241 t242 w0 _ ?side1 ?side2 A5.out).mono ?_); (case side1 => repeat (first | (with_reducible first | exact HI0.out | apply IsS72.alloc | apply IsS72.drewN | apply IsS72.drew | apply IsS72.set_1) | exact HI0.out)); (case side2 => repeat (first | (with_reducible first | exact HB.out | apply below_alloc | apply pw_below_drewN | apply below_drew1 | refine below_set ?_ (IsS72.ge HI0.out)) | exact HB.out)); rintro e w19 ⟨rfl, hi, hb, hk⟩; refine ⟨_, rfl, ?_⟩; have n0_ := Aside0.mk (Kd.R_mono (Kd.R_keep (IsS72.apart (show IsS72 w0 _ g s0_0 s0_1 from zi0 HI0.out) (zr HO240.out) (by decide)) hk (fun _ h => h.2)) (fun _ h => h.1)); have n1_ := Aside0.mk (KeepBut.trans (zk HK.out) hk (.inl rfl)); have n2_ := Aside0.mk (hb); have n3_ := Aside0.mk (hi); clear HO240 HK HB HI0; have HO240 := n0_; have HK := n1_; have HB := n2_; have HI0 := n3_; clear n0_ n1_ n2_ n3_; (try clear hb); (try clear hb2); (try clear hk); (try clear hi); obtain ⟨Ao20, co20, eo20⟩ := Kd.R_slice HO240.out; subst eo20))
    go_ret
    exact ⟨_, ze, Kd.Q_of_R (zr HO240.out), zi0 HI0.out, zc0 HB.out HI0.out, zk HK.out⟩
  rw [if_neg c11] at H
  have c11b0 : (t241 == 1) = false := beq_eq_false_iff_ne.mpr c11
  have c11b1 : (t241 != 1) = true := bne_iff_ne.mpr c11
  by_cases c21 : t241 = 2
  · rw [if_pos c21] at H
    have c21b0 : (t241 == 2) = true := beq_iff_eq.mpr c21
    have c21b1 : (t241 != 2) = false := bne_eq_false_iff_eq.mpr c21
    clear c21
    by_cases c22 : (t238.length : Int) > 0
    · rw [if_pos c22] at H
      have c22b0 : decide (0 < (t238.length : Int)) = true := decide_eq_true c22
      have c22b1 : decide (0 < t238.length) = true := decide_eq_true (by omega)
      clear c22
      replace H := Option.bind_eq_some_iff.mp H
      obtain ⟨⟨t249, t250⟩, A230, H⟩ := H
      replace H : ((spec_reader_one.f k s0_0 t250 (([(-1), a2, 0, 1] : List Int))).bind fun bt254 => (if 0 ≤ t249 then (if t249 < (t238.length : Int) then (some ((t238.set (t249 : Int).toNat bt254.1), bt254.2)) else (none)) else (none))) = some (r1, r2) := H
      have A23 := Aside0.mk A230
      clear A230
      obtain ⟨y251, hy251⟩ : ∃ y_ : List Int, y_ = (([(-1), a2, 0, 1] : List Int)) := ⟨_, rfl⟩
      replace H : ((spec_reader_one.f k s0_0 t250 y251).bind fun bt254 => (if 0 ≤ t249 then (if t249 < (t238.length : Int) then (some ((t238.set (t249 : Int).toNat bt254.1), bt254.2)) else (none)) else (none))) = some (r1, r2) := by first | (rw [hy251]; with_reducible exact H) | (have H2_ := (Option.bind_some _ _).symm.trans H; rw [hy251]; with_reducible exact H2_) | (have H2_ := (Option.bind_some _ _).symm.trans H; with_reducible exact H2_) | with_reducible exact H | (rw [hy251]; exact H) | exact H
      have Ny251 := Aside0.mk hy251
      clear hy251
      replace H := Option.bind_eq_some_iff.mp H
      obtain ⟨⟨t254, t255⟩, A240, H⟩ := H
      replace H : (if 0 ≤ t249 then (if t249 < (t238.length : Int) then (some ((t238.set (t249 : Int).toNat t254), t255)) else (none)) else (none)) = some (r1, r2) := H
      have A24 := Aside0.mk A240
      clear A240
      by_cases c25 : 0 ≤ t249
      · rw [if_pos c25] at H
        have c25b0 : decide (0 ≤ t249) = true := decide_eq_true c25
        clear c25
        by_cases c26 : t249 < (t238.length : Int)
        · rw [if_pos c26] at H
          have c26b0 : decide (t249 < (t238.length : Int)) = true := decide_eq_true c26
          clear c26
          obtain ⟨y256, hy256⟩ : ∃ y_ : List Int, y_ = (t238.set (t249 : Int).toNat t254) := ⟨_, rfl⟩
          replace H : (some (y256, t255)) = some (r1, r2) := by first | (rw [hy256]; with_reducible exact H) | (have H2_ := (Option.bind_some _ _).symm.trans H; rw [hy256]; with_reducible exact H2_) | (have H2_ := (Option.bind_some _ _).symm.trans H; with_reducible exact H2_) | with_reducible exact H | (rw [hy256]; exact H) | exact H
          have Ny256 := Aside0.mk hy256
          clear hy256
          simp only [Option.some.injEq, Prod.mk.injEq] at H
          obtain ⟨rfl, rfl⟩ := H
          go_enter Tryd.func60, Tryd.ntmps60
          go_wp2_with (first | ((with_reducible refine gate_callee (f := 81) rfl ?_); refine goesL_ (some 9) rfl rfl Tryd.func81 (by kernel_rfl) rfl #[.slice A1 l1.length c1] rfl (by (try simp only [List.map_toArray, List.map_cons, List.map_nil]); first | done | rfl | (simp only [List.length_drop, List.length_take]; rfl)) ?_; (with_reducible refine (spec_copyInts.calls _ _ l1 t238 _ ?side1 ?side2 A4.out).mono ?_); (case side1 => exact Kd.C_keep 0 HR1.out (zk HK.out) hf1); (case side2 => exact HC1.out); rintro e w28 ⟨v239, rfl, ho0, hb⟩; refine ⟨_, rfl, ?_⟩; have n0_ := Aside0.mk (Kd.R_lower ho0 (keep_size (w := w) (g := g) (row := none) (zk HK.out))); have n1_ := Aside0.mk (IsS72.below (zi0 HI0.out) hb); have n2_ := Aside0.mk (KeepBut.trans (zk HK.out) (KeepBut.of_below hb g none) (.inl rfl)); have n3_ := Aside0.mk (below_step (zc0 HB.out HI0.out) hb); clear HI0 HK HB; have HO240 := n0_; have HI0 := n1_; have HK := n2_; have HB := n3_; clear n0_ n1_ n2_ n3_; (try clear hb); (try clear ho0)) | ((with_reducible refine gate_callee (f := 59) rfl ?_); refine goesL_ (some 11) rfl rfl Tryd.func59 (by kernel_rfl) rfl #[.pointer (some ⟨g, 0, none⟩), .int .i64 20] rfl (by (try simp only [List.map_toArray, List.map_cons, List.map_nil]); first | done | rfl | (simp only [List.length_drop, List.length_take]; rfl)) ?_; (with_reducible refine (spec_reader_pick.calls k g s0_0 s0_1 20 t241 t242 w0 _ ?side1 ?side2 A5.out).mono ?_); (case side1 => repeat (first | (with_reducible first | exact HI0.out | apply IsS72.alloc | apply IsS72.drewN | apply IsS72.drew | apply IsS72.set_1) | exact HI0.out)); (case side2 => repeat (first | (with_reducible first | exact HB.out | apply below_alloc | apply pw_below_drewN | apply below_drew1 | refine below_set ?_ (IsS72.ge HI0.out)) | exact HB.out)); rintro e w29 ⟨rfl, hi, hb, hk⟩; refine ⟨_, rfl, ?_⟩; have n0_ := Aside0.mk (Kd.R_mono (Kd.R_keep (IsS72.apart (show IsS72 w0 _ g s0_0 s0_1 from zi0 HI0.out) (zr HO240.out) (by decide)) hk (fun _ h => h.2)) (fun _ h => h.1)); have n1_ := Aside0.mk (KeepBut.trans (zk HK.out) hk (.inl rfl)); have n2_ := Aside0.mk (hb); have n3_ := Aside0.mk (hi); clear HO240 HK HB HI0; have HO240 := n0_; have HK := n1_; have HB := n2_; have HI0 := n3_; clear n0_ n1_ n2_ n3_; (try clear hb); (try clear hb2); (try clear hk); (try clear hi); obtain ⟨Ao30, co30, eo30⟩ := Kd.R_slice HO240.out; subst eo30) | ((with_reducible refine gate_callee (f := 59) rfl ?_); refine goesL_ (some 34) rfl rfl Tryd.func59 (by kernel_rfl) rfl #[.pointer (some ⟨g, 0, none⟩), .int .i64 (t238.length : Int)] rfl (by (try simp only [List.map_toArray, List.map_cons, List.map_nil]); first | done | rfl | (simp only [List.length_drop, List.length_take]; rfl)) ?_; (with_reducible refine (spec_reader_pick.calls k g s0_0 t242 (t238.length : Int) t249 t250 w0 _ ?side1 ?side2 A23.out).mono ?_); (case side1 => repeat (first | (with_reducible first | exact HI0.out | apply IsS72.alloc | apply IsS72.drewN | apply IsS72.drew | apply IsS72.set_1) | exact HI0.out)); (case side2 => repeat (first | (with_reducible first | exact HB.out | apply below_alloc | apply pw_below_drewN | apply below_drew1 | refine below_set ?_ (IsS72.ge HI0.out)) | exact HB.out)); rintro e w31 ⟨rfl, hi, hb, hk⟩; refine ⟨_, rfl, ?_⟩; have n0_ := Aside0.mk (Kd.R_mono (Kd.R_keep (IsS72.apart (show IsS72 w0 _ g s0_0 t242 from zi0 HI0.out) (zr HO240.out) (by decide)) hk (fun _ h => h.2)) (fun _ h => h.1)); have n1_ := Aside0.mk (KeepBut.trans (zk HK.out) hk (.inl rfl)); have n2_ := Aside0.mk (hb); have n3_ := Aside0.mk (hi); clear HO240 HK HB HI0; have HO240 := n0_; have HK := n1_; have HB := n2_; have HI0 := n3_; clear n0_ n1_ n2_ n3_; (try clear hb); (try clear hb2); (try clear hk); (try clear hi)) | ((with_reducible refine gate_dst (N := 37) rfl ?_); refine Kd.R_lit (Kd.int .i64) _ 3 ?hg (N := 37) ?hd (xs := ([(-1), a2, 0, 1] : List Int)) (inner := [.int .i64 (-1), .int .i64 a2, .int .i64 0, .int .i64 1]) (ok := fun _ => True) (okp := fun _ => True) ?hr ?hp (fun _ hk => hk) trivial (Below.refl _ _) (Nat.le_refl _) (by simp) ?_; (case hd => rfl); (case hg => rfl); (case hr => first | (go_simp; done) | (go_simp; rfl)); (case hp => exact (Reps.one (show Kd.M (Kd.int .i64) _ _ _ (-1) [.int .i64 (-1)] from rfl) (Reps.one (show Kd.M (Kd.int .i64) _ _ _ a2 [.int .i64 a2] from rfl) (Reps.one (show Kd.M (Kd.int .i64) _ _ _ 0 [.int .i64 0] from rfl) (Reps.one (show Kd.M (Kd.int .i64) _ _ _ 1 [.int .i64 1] from rfl) (Reps.none _ _)))))); intro v252 w32 ho33 hb hg_ hnew_; clear hg_ hnew_; (first | rw [← Ny251.out] at ho33 | (simp only [Int.reduceToNat] at ho33; rw [← Ny251.out] at ho33)); have n0_ := Aside0.mk (Kd.R_elder' (zr HO240.out) (Kd.R_base ho33) hb); have n1_ := Aside0.mk (Kd.R_lower (Kd.R_new' ho33 (Kd.R_lt (zr HO240.out))) (keep_size (w := w) (g := g) (row := none) (zk HK.out))); have n2_ := Aside0.mk (IsS72.below (zi0 HI0.out) hb); have n3_ := Aside0.mk (KeepBut.trans (zk HK.out) (KeepBut.of_below hb g none) (.inl rfl)); have n4_ := Aside0.mk (below_step (zc0 HB.out HI0.out) hb); clear HO240 HI0 HK HB; have HO240 := n0_; have HO253 := n1_; have HI0 := n2_; have HK := n3_; have HB := n4_; clear n0_ n1_ n2_ n3_ n4_; clear hb ho33; obtain ⟨Ao34, co34, eo34⟩ := Kd.R_slice HO253.out; subst eo34) | ((with_reducible refine gate_callee (f := 54) rfl ?_); refine goesL_ (some 38) rfl rfl Tryd.func54 (by kernel_rfl) rfl #[.pointer (some ⟨g, 0, none⟩), .slice Ao34 y251.length co34] rfl (by (try simp only [List.map_toArray, List.map_cons, List.map_nil]); first | done | rfl | (simp only [List.length_drop, List.length_take]; rfl)) ?_; (with_reducible refine (spec_reader_one.calls k g s0_0 t250 _ _ y251 t254 t255 w0 _ ?side1 ?side2 ?side3 ?side4 ?side5 A24.out).mono ?_); (case side1 => repeat (first | (with_reducible first | exact HI0.out | apply IsS72.alloc | apply IsS72.drewN | apply IsS72.drew | apply IsS72.set_1) | exact HI0.out)); (case side2 => repeat (first | (with_reducible first | exact HB.out | apply below_alloc | apply pw_below_drewN | apply below_drew1 | refine below_set ?_ (IsS72.ge HI0.out)) | exact HB.out)); (case side3 => exact zt (Kd.R_reads' HO253.out).2.2); (case side4 => exact (Kd.R_reads' HO253.out).2.1); (case side5 => exact far_slice (IsS72.own_ne HI0.out HO253.out (by decide))); rintro e w35 ⟨rfl, hi, hb, hk⟩; refine ⟨_, rfl, ?_⟩; have n0_ := Aside0.mk (Kd.R_mono (Kd.R_keep (IsS72.apart (show IsS72 w0 _ g s0_0 t250 from zi0 HI0.out) (zr HO240.out) (by decide)) hk (fun _ h => h.2)) (fun _ h => h.1)); have n1_ := Aside0.mk (Kd.R_mono (Kd.R_keep (IsS72.apart (show IsS72 w0 _ g s0_0 t250 from zi0 HI0.out) (zr HO253.out) (by decide)) hk (fun _ h => h.2)) (fun _ h => h.1)); have n2_ := Aside0.mk (KeepBut.trans (zk HK.out) hk (.inl rfl)); have n3_ := Aside0.mk (hb); have n4_ := Aside0.mk (hi); clear HO240 HO253 HK HB HI0; have HO240 := n0_; have HO253 := n1_; have HK := n2_; have HB := n3_; have HI0 := n4_; clear n0_ n1_ n2_ n3_ n4_; (try clear hb); (try clear hb2); (try clear hk); (try clear hi); have p27 : 0 ≤ (t249 : Int) := of_decide_eq_true (za); have q27 : (t249 : Int) < ((t238.length : Int) : Int) := of_decide_eq_true (za); obtain ⟨go27, co27, eo27, gb27, gl27, cl27, HG27⟩ := Kd.R_form HO240.out (by omega); (first | cases eo27 | (injection eo27 with ea_ en_ ec_; (first | subst ea_ | (injection ea_ with ea_; subst ea_)); subst ec_; clear en_)); have GB27 := Aside0.mk gb27; have GG27 := Aside0.mk HG27; clear gb27 gl27 HG27; obtain ⟨hx27_0, hf27_0⟩ := Kd.R_celln 0 HO240.out (t249 : Int) p27 q27; replace p27 := eq_true p27; replace q27 := eq_true q27; have n_ := Aside0.mk (Kd.R_mono (ok' := (fun k_ => some k_ ≠ (.slice Ao34 y251.length co34 : Value).ownBlock)) HO240.out (fun k_ hk => hk.2)); clear HO240; have HO240 := n_; clear n_; obtain ⟨hy36_, hz36_⟩ := Kd.R_celln 0 HO240.out (t249 : Int) (of_decide_eq_true (za)) (of_decide_eq_true (za)); have HP36 := Kd.R_putg HO240.out (t249 : Int) t254) | ((with_reducible refine gate_store (t := 3) (p := 39) rfl ?_); refine store_event (t := 3) (p := 39) (v := ?vo_w37) (w1 := (w35.setCell ⟨go27, (t249 : Int).toNat, none⟩ (.int .i64 t254))) ?hg ?ho ?hn ?hr ?_; (case ho => rfl); (case hg => rfl); (case hn => rfl); (case hr => first | (go_simp; done) | (go_simp; rfl)); intro w37 hw; have hg : w35.grownBy w37 (some go27) := (by rw [hw]; exact HP36.2); have hp_ : Kd.R (Kd.int .i64) 3 w37 w.heap.size (fun k_ => some k_ ≠ (.slice Ao34 y251.length co34 : Value).ownBlock) (.slice (some ⟨go27, 0, none⟩) t238.length co30) y256 := (by rw [hw, Ny256.out]; exact HP36.1); clear HP36; have n0_ := Aside0.mk (IsS72.grown (zi0 HI0.out) hg (IsS72.own_ne HI0.out HO240.out (by decide))); have n1_ := Aside0.mk (hp_); have n2_ := Aside0.mk (Kd.R_after (v := (.slice (some ⟨go27, 0, none⟩) t238.length co30)) (v1 := (.slice (some ⟨go27, 0, none⟩) t238.length co30)) (ok := (fun _ => True)) (zr HO253.out) hg (.inl rfl)); have n3_ := Aside0.mk ((by rw [hw]; exact below_set (HB.out) (Nat.le_trans HL.out GB27.out) : Below w0.heap.size w0 w37)); have n4_ := Aside0.mk (KeepBut.trans (zk HK.out) (KeepBut.of_grown hg g) (Kd.R_base2 HO240.out)); clear HI0 HO240 HO253 HB HK; have HI0 := n0_; have HO240 := n1_; have HO253 := n2_; have HB := n3_; have HK := n4_; clear n0_ n1_ n2_ n3_ n4_; clear hg hw hp_))
          go_ret
          exact ⟨_, ze, Kd.Q_of_R (by (with_reducible repeat (first | apply Kd.R_alloc | apply Kd.R_drewN | apply Kd.R_drew)); exact Kd.R_mono HO240.out (fun _ hk => trivial)), zi0 HI0.out, zc0 HB.out HI0.out, zk HK.out⟩
        rw [if_neg c26] at H
        exact absurd H (by simp)
      rw [if_neg c25] at H
      exact absurd H (by simp)
    rw [if_neg c22] at H
    have c22b0 : decide (0 < (t238.length : Int)) = false := decide_eq_false c22
    have c22b1 : decide (0 < t238.length) = false := decide_eq_false (by omega)
    clear c22
    simp only [Option.some.injEq, Prod.mk.injEq] at H
    obtain ⟨rfl, rfl⟩ := H
    go_enter Tryd.func60, Tryd.ntmps60
    go_wp2_with (first | ((with_reducible refine gate_callee (f := 81) rfl ?_); refine goesL_ (some 9) rfl rfl Tryd.func81 (by kernel_rfl) rfl #[.slice A1 l1.length c1] rfl (by (try simp only [List.map_toArray, List.map_cons, List.map_nil]); first | done | rfl | (simp only [List.length_drop, List.length_take]; rfl)) ?_; (with_reducible refine (spec_copyInts.calls _ _ l1 t238 _ ?side1 ?side2 A4.out).mono ?_); (case side1 => exact Kd.C_keep 0 HR1.out (zk HK.out) hf1); (case side2 => exact HC1.out); rintro e w38 ⟨v239, rfl, ho0, hb⟩; refine ⟨_, rfl, ?_⟩; have n0_ := Aside0.mk (Kd.R_lower ho0 (keep_size (w := w) (g := g) (row := none) (zk HK.out))); have n1_ := Aside0.mk (IsS72.below (zi0 HI0.out) hb); have n2_ := Aside0.mk (KeepBut.trans (zk HK.out) (KeepBut.of_below hb g none) (.inl rfl)); have n3_ := Aside0.mk (below_step (zc0 HB.out HI0.out) hb); clear HI0 HK HB; have HO240 := n0_; have HI0 := n1_; have HK := n2_; have HB := n3_; clear n0_ n1_ n2_ n3_; (try clear hb); (try clear ho0)) | ((with_reducible refine gate_callee (f := 59) rfl ?_); refine goesL_ (some 11) rfl rfl Tryd.func59 (by kernel_rfl) rfl #[.pointer (some ⟨g, 0, none⟩), .int .i64 20] rfl (by (try simp only [List.map_toArray, List.map_cons, List.map_nil]); first | done | rfl | (simp only [List.length_drop, List.length_take]; rfl)) ?_; (with_reducible refine (spec_reader_pick.calls k g s0_0 s0_1 20 t241 t242 w0 _ ?side1 ?side2 A5.out).mono ?_); (case side1 => repeat (first | (with_reducible first | exact HI0.out | apply IsS72.alloc | apply IsS72.drewN | apply IsS72.drew | apply IsS72.set_1) | exact HI0.out)); (case side2 => repeat (first | (with_reducible first | exact HB.out | apply below_alloc | apply pw_below_drewN | apply below_drew1 | refine below_set ?_ (IsS72.ge HI0.out)) | exact HB.out)); rintro e w39 ⟨rfl, hi, hb, hk⟩; refine ⟨_, rfl, ?_⟩; have n0_ := Aside0.mk (Kd.R_mono (Kd.R_keep (IsS72.apart (show IsS72 w0 _ g s0_0 s0_1 from zi0 HI0.out) (zr HO240.out) (by decide)) hk (fun _ h => h.2)) (fun _ h => h.1)); have n1_ := Aside0.mk (KeepBut.trans (zk HK.out) hk (.inl rfl)); have n2_ := Aside0.mk (hb); have n3_ := Aside0.mk (hi); clear HO240 HK HB HI0; have HO240 := n0_; have HK := n1_; have HB := n2_; have HI0 := n3_; clear n0_ n1_ n2_ n3_; (try clear hb); (try clear hb2); (try clear hk); (try clear hi); obtain ⟨Ao40, co40, eo40⟩ := Kd.R_slice HO240.out; subst eo40))
    go_ret
    exact ⟨_, ze, Kd.Q_of_R (zr HO240.out), zi0 HI0.out, zc0 HB.out HI0.out, zk HK.out⟩
  rw [if_neg c21] at H
  have c21b0 : (t241 == 2) = false := beq_eq_false_iff_ne.mpr c21
  have c21b1 : (t241 != 2) = true := bne_iff_ne.mpr c21
  simp only [Option.some.injEq, Prod.mk.injEq] at H
  obtain ⟨rfl, rfl⟩ := H
  go_enter Tryd.func60, Tryd.ntmps60
  go_wp2_with (first | ((with_reducible refine gate_callee (f := 81) rfl ?_); refine goesL_ (some 9) rfl rfl Tryd.func81 (by kernel_rfl) rfl #[.slice A1 l1.length c1] rfl (by (try simp only [List.map_toArray, List.map_cons, List.map_nil]); first | done | rfl | (simp only [List.length_drop, List.length_take]; rfl)) ?_; (with_reducible refine (spec_copyInts.calls _ _ l1 t238 _ ?side1 ?side2 A4.out).mono ?_); (case side1 => exact Kd.C_keep 0 HR1.out (zk HK.out) hf1); (case side2 => exact HC1.out); rintro e w41 ⟨v239, rfl, ho0, hb⟩; refine ⟨_, rfl, ?_⟩; have n0_ := Aside0.mk (Kd.R_lower ho0 (keep_size (w := w) (g := g) (row := none) (zk HK.out))); have n1_ := Aside0.mk (IsS72.below (zi0 HI0.out) hb); have n2_ := Aside0.mk (KeepBut.trans (zk HK.out) (KeepBut.of_below hb g none) (.inl rfl)); have n3_ := Aside0.mk (below_step (zc0 HB.out HI0.out) hb); clear HI0 HK HB; have HO240 := n0_; have HI0 := n1_; have HK := n2_; have HB := n3_; clear n0_ n1_ n2_ n3_; (try clear hb); (try clear ho0)) | ((with_reducible refine gate_callee (f := 59) rfl ?_); refine goesL_ (some 11) rfl rfl Tryd.func59 (by kernel_rfl) rfl #[.pointer (some ⟨g, 0, none⟩), .int .i64 20] rfl (by (try simp only [List.map_toArray, List.map_cons, List.map_nil]); first | done | rfl | (simp only [List.length_drop, List.length_take]; rfl)) ?_; (with_reducible refine (spec_reader_pick.calls k g s0_0 s0_1 20 t241 t242 w0 _ ?side1 ?side2 A5.out).mono ?_); (case side1 => repeat (first | (with_reducible first | exact HI0.out | apply IsS72.alloc | apply IsS72.drewN | apply IsS72.drew | apply IsS72.set_1) | exact HI0.out)); (case side2 => repeat (first | (with_reducible first | exact HB.out | apply below_alloc | apply pw_below_drewN | apply below_drew1 | refine below_set ?_ (IsS72.ge HI0.out)) | exact HB.out)); rintro e w42 ⟨rfl, hi, hb, hk⟩; refine ⟨_, rfl, ?_⟩; have n0_ := Aside0.mk (Kd.R_mono (Kd.R_keep (IsS72.apart (show IsS72 w0 _ g s0_0 s0_1 from zi0 HI0.out) (zr HO240.out) (by decide)) hk (fun _ h => h.2)) (fun _ h => h.1)); have n1_ := Aside0.mk (KeepBut.trans (zk HK.out) hk (.inl rfl)); have n2_ := Aside0.mk (hb); have n3_ := Aside0.mk (hi); clear HO240 HK HB HI0; have HO240 := n0_; have HK := n1_; have HB := n2_; have HI0 := n3_; clear n0_ n1_ n2_ n3_; (try clear hb); (try clear hb2); (try clear hk); (try clear hi)))
  go_ret
  exact ⟨_, ze, Kd.Q_of_R (zr HO240.out), zi0 HI0.out, zc0 HB.out HI0.out, zk HK.out⟩

def spec_someRoom.f (k : Nat) (s0_0 : List Int) (s0_1 : Int) : Option (List Int × Int) := (spec_reader_one.f k s0_0 s0_1 (([4, 5, 8, 4] : List Int))).bind fun bt260 => ((spec_reader_one.f k s0_0 bt260.2 (([4, 6, 8] : List Int))).bind fun bt265 => ((spec_reader_one.f k s0_0 bt265.2 (([4, 4, 7] : List Int))).bind fun bt270 => ((spec_reader_spoil.f k s0_0 bt270.2 (([bt260.1, bt265.1, bt270.1] : List Int)) 9).bind fun bt275 => (some (bt275.1, bt275.2)))))
set_option maxHeartbeats 8000000 in
set_option maxRecDepth 100000 in
theorem spec_someRoom.calls (k : Nat) (g : Nat) (s0_0 : List Int) (s0_1 : Int) (r1 : List Int) (r2 : Int) (w0 w : World) (hI : IsS72 w0 w g s0_0 s0_1) (hB : Below w0.heap.size w0 w) (h : spec_someRoom.f k s0_0 s0_1 = some (r1, r2)) :
    Calls Tryd.prog 61 #[.pointer (some ⟨g, 0, none⟩)] w fun e w' => ∃ v0_ : Value, e = .returned (v0_) ∧ Kd.Q (Kd.int .i64) 3 w' w.heap.size (fun _ => True) v0_ r1 ∧ IsS72 w0 w' g s0_0 r2 ∧ Below w0.heap.size w0 w' ∧ KeepBut w w' g none := by
  have HI0 := Aside0.mk hI
  have HK := Aside0.mk (KeepBut.refl w g none)
  have HL := Aside0.mk hB.size
  clear hI
  have HW0 := Aside0.mk hB.size
  have HB := Aside0.mk hB
  clear hB
  have H : ((spec_reader_one.f k s0_0 s0_1 (([4, 5, 8, 4] : List Int))).bind fun bt260 => ((spec_reader_one.f k s0_0 bt260.2 (([4, 6, 8] : List Int))).bind fun bt265 => ((spec_reader_one.f k s0_0 bt265.2 (([4, 4, 7] : List Int))).bind fun bt270 => ((spec_reader_spoil.f k s0_0 bt270.2 (([bt260.1, bt265.1, bt270.1] : List Int)) 9).bind fun bt275 => (some (bt275.1, bt275.2)))))) = some (r1, r2) := h
  clear h
  obtain ⟨y257, hy257⟩ : ∃ y_ : List Int, y_ = (([4, 5, 8, 4] : List Int)) := ⟨_, rfl⟩
  replace H : ((spec_reader_one.f k s0_0 s0_1 y257).bind fun bt260 => ((spec_reader_one.f k s0_0 bt260.2 (([4, 6, 8] : List Int))).bind fun bt265 => ((spec_reader_one.f k s0_0 bt265.2 (([4, 4, 7] : List Int))).bind fun bt270 => ((spec_reader_spoil.f k s0_0 bt270.2 (([bt260.1, bt265.1, bt270.1] : List Int)) 9).bind fun bt275 => (some (bt275.1, bt275.2)))))) = some (r1, r2) := by first | (rw [hy257]; with_reducible exact H) | (have H2_ := (Option.bind_some _ _).symm.trans H; rw [hy257]; with_reducible exact H2_) | (have H2_ := (Option.bind_some _ _).symm.trans H; with_reducible exact H2_) | with_reducible exact H | (rw [hy257]; exact H) | exact H
  have Ny257 := Aside0.mk hy257
  clear hy257
  replace H := Option.bind_eq_some_iff.mp H
  obtain ⟨⟨t260, t261⟩, A20, H⟩ := H
  replace H : ((spec_reader_one.f k s0_0 t261 (([4, 6, 8] : List Int))).bind fun bt265 => ((spec_reader_one.f k s0_0 bt265.2 (([4, 4, 7] : List Int))).bind fun bt270 => ((spec_reader_spoil.f k s0_0 bt270.2 (([t260, bt265.1, bt270.1] : List Int)) 9).bind fun bt275 => (some (bt275.1, bt275.2))))) = some (r1, r2) := H
  have A2 := Aside0.mk A20
  clear A20
  obtain ⟨y262, hy262⟩ : ∃ y_ : List Int, y_ = (([4, 6, 8] : List Int)) := ⟨_, rfl⟩
  replace H : ((spec_reader_one.f k s0_0 t261 y262).bind fun bt265 => ((spec_reader_one.f k s0_0 bt265.2 (([4, 4, 7] : List Int))).bind fun bt270 => ((spec_reader_spoil.f k s0_0 bt270.2 (([t260, bt265.1, bt270.1] : List Int)) 9).bind fun bt275 => (some (bt275.1, bt275.2))))) = some (r1, r2) := by first | (rw [hy262]; with_reducible exact H) | (have H2_ := (Option.bind_some _ _).symm.trans H; rw [hy262]; with_reducible exact H2_) | (have H2_ := (Option.bind_some _ _).symm.trans H; with_reducible exact H2_) | with_reducible exact H | (rw [hy262]; exact H) | exact H
  have Ny262 := Aside0.mk hy262
  clear hy262
  replace H := Option.bind_eq_some_iff.mp H
  obtain ⟨⟨t265, t266⟩, A30, H⟩ := H
  replace H : ((spec_reader_one.f k s0_0 t266 (([4, 4, 7] : List Int))).bind fun bt270 => ((spec_reader_spoil.f k s0_0 bt270.2 (([t260, t265, bt270.1] : List Int)) 9).bind fun bt275 => (some (bt275.1, bt275.2)))) = some (r1, r2) := H
  have A3 := Aside0.mk A30
  clear A30
  obtain ⟨y267, hy267⟩ : ∃ y_ : List Int, y_ = (([4, 4, 7] : List Int)) := ⟨_, rfl⟩
  replace H : ((spec_reader_one.f k s0_0 t266 y267).bind fun bt270 => ((spec_reader_spoil.f k s0_0 bt270.2 (([t260, t265, bt270.1] : List Int)) 9).bind fun bt275 => (some (bt275.1, bt275.2)))) = some (r1, r2) := by first | (rw [hy267]; with_reducible exact H) | (have H2_ := (Option.bind_some _ _).symm.trans H; rw [hy267]; with_reducible exact H2_) | (have H2_ := (Option.bind_some _ _).symm.trans H; with_reducible exact H2_) | with_reducible exact H | (rw [hy267]; exact H) | exact H
  have Ny267 := Aside0.mk hy267
  clear hy267
  replace H := Option.bind_eq_some_iff.mp H
  obtain ⟨⟨t270, t271⟩, A40, H⟩ := H
  replace H : ((spec_reader_spoil.f k s0_0 t271 (([t260, t265, t270] : List Int)) 9).bind fun bt275 => (some (bt275.1, bt275.2))) = some (r1, r2) := H
  have A4 := Aside0.mk A40
  clear A40
  obtain ⟨y272, hy272⟩ : ∃ y_ : List Int, y_ = (([t260, t265, t270] : List Int)) := ⟨_, rfl⟩
  replace H : ((spec_reader_spoil.f k s0_0 t271 y272 9).bind fun bt275 => (some (bt275.1, bt275.2))) = some (r1, r2) := by first | (rw [hy272]; with_reducible exact H) | (have H2_ := (Option.bind_some _ _).symm.trans H; rw [hy272]; with_reducible exact H2_) | (have H2_ := (Option.bind_some _ _).symm.trans H; with_reducible exact H2_) | with_reducible exact H | (rw [hy272]; exact H) | exact H
  have Ny272 := Aside0.mk hy272
  clear hy272
  replace H := Option.bind_eq_some_iff.mp H
  obtain ⟨⟨t275, t278⟩, A50, H⟩ := H
  replace H : (some (t275, t278)) = some (r1, r2) := H
  have A5 := Aside0.mk A50
  clear A50
  simp only [Option.some.injEq, Prod.mk.injEq] at H
  obtain ⟨rfl, rfl⟩ := H
  go_enter Tryd.func61, Tryd.ntmps61
  go_wp2_with (first | ((with_reducible refine gate_dst (N := 5) rfl ?_); refine Kd.R_lit (Kd.int .i64) _ 3 ?hg (N := 5) ?hd (xs := ([4, 5, 8, 4] : List Int)) (inner := [.int .i64 4, .int .i64 5, .int .i64 8, .int .i64 4]) (ok := fun _ => True) (okp := fun _ => True) ?hr ?hp (fun _ hk => hk) trivial (Below.refl _ _) (Nat.le_refl _) (by simp) ?_; (case hd => rfl); (case hg => rfl); (case hr => first | (go_simp; done) | (go_simp; rfl)); (case hp => exact (Reps.one (show Kd.M (Kd.int .i64) _ _ _ 4 [.int .i64 4] from rfl) (Reps.one (show Kd.M (Kd.int .i64) _ _ _ 5 [.int .i64 5] from rfl) (Reps.one (show Kd.M (Kd.int .i64) _ _ _ 8 [.int .i64 8] from rfl) (Reps.one (show Kd.M (Kd.int .i64) _ _ _ 4 [.int .i64 4] from rfl) (Reps.none _ _)))))); intro v258 w6 ho7 hb hg_ hnew_; clear hg_ hnew_; (first | rw [← Ny257.out] at ho7 | (simp only [Int.reduceToNat] at ho7; rw [← Ny257.out] at ho7)); have n0_ := Aside0.mk (Kd.R_lower ho7 (keep_size (w := w) (g := g) (row := none) (zk HK.out))); have n1_ := Aside0.mk (IsS72.below (zi0 HI0.out) hb); have n2_ := Aside0.mk (KeepBut.trans (zk HK.out) (KeepBut.of_below hb g none) (.inl rfl)); have n3_ := Aside0.mk (below_step (zc0 HB.out HI0.out) hb); clear HI0 HK HB; have HO259 := n0_; have HI0 := n1_; have HK := n2_; have HB := n3_; clear n0_ n1_ n2_ n3_; clear hb ho7; obtain ⟨Ao8, co8, eo8⟩ := Kd.R_slice HO259.out; subst eo8) | ((with_reducible refine gate_callee (f := 54) rfl ?_); refine goesL_ (some 6) rfl rfl Tryd.func54 (by kernel_rfl) rfl #[.pointer (some ⟨g, 0, none⟩), .slice Ao8 y257.length co8] rfl (by (try simp only [List.map_toArray, List.map_cons, List.map_nil]); first | done | rfl | (simp only [List.length_drop, List.length_take]; rfl)) ?_; (with_reducible refine (spec_reader_one.calls k g s0_0 s0_1 _ _ y257 t260 t261 w0 _ ?side1 ?side2 ?side3 ?side4 ?side5 A2.out).mono ?_); (case side1 => repeat (first | (with_reducible first | exact HI0.out | apply IsS72.alloc | apply IsS72.drewN | apply IsS72.drew | apply IsS72.set_1) | exact HI0.out)); (case side2 => repeat (first | (with_reducible first | exact HB.out | apply below_alloc | apply pw_below_drewN | apply below_drew1 | refine below_set ?_ (IsS72.ge HI0.out)) | exact HB.out)); (case side3 => exact zt (Kd.R_reads' HO259.out).2.2); (case side4 => exact (Kd.R_reads' HO259.out).2.1); (case side5 => exact far_slice (IsS72.own_ne HI0.out HO259.out (by decide))); rintro e w9 ⟨rfl, hi, hb, hk⟩; refine ⟨_, rfl, ?_⟩; have n0_ := Aside0.mk (Kd.R_mono (Kd.R_keep (IsS72.apart (show IsS72 w0 _ g s0_0 s0_1 from zi0 HI0.out) (zr HO259.out) (by decide)) hk (fun _ h => h.2)) (fun _ h => h.1)); have n1_ := Aside0.mk (KeepBut.trans (zk HK.out) hk (.inl rfl)); have n2_ := Aside0.mk (hb); have n3_ := Aside0.mk (hi); clear HO259 HK HB HI0; have HO259 := n0_; have HK := n1_; have HB := n2_; have HI0 := n3_; clear n0_ n1_ n2_ n3_; (try clear hb); (try clear hb2); (try clear hk); (try clear hi)) | ((with_reducible refine gate_dst (N := 8) rfl ?_); refine Kd.R_lit (Kd.int .i64) _ 3 ?hg (N := 8) ?hd (xs := ([4, 6, 8] : List Int)) (inner := [.int .i64 4, .int .i64 6, .int .i64 8]) (ok := fun _ => True) (okp := fun _ => True) ?hr ?hp (fun _ hk => hk) trivial (Below.refl _ _) (Nat.le_refl _) (by simp) ?_; (case hd => rfl); (case hg => rfl); (case hr => first | (go_simp; done) | (go_simp; rfl)); (case hp => exact (Reps.one (show Kd.M (Kd.int .i64) _ _ _ 4 [.int .i64 4] from rfl) (Reps.one (show Kd.M (Kd.int .i64) _ _ _ 6 [.int .i64 6] from rfl) (Reps.one (show Kd.M (Kd.int .i64) _ _ _ 8 [.int .i64 8] from rfl) (Reps.none _ _))))); intro v263 w10 ho11 hb hg_ hnew_; clear hg_ hnew_; (first | rw [← Ny262.out] at ho11 | (simp only [Int.reduceToNat] at ho11; rw [← Ny262.out] at ho11)); have n0_ := Aside0.mk (Kd.R_elder' (zr HO259.out) (Kd.R_base ho11) hb); have n1_ := Aside0.mk (Kd.R_lower (Kd.R_new' ho11 (Kd.R_lt (zr HO259.out))) (keep_size (w := w) (g := g) (row := none) (zk HK.out))); have n2_ := Aside0.mk (IsS72.below (zi0 HI0.out) hb); have n3_ := Aside0.mk (KeepBut.trans (zk HK.out) (KeepBut.of_below hb g none) (.inl rfl)); have n4_ := Aside0.mk (below_step (zc0 HB.out HI0.out) hb); clear HO259 HI0 HK HB; have HO259 := n0_; have HO264 := n1_; have HI0 := n2_; have HK := n3_; have HB := n4_; clear n0_ n1_ n2_ n3_ n4_; clear hb ho11; obtain ⟨Ao12, co12, eo12⟩ := Kd.R_slice HO264.out; subst eo12) | ((with_reducible refine gate_callee (f := 54) rfl ?_); refine goesL_ (some 9) rfl rfl Tryd.func54 (by kernel_rfl) rfl #[.pointer (some ⟨g, 0, none⟩), .slice Ao12 y262.length co12] rfl (by (try simp only [List.map_toArray, List.map_cons, List.map_nil]); first | done | rfl | (simp only [List.length_drop, List.length_take]; rfl)) ?_; (with_reducible refine (spec_reader_one.calls k g s0_0 t261 _ _ y262 t265 t266 w0 _ ?side1 ?side2 ?side3 ?side4 ?side5 A3.out).mono ?_); (case side1 => repeat (first | (with_reducible first | exact HI0.out | apply IsS72.alloc | apply IsS72.drewN | apply IsS72.drew | apply IsS72.set_1) | exact HI0.out)); (case side2 => repeat (first | (with_reducible first | exact HB.out | apply below_alloc | apply pw_below_drewN | apply below_drew1 | refine below_set ?_ (IsS72.ge HI0.out)) | exact HB.out)); (case side3 => exact zt (Kd.R_reads' HO264.out).2.2); (case side4 => exact (Kd.R_reads' HO264.out).2.1); (case side5 => exact far_slice (IsS72.own_ne HI0.out HO264.out (by decide))); rintro e w13 ⟨rfl, hi, hb, hk⟩; refine ⟨_, rfl, ?_⟩; have n0_ := Aside0.mk (Kd.R_mono (Kd.R_keep (IsS72.apart (show IsS72 w0 _ g s0_0 t261 from zi0 HI0.out) (zr HO259.out) (by decide)) hk (fun _ h => h.2)) (fun _ h => h.1)); have n1_ := Aside0.mk (Kd.R_mono (Kd.R_keep (IsS72.apart (show IsS72 w0 _ g s0_0 t261 from zi0 HI0.out) (zr HO264.out) (by decide)) hk (fun _ h => h.2)) (fun _ h => h.1)); have n2_ := Aside0.mk (KeepBut.trans (zk HK.out) hk (.inl rfl)); have n3_ := Aside0.mk (hb); have n4_ := Aside0.mk (hi); clear HO259 HO264 HK HB HI0; have HO259 := n0_; have HO264 := n1_; have HK := n2_; have HB := n3_; have HI0 := n4_; clear n0_ n1_ n2_ n3_ n4_; (try clear hb); (try clear hb2); (try clear hk); (try clear hi)) | ((with_reducible refine gate_dst (N := 11) rfl ?_); refine Kd.R_lit (Kd.int .i64) _ 3 ?hg (N := 11) ?hd (xs := ([4, 4, 7] : List Int)) (inner := [.int .i64 4, .int .i64 4, .int .i64 7]) (ok := fun _ => True) (okp := fun _ => True) ?hr ?hp (fun _ hk => hk) trivial (Below.refl _ _) (Nat.le_refl _) (by simp) ?_; (case hd => rfl); (case hg => rfl); (case hr => first | (go_simp; done) | (go_simp; rfl)); (case hp => exact (Reps.one (show Kd.M (Kd.int .i64) _ _ _ 4 [.int .i64 4] from rfl) (Reps.one (show Kd.M (Kd.int .i64) _ _ _ 4 [.int .i64 4] from rfl) (Reps.one (show Kd.M (Kd.int .i64) _ _ _ 7 [.int .i64 7] from rfl) (Reps.none _ _))))); intro v268 w14 ho15 hb hg_ hnew_; clear hg_ hnew_; (first | rw [← Ny267.out] at ho15 | (simp only [Int.reduceToNat] at ho15; rw [← Ny267.out] at ho15)); have n0_ := Aside0.mk (Kd.R_elder' (zr HO259.out) (Kd.R_base ho15) hb); have n1_ := Aside0.mk (Kd.R_elder' (zr HO264.out) (Kd.R_base ho15) hb); have n2_ := Aside0.mk (Kd.R_lower (Kd.R_new' (Kd.R_new' ho15 (Kd.R_lt (zr HO259.out))) (Kd.R_lt (zr HO264.out))) (keep_size (w := w) (g := g) (row := none) (zk HK.out))); have n3_ := Aside0.mk (IsS72.below (zi0 HI0.out) hb); have n4_ := Aside0.mk (KeepBut.trans (zk HK.out) (KeepBut.of_below hb g none) (.inl rfl)); have n5_ := Aside0.mk (below_step (zc0 HB.out HI0.out) hb); clear HO259 HO264 HI0 HK HB; have HO259 := n0_; have HO264 := n1_; have HO269 := n2_; have HI0 := n3_; have HK := n4_; have HB := n5_; clear n0_ n1_ n2_ n3_ n4_ n5_; clear hb ho15; obtain ⟨Ao16, co16, eo16⟩ := Kd.R_slice HO269.out; subst eo16) | ((with_reducible refine gate_callee (f := 54) rfl ?_); refine goesL_ (some 12) rfl rfl Tryd.func54 (by kernel_rfl) rfl #[.pointer (some ⟨g, 0, none⟩), .slice Ao16 y267.length co16] rfl (by (try simp only [List.map_toArray, List.map_cons, List.map_nil]); first | done | rfl | (simp only [List.length_drop, List.length_take]; rfl)) ?_; (with_reducible refine (spec_reader_one.calls k g s0_0 t266 _ _ y267 t270 t271 w0 _ ?side1 ?side2 ?side3 ?side4 ?side5 A4.out).mono ?_); (case side1 => repeat (first | (with_reducible first | exact HI0.out | apply IsS72.alloc | apply IsS72.drewN | apply IsS72.drew | apply IsS72.set_1) | exact HI0.out)); (case side2 => repeat (first | (with_reducible first | exact HB.out | apply below_alloc | apply pw_below_drewN | apply below_drew1 | refine below_set ?_ (IsS72.ge HI0.out)) | exact HB.out)); (case side3 => exact zt (Kd.R_reads' HO269.out).2.2); (case side4 => exact (Kd.R_reads' HO269.out).2.1); (case side5 => exact far_slice (IsS72.own_ne HI0.out HO269.out (by decide))); rintro e w17 ⟨rfl, hi, hb, hk⟩; refine ⟨_, rfl, ?_⟩; have n0_ := Aside0.mk (Kd.R_mono (Kd.R_keep (IsS72.apart (show IsS72 w0 _ g s0_0 t266 from zi0 HI0.out) (zr HO259.out) (by decide)) hk (fun _ h => h.2)) (fun _ h => h.1)); have n1_ := Aside0.mk (Kd.R_mono (Kd.R_keep (IsS72.apart (show IsS72 w0 _ g s0_0 t266 from zi0 HI0.out) (zr HO264.out) (by decide)) hk (fun _ h => h.2)) (fun _ h => h.1)); have n2_ := Aside0.mk (Kd.R_mono (Kd.R_keep (IsS72.apart (show IsS72 w0 _ g s0_0 t266 from zi0 HI0.out) (zr HO269.out) (by decide)) hk (fun _ h => h.2)) (fun _ h => h.1)); have n3_ := Aside0.mk (KeepBut.trans (zk HK.out) hk (.inl rfl)); have n4_ := Aside0.mk (hb); have n5_ := Aside0.mk (hi); clear HO259 HO264 HO269 HK HB HI0; have HO259 := n0_; have HO264 := n1_; have HO269 := n2_; have HK := n3_; have HB := n4_; have HI0 := n5_; clear n0_ n1_ n2_ n3_ n4_ n5_; (try clear hb); (try clear hb2); (try clear hk); (try clear hi)) | ((with_reducible refine gate_dst (N := 13) rfl ?_); refine Kd.R_lit (Kd.int .i64) _ 3 ?hg (N := 13) ?hd (xs := ([t260, t265, t270] : List Int)) (inner := [.int .i64 t260, .int .i64 t265, .int .i64 t270]) (ok := fun _ => True) (okp := fun _ => True) ?hr ?hp (fun _ hk => hk) trivial (Below.refl _ _) (Nat.le_refl _) (by simp) ?_; (case hd => rfl); (case hg => rfl); (case hr => first | (go_simp; done) | (go_simp; rfl)); (case hp => exact (Reps.one (show Kd.M (Kd.int .i64) _ _ _ t260 [.int .i64 t260] from rfl) (Reps.one (show Kd.M (Kd.int .i64) _ _ _ t265 [.int .i64 t265] from rfl) (Reps.one (show Kd.M (Kd.int .i64) _ _ _ t270 [.int .i64 t270] from rfl) (Reps.none _ _))))); intro v273 w18 ho19 hb hg_ hnew_; clear hg_ hnew_; (first | rw [← Ny272.out] at ho19 | (simp only [Int.reduceToNat] at ho19; rw [← Ny272.out] at ho19)); have n0_ := Aside0.mk (Kd.R_elder' (zr HO259.out) (Kd.R_base ho19) hb); have n1_ := Aside0.mk (Kd.R_elder' (zr HO264.out) (Kd.R_base ho19) hb); have n2_ := Aside0.mk (Kd.R_elder' (zr HO269.out) (Kd.R_base ho19) hb); have n3_ := Aside0.mk (Kd.R_lower (Kd.R_new' (Kd.R_new' (Kd.R_new' ho19 (Kd.R_lt (zr HO259.out))) (Kd.R_lt (zr HO264.out))) (Kd.R_lt (zr HO269.out))) (keep_size (w := w) (g := g) (row := none) (zk HK.out))); have n4_ := Aside0.mk (IsS72.below (zi0 HI0.out) hb); have n5_ := Aside0.mk (KeepBut.trans (zk HK.out) (KeepBut.of_below hb g none) (.inl rfl)); have n6_ := Aside0.mk (below_step (zc0 HB.out HI0.out) hb); clear HO259 HO264 HO269 HI0 HK HB; have HO259 := n0_; have HO264 := n1_; have HO269 := n2_; have HO274 := n3_; have HI0 := n4_; have HK := n5_; have HB := n6_; clear n0_ n1_ n2_ n3_ n4_ n5_ n6_; clear hb ho19; obtain ⟨Ao20, co20, eo20⟩ := Kd.R_slice HO274.out; subst eo20) | ((with_reducible refine gate_callee (f := 60) rfl ?_); refine goesL_ (some 14) rfl rfl Tryd.func60 (by kernel_rfl) rfl #[.pointer (some ⟨g, 0, none⟩), .slice Ao20 y272.length co20, .int .i64 9] rfl (by (try simp only [List.map_toArray, List.map_cons, List.map_nil]); first | done | rfl | (simp only [List.length_drop, List.length_take]; rfl)) ?_; (with_reducible refine (spec_reader_spoil.calls k g s0_0 t271 _ _ y272 9 t275 t278 w0 _ ?side1 ?side2 ?side3 ?side4 ?side5 A5.out).mono ?_); (case side1 => repeat (first | (with_reducible first | exact HI0.out | apply IsS72.alloc | apply IsS72.drewN | apply IsS72.drew | apply IsS72.set_1) | exact HI0.out)); (case side2 => repeat (first | (with_reducible first | exact HB.out | apply below_alloc | apply pw_below_drewN | apply below_drew1 | refine below_set ?_ (IsS72.ge HI0.out)) | exact HB.out)); (case side3 => exact zt (Kd.R_reads' HO274.out).2.2); (case side4 => exact (Kd.R_reads' HO274.out).2.1); (case side5 => exact far_slice (IsS72.own_ne HI0.out HO274.out (by decide))); rintro e w21 ⟨v276, rfl, ho0, hi, hb, hk⟩; refine ⟨_, rfl, ?_⟩; have n0_ := Aside0.mk (Kd.R_mono (Kd.R_told (Kd.R_oldK (IsS72.apart (show IsS72 w0 _ g s0_0 t271 from zi0 HI0.out) (zr HO259.out) (by decide)) hk) (Kd.Q_base ho0)) (fun _ h_ => h_.1)); have n1_ := Aside0.mk (Kd.R_mono (Kd.R_told (Kd.R_oldK (IsS72.apart (show IsS72 w0 _ g s0_0 t271 from zi0 HI0.out) (zr HO264.out) (by decide)) hk) (Kd.Q_base ho0)) (fun _ h_ => h_.1)); have n2_ := Aside0.mk (Kd.R_mono (Kd.R_told (Kd.R_oldK (IsS72.apart (show IsS72 w0 _ g s0_0 t271 from zi0 HI0.out) (zr HO269.out) (by decide)) hk) (Kd.Q_base ho0)) (fun _ h_ => h_.1)); have n3_ := Aside0.mk (Kd.R_mono (Kd.R_told (Kd.R_oldK (IsS72.apart (show IsS72 w0 _ g s0_0 t271 from zi0 HI0.out) (zr HO274.out) (by decide)) hk) (Kd.Q_base ho0)) (fun _ h_ => h_.1)); have n4_ := Aside0.mk (Kd.Q_lower (Kd.Q_new' (Kd.Q_new' (Kd.Q_new' (Kd.Q_new' ho0 (Kd.R_lt (zr HO259.out))) (Kd.R_lt (zr HO264.out))) (Kd.R_lt (zr HO269.out))) (Kd.R_lt (zr HO274.out))) (keep_size (w := w) (g := g) (row := none) (zk HK.out))); have n5_ := Aside0.mk (KeepBut.trans (zk HK.out) hk (.inl rfl)); have n6_ := Aside0.mk (hb); have n7_ := Aside0.mk (hi); clear HO259 HO264 HO269 HO274 HK HB HI0; have HO259 := n0_; have HO264 := n1_; have HO269 := n2_; have HO274 := n3_; have HO277 := n4_; have HK := n5_; have HB := n6_; have HI0 := n7_; clear n0_ n1_ n2_ n3_ n4_ n5_ n6_ n7_; (try clear hb); (try clear hk); (try clear hi); (try clear ho0)))
  go_ret
  exact ⟨_, ze, by (with_reducible repeat (first | apply Kd.Q_alloc | apply Kd.Q_drewN | apply Kd.Q_drew)); exact Kd.Q_mono HO277.out (fun _ hk => trivial), zi0 HI0.out, zc0 HB.out HI0.out, zk HK.out⟩

def spec_someWorkers.f (k : Nat) (s0_0 : List Int) (s0_1 : Int) : Option (Int × Int) := (spec_reader_one.f k s0_0 s0_1 (([1, 2, 3, 4, 2, 0, 5] : List Int))).bind fun bt282 => (some (bt282.1, bt282.2))
set_option maxHeartbeats 8000000 in
set_option maxRecDepth 100000 in
theorem spec_someWorkers.calls (k : Nat) (g : Nat) (s0_0 : List Int) (s0_1 : Int) (r1 : Int) (r2 : Int) (w0 w : World) (hI : IsS72 w0 w g s0_0 s0_1) (hB : Below w0.heap.size w0 w) (h : spec_someWorkers.f k s0_0 s0_1 = some (r1, r2)) :
    Calls Tryd.prog 62 #[.pointer (some ⟨g, 0, none⟩)] w fun e w' => e = .returned (.int .i64 r1) ∧ IsS72 w0 w' g s0_0 r2 ∧ Below w0.heap.size w0 w' ∧ KeepBut w w' g none := by
  have HI0 := Aside0.mk hI
  have HK := Aside0.mk (KeepBut.refl w g none)
  have HL := Aside0.mk hB.size
  clear hI
  have HW0 := Aside0.mk hB.size
  have HB := Aside0.mk hB
  clear hB
  have H : ((spec_reader_one.f k s0_0 s0_1 (([1, 2, 3, 4, 2, 0, 5] : List Int))).bind fun bt282 => (some (bt282.1, bt282.2))) = some (r1, r2) := h
  clear h
  obtain ⟨y279, hy279⟩ : ∃ y_ : List Int, y_ = (([1, 2, 3, 4, 2, 0, 5] : List Int)) := ⟨_, rfl⟩
  replace H : ((spec_reader_one.f k s0_0 s0_1 y279).bind fun bt282 => (some (bt282.1, bt282.2))) = some (r1, r2) := by first | (rw [hy279]; with_reducible exact H) | (have H2_ := (Option.bind_some _ _).symm.trans H; rw [hy279]; with_reducible exact H2_) | (have H2_ := (Option.bind_some _ _).symm.trans H; with_reducible exact H2_) | with_reducible exact H | (rw [hy279]; exact H) | exact H
  have Ny279 := Aside0.mk hy279
  clear hy279
  replace H := Option.bind_eq_some_iff.mp H
  obtain ⟨⟨t282, t283⟩, A20, H⟩ := H
  replace H : (some (t282, t283)) = some (r1, r2) := H
  have A2 := Aside0.mk A20
  clear A20
  simp only [Option.some.injEq, Prod.mk.injEq] at H
  obtain ⟨rfl, rfl⟩ := H
  go_enter Tryd.func62, Tryd.ntmps62
  go_wp2_with (first | ((with_reducible refine gate_dst (N := 4) rfl ?_); refine Kd.R_lit (Kd.int .i64) _ 3 ?hg (N := 4) ?hd (xs := ([1, 2, 3, 4, 2, 0, 5] : List Int)) (inner := [.int .i64 1, .int .i64 2, .int .i64 3, .int .i64 4, .int .i64 2, .int .i64 0, .int .i64 5]) (ok := fun _ => True) (okp := fun _ => True) ?hr ?hp (fun _ hk => hk) trivial (Below.refl _ _) (Nat.le_refl _) (by simp) ?_; (case hd => rfl); (case hg => rfl); (case hr => first | (go_simp; done) | (go_simp; rfl)); (case hp => exact (Reps.one (show Kd.M (Kd.int .i64) _ _ _ 1 [.int .i64 1] from rfl) (Reps.one (show Kd.M (Kd.int .i64) _ _ _ 2 [.int .i64 2] from rfl) (Reps.one (show Kd.M (Kd.int .i64) _ _ _ 3 [.int .i64 3] from rfl) (Reps.one (show Kd.M (Kd.int .i64) _ _ _ 4 [.int .i64 4] from rfl) (Reps.one (show Kd.M (Kd.int .i64) _ _ _ 2 [.int .i64 2] from rfl) (Reps.one (show Kd.M (Kd.int .i64) _ _ _ 0 [.int .i64 0] from rfl) (Reps.one (show Kd.M (Kd.int .i64) _ _ _ 5 [.int .i64 5] from rfl) (Reps.none _ _))))))))); intro v280 w3 ho4 hb hg_ hnew_; clear hg_ hnew_; (first | rw [← Ny279.out] at ho4 | (simp only [Int.reduceToNat] at ho4; rw [← Ny279.out] at ho4)); have n0_ := Aside0.mk (Kd.R_lower ho4 (keep_size (w := w) (g := g) (row := none) (zk HK.out))); have n1_ := Aside0.mk (IsS72.below (zi0 HI0.out) hb); have n2_ := Aside0.mk (KeepBut.trans (zk HK.out) (KeepBut.of_below hb g none) (.inl rfl)); have n3_ := Aside0.mk (below_step (zc0 HB.out HI0.out) hb); clear HI0 HK HB; have HO281 := n0_; have HI0 := n1_; have HK := n2_; have HB := n3_; clear n0_ n1_ n2_ n3_; clear hb ho4; obtain ⟨Ao5, co5, eo5⟩ := Kd.R_slice HO281.out; subst eo5) | ((with_reducible refine gate_callee (f := 54) rfl ?_); refine goesL_ (some 5) rfl rfl Tryd.func54 (by kernel_rfl) rfl #[.pointer (some ⟨g, 0, none⟩), .slice Ao5 y279.length co5] rfl (by (try simp only [List.map_toArray, List.map_cons, List.map_nil]); first | done | rfl | (simp only [List.length_drop, List.length_take]; rfl)) ?_; (with_reducible refine (spec_reader_one.calls k g s0_0 s0_1 _ _ y279 t282 t283 w0 _ ?side1 ?side2 ?side3 ?side4 ?side5 A2.out).mono ?_); (case side1 => repeat (first | (with_reducible first | exact HI0.out | apply IsS72.alloc | apply IsS72.drewN | apply IsS72.drew | apply IsS72.set_1) | exact HI0.out)); (case side2 => repeat (first | (with_reducible first | exact HB.out | apply below_alloc | apply pw_below_drewN | apply below_drew1 | refine below_set ?_ (IsS72.ge HI0.out)) | exact HB.out)); (case side3 => exact zt (Kd.R_reads' HO281.out).2.2); (case side4 => exact (Kd.R_reads' HO281.out).2.1); (case side5 => exact far_slice (IsS72.own_ne HI0.out HO281.out (by decide))); rintro e w6 ⟨rfl, hi, hb, hk⟩; refine ⟨_, rfl, ?_⟩; have n0_ := Aside0.mk (Kd.R_mono (Kd.R_keep (IsS72.apart (show IsS72 w0 _ g s0_0 s0_1 from zi0 HI0.out) (zr HO281.out) (by decide)) hk (fun _ h => h.2)) (fun _ h => h.1)); have n1_ := Aside0.mk (KeepBut.trans (zk HK.out) hk (.inl rfl)); have n2_ := Aside0.mk (hb); have n3_ := Aside0.mk (hi); clear HO281 HK HB HI0; have HO281 := n0_; have HK := n1_; have HB := n2_; have HI0 := n3_; clear n0_ n1_ n2_ n3_; (try clear hb); (try clear hb2); (try clear hk); (try clear hi)))
  go_ret
  exact ⟨ze, zi0 HI0.out, zc0 HB.out HI0.out, zk HK.out⟩

def spec_ready.l0 : Nat → List (S33) → List Int → List Int → Int → Option (List Int)
  | 0, _, _, _, _ => none
  | k + 1, x0, x1, x5, x6 => if x6 < (x0.length : Int) then ((spec_isIn.f k x1 x6).bind fun t287 => (if t287 = true then (spec_ready.l0 k x0 x1 x5 (wrap64 (x6 + 1))) else (if 0 ≤ x6 then ((spec_allDone.f k ((rd_T33 x0 x6).f1) x1).bind fun t289 => (if t289 = true then (if x5.length < 17592186044416 then (spec_ready.l0 k x0 x1 (x5 ++ [x6]) (wrap64 (x6 + 1))) else (none)) else (spec_ready.l0 k x0 x1 x5 (wrap64 (x6 + 1))))) else (none)))) else (some x5)
def spec_ready.f (k : Nat) (l0 : List (S33)) (l1 : List Int) : Option (List Int) := spec_ready.l0 k l0 l1 (([] : List Int)) 0
set_option maxHeartbeats 8000000 in
set_option maxRecDepth 100000 in
theorem spec_ready.calls (k : Nat) (A0 : Option Addr) (c0 : Nat) (l0 : List (S33)) (A1 : Option Addr) (c1 : Nat) (l1 : List Int) (r : List Int) (w : World) (hr0 : Kd.C k33 w A0 l0.length l0) (hc0 : l0.length ≤ c0) (hr1 : Kd.C (Kd.int .i64) w A1 l1.length l1) (hc1 : l1.length ≤ c1) (h : spec_ready.f k l0 l1 = some r) :
    Calls Tryd.prog 95 #[.slice A0 l0.length c0, .slice A1 l1.length c1] w fun e w' => ∃ v0_ : Value, e = .returned (v0_) ∧ Kd.R (Kd.int .i64) 3 w' w.heap.size (fun _ => True) v0_ r ∧ Below w.heap.size w w' := by
  have HR0 := Aside0.mk hr0
  have HC0 := Aside0.mk hc0
  clear hr0 hc0
  have HR1 := Aside0.mk hr1
  have HC1 := Aside0.mk hc1
  clear hr1 hc1
  have HB := Aside0.mk (Below.refl w.heap.size w)
  have H : (spec_ready.l0 k l0 l1 (([] : List Int)) 0) = some r := h
  clear h
  obtain ⟨y284, hy284⟩ : ∃ y_ : List Int, y_ = (([] : List Int)) := ⟨_, rfl⟩
  replace H : (spec_ready.l0 k l0 l1 y284 0) = some r := by first | (rw [hy284]; with_reducible exact H) | (have H2_ := (Option.bind_some _ _).symm.trans H; rw [hy284]; with_reducible exact H2_) | (have H2_ := (Option.bind_some _ _).symm.trans H; with_reducible exact H2_) | with_reducible exact H | (rw [hy284]; exact H) | exact H
  have Ny284 := Aside0.mk hy284
  clear hy284
  have H' := Aside0.mk H
  clear H
  go_enter Tryd.func95, Tryd.ntmps95
  go_wp2_with (first | ((with_reducible refine gate_dst (N := 7) rfl ?_); refine Kd.R_lit (Kd.int .i64) _ 3 ?hg (N := 7) ?hd (xs := ([] : List Int)) (inner := []) (ok := fun _ => True) (okp := fun _ => True) ?hr ?hp (fun _ hk => hk) trivial (Below.refl _ _) (Nat.le_refl _) (by simp) ?_; (case hd => rfl); (case hg => rfl); (case hr => first | (go_simp; done) | (go_simp; rfl)); (case hp => exact (Reps.none _ _)); intro v285 w3 ho4 hb hg_ hnew_; clear hg_ hnew_; (first | rw [← Ny284.out] at ho4 | (simp only [Int.reduceToNat] at ho4; rw [← Ny284.out] at ho4)); have n0_ := Aside0.mk (Kd.R_lower ho4 (below_size (zb HB.out))); have n1_ := Aside0.mk (below_step (zb HB.out) hb); clear HB; have HO286 := n0_; have HB := n1_; clear n0_ n1_; clear hb ho4))
  go_loopg [5, 6] k (fun kq v5 v6 w' => ∃ (x5_1 : List Int) (x6_1 : Int), v6 = .int .i64 x6_1 ∧ Aside0 (spec_ready.l0 kq l0 l1 x5_1 x6_1 = some r) ∧ Aside0 (kq ≤ k) ∧ Aside0 (Kd.R (Kd.int .i64) 3 w' w.heap.size (fun _ => True) v5 x5_1) ∧ Aside0 (Below w.heap.size w w'))
  case atStart => exact ⟨(y284), (0), (zf), H', ⟨Nat.le_refl _⟩, ⟨by (with_reducible repeat (first | apply Kd.R_alloc | apply Kd.R_drewN | apply Kd.R_drew)); exact HO286.out⟩, ⟨zb HB.out⟩⟩
  case round =>
    clear H'
    try clear c1
    try clear p2
    obtain ⟨x5_1, x6_1, rfl, HA, HK1, HO_5, HB⟩ := hrel
    cases gk with
    | zero => exact absurd HA.out (by simp [spec_ready.l0])
    | succ k1 =>
      have H := HA.out
      clear HA
      simp only [spec_ready.l0] at H
      by_cases c5 : x6_1 < (l0.length : Int)
      · rw [if_pos c5] at H
        have c5b0 : decide (x6_1 < (l0.length : Int)) = true := decide_eq_true c5
        clear c5
        replace H := Option.bind_eq_some_iff.mp H
        obtain ⟨t287, A60, H⟩ := H
        replace H : (if t287 = true then (spec_ready.l0 k1 l0 l1 x5_1 (wrap64 (x6_1 + 1))) else (if 0 ≤ x6_1 then ((spec_allDone.f k1 ((rd_T33 l0 x6_1).f1) l1).bind fun t289 => (if t289 = true then (if x5_1.length < 17592186044416 then (spec_ready.l0 k1 l0 l1 (x5_1 ++ [x6_1]) (wrap64 (x6_1 + 1))) else (none)) else (spec_ready.l0 k1 l0 l1 x5_1 (wrap64 (x6_1 + 1))))) else (none))) = some r := H
        have A6 := Aside0.mk A60
        clear A60
        by_cases c7 : t287 = true
        · subst c7
          have H1 : (spec_ready.l0 k1 l0 l1 x5_1 (wrap64 (x6_1 + 1))) = some r := by rw [if_pos rfl] at H; exact H
          clear H
          have H := H1
          clear H1
          have H' := Aside0.mk H
          clear H
          go_wp2_with (first | ((with_reducible refine gate_callee (f := 99) rfl ?_); refine goesL_ (some 16) rfl rfl Tryd.func99 (by kernel_rfl) rfl #[.slice A1 l1.length c1, .int .i64 x6_1] rfl (by (try simp only [List.map_toArray, List.map_cons, List.map_nil]); first | done | rfl | (simp only [List.length_drop, List.length_take]; rfl)) ?_; (with_reducible refine (spec_isIn.calls k1 _ _ l1 x6_1 true _ ?side1 ?side2 A6.out).mono ?_); (case side1 => exact zt (Kd.C_below HR1.out HB.out)); (case side2 => exact HC1.out); rintro e w' ⟨rfl, ⟨nd, rfl⟩⟩; refine ⟨_, rfl, ?_⟩))
          go_roundg k1
          case measure => have := HK1.out; omega
          case rel => exact ⟨(x5_1), (wrap64 (x6_1 + 1)), (zf), H', ⟨by have := HK1.out; omega⟩, ⟨by (with_reducible repeat (first | apply Kd.R_alloc | apply Kd.R_drewN | apply Kd.R_drew)); exact HO_5.out⟩, ⟨zb HB.out⟩⟩
        replace c7 := Bool.eq_false_iff.mpr c7
        subst c7
        have H1 : (if 0 ≤ x6_1 then ((spec_allDone.f k1 ((rd_T33 l0 x6_1).f1) l1).bind fun t289 => (if t289 = true then (if x5_1.length < 17592186044416 then (spec_ready.l0 k1 l0 l1 (x5_1 ++ [x6_1]) (wrap64 (x6_1 + 1))) else (none)) else (spec_ready.l0 k1 l0 l1 x5_1 (wrap64 (x6_1 + 1))))) else (none)) = some r := by rw [if_neg (show ¬ (false = true) by decide)] at H; exact H
        clear H
        have H := H1
        clear H1
        by_cases c8 : 0 ≤ x6_1
        · rw [if_pos c8] at H
          have c8b0 : decide (0 ≤ x6_1) = true := decide_eq_true c8
          clear c8
          replace H := Option.bind_eq_some_iff.mp H
          obtain ⟨t289, A90, H⟩ := H
          replace H : (if t289 = true then (if x5_1.length < 17592186044416 then (spec_ready.l0 k1 l0 l1 (x5_1 ++ [x6_1]) (wrap64 (x6_1 + 1))) else (none)) else (spec_ready.l0 k1 l0 l1 x5_1 (wrap64 (x6_1 + 1)))) = some r := H
          have A9 := Aside0.mk A90
          clear A90
          by_cases c10 : t289 = true
          · subst c10
            have H1 : (if x5_1.length < 17592186044416 then (spec_ready.l0 k1 l0 l1 (x5_1 ++ [x6_1]) (wrap64 (x6_1 + 1))) else (none)) = some r := by rw [if_pos rfl] at H; exact H
            clear H
            have H := H1
            clear H1
            by_cases c11 : x5_1.length < 17592186044416
            · rw [if_pos c11] at H
              have LMc11 := Aside0.mk c11
              clear c11
              obtain ⟨y290, hy290⟩ : ∃ y_ : List Int, y_ = (x5_1 ++ [x6_1]) := ⟨_, rfl⟩
              replace H : (spec_ready.l0 k1 l0 l1 y290 (wrap64 (x6_1 + 1))) = some r := by first | (rw [hy290]; with_reducible exact H) | (have H2_ := (Option.bind_some _ _).symm.trans H; rw [hy290]; with_reducible exact H2_) | (have H2_ := (Option.bind_some _ _).symm.trans H; with_reducible exact H2_) | with_reducible exact H | (rw [hy290]; exact H) | exact H
              have Ny290 := Aside0.mk hy290
              clear hy290
              have H' := Aside0.mk H
              clear H
              go_wp2_with (first | ((with_reducible refine gate_callee (f := 99) rfl ?_); refine goesL_ (some 16) rfl rfl Tryd.func99 (by kernel_rfl) rfl #[.slice A1 l1.length c1, .int .i64 x6_1] rfl (by (try simp only [List.map_toArray, List.map_cons, List.map_nil]); first | done | rfl | (simp only [List.length_drop, List.length_take]; rfl)) ?_; (with_reducible refine (spec_isIn.calls k1 _ _ l1 x6_1 false _ ?side1 ?side2 A6.out).mono ?_); (case side1 => exact zt (Kd.C_below HR1.out HB.out)); (case side2 => exact HC1.out); rintro e w' ⟨rfl, ⟨nd, rfl⟩⟩; refine ⟨_, rfl, ?_⟩; have p288 : 0 ≤ (x6_1 : Int) := of_decide_eq_true (za); have q288 : x6_1 < (l0.length : Int) := of_decide_eq_true (za); obtain ⟨ad288, A288_1, c288_1, e288, hx288_0, hx288_1, hx288_2, hx288_3, hl288_1, hi288_1⟩ := at_T33 HR0.out x6_1 p288 q288; cases e288; replace hx288_0 := (HB.out.cell (World.block_lt_of_cell? w _ hx288_0)).trans hx288_0; replace hx288_1 := (HB.out.cell (World.block_lt_of_cell? w _ hx288_1)).trans hx288_1; replace hx288_2 := (HB.out.cell (World.block_lt_of_cell? w _ hx288_2)).trans hx288_2; replace hx288_3 := (HB.out.cell (World.block_lt_of_cell? w _ hx288_3)).trans hx288_3; have HR288_1 := Aside0.mk hi288_1; have HC288_1 := Aside0.mk hl288_1; clear hi288_1 hl288_1; replace p288 := eq_true p288; replace q288 := eq_true q288) | (go_at_call 100; (with_reducible refine (spec_allDone.calls k1 _ _ ((rd_T33 l0 x6_1).f1) _ _ l1 true _ ?side1 ?side2 ?side3 ?side4 A9.out).mono ?_); (case side1 => exact zt (Kd.C_below HR288_1.out (zb HB.out))); (case side2 => exact HC288_1.out); (case side3 => exact zt (Kd.C_below HR1.out (zb HB.out))); (case side4 => exact HC1.out); rintro e w' ⟨rfl, ⟨nd, rfl⟩⟩) | ((with_reducible refine gate_builtin (b := .append) (xs := #[.tmp 27, .tmp 29]) rfl ?_); at_builtin; refine Kd.R_append (Kd.int .i64) (w0 := w) w.heap.size rfl (.tmp 27) (.tmp 29) 24 3 (.int .i64 0) 8 rfl Tryd.underlying24 info3 rfl (by decide) (by omega) u5 x5_1 x6_1 [.int .i64 x6_1] (fun _ => True) (fun _ => False) rfl rfl ?aP (fun _ hk => hk.elim) ?aF ?aO ?aB ?aS ?aL ?_; (case aP => exact rfl); (case aB => exact (zb HB.out)); (case aF => exact (fun _ _ => trivial)); (case aO => exact (zr HO_5.out)); (case aS => exact (below_size (zb HB.out))); (case aL => have := LMc11.out; omega); intro v291 w12 ho hb hg hat; rw [← Ny290.out] at ho; have n0_ := Aside0.mk (hb); have n1_ := Aside0.mk (ho); clear HB HO_5; have HB := n0_; have HO292 := n1_; clear n0_ n1_; clear ho hb hg hat))
              go_roundg k1
              case measure => have := HK1.out; omega
              case rel => exact ⟨(y290), (wrap64 (x6_1 + 1)), (zf), H', ⟨by have := HK1.out; omega⟩, ⟨by (with_reducible repeat (first | apply Kd.R_alloc | apply Kd.R_drewN | apply Kd.R_drew)); exact HO292.out⟩, ⟨zb HB.out⟩⟩
            rw [if_neg c11] at H
            exact absurd H (by simp)
          replace c10 := Bool.eq_false_iff.mpr c10
          subst c10
          have H1 : (spec_ready.l0 k1 l0 l1 x5_1 (wrap64 (x6_1 + 1))) = some r := by rw [if_neg (show ¬ (false = true) by decide)] at H; exact H
          clear H
          have H := H1
          clear H1
          have H' := Aside0.mk H
          clear H
          go_wp2_with (first | ((with_reducible refine gate_callee (f := 99) rfl ?_); refine goesL_ (some 16) rfl rfl Tryd.func99 (by kernel_rfl) rfl #[.slice A1 l1.length c1, .int .i64 x6_1] rfl (by (try simp only [List.map_toArray, List.map_cons, List.map_nil]); first | done | rfl | (simp only [List.length_drop, List.length_take]; rfl)) ?_; (with_reducible refine (spec_isIn.calls k1 _ _ l1 x6_1 false _ ?side1 ?side2 A6.out).mono ?_); (case side1 => exact zt (Kd.C_below HR1.out HB.out)); (case side2 => exact HC1.out); rintro e w' ⟨rfl, ⟨nd, rfl⟩⟩; refine ⟨_, rfl, ?_⟩; have p288 : 0 ≤ (x6_1 : Int) := of_decide_eq_true (za); have q288 : x6_1 < (l0.length : Int) := of_decide_eq_true (za); obtain ⟨ad288, A288_1, c288_1, e288, hx288_0, hx288_1, hx288_2, hx288_3, hl288_1, hi288_1⟩ := at_T33 HR0.out x6_1 p288 q288; cases e288; replace hx288_0 := (HB.out.cell (World.block_lt_of_cell? w _ hx288_0)).trans hx288_0; replace hx288_1 := (HB.out.cell (World.block_lt_of_cell? w _ hx288_1)).trans hx288_1; replace hx288_2 := (HB.out.cell (World.block_lt_of_cell? w _ hx288_2)).trans hx288_2; replace hx288_3 := (HB.out.cell (World.block_lt_of_cell? w _ hx288_3)).trans hx288_3; have HR288_1 := Aside0.mk hi288_1; have HC288_1 := Aside0.mk hl288_1; clear hi288_1 hl288_1; replace p288 := eq_true p288; replace q288 := eq_true q288) | (go_at_call 100; (with_reducible refine (spec_allDone.calls k1 _ _ ((rd_T33 l0 x6_1).f1) _ _ l1 false _ ?side1 ?side2 ?side3 ?side4 A9.out).mono ?_); (case side1 => exact zt (Kd.C_below HR288_1.out (zb HB.out))); (case side2 => exact HC288_1.out); (case side3 => exact zt (Kd.C_below HR1.out (zb HB.out))); (case side4 => exact HC1.out); rintro e w' ⟨rfl, ⟨nd, rfl⟩⟩))
          go_roundg k1
          case measure => have := HK1.out; omega
          case rel => exact ⟨(x5_1), (wrap64 (x6_1 + 1)), (zf), H', ⟨by have := HK1.out; omega⟩, ⟨by (with_reducible repeat (first | apply Kd.R_alloc | apply Kd.R_drewN | apply Kd.R_drew)); exact HO_5.out⟩, ⟨zb HB.out⟩⟩
        rw [if_neg c8] at H
        exact absurd H (by simp)
      rw [if_neg c5] at H
      have c5b0 : decide (x6_1 < (l0.length : Int)) = false := decide_eq_false c5
      clear c5
      obtain rfl := Option.some.inj H
      go_wp2
      go_ret
      exact ⟨_, ze, zr HO_5.out, zb HB.out⟩

attribute [local go_sem] max2_int min2_int max_two min_two
set_option linter.unusedVariables false
set_option linter.unusedSimpArgs false

mutual
def spec_admit.l0 : Nat → List (S33) → List Int → List Int → Int → List Int → List Int → Int → Option (List Int)
  | 0, _, _, _, _, _, _, _ => none
  | k + 1, x0, x1, x3, x4, x11, x12, x13 => if x13 < (x3.length : Int) then (spec_admit.j1 k x0 x1 x3 x4 x11 x12 x13 (decide ((x12.length : Int) < x4))) else (spec_admit.j1 k x0 x1 x3 x4 x11 x12 x13 false)
def spec_admit.j1 : Nat → List (S33) → List Int → List Int → Int → List Int → List Int → Int → Bool → Option (List Int)
  | 0, _, _, _, _, _, _, _, _ => none
  | k + 1, x0, x1, x3, x4, x11, x12, x13, x27 => if x27 = true then (if 0 ≤ x13 then (if x13 < (x3.length : Int) then (if 0 ≤ (rd x3 x13) then (if (rd x3 x13) < (x0.length : Int) then ((spec_used.f k x0 x12 ((rd_T33 x0 (rd x3 x13)).f2)).bind fun t302 => (if 0 ≤ ((rd_T33 x0 (rd x3 x13)).f2) then (if ((rd_T33 x0 (rd x3 x13)).f2) < (x1.length : Int) then (if (wrap64 (t302 + ((rd_T33 x0 (rd x3 x13)).f3))) ≤ (rd x1 ((rd_T33 x0 (rd x3 x13)).f2)) then (if x11.length < 17592186044416 then (if x12.length < 17592186044416 then (spec_admit.l0 k x0 x1 x3 x4 (x11 ++ [rd x3 x13]) (x12 ++ [rd x3 x13]) (wrap64 (x13 + 1))) else (none)) else (none)) else (spec_admit.l0 k x0 x1 x3 x4 x11 x12 (wrap64 (x13 + 1)))) else (none)) else (none))) else (none)) else (none)) else (none)) else (none)) else (some x11)
end
def spec_admit.f (k : Nat) (l0 : List (S33)) (l1 : List Int) (l2 : List Int) (l3 : List Int) (a4 : Int) : Option (List Int) := (spec_copyInts.f l2).bind fun t296 => (spec_admit.l0 k l0 l1 l3 a4 (([] : List Int)) t296 0)
set_option maxHeartbeats 8000000 in
set_option maxRecDepth 100000 in
theorem spec_admit.calls (k : Nat) (A0 : Option Addr) (c0 : Nat) (l0 : List (S33)) (A1 : Option Addr) (c1 : Nat) (l1 : List Int) (A2 : Option Addr) (c2 : Nat) (l2 : List Int) (A3 : Option Addr) (c3 : Nat) (l3 : List Int) (a4 : Int) (r : List Int) (w : World) (hr0 : Kd.C k33 w A0 l0.length l0) (hc0 : l0.length ≤ c0) (hr1 : Kd.C (Kd.int .i64) w A1 l1.length l1) (hc1 : l1.length ≤ c1) (hr2 : Kd.C (Kd.int .i64) w A2 l2.length l2) (hc2 : l2.length ≤ c2) (hr3 : Kd.C (Kd.int .i64) w A3 l3.length l3) (hc3 : l3.length ≤ c3) (h : spec_admit.f k l0 l1 l2 l3 a4 = some r) :
    Calls Tryd.prog 96 #[.slice A0 l0.length c0, .slice A1 l1.length c1, .slice A2 l2.length c2, .slice A3 l3.length c3, .int .i64 a4] w fun e w' => ∃ v0_ : Value, e = .returned (v0_) ∧ Kd.R (Kd.int .i64) 3 w' w.heap.size (fun _ => True) v0_ r ∧ Below w.heap.size w w' := by
  have hu33 := Tryd.underlying33
  have HR0 := Aside0.mk hr0
  have HC0 := Aside0.mk hc0
  clear hr0 hc0
  have HR1 := Aside0.mk hr1
  have HC1 := Aside0.mk hc1
  clear hr1 hc1
  have HR2 := Aside0.mk hr2
  have HC2 := Aside0.mk hc2
  clear hr2 hc2
  have HR3 := Aside0.mk hr3
  have HC3 := Aside0.mk hc3
  clear hr3 hc3
  have HB := Aside0.mk (Below.refl w.heap.size w)
  have H : ((spec_copyInts.f l2).bind fun t296 => (spec_admit.l0 k l0 l1 l3 a4 (([] : List Int)) t296 0)) = some r := h
  clear h
  obtain ⟨y293, hy293⟩ : ∃ y_ : List Int, y_ = (([] : List Int)) := ⟨_, rfl⟩
  replace H : ((spec_copyInts.f l2).bind fun t296 => (spec_admit.l0 k l0 l1 l3 a4 y293 t296 0)) = some r := by first | (rw [hy293]; with_reducible exact H) | (have H2_ := (Option.bind_some _ _).symm.trans H; rw [hy293]; with_reducible exact H2_) | (have H2_ := (Option.bind_some _ _).symm.trans H; with_reducible exact H2_) | with_reducible exact H | (rw [hy293]; exact H) | exact H
  have Ny293 := Aside0.mk hy293
  clear hy293
  replace H := Option.bind_eq_some_iff.mp H
  obtain ⟨t296, A60, H⟩ := H
  replace H : (spec_admit.l0 k l0 l1 l3 a4 y293 t296 0) = some r := H
  have A6 := Aside0.mk A60
  clear A60
  have H' := Aside0.mk H
  clear H
  go_enter Tryd.func96, Tryd.ntmps96
  go_wp2_with (first | ((with_reducible refine gate_dst (N := 15) rfl ?_); (try (refine gate_guard (by rfl) ?_; dsimp only)); refine Kd.R_lit (Kd.int .i64) _ 3 ?hg (N := 15) ?hd (xs := ([] : List Int)) (inner := []) (ok := fun _ => True) (okp := fun _ => True) ?hr ?hp (fun _ hk => hk) trivial (Below.refl _ _) (Nat.le_refl _) (by simp) ?_; (case hd => rfl); (case hg => rfl); (case hr => first | (go_simp; done) | (go_simp; rfl)); (case hp => exact (Reps.none _ _)); intro v294 w7 ho8 hb hg_ hnew_; clear hg_ hnew_; (first | rw [← Ny293.out] at ho8 | (simp only [Int.reduceToNat] at ho8; rw [← Ny293.out] at ho8)); have n0_ := Aside0.mk (Kd.R_lower ho8 (below_size (zb HB.out))); have n1_ := Aside0.mk (below_step (zb HB.out) hb); clear HB; have HO295 := n0_; have HB := n1_; clear n0_ n1_; clear hb ho8) | (go_at_call 81; (with_reducible refine (spec_copyInts.calls _ _ l2 t296 _ ?side1 ?side2 A6.out).mono ?_); (case side1 => exact zt (Kd.C_below HR2.out HB.out)); (case side2 => exact HC2.out); rintro e w9 ⟨v297, rfl, ho0, hb⟩; have n0_ := Aside0.mk (Kd.R_elder' (zr HO295.out) (Kd.R_base ho0) hb); have n1_ := Aside0.mk (Kd.R_lower (Kd.R_new' ho0 (Kd.R_lt (zr HO295.out))) (below_size (zb HB.out))); have n2_ := Aside0.mk (below_step (zb HB.out) hb); clear HO295 HB; have HO295 := n0_; have HO298 := n1_; have HB := n2_; clear n0_ n1_ n2_; (try clear hb); (try clear ho0)))
  repeat (go_quiet (first | ((with_reducible refine gate_dst (N := 15) rfl ?_); (try (refine gate_guard (by rfl) ?_; dsimp only)); refine Kd.R_lit (Kd.int .i64) _ 3 ?hg (N := 15) ?hd (xs := ([] : List Int)) (inner := []) (ok := fun _ => True) (okp := fun _ => True) ?hr ?hp (fun _ hk => hk) trivial (Below.refl _ _) (Nat.le_refl _) (by simp) ?_; (case hd => rfl); (case hg => rfl); (case hr => first | (go_simp; done) | (go_simp; rfl)); (case hp => exact (Reps.none _ _)); intro v294 w7 ho8 hb hg_ hnew_; clear hg_ hnew_; (first | rw [← Ny293.out] at ho8 | (simp only [Int.reduceToNat] at ho8; rw [← Ny293.out] at ho8)); have n0_ := Aside0.mk (Kd.R_lower ho8 (below_size (zb HB.out))); have n1_ := Aside0.mk (below_step (zb HB.out) hb); clear HB; have HO295 := n0_; have HB := n1_; clear n0_ n1_; clear hb ho8) | (go_at_call 81; (with_reducible refine (spec_copyInts.calls _ _ l2 t296 _ ?side1 ?side2 A6.out).mono ?_); (case side1 => exact zt (Kd.C_below HR2.out HB.out)); (case side2 => exact HC2.out); rintro e w9 ⟨v297, rfl, ho0, hb⟩; have n0_ := Aside0.mk (Kd.R_elder' (zr HO295.out) (Kd.R_base ho0) hb); have n1_ := Aside0.mk (Kd.R_lower (Kd.R_new' ho0 (Kd.R_lt (zr HO295.out))) (below_size (zb HB.out))); have n2_ := Aside0.mk (below_step (zb HB.out) hb); clear HO295 HB; have HO295 := n0_; have HO298 := n1_; have HB := n2_; clear n0_ n1_ n2_; (try clear hb); (try clear ho0))); try go_wp2_with (first | ((with_reducible refine gate_dst (N := 15) rfl ?_); (try (refine gate_guard (by rfl) ?_; dsimp only)); refine Kd.R_lit (Kd.int .i64) _ 3 ?hg (N := 15) ?hd (xs := ([] : List Int)) (inner := []) (ok := fun _ => True) (okp := fun _ => True) ?hr ?hp (fun _ hk => hk) trivial (Below.refl _ _) (Nat.le_refl _) (by simp) ?_; (case hd => rfl); (case hg => rfl); (case hr => first | (go_simp; done) | (go_simp; rfl)); (case hp => exact (Reps.none _ _)); intro v294 w7 ho8 hb hg_ hnew_; clear hg_ hnew_; (first | rw [← Ny293.out] at ho8 | (simp only [Int.reduceToNat] at ho8; rw [← Ny293.out] at ho8)); have n0_ := Aside0.mk (Kd.R_lower ho8 (below_size (zb HB.out))); have n1_ := Aside0.mk (below_step (zb HB.out) hb); clear HB; have HO295 := n0_; have HB := n1_; clear n0_ n1_; clear hb ho8) | (go_at_call 81; (with_reducible refine (spec_copyInts.calls _ _ l2 t296 _ ?side1 ?side2 A6.out).mono ?_); (case side1 => exact zt (Kd.C_below HR2.out HB.out)); (case side2 => exact HC2.out); rintro e w9 ⟨v297, rfl, ho0, hb⟩; have n0_ := Aside0.mk (Kd.R_elder' (zr HO295.out) (Kd.R_base ho0) hb); have n1_ := Aside0.mk (Kd.R_lower (Kd.R_new' ho0 (Kd.R_lt (zr HO295.out))) (below_size (zb HB.out))); have n2_ := Aside0.mk (below_step (zb HB.out) hb); clear HO295 HB; have HO295 := n0_; have HO298 := n1_; have HB := n2_; clear n0_ n1_ n2_; (try clear hb); (try clear ho0))))
  go_loopg [11, 12, 13] k (fun kq v11 v12 v13 w' => ∃ (x11_1 : List Int) (x12_1 : List Int) (x13_1 : Int), v13 = .int .i64 x13_1 ∧ Aside0 (spec_admit.l0 kq l0 l1 l3 a4 x11_1 x12_1 x13_1 = some r) ∧ Aside0 (kq ≤ k) ∧ Aside0 (Kd.R (Kd.int .i64) 3 w' w.heap.size (fun k_ => some k_ ≠ (v12 : Value).ownBlock) v11 x11_1) ∧ Aside0 (Kd.R (Kd.int .i64) 3 w' w.heap.size (fun k_ => some k_ ≠ (v11 : Value).ownBlock) v12 x12_1) ∧ Aside0 (Below w.heap.size w w'))
  case atStart => exact ⟨(y293), (t296), (0), (zf), H', ⟨Nat.le_refl _⟩, ⟨by (with_reducible repeat (first | apply Kd.R_alloc | apply Kd.R_drewN | apply Kd.R_drew)); exact Kd.R_mono HO295.out (fun _ hk => hk.2)⟩, ⟨by (with_reducible repeat (first | apply Kd.R_alloc | apply Kd.R_drewN | apply Kd.R_drew)); exact Kd.R_mono HO298.out (fun _ hk => hk.2)⟩, ⟨zb HB.out⟩⟩
  case round =>
    clear H'
    try clear c1
    try clear c2
    try clear p2
    try clear c3
    try clear c9
    obtain ⟨x11_1, x12_1, x13_1, rfl, HA, HK1, HO_11, HO_12, HB⟩ := hrel
    cases gk with
    | zero => exact absurd HA.out (by simp [spec_admit.l0])
    | succ k1 =>
      have H := HA.out
      clear HA
      simp only [spec_admit.l0] at H
      have HC10 := Aside0.mk H
      clear H
      go_upto_region 4 with (fail)
      repeat (go_quiet (fail); go_upto_region 4 with (fail))
      go_cut [27] (fun v27 wc => ∃ (kq : Nat) (x27_9 : Bool), v27 = .bool x27_9 ∧ Aside0 (spec_admit.j1 kq l0 l1 l3 a4 x11_1 x12_1 x13_1 x27_9 = some r) ∧ Aside0 (kq ≤ k1) ∧ Aside0 (Kd.R (Kd.int .i64) 3 wc w.heap.size (fun k_ => some k_ ≠ (u12 : Value).ownBlock) u11 x11_1) ∧ Aside0 (Kd.R (Kd.int .i64) 3 wc w.heap.size (fun k_ => some k_ ≠ (u11 : Value).ownBlock) u12 x12_1) ∧ Aside0 (Below w.heap.size w wc))
      case first =>
        have H := HC10.out
        clear HC10
        by_cases c11 : x13_1 < (l3.length : Int)
        · rw [if_pos c11] at H
          have c11b0 : decide (x13_1 < (l3.length : Int)) = true := decide_eq_true c11
          clear c11
          (first | rw [c11b0] | (simp only [i64_w, i32_w]; rw [c11b0]) | skip)
          have H' := Aside0.mk H
          clear H
          obtain ⟨Ao12, co12, eo12⟩ := Kd.R_slice HO_12.out
          subst eo12
          go_wp2
          repeat (go_quiet (fail); try go_wp2)
          go_meet
          case rel => exact ⟨_, (decide ((x12_1.length : Int) < a4)), (zf), H', ⟨by have := HK1.out; first | omega | exact Nat.le_refl _⟩, ⟨by (with_reducible repeat (first | apply Kd.R_alloc | apply Kd.R_drewN | apply Kd.R_drew)); exact HO_11.out⟩, ⟨by (with_reducible repeat (first | apply Kd.R_alloc | apply Kd.R_drewN | apply Kd.R_drew)); exact HO_12.out⟩, ⟨zb HB.out⟩⟩
        rw [if_neg c11] at H
        have c11b0 : decide (x13_1 < (l3.length : Int)) = false := decide_eq_false c11
        clear c11
        (first | rw [c11b0] | (simp only [i64_w, i32_w]; rw [c11b0]) | skip)
        have H' := Aside0.mk H
        clear H
        go_wp2
        repeat (go_quiet (fail); try go_wp2)
        go_meet
        case rel => exact ⟨_, (false), (zf), H', ⟨by have := HK1.out; first | omega | exact Nat.le_refl _⟩, ⟨by (with_reducible repeat (first | apply Kd.R_alloc | apply Kd.R_drewN | apply Kd.R_drew)); exact HO_11.out⟩, ⟨by (with_reducible repeat (first | apply Kd.R_alloc | apply Kd.R_drewN | apply Kd.R_drew)); exact HO_12.out⟩, ⟨zb HB.out⟩⟩
      case rest =>
        clear HC10
        try clear c1
        try clear c2
        try clear p2
        try clear c3
        try clear c9
        try clear c11
        try clear c11b0
        try clear p2
        obtain ⟨kq, x27_9, rfl, HA, HJ9, HO_11, HO_12, HB⟩ := hcut
        cases kq with
        | zero => exact absurd HA.out (by simp [spec_admit.j1])
        | succ kj9 =>
          have H := HA.out
          clear HA
          simp only [spec_admit.j1] at H
          by_cases c13 : x27_9 = true
          · subst c13
            have H1 : (if 0 ≤ x13_1 then (if x13_1 < (l3.length : Int) then (if 0 ≤ (rd l3 x13_1) then (if (rd l3 x13_1) < (l0.length : Int) then ((spec_used.f kj9 l0 x12_1 ((rd_T33 l0 (rd l3 x13_1)).f2)).bind fun t302 => (if 0 ≤ ((rd_T33 l0 (rd l3 x13_1)).f2) then (if ((rd_T33 l0 (rd l3 x13_1)).f2) < (l1.length : Int) then (if (wrap64 (t302 + ((rd_T33 l0 (rd l3 x13_1)).f3))) ≤ (rd l1 ((rd_T33 l0 (rd l3 x13_1)).f2)) then (if x11_1.length < 17592186044416 then (if x12_1.length < 17592186044416 then (spec_admit.l0 kj9 l0 l1 l3 a4 (x11_1 ++ [rd l3 x13_1]) (x12_1 ++ [rd l3 x13_1]) (wrap64 (x13_1 + 1))) else (none)) else (none)) else (spec_admit.l0 kj9 l0 l1 l3 a4 x11_1 x12_1 (wrap64 (x13_1 + 1)))) else (none)) else (none))) else (none)) else (none)) else (none)) else (none)) = some r := by rw [if_pos rfl] at H; exact H
            clear H
            have H := H1
            clear H1
            by_cases c14 : 0 ≤ x13_1
            · rw [if_pos c14] at H
              have c14b0 : decide (0 ≤ x13_1) = true := decide_eq_true c14
              clear c14
              by_cases c15 : x13_1 < (l3.length : Int)
              · rw [if_pos c15] at H
                have c15b0 : decide (x13_1 < (l3.length : Int)) = true := decide_eq_true c15
                clear c15
                by_cases c16 : 0 ≤ (rd l3 x13_1)
                · rw [if_pos c16] at H
                  have c16b0 : decide (0 ≤ (rd l3 x13_1)) = true := decide_eq_true c16
                  clear c16
                  by_cases c17 : (rd l3 x13_1) < (l0.length : Int)
                  · rw [if_pos c17] at H
                    have c17b0 : decide ((rd l3 x13_1) < (l0.length : Int)) = true := decide_eq_true c17
                    clear c17
                    replace H := Option.bind_eq_some_iff.mp H
                    obtain ⟨t302, A180, H⟩ := H
                    replace H : (if 0 ≤ ((rd_T33 l0 (rd l3 x13_1)).f2) then (if ((rd_T33 l0 (rd l3 x13_1)).f2) < (l1.length : Int) then (if (wrap64 (t302 + ((rd_T33 l0 (rd l3 x13_1)).f3))) ≤ (rd l1 ((rd_T33 l0 (rd l3 x13_1)).f2)) then (if x11_1.length < 17592186044416 then (if x12_1.length < 17592186044416 then (spec_admit.l0 kj9 l0 l1 l3 a4 (x11_1 ++ [rd l3 x13_1]) (x12_1 ++ [rd l3 x13_1]) (wrap64 (x13_1 + 1))) else (none)) else (none)) else (spec_admit.l0 kj9 l0 l1 l3 a4 x11_1 x12_1 (wrap64 (x13_1 + 1)))) else (none)) else (none)) = some r := H
                    have A18 := Aside0.mk A180
                    clear A180
                    by_cases c19 : 0 ≤ ((rd_T33 l0 (rd l3 x13_1)).f2)
                    · rw [if_pos c19] at H
                      have c19b0 : decide (0 ≤ ((rd_T33 l0 (rd l3 x13_1)).f2)) = true := decide_eq_true c19
                      clear c19
                      by_cases c20 : ((rd_T33 l0 (rd l3 x13_1)).f2) < (l1.length : Int)
                      · rw [if_pos c20] at H
                        have c20b0 : decide (((rd_T33 l0 (rd l3 x13_1)).f2) < (l1.length : Int)) = true := decide_eq_true c20
                        clear c20
                        by_cases c21 : (wrap64 (t302 + ((rd_T33 l0 (rd l3 x13_1)).f3))) ≤ (rd l1 ((rd_T33 l0 (rd l3 x13_1)).f2))
                        · rw [if_pos c21] at H
                          have c21b0 : decide ((wrap64 (t302 + ((rd_T33 l0 (rd l3 x13_1)).f3))) ≤ (rd l1 ((rd_T33 l0 (rd l3 x13_1)).f2))) = true := decide_eq_true c21
                          have c21b0_ : decide ((IntKind.i64.wrap (t302 + ((rd_T33 l0 (rd l3 x13_1)).f3))) ≤ (rd l1 ((rd_T33 l0 (rd l3 x13_1)).f2))) = true := by first | exact c21b0 | (rw [i64_w]; exact c21b0) | simpa [i64_w] using c21b0
                          clear c21
                          by_cases c22 : x11_1.length < 17592186044416
                          · rw [if_pos c22] at H
                            have LMc22 := Aside0.mk c22
                            clear c22
                            obtain ⟨y305, hy305⟩ : ∃ y_ : List Int, y_ = (x11_1 ++ [rd l3 x13_1]) := ⟨_, rfl⟩
                            replace H : (if x12_1.length < 17592186044416 then (spec_admit.l0 kj9 l0 l1 l3 a4 y305 (x12_1 ++ [rd l3 x13_1]) (wrap64 (x13_1 + 1))) else (none)) = some r := by first | (rw [hy305]; with_reducible exact H) | (have H2_ := (Option.bind_some _ _).symm.trans H; rw [hy305]; with_reducible exact H2_) | (have H2_ := (Option.bind_some _ _).symm.trans H; with_reducible exact H2_) | with_reducible exact H | (rw [hy305]; exact H) | exact H
                            have Ny305 := Aside0.mk hy305
                            clear hy305
                            by_cases c23 : x12_1.length < 17592186044416
                            · rw [if_pos c23] at H
                              have LMc23 := Aside0.mk c23
                              clear c23
                              obtain ⟨y309, hy309⟩ : ∃ y_ : List Int, y_ = (x12_1 ++ [rd l3 x13_1]) := ⟨_, rfl⟩
                              replace H : (spec_admit.l0 kj9 l0 l1 l3 a4 y305 y309 (wrap64 (x13_1 + 1))) = some r := by first | (rw [hy309]; with_reducible exact H) | (have H2_ := (Option.bind_some _ _).symm.trans H; rw [hy309]; with_reducible exact H2_) | (have H2_ := (Option.bind_some _ _).symm.trans H; with_reducible exact H2_) | with_reducible exact H | (rw [hy309]; exact H) | exact H
                              have Ny309 := Aside0.mk hy309
                              clear hy309
                              have H' := Aside0.mk H
                              clear H
                              have p299 : 0 ≤ (x13_1 : Int) := of_decide_eq_true (za)
                              have q299 : x13_1 < (l3.length : Int) := of_decide_eq_true (za)
                              obtain ⟨ad299, e299, hx299_0⟩ := Kd.at_int HR3.out x13_1 p299 q299
                              cases e299
                              replace hx299_0 := (HB.out.cell (World.block_lt_of_cell? w _ hx299_0)).trans hx299_0
                              replace p299 := eq_true p299
                              replace q299 := eq_true q299
                              have p300 : 0 ≤ ((rd l3 x13_1) : Int) := of_decide_eq_true (za)
                              have q300 : (rd l3 x13_1) < (l0.length : Int) := of_decide_eq_true (za)
                              obtain ⟨ad300, A300_1, c300_1, e300, hx300_0, hx300_1, hx300_2, hx300_3, hl300_1, hi300_1⟩ := at_T33 HR0.out (rd l3 x13_1) p300 q300
                              cases e300
                              replace hx300_0 := (HB.out.cell (World.block_lt_of_cell? w _ hx300_0)).trans hx300_0
                              replace hx300_1 := (HB.out.cell (World.block_lt_of_cell? w _ hx300_1)).trans hx300_1
                              replace hx300_2 := (HB.out.cell (World.block_lt_of_cell? w _ hx300_2)).trans hx300_2
                              replace hx300_3 := (HB.out.cell (World.block_lt_of_cell? w _ hx300_3)).trans hx300_3
                              have HR300_1 := Aside0.mk hi300_1
                              have HC300_1 := Aside0.mk hl300_1
                              clear hi300_1 hl300_1
                              replace p300 := eq_true p300
                              replace q300 := eq_true q300
                              go_wp2_with (first | ((with_reducible refine gate_dst (N := 14) rfl ?_); (try (refine gate_guard (by rfl) ?_; dsimp only)); refine box_event ?hg (N := 14) ?hd (cs := #[.int .i64 0, .slice none 0 0, .int .i64 0, .int .i64 0]) (t := 33) ?hr ?_; (case hd => rfl); (case hg => rfl); (case hr => first | (go_simp; done) | (go_simp; rfl)); intro gb301 hg w24 hbox hb; have n0_ := Aside0.mk (Kd.R_below (zr HO_11.out) hb); have n1_ := Aside0.mk (Kd.R_below (zr HO_12.out) hb); have n2_ := Aside0.mk (below_step (zb HB.out) hb); have n3_ := Aside0.mk (hbox); have n4_ := Aside0.mk ((by rw [hg]; exact (below_size (zb HB.out)) : w.heap.size ≤ gb301)); have n5_ := Aside0.mk ((by rw [hg]; exact (below_size (zb HB.out)) : w.heap.size ≤ gb301)); clear HO_11 HO_12 HB; have HO_11 := n0_; have HO_12 := n1_; have HB := n2_; have BK301 := n3_; have GW301 := n4_; have GE301 := n5_; clear n0_ n1_ n2_ n3_ n4_ n5_; clear hb hbox hg; have hcz25_0 : w24.cell? ⟨gb301, 0, none⟩ = some (.int .i64 0) := (blk_cell BK301.out 0).trans rfl; have hcz25_1 : w24.cell? ⟨gb301, 1, none⟩ = some (.slice none 0 0) := (blk_cell BK301.out 1).trans rfl; have hcz25_2 : w24.cell? ⟨gb301, 2, none⟩ = some (.int .i64 0) := (blk_cell BK301.out 2).trans rfl; have hcz25_3 : w24.cell? ⟨gb301, 3, none⟩ = some (.int .i64 0) := (blk_cell BK301.out 3).trans rfl; have hfz25_0 := blk_frozen BK301.out 0; have hfz25_1 := blk_frozen BK301.out 1; have hfz25_2 := blk_frozen BK301.out 2; have hfz25_3 := blk_frozen BK301.out 3; obtain ⟨Ao26, co26, eo26⟩ := Kd.R_slice HO_12.out; subst eo26) | (go_at_call 87; (with_reducible refine (spec_used.calls kj9 _ _ l0 _ _ x12_1 ((rd_T33 l0 (rd l3 x13_1)).f2) t302 _ ?side1 ?side2 ?side3 ?side4 A18.out).mono ?_); (case side1 => exact Kd.C_below HR0.out (zg HB.out GE301.out)); (case side2 => exact HC0.out); (case side3 => refine (Kd.R_reads' (e := 3) (base := w.heap.size) (ok := fun k_ => some k_ ≠ (u11 : Value).ownBlock) (n := x12_1.length) (c := co26) ?_).2.2; exact (by (with_reducible repeat (first | apply Kd.R_alloc | apply Kd.R_drewN | apply Kd.R_drew)); exact (Kd.R_mono (Kd.R_far (p := ⟨gb301, 3, none⟩) (Kd.R_far (p := ⟨gb301, 2, none⟩) (Kd.R_far (p := ⟨gb301, 1, none⟩) (Kd.R_far (p := ⟨gb301, 0, none⟩) (Kd.R_types HO_12.out BK301.out (by decide)) (fun _ hk => hk.2) (.int .i64 ((rd_T33 l0 (rd l3 x13_1)).f0))) (fun _ hk => hk.2) (.slice A300_1 ((rd_T33 l0 (rd l3 x13_1)).f1).length c300_1)) (fun _ hk => hk.2) (.int .i64 ((rd_T33 l0 (rd l3 x13_1)).f2))) (fun _ hk => hk.2) (.int .i64 ((rd_T33 l0 (rd l3 x13_1)).f3))) (fun _ h_ => h_.1)))); (case side4 => exact (Kd.R_reads' HO_12.out).2.1); rintro e w' ⟨rfl, ⟨nd, rfl⟩⟩; (try first | exact ⟨rfl, _, World.drewN_drewN _ _ _⟩ | exact ⟨rfl, _, Eq.trans (World.drewN_drewN _ _ _) (congrArg (World.drewN _) (Nat.add_assoc _ _ _))⟩); have p303 : 0 ≤ (((rd_T33 l0 (rd l3 x13_1)).f2) : Int) := of_decide_eq_true (za); have q303 : ((rd_T33 l0 (rd l3 x13_1)).f2) < (l1.length : Int) := of_decide_eq_true (za); obtain ⟨ad303, e303, hx303_0⟩ := Kd.at_int HR1.out ((rd_T33 l0 (rd l3 x13_1)).f2) p303 q303; cases e303; have hn303_0 : ad303.block ≠ gb301 := Nat.ne_of_lt (Nat.lt_of_lt_of_le (by have := World.block_lt_of_cell? _ _ hx303_0; first | rwa [add_block] at this | exact this) GW301.out); have hn303_1 : ad303.block ≠ gb301 := Nat.ne_of_lt (Nat.lt_of_lt_of_le (by have := World.block_lt_of_cell? _ _ hx303_0; first | rwa [add_block] at this | exact this) GW301.out); have hn303_2 : ad303.block ≠ gb301 := Nat.ne_of_lt (Nat.lt_of_lt_of_le (by have := World.block_lt_of_cell? _ _ hx303_0; first | rwa [add_block] at this | exact this) GW301.out); have hn303_3 : ad303.block ≠ gb301 := Nat.ne_of_lt (Nat.lt_of_lt_of_le (by have := World.block_lt_of_cell? _ _ hx303_0; first | rwa [add_block] at this | exact this) GW301.out); replace hx303_0 := (HB.out.cell (World.block_lt_of_cell? w _ hx303_0)).trans hx303_0; replace hx303_0 := (cell_far (p := ⟨gb301, 0, none⟩) (by first | (rw [add_block]; exact hn303_0) | (show (Addr.add _ _).block ≠ _; rw [add_block]; exact hn303_0) | exact hn303_0) (.int .i64 ((rd_T33 l0 (rd l3 x13_1)).f0))).trans hx303_0; replace hx303_0 := (cell_far (p := ⟨gb301, 1, none⟩) (by first | (rw [add_block]; exact hn303_1) | (show (Addr.add _ _).block ≠ _; rw [add_block]; exact hn303_1) | exact hn303_1) (.slice A300_1 ((rd_T33 l0 (rd l3 x13_1)).f1).length c300_1)).trans hx303_0; replace hx303_0 := (cell_far (p := ⟨gb301, 2, none⟩) (by first | (rw [add_block]; exact hn303_2) | (show (Addr.add _ _).block ≠ _; rw [add_block]; exact hn303_2) | exact hn303_2) (.int .i64 ((rd_T33 l0 (rd l3 x13_1)).f2))).trans hx303_0; replace hx303_0 := (cell_far (p := ⟨gb301, 3, none⟩) (by first | (rw [add_block]; exact hn303_3) | (show (Addr.add _ _).block ≠ _; rw [add_block]; exact hn303_3) | exact hn303_3) (.int .i64 ((rd_T33 l0 (rd l3 x13_1)).f3))).trans hx303_0; (try have hy303_0 := fun (n_ : Nat) => (show ((((((w24.drewN n_).setCell ⟨gb301, 0, none⟩ (.int .i64 ((rd_T33 l0 (rd l3 x13_1)).f0))).setCell ⟨gb301, 1, none⟩ (.slice A300_1 ((rd_T33 l0 (rd l3 x13_1)).f1).length c300_1)).setCell ⟨gb301, 2, none⟩ (.int .i64 ((rd_T33 l0 (rd l3 x13_1)).f2))).setCell ⟨gb301, 3, none⟩ (.int .i64 ((rd_T33 l0 (rd l3 x13_1)).f3)))).cell? _ = some _ from hx303_0)); clear hn303_0 hn303_1 hn303_2 hn303_3; replace p303 := eq_true p303; replace q303 := eq_true q303; have p304 : 0 ≤ (x13_1 : Int) := of_decide_eq_true (za); have q304 : x13_1 < (l3.length : Int) := of_decide_eq_true (za); obtain ⟨ad304, e304, hx304_0⟩ := Kd.at_int HR3.out x13_1 p304 q304; obtain rfl : ad299 = ad304 := (by injection e304); have hn304_0 : ad299.block ≠ gb301 := Nat.ne_of_lt (Nat.lt_of_lt_of_le (by have := World.block_lt_of_cell? _ _ hx304_0; first | rwa [add_block] at this | exact this) GW301.out); have hn304_1 : ad299.block ≠ gb301 := Nat.ne_of_lt (Nat.lt_of_lt_of_le (by have := World.block_lt_of_cell? _ _ hx304_0; first | rwa [add_block] at this | exact this) GW301.out); have hn304_2 : ad299.block ≠ gb301 := Nat.ne_of_lt (Nat.lt_of_lt_of_le (by have := World.block_lt_of_cell? _ _ hx304_0; first | rwa [add_block] at this | exact this) GW301.out); have hn304_3 : ad299.block ≠ gb301 := Nat.ne_of_lt (Nat.lt_of_lt_of_le (by have := World.block_lt_of_cell? _ _ hx304_0; first | rwa [add_block] at this | exact this) GW301.out); replace hx304_0 := (HB.out.cell (World.block_lt_of_cell? w _ hx304_0)).trans hx304_0; replace hx304_0 := (cell_far (p := ⟨gb301, 0, none⟩) (by first | (rw [add_block]; exact hn304_0) | (show (Addr.add _ _).block ≠ _; rw [add_block]; exact hn304_0) | exact hn304_0) (.int .i64 ((rd_T33 l0 (rd l3 x13_1)).f0))).trans hx304_0; replace hx304_0 := (cell_far (p := ⟨gb301, 1, none⟩) (by first | (rw [add_block]; exact hn304_1) | (show (Addr.add _ _).block ≠ _; rw [add_block]; exact hn304_1) | exact hn304_1) (.slice A300_1 ((rd_T33 l0 (rd l3 x13_1)).f1).length c300_1)).trans hx304_0; replace hx304_0 := (cell_far (p := ⟨gb301, 2, none⟩) (by first | (rw [add_block]; exact hn304_2) | (show (Addr.add _ _).block ≠ _; rw [add_block]; exact hn304_2) | exact hn304_2) (.int .i64 ((rd_T33 l0 (rd l3 x13_1)).f2))).trans hx304_0; replace hx304_0 := (cell_far (p := ⟨gb301, 3, none⟩) (by first | (rw [add_block]; exact hn304_3) | (show (Addr.add _ _).block ≠ _; rw [add_block]; exact hn304_3) | exact hn304_3) (.int .i64 ((rd_T33 l0 (rd l3 x13_1)).f3))).trans hx304_0; (try have hy304_0 := fun (n_ : Nat) => (show ((((((w24.drewN n_).setCell ⟨gb301, 0, none⟩ (.int .i64 ((rd_T33 l0 (rd l3 x13_1)).f0))).setCell ⟨gb301, 1, none⟩ (.slice A300_1 ((rd_T33 l0 (rd l3 x13_1)).f1).length c300_1)).setCell ⟨gb301, 2, none⟩ (.int .i64 ((rd_T33 l0 (rd l3 x13_1)).f2))).setCell ⟨gb301, 3, none⟩ (.int .i64 ((rd_T33 l0 (rd l3 x13_1)).f3)))).cell? _ = some _ from hx304_0)); clear hn304_0 hn304_1 hn304_2 hn304_3; replace p304 := eq_true p304; replace q304 := eq_true q304) | ((with_reducible refine gate_builtin (b := .append) (xs := #[.tmp 51, .tmp 56]) rfl ?_); (try (refine gate_guard (by rfl) ?_; dsimp only)); at_builtin; refine Kd.R_append (Kd.int .i64) (w0 := w) w.heap.size rfl (.tmp 51) (.tmp 56) 24 3 (.int .i64 0) 8 rfl Tryd.underlying24 info3 rfl (by decide) (by omega) u11 x11_1 (rd l3 x13_1) [.int .i64 (rd l3 x13_1)] (fun k_ => some k_ ≠ (.slice Ao26 x12_1.length co26 : Value).ownBlock) (fun _ => False) rfl (by first | (go_simp; done) | (go_simp; rfl)) ?aP (fun _ hk => hk.elim) ?aF ?aO ?aB ?aS ?aL ?_; (case aP => exact rfl); (case aB => exact (zg HB.out GE301.out)); (case aF => exact (fun k_ hk => Kd.fresh' (Kd.R_lt (by (with_reducible repeat (first | apply Kd.R_alloc | apply Kd.R_drewN | apply Kd.R_drew)); exact (Kd.R_mono (Kd.R_far (p := ⟨gb301, 3, none⟩) (Kd.R_far (p := ⟨gb301, 2, none⟩) (Kd.R_far (p := ⟨gb301, 1, none⟩) (Kd.R_far (p := ⟨gb301, 0, none⟩) (Kd.R_types HO_12.out BK301.out (by decide)) (fun _ hk => hk.2) (.int .i64 ((rd_T33 l0 (rd l3 x13_1)).f0))) (fun _ hk => hk.2) (.slice A300_1 ((rd_T33 l0 (rd l3 x13_1)).f1).length c300_1)) (fun _ hk => hk.2) (.int .i64 ((rd_T33 l0 (rd l3 x13_1)).f2))) (fun _ hk => hk.2) (.int .i64 ((rd_T33 l0 (rd l3 x13_1)).f3))) (fun _ h_ => h_.1)))) k_ hk)); (case aO => exact (by (with_reducible repeat (first | apply Kd.R_alloc | apply Kd.R_drewN | apply Kd.R_drew)); exact Kd.R_mono (Kd.R_far (p := ⟨gb301, 3, none⟩) (Kd.R_far (p := ⟨gb301, 2, none⟩) (Kd.R_far (p := ⟨gb301, 1, none⟩) (Kd.R_far (p := ⟨gb301, 0, none⟩) (Kd.R_types HO_11.out BK301.out (by decide)) (fun _ hk => hk.2) (.int .i64 ((rd_T33 l0 (rd l3 x13_1)).f0))) (fun _ hk => hk.2) (.slice A300_1 ((rd_T33 l0 (rd l3 x13_1)).f1).length c300_1)) (fun _ hk => hk.2) (.int .i64 ((rd_T33 l0 (rd l3 x13_1)).f2))) (fun _ hk => hk.2) (.int .i64 ((rd_T33 l0 (rd l3 x13_1)).f3))) (fun _ hk => hk.1))); (case aS => exact (below_size (zg HB.out GE301.out))); (case aL => have := LMc22.out; omega); intro v306 w27 ho hb hg hat; rw [← Ny305.out] at ho; have n0_ := Aside0.mk (Kd.R_after (ok := (fun _ => True)) (by (with_reducible repeat (first | apply Kd.R_alloc | apply Kd.R_drewN | apply Kd.R_drew)); exact Kd.R_mono (Kd.R_far (p := ⟨gb301, 3, none⟩) (Kd.R_far (p := ⟨gb301, 2, none⟩) (Kd.R_far (p := ⟨gb301, 1, none⟩) (Kd.R_far (p := ⟨gb301, 0, none⟩) (Kd.R_types HO_12.out BK301.out (by decide)) (fun _ hk => hk.2) (.int .i64 ((rd_T33 l0 (rd l3 x13_1)).f0))) (fun _ hk => hk.2) (.slice A300_1 ((rd_T33 l0 (rd l3 x13_1)).f1).length c300_1)) (fun _ hk => hk.2) (.int .i64 ((rd_T33 l0 (rd l3 x13_1)).f2))) (fun _ hk => hk.2) (.int .i64 ((rd_T33 l0 (rd l3 x13_1)).f3))) (fun _ hk => ⟨trivial, hk.1⟩)) hg hat); have n1_ := Aside0.mk (blk_grown (g := gb301) (o := .cells #[.int .i64 ((rd_T33 l0 (rd l3 x13_1)).f0), .slice A300_1 ((rd_T33 l0 (rd l3 x13_1)).f1).length c300_1, .int .i64 ((rd_T33 l0 (rd l3 x13_1)).f2), .int .i64 ((rd_T33 l0 (rd l3 x13_1)).f3)] 33 (0, 0)) (by (with_reducible repeat (first | refine blk_drewN ?_ _ | refine blk_drew ?_ | refine blk_alloc ?_ _)); refine blk_put (cs := #[.int .i64 ((rd_T33 l0 (rd l3 x13_1)).f0), .slice A300_1 ((rd_T33 l0 (rd l3 x13_1)).f1).length c300_1, .int .i64 ((rd_T33 l0 (rd l3 x13_1)).f2), .int .i64 0]) ?_ 3 _ rfl; (with_reducible repeat (first | refine blk_drewN ?_ _ | refine blk_drew ?_ | refine blk_alloc ?_ _)); refine blk_put (cs := #[.int .i64 ((rd_T33 l0 (rd l3 x13_1)).f0), .slice A300_1 ((rd_T33 l0 (rd l3 x13_1)).f1).length c300_1, .int .i64 0, .int .i64 0]) ?_ 2 _ rfl; (with_reducible repeat (first | refine blk_drewN ?_ _ | refine blk_drew ?_ | refine blk_alloc ?_ _)); refine blk_put (cs := #[.int .i64 ((rd_T33 l0 (rd l3 x13_1)).f0), .slice none 0 0, .int .i64 0, .int .i64 0]) ?_ 1 _ rfl; (with_reducible repeat (first | refine blk_drewN ?_ _ | refine blk_drew ?_ | refine blk_alloc ?_ _)); refine blk_put (cs := #[.int .i64 0, .slice none 0 0, .int .i64 0, .int .i64 0]) ?_ 0 _ rfl; (with_reducible repeat (first | refine blk_drewN ?_ _ | refine blk_drew ?_ | refine blk_alloc ?_ _)); exact BK301.out) hg (Kd.R_ne HO_11.out BK301.out (by decide))); have n2_ := Aside0.mk (hb); have n3_ := Aside0.mk (ho); clear HO_12 BK301 HB HO_11; have HO_12 := n0_; have BK301 := n1_; have HB := n2_; have HO307 := n3_; clear n0_ n1_ n2_ n3_; clear ho hb hg hat; have p308 : 0 ≤ (x13_1 : Int) := of_decide_eq_true (za); have q308 : x13_1 < (l3.length : Int) := of_decide_eq_true (za); obtain ⟨ad308, e308, hx308_0⟩ := Kd.at_int HR3.out x13_1 p308 q308; obtain rfl : ad299 = ad308 := (by injection e308); replace hx308_0 := (HB.out.cell (World.block_lt_of_cell? w _ hx308_0)).trans hx308_0; replace p308 := eq_true p308; replace q308 := eq_true q308) | ((with_reducible refine gate_builtin (b := .append) (xs := #[.tmp 58, .tmp 63]) rfl ?_); (try (refine gate_guard (by rfl) ?_; dsimp only)); at_builtin; refine Kd.R_append (Kd.int .i64) (w0 := w) w.heap.size rfl (.tmp 58) (.tmp 63) 24 3 (.int .i64 0) 8 rfl Tryd.underlying24 info3 rfl (by decide) (by omega) (.slice Ao26 x12_1.length co26) x12_1 (rd l3 x13_1) [.int .i64 (rd l3 x13_1)] (fun k_ => some k_ ≠ (v306 : Value).ownBlock) (fun _ => False) rfl rfl ?aP (fun _ hk => hk.elim) ?aF ?aO ?aB ?aS ?aL ?_; (case aP => exact rfl); (case aB => exact (zg HB.out GE301.out)); (case aF => exact (fun k_ hk => Kd.fresh' (Kd.R_lt (zr HO307.out)) k_ hk)); (case aO => exact (by (with_reducible repeat (first | apply Kd.R_alloc | apply Kd.R_drewN | apply Kd.R_drew)); exact Kd.R_mono HO_12.out (fun _ hk => hk.2))); (case aS => exact (below_size (zg HB.out GE301.out))); (case aL => have := LMc23.out; omega); intro v310 w28 ho hb hg hat; rw [← Ny309.out] at ho; have n0_ := Aside0.mk (blk_grown (g := gb301) (o := .cells #[.int .i64 ((rd_T33 l0 (rd l3 x13_1)).f0), .slice A300_1 ((rd_T33 l0 (rd l3 x13_1)).f1).length c300_1, .int .i64 ((rd_T33 l0 (rd l3 x13_1)).f2), .int .i64 ((rd_T33 l0 (rd l3 x13_1)).f3)] 33 (0, 0)) (by (with_reducible repeat (first | refine blk_drewN ?_ _ | refine blk_drew ?_ | refine blk_alloc ?_ _)); exact BK301.out) hg (Kd.R_ne HO_12.out BK301.out (by decide))); have n1_ := Aside0.mk (Kd.R_after (ok := (fun _ => True)) (by (with_reducible repeat (first | apply Kd.R_alloc | apply Kd.R_drewN | apply Kd.R_drew)); exact Kd.R_mono HO307.out (fun _ hk => ⟨trivial, hk⟩)) hg hat); have n2_ := Aside0.mk (hb); have n3_ := Aside0.mk (ho); clear BK301 HO307 HB HO_12; have BK301 := n0_; have HO307 := n1_; have HB := n2_; have HO311 := n3_; clear n0_ n1_ n2_ n3_; clear ho hb hg hat))
                              repeat (go_quiet (first | ((with_reducible refine gate_dst (N := 14) rfl ?_); (try (refine gate_guard (by rfl) ?_; dsimp only)); refine box_event ?hg (N := 14) ?hd (cs := #[.int .i64 0, .slice none 0 0, .int .i64 0, .int .i64 0]) (t := 33) ?hr ?_; (case hd => rfl); (case hg => rfl); (case hr => first | (go_simp; done) | (go_simp; rfl)); intro gb301 hg w24 hbox hb; have n0_ := Aside0.mk (Kd.R_below (zr HO_11.out) hb); have n1_ := Aside0.mk (Kd.R_below (zr HO_12.out) hb); have n2_ := Aside0.mk (below_step (zb HB.out) hb); have n3_ := Aside0.mk (hbox); have n4_ := Aside0.mk ((by rw [hg]; exact (below_size (zb HB.out)) : w.heap.size ≤ gb301)); have n5_ := Aside0.mk ((by rw [hg]; exact (below_size (zb HB.out)) : w.heap.size ≤ gb301)); clear HO_11 HO_12 HB; have HO_11 := n0_; have HO_12 := n1_; have HB := n2_; have BK301 := n3_; have GW301 := n4_; have GE301 := n5_; clear n0_ n1_ n2_ n3_ n4_ n5_; clear hb hbox hg; have hcz25_0 : w24.cell? ⟨gb301, 0, none⟩ = some (.int .i64 0) := (blk_cell BK301.out 0).trans rfl; have hcz25_1 : w24.cell? ⟨gb301, 1, none⟩ = some (.slice none 0 0) := (blk_cell BK301.out 1).trans rfl; have hcz25_2 : w24.cell? ⟨gb301, 2, none⟩ = some (.int .i64 0) := (blk_cell BK301.out 2).trans rfl; have hcz25_3 : w24.cell? ⟨gb301, 3, none⟩ = some (.int .i64 0) := (blk_cell BK301.out 3).trans rfl; have hfz25_0 := blk_frozen BK301.out 0; have hfz25_1 := blk_frozen BK301.out 1; have hfz25_2 := blk_frozen BK301.out 2; have hfz25_3 := blk_frozen BK301.out 3; obtain ⟨Ao26, co26, eo26⟩ := Kd.R_slice HO_12.out; subst eo26) | (go_at_call 87; (with_reducible refine (spec_used.calls kj9 _ _ l0 _ _ x12_1 ((rd_T33 l0 (rd l3 x13_1)).f2) t302 _ ?side1 ?side2 ?side3 ?side4 A18.out).mono ?_); (case side1 => exact Kd.C_below HR0.out (zg HB.out GE301.out)); (case side2 => exact HC0.out); (case side3 => refine (Kd.R_reads' (e := 3) (base := w.heap.size) (ok := fun k_ => some k_ ≠ (u11 : Value).ownBlock) (n := x12_1.length) (c := co26) ?_).2.2; exact (by (with_reducible repeat (first | apply Kd.R_alloc | apply Kd.R_drewN | apply Kd.R_drew)); exact (Kd.R_mono (Kd.R_far (p := ⟨gb301, 3, none⟩) (Kd.R_far (p := ⟨gb301, 2, none⟩) (Kd.R_far (p := ⟨gb301, 1, none⟩) (Kd.R_far (p := ⟨gb301, 0, none⟩) (Kd.R_types HO_12.out BK301.out (by decide)) (fun _ hk => hk.2) (.int .i64 ((rd_T33 l0 (rd l3 x13_1)).f0))) (fun _ hk => hk.2) (.slice A300_1 ((rd_T33 l0 (rd l3 x13_1)).f1).length c300_1)) (fun _ hk => hk.2) (.int .i64 ((rd_T33 l0 (rd l3 x13_1)).f2))) (fun _ hk => hk.2) (.int .i64 ((rd_T33 l0 (rd l3 x13_1)).f3))) (fun _ h_ => h_.1)))); (case side4 => exact (Kd.R_reads' HO_12.out).2.1); rintro e w' ⟨rfl, ⟨nd, rfl⟩⟩; (try first | exact ⟨rfl, _, World.drewN_drewN _ _ _⟩ | exact ⟨rfl, _, Eq.trans (World.drewN_drewN _ _ _) (congrArg (World.drewN _) (Nat.add_assoc _ _ _))⟩); have p303 : 0 ≤ (((rd_T33 l0 (rd l3 x13_1)).f2) : Int) := of_decide_eq_true (za); have q303 : ((rd_T33 l0 (rd l3 x13_1)).f2) < (l1.length : Int) := of_decide_eq_true (za); obtain ⟨ad303, e303, hx303_0⟩ := Kd.at_int HR1.out ((rd_T33 l0 (rd l3 x13_1)).f2) p303 q303; cases e303; have hn303_0 : ad303.block ≠ gb301 := Nat.ne_of_lt (Nat.lt_of_lt_of_le (by have := World.block_lt_of_cell? _ _ hx303_0; first | rwa [add_block] at this | exact this) GW301.out); have hn303_1 : ad303.block ≠ gb301 := Nat.ne_of_lt (Nat.lt_of_lt_of_le (by have := World.block_lt_of_cell? _ _ hx303_0; first | rwa [add_block] at this | exact this) GW301.out); have hn303_2 : ad303.block ≠ gb301 := Nat.ne_of_lt (Nat.lt_of_lt_of_le (by have := World.block_lt_of_cell? _ _ hx303_0; first | rwa [add_block] at this | exact this) GW301.out); have hn303_3 : ad303.block ≠ gb301 := Nat.ne_of_lt (Nat.lt_of_lt_of_le (by have := World.block_lt_of_cell? _ _ hx303_0; first | rwa [add_block] at this | exact this) GW301.out); replace hx303_0 := (HB.out.cell (World.block_lt_of_cell? w _ hx303_0)).trans hx303_0; replace hx303_0 := (cell_far (p := ⟨gb301, 0, none⟩) (by first | (rw [add_block]; exact hn303_0) | (show (Addr.add _ _).block ≠ _; rw [add_block]; exact hn303_0) | exact hn303_0) (.int .i64 ((rd_T33 l0 (rd l3 x13_1)).f0))).trans hx303_0; replace hx303_0 := (cell_far (p := ⟨gb301, 1, none⟩) (by first | (rw [add_block]; exact hn303_1) | (show (Addr.add _ _).block ≠ _; rw [add_block]; exact hn303_1) | exact hn303_1) (.slice A300_1 ((rd_T33 l0 (rd l3 x13_1)).f1).length c300_1)).trans hx303_0; replace hx303_0 := (cell_far (p := ⟨gb301, 2, none⟩) (by first | (rw [add_block]; exact hn303_2) | (show (Addr.add _ _).block ≠ _; rw [add_block]; exact hn303_2) | exact hn303_2) (.int .i64 ((rd_T33 l0 (rd l3 x13_1)).f2))).trans hx303_0; replace hx303_0 := (cell_far (p := ⟨gb301, 3, none⟩) (by first | (rw [add_block]; exact hn303_3) | (show (Addr.add _ _).block ≠ _; rw [add_block]; exact hn303_3) | exact hn303_3) (.int .i64 ((rd_T33 l0 (rd l3 x13_1)).f3))).trans hx303_0; (try have hy303_0 := fun (n_ : Nat) => (show ((((((w24.drewN n_).setCell ⟨gb301, 0, none⟩ (.int .i64 ((rd_T33 l0 (rd l3 x13_1)).f0))).setCell ⟨gb301, 1, none⟩ (.slice A300_1 ((rd_T33 l0 (rd l3 x13_1)).f1).length c300_1)).setCell ⟨gb301, 2, none⟩ (.int .i64 ((rd_T33 l0 (rd l3 x13_1)).f2))).setCell ⟨gb301, 3, none⟩ (.int .i64 ((rd_T33 l0 (rd l3 x13_1)).f3)))).cell? _ = some _ from hx303_0)); clear hn303_0 hn303_1 hn303_2 hn303_3; replace p303 := eq_true p303; replace q303 := eq_true q303; have p304 : 0 ≤ (x13_1 : Int) := of_decide_eq_true (za); have q304 : x13_1 < (l3.length : Int) := of_decide_eq_true (za); obtain ⟨ad304, e304, hx304_0⟩ := Kd.at_int HR3.out x13_1 p304 q304; obtain rfl : ad299 = ad304 := (by injection e304); have hn304_0 : ad299.block ≠ gb301 := Nat.ne_of_lt (Nat.lt_of_lt_of_le (by have := World.block_lt_of_cell? _ _ hx304_0; first | rwa [add_block] at this | exact this) GW301.out); have hn304_1 : ad299.block ≠ gb301 := Nat.ne_of_lt (Nat.lt_of_lt_of_le (by have := World.block_lt_of_cell? _ _ hx304_0; first | rwa [add_block] at this | exact this) GW301.out); have hn304_2 : ad299.block ≠ gb301 := Nat.ne_of_lt (Nat.lt_of_lt_of_le (by have := World.block_lt_of_cell? _ _ hx304_0; first | rwa [add_block] at this | exact this) GW301.out); have hn304_3 : ad299.block ≠ gb301 := Nat.ne_of_lt (Nat.lt_of_lt_of_le (by have := World.block_lt_of_cell? _ _ hx304_0; first | rwa [add_block] at this | exact this) GW301.out); replace hx304_0 := (HB.out.cell (World.block_lt_of_cell? w _ hx304_0)).trans hx304_0; replace hx304_0 := (cell_far (p := ⟨gb301, 0, none⟩) (by first | (rw [add_block]; exact hn304_0) | (show (Addr.add _ _).block ≠ _; rw [add_block]; exact hn304_0) | exact hn304_0) (.int .i64 ((rd_T33 l0 (rd l3 x13_1)).f0))).trans hx304_0; replace hx304_0 := (cell_far (p := ⟨gb301, 1, none⟩) (by first | (rw [add_block]; exact hn304_1) | (show (Addr.add _ _).block ≠ _; rw [add_block]; exact hn304_1) | exact hn304_1) (.slice A300_1 ((rd_T33 l0 (rd l3 x13_1)).f1).length c300_1)).trans hx304_0; replace hx304_0 := (cell_far (p := ⟨gb301, 2, none⟩) (by first | (rw [add_block]; exact hn304_2) | (show (Addr.add _ _).block ≠ _; rw [add_block]; exact hn304_2) | exact hn304_2) (.int .i64 ((rd_T33 l0 (rd l3 x13_1)).f2))).trans hx304_0; replace hx304_0 := (cell_far (p := ⟨gb301, 3, none⟩) (by first | (rw [add_block]; exact hn304_3) | (show (Addr.add _ _).block ≠ _; rw [add_block]; exact hn304_3) | exact hn304_3) (.int .i64 ((rd_T33 l0 (rd l3 x13_1)).f3))).trans hx304_0; (try have hy304_0 := fun (n_ : Nat) => (show ((((((w24.drewN n_).setCell ⟨gb301, 0, none⟩ (.int .i64 ((rd_T33 l0 (rd l3 x13_1)).f0))).setCell ⟨gb301, 1, none⟩ (.slice A300_1 ((rd_T33 l0 (rd l3 x13_1)).f1).length c300_1)).setCell ⟨gb301, 2, none⟩ (.int .i64 ((rd_T33 l0 (rd l3 x13_1)).f2))).setCell ⟨gb301, 3, none⟩ (.int .i64 ((rd_T33 l0 (rd l3 x13_1)).f3)))).cell? _ = some _ from hx304_0)); clear hn304_0 hn304_1 hn304_2 hn304_3; replace p304 := eq_true p304; replace q304 := eq_true q304) | ((with_reducible refine gate_builtin (b := .append) (xs := #[.tmp 51, .tmp 56]) rfl ?_); (try (refine gate_guard (by rfl) ?_; dsimp only)); at_builtin; refine Kd.R_append (Kd.int .i64) (w0 := w) w.heap.size rfl (.tmp 51) (.tmp 56) 24 3 (.int .i64 0) 8 rfl Tryd.underlying24 info3 rfl (by decide) (by omega) u11 x11_1 (rd l3 x13_1) [.int .i64 (rd l3 x13_1)] (fun k_ => some k_ ≠ (.slice Ao26 x12_1.length co26 : Value).ownBlock) (fun _ => False) rfl (by first | (go_simp; done) | (go_simp; rfl)) ?aP (fun _ hk => hk.elim) ?aF ?aO ?aB ?aS ?aL ?_; (case aP => exact rfl); (case aB => exact (zg HB.out GE301.out)); (case aF => exact (fun k_ hk => Kd.fresh' (Kd.R_lt (by (with_reducible repeat (first | apply Kd.R_alloc | apply Kd.R_drewN | apply Kd.R_drew)); exact (Kd.R_mono (Kd.R_far (p := ⟨gb301, 3, none⟩) (Kd.R_far (p := ⟨gb301, 2, none⟩) (Kd.R_far (p := ⟨gb301, 1, none⟩) (Kd.R_far (p := ⟨gb301, 0, none⟩) (Kd.R_types HO_12.out BK301.out (by decide)) (fun _ hk => hk.2) (.int .i64 ((rd_T33 l0 (rd l3 x13_1)).f0))) (fun _ hk => hk.2) (.slice A300_1 ((rd_T33 l0 (rd l3 x13_1)).f1).length c300_1)) (fun _ hk => hk.2) (.int .i64 ((rd_T33 l0 (rd l3 x13_1)).f2))) (fun _ hk => hk.2) (.int .i64 ((rd_T33 l0 (rd l3 x13_1)).f3))) (fun _ h_ => h_.1)))) k_ hk)); (case aO => exact (by (with_reducible repeat (first | apply Kd.R_alloc | apply Kd.R_drewN | apply Kd.R_drew)); exact Kd.R_mono (Kd.R_far (p := ⟨gb301, 3, none⟩) (Kd.R_far (p := ⟨gb301, 2, none⟩) (Kd.R_far (p := ⟨gb301, 1, none⟩) (Kd.R_far (p := ⟨gb301, 0, none⟩) (Kd.R_types HO_11.out BK301.out (by decide)) (fun _ hk => hk.2) (.int .i64 ((rd_T33 l0 (rd l3 x13_1)).f0))) (fun _ hk => hk.2) (.slice A300_1 ((rd_T33 l0 (rd l3 x13_1)).f1).length c300_1)) (fun _ hk => hk.2) (.int .i64 ((rd_T33 l0 (rd l3 x13_1)).f2))) (fun _ hk => hk.2) (.int .i64 ((rd_T33 l0 (rd l3 x13_1)).f3))) (fun _ hk => hk.1))); (case aS => exact (below_size (zg HB.out GE301.out))); (case aL => have := LMc22.out; omega); intro v306 w27 ho hb hg hat; rw [← Ny305.out] at ho; have n0_ := Aside0.mk (Kd.R_after (ok := (fun _ => True)) (by (with_reducible repeat (first | apply Kd.R_alloc | apply Kd.R_drewN | apply Kd.R_drew)); exact Kd.R_mono (Kd.R_far (p := ⟨gb301, 3, none⟩) (Kd.R_far (p := ⟨gb301, 2, none⟩) (Kd.R_far (p := ⟨gb301, 1, none⟩) (Kd.R_far (p := ⟨gb301, 0, none⟩) (Kd.R_types HO_12.out BK301.out (by decide)) (fun _ hk => hk.2) (.int .i64 ((rd_T33 l0 (rd l3 x13_1)).f0))) (fun _ hk => hk.2) (.slice A300_1 ((rd_T33 l0 (rd l3 x13_1)).f1).length c300_1)) (fun _ hk => hk.2) (.int .i64 ((rd_T33 l0 (rd l3 x13_1)).f2))) (fun _ hk => hk.2) (.int .i64 ((rd_T33 l0 (rd l3 x13_1)).f3))) (fun _ hk => ⟨trivial, hk.1⟩)) hg hat); have n1_ := Aside0.mk (blk_grown (g := gb301) (o := .cells #[.int .i64 ((rd_T33 l0 (rd l3 x13_1)).f0), .slice A300_1 ((rd_T33 l0 (rd l3 x13_1)).f1).length c300_1, .int .i64 ((rd_T33 l0 (rd l3 x13_1)).f2), .int .i64 ((rd_T33 l0 (rd l3 x13_1)).f3)] 33 (0, 0)) (by (with_reducible repeat (first | refine blk_drewN ?_ _ | refine blk_drew ?_ | refine blk_alloc ?_ _)); refine blk_put (cs := #[.int .i64 ((rd_T33 l0 (rd l3 x13_1)).f0), .slice A300_1 ((rd_T33 l0 (rd l3 x13_1)).f1).length c300_1, .int .i64 ((rd_T33 l0 (rd l3 x13_1)).f2), .int .i64 0]) ?_ 3 _ rfl; (with_reducible repeat (first | refine blk_drewN ?_ _ | refine blk_drew ?_ | refine blk_alloc ?_ _)); refine blk_put (cs := #[.int .i64 ((rd_T33 l0 (rd l3 x13_1)).f0), .slice A300_1 ((rd_T33 l0 (rd l3 x13_1)).f1).length c300_1, .int .i64 0, .int .i64 0]) ?_ 2 _ rfl; (with_reducible repeat (first | refine blk_drewN ?_ _ | refine blk_drew ?_ | refine blk_alloc ?_ _)); refine blk_put (cs := #[.int .i64 ((rd_T33 l0 (rd l3 x13_1)).f0), .slice none 0 0, .int .i64 0, .int .i64 0]) ?_ 1 _ rfl; (with_reducible repeat (first | refine blk_drewN ?_ _ | refine blk_drew ?_ | refine blk_alloc ?_ _)); refine blk_put (cs := #[.int .i64 0, .slice none 0 0, .int .i64 0, .int .i64 0]) ?_ 0 _ rfl; (with_reducible repeat (first | refine blk_drewN ?_ _ | refine blk_drew ?_ | refine blk_alloc ?_ _)); exact BK301.out) hg (Kd.R_ne HO_11.out BK301.out (by decide))); have n2_ := Aside0.mk (hb); have n3_ := Aside0.mk (ho); clear HO_12 BK301 HB HO_11; have HO_12 := n0_; have BK301 := n1_; have HB := n2_; have HO307 := n3_; clear n0_ n1_ n2_ n3_; clear ho hb hg hat; have p308 : 0 ≤ (x13_1 : Int) := of_decide_eq_true (za); have q308 : x13_1 < (l3.length : Int) := of_decide_eq_true (za); obtain ⟨ad308, e308, hx308_0⟩ := Kd.at_int HR3.out x13_1 p308 q308; obtain rfl : ad299 = ad308 := (by injection e308); replace hx308_0 := (HB.out.cell (World.block_lt_of_cell? w _ hx308_0)).trans hx308_0; replace p308 := eq_true p308; replace q308 := eq_true q308) | ((with_reducible refine gate_builtin (b := .append) (xs := #[.tmp 58, .tmp 63]) rfl ?_); (try (refine gate_guard (by rfl) ?_; dsimp only)); at_builtin; refine Kd.R_append (Kd.int .i64) (w0 := w) w.heap.size rfl (.tmp 58) (.tmp 63) 24 3 (.int .i64 0) 8 rfl Tryd.underlying24 info3 rfl (by decide) (by omega) (.slice Ao26 x12_1.length co26) x12_1 (rd l3 x13_1) [.int .i64 (rd l3 x13_1)] (fun k_ => some k_ ≠ (v306 : Value).ownBlock) (fun _ => False) rfl rfl ?aP (fun _ hk => hk.elim) ?aF ?aO ?aB ?aS ?aL ?_; (case aP => exact rfl); (case aB => exact (zg HB.out GE301.out)); (case aF => exact (fun k_ hk => Kd.fresh' (Kd.R_lt (zr HO307.out)) k_ hk)); (case aO => exact (by (with_reducible repeat (first | apply Kd.R_alloc | apply Kd.R_drewN | apply Kd.R_drew)); exact Kd.R_mono HO_12.out (fun _ hk => hk.2))); (case aS => exact (below_size (zg HB.out GE301.out))); (case aL => have := LMc23.out; omega); intro v310 w28 ho hb hg hat; rw [← Ny309.out] at ho; have n0_ := Aside0.mk (blk_grown (g := gb301) (o := .cells #[.int .i64 ((rd_T33 l0 (rd l3 x13_1)).f0), .slice A300_1 ((rd_T33 l0 (rd l3 x13_1)).f1).length c300_1, .int .i64 ((rd_T33 l0 (rd l3 x13_1)).f2), .int .i64 ((rd_T33 l0 (rd l3 x13_1)).f3)] 33 (0, 0)) (by (with_reducible repeat (first | refine blk_drewN ?_ _ | refine blk_drew ?_ | refine blk_alloc ?_ _)); exact BK301.out) hg (Kd.R_ne HO_12.out BK301.out (by decide))); have n1_ := Aside0.mk (Kd.R_after (ok := (fun _ => True)) (by (with_reducible repeat (first | apply Kd.R_alloc | apply Kd.R_drewN | apply Kd.R_drew)); exact Kd.R_mono HO307.out (fun _ hk => ⟨trivial, hk⟩)) hg hat); have n2_ := Aside0.mk (hb); have n3_ := Aside0.mk (ho); clear BK301 HO307 HB HO_12; have BK301 := n0_; have HO307 := n1_; have HB := n2_; have HO311 := n3_; clear n0_ n1_ n2_ n3_; clear ho hb hg hat)); try go_wp2_with (first | ((with_reducible refine gate_dst (N := 14) rfl ?_); (try (refine gate_guard (by rfl) ?_; dsimp only)); refine box_event ?hg (N := 14) ?hd (cs := #[.int .i64 0, .slice none 0 0, .int .i64 0, .int .i64 0]) (t := 33) ?hr ?_; (case hd => rfl); (case hg => rfl); (case hr => first | (go_simp; done) | (go_simp; rfl)); intro gb301 hg w24 hbox hb; have n0_ := Aside0.mk (Kd.R_below (zr HO_11.out) hb); have n1_ := Aside0.mk (Kd.R_below (zr HO_12.out) hb); have n2_ := Aside0.mk (below_step (zb HB.out) hb); have n3_ := Aside0.mk (hbox); have n4_ := Aside0.mk ((by rw [hg]; exact (below_size (zb HB.out)) : w.heap.size ≤ gb301)); have n5_ := Aside0.mk ((by rw [hg]; exact (below_size (zb HB.out)) : w.heap.size ≤ gb301)); clear HO_11 HO_12 HB; have HO_11 := n0_; have HO_12 := n1_; have HB := n2_; have BK301 := n3_; have GW301 := n4_; have GE301 := n5_; clear n0_ n1_ n2_ n3_ n4_ n5_; clear hb hbox hg; have hcz25_0 : w24.cell? ⟨gb301, 0, none⟩ = some (.int .i64 0) := (blk_cell BK301.out 0).trans rfl; have hcz25_1 : w24.cell? ⟨gb301, 1, none⟩ = some (.slice none 0 0) := (blk_cell BK301.out 1).trans rfl; have hcz25_2 : w24.cell? ⟨gb301, 2, none⟩ = some (.int .i64 0) := (blk_cell BK301.out 2).trans rfl; have hcz25_3 : w24.cell? ⟨gb301, 3, none⟩ = some (.int .i64 0) := (blk_cell BK301.out 3).trans rfl; have hfz25_0 := blk_frozen BK301.out 0; have hfz25_1 := blk_frozen BK301.out 1; have hfz25_2 := blk_frozen BK301.out 2; have hfz25_3 := blk_frozen BK301.out 3; obtain ⟨Ao26, co26, eo26⟩ := Kd.R_slice HO_12.out; subst eo26) | (go_at_call 87; (with_reducible refine (spec_used.calls kj9 _ _ l0 _ _ x12_1 ((rd_T33 l0 (rd l3 x13_1)).f2) t302 _ ?side1 ?side2 ?side3 ?side4 A18.out).mono ?_); (case side1 => exact Kd.C_below HR0.out (zg HB.out GE301.out)); (case side2 => exact HC0.out); (case side3 => refine (Kd.R_reads' (e := 3) (base := w.heap.size) (ok := fun k_ => some k_ ≠ (u11 : Value).ownBlock) (n := x12_1.length) (c := co26) ?_).2.2; exact (by (with_reducible repeat (first | apply Kd.R_alloc | apply Kd.R_drewN | apply Kd.R_drew)); exact (Kd.R_mono (Kd.R_far (p := ⟨gb301, 3, none⟩) (Kd.R_far (p := ⟨gb301, 2, none⟩) (Kd.R_far (p := ⟨gb301, 1, none⟩) (Kd.R_far (p := ⟨gb301, 0, none⟩) (Kd.R_types HO_12.out BK301.out (by decide)) (fun _ hk => hk.2) (.int .i64 ((rd_T33 l0 (rd l3 x13_1)).f0))) (fun _ hk => hk.2) (.slice A300_1 ((rd_T33 l0 (rd l3 x13_1)).f1).length c300_1)) (fun _ hk => hk.2) (.int .i64 ((rd_T33 l0 (rd l3 x13_1)).f2))) (fun _ hk => hk.2) (.int .i64 ((rd_T33 l0 (rd l3 x13_1)).f3))) (fun _ h_ => h_.1)))); (case side4 => exact (Kd.R_reads' HO_12.out).2.1); rintro e w' ⟨rfl, ⟨nd, rfl⟩⟩; (try first | exact ⟨rfl, _, World.drewN_drewN _ _ _⟩ | exact ⟨rfl, _, Eq.trans (World.drewN_drewN _ _ _) (congrArg (World.drewN _) (Nat.add_assoc _ _ _))⟩); have p303 : 0 ≤ (((rd_T33 l0 (rd l3 x13_1)).f2) : Int) := of_decide_eq_true (za); have q303 : ((rd_T33 l0 (rd l3 x13_1)).f2) < (l1.length : Int) := of_decide_eq_true (za); obtain ⟨ad303, e303, hx303_0⟩ := Kd.at_int HR1.out ((rd_T33 l0 (rd l3 x13_1)).f2) p303 q303; cases e303; have hn303_0 : ad303.block ≠ gb301 := Nat.ne_of_lt (Nat.lt_of_lt_of_le (by have := World.block_lt_of_cell? _ _ hx303_0; first | rwa [add_block] at this | exact this) GW301.out); have hn303_1 : ad303.block ≠ gb301 := Nat.ne_of_lt (Nat.lt_of_lt_of_le (by have := World.block_lt_of_cell? _ _ hx303_0; first | rwa [add_block] at this | exact this) GW301.out); have hn303_2 : ad303.block ≠ gb301 := Nat.ne_of_lt (Nat.lt_of_lt_of_le (by have := World.block_lt_of_cell? _ _ hx303_0; first | rwa [add_block] at this | exact this) GW301.out); have hn303_3 : ad303.block ≠ gb301 := Nat.ne_of_lt (Nat.lt_of_lt_of_le (by have := World.block_lt_of_cell? _ _ hx303_0; first | rwa [add_block] at this | exact this) GW301.out); replace hx303_0 := (HB.out.cell (World.block_lt_of_cell? w _ hx303_0)).trans hx303_0; replace hx303_0 := (cell_far (p := ⟨gb301, 0, none⟩) (by first | (rw [add_block]; exact hn303_0) | (show (Addr.add _ _).block ≠ _; rw [add_block]; exact hn303_0) | exact hn303_0) (.int .i64 ((rd_T33 l0 (rd l3 x13_1)).f0))).trans hx303_0; replace hx303_0 := (cell_far (p := ⟨gb301, 1, none⟩) (by first | (rw [add_block]; exact hn303_1) | (show (Addr.add _ _).block ≠ _; rw [add_block]; exact hn303_1) | exact hn303_1) (.slice A300_1 ((rd_T33 l0 (rd l3 x13_1)).f1).length c300_1)).trans hx303_0; replace hx303_0 := (cell_far (p := ⟨gb301, 2, none⟩) (by first | (rw [add_block]; exact hn303_2) | (show (Addr.add _ _).block ≠ _; rw [add_block]; exact hn303_2) | exact hn303_2) (.int .i64 ((rd_T33 l0 (rd l3 x13_1)).f2))).trans hx303_0; replace hx303_0 := (cell_far (p := ⟨gb301, 3, none⟩) (by first | (rw [add_block]; exact hn303_3) | (show (Addr.add _ _).block ≠ _; rw [add_block]; exact hn303_3) | exact hn303_3) (.int .i64 ((rd_T33 l0 (rd l3 x13_1)).f3))).trans hx303_0; (try have hy303_0 := fun (n_ : Nat) => (show ((((((w24.drewN n_).setCell ⟨gb301, 0, none⟩ (.int .i64 ((rd_T33 l0 (rd l3 x13_1)).f0))).setCell ⟨gb301, 1, none⟩ (.slice A300_1 ((rd_T33 l0 (rd l3 x13_1)).f1).length c300_1)).setCell ⟨gb301, 2, none⟩ (.int .i64 ((rd_T33 l0 (rd l3 x13_1)).f2))).setCell ⟨gb301, 3, none⟩ (.int .i64 ((rd_T33 l0 (rd l3 x13_1)).f3)))).cell? _ = some _ from hx303_0)); clear hn303_0 hn303_1 hn303_2 hn303_3; replace p303 := eq_true p303; replace q303 := eq_true q303; have p304 : 0 ≤ (x13_1 : Int) := of_decide_eq_true (za); have q304 : x13_1 < (l3.length : Int) := of_decide_eq_true (za); obtain ⟨ad304, e304, hx304_0⟩ := Kd.at_int HR3.out x13_1 p304 q304; obtain rfl : ad299 = ad304 := (by injection e304); have hn304_0 : ad299.block ≠ gb301 := Nat.ne_of_lt (Nat.lt_of_lt_of_le (by have := World.block_lt_of_cell? _ _ hx304_0; first | rwa [add_block] at this | exact this) GW301.out); have hn304_1 : ad299.block ≠ gb301 := Nat.ne_of_lt (Nat.lt_of_lt_of_le (by have := World.block_lt_of_cell? _ _ hx304_0; first | rwa [add_block] at this | exact this) GW301.out); have hn304_2 : ad299.block ≠ gb301 := Nat.ne_of_lt (Nat.lt_of_lt_of_le (by have := World.block_lt_of_cell? _ _ hx304_0; first | rwa [add_block] at this | exact this) GW301.out); have hn304_3 : ad299.block ≠ gb301 := Nat.ne_of_lt (Nat.lt_of_lt_of_le (by have := World.block_lt_of_cell? _ _ hx304_0; first | rwa [add_block] at this | exact this) GW301.out); replace hx304_0 := (HB.out.cell (World.block_lt_of_cell? w _ hx304_0)).trans hx304_0; replace hx304_0 := (cell_far (p := ⟨gb301, 0, none⟩) (by first | (rw [add_block]; exact hn304_0) | (show (Addr.add _ _).block ≠ _; rw [add_block]; exact hn304_0) | exact hn304_0) (.int .i64 ((rd_T33 l0 (rd l3 x13_1)).f0))).trans hx304_0; replace hx304_0 := (cell_far (p := ⟨gb301, 1, none⟩) (by first | (rw [add_block]; exact hn304_1) | (show (Addr.add _ _).block ≠ _; rw [add_block]; exact hn304_1) | exact hn304_1) (.slice A300_1 ((rd_T33 l0 (rd l3 x13_1)).f1).length c300_1)).trans hx304_0; replace hx304_0 := (cell_far (p := ⟨gb301, 2, none⟩) (by first | (rw [add_block]; exact hn304_2) | (show (Addr.add _ _).block ≠ _; rw [add_block]; exact hn304_2) | exact hn304_2) (.int .i64 ((rd_T33 l0 (rd l3 x13_1)).f2))).trans hx304_0; replace hx304_0 := (cell_far (p := ⟨gb301, 3, none⟩) (by first | (rw [add_block]; exact hn304_3) | (show (Addr.add _ _).block ≠ _; rw [add_block]; exact hn304_3) | exact hn304_3) (.int .i64 ((rd_T33 l0 (rd l3 x13_1)).f3))).trans hx304_0; (try have hy304_0 := fun (n_ : Nat) => (show ((((((w24.drewN n_).setCell ⟨gb301, 0, none⟩ (.int .i64 ((rd_T33 l0 (rd l3 x13_1)).f0))).setCell ⟨gb301, 1, none⟩ (.slice A300_1 ((rd_T33 l0 (rd l3 x13_1)).f1).length c300_1)).setCell ⟨gb301, 2, none⟩ (.int .i64 ((rd_T33 l0 (rd l3 x13_1)).f2))).setCell ⟨gb301, 3, none⟩ (.int .i64 ((rd_T33 l0 (rd l3 x13_1)).f3)))).cell? _ = some _ from hx304_0)); clear hn304_0 hn304_1 hn304_2 hn304_3; replace p304 := eq_true p304; replace q304 := eq_true q304) | ((with_reducible refine gate_builtin (b := .append) (xs := #[.tmp 51, .tmp 56]) rfl ?_); (try (refine gate_guard (by rfl) ?_; dsimp only)); at_builtin; refine Kd.R_append (Kd.int .i64) (w0 := w) w.heap.size rfl (.tmp 51) (.tmp 56) 24 3 (.int .i64 0) 8 rfl Tryd.underlying24 info3 rfl (by decide) (by omega) u11 x11_1 (rd l3 x13_1) [.int .i64 (rd l3 x13_1)] (fun k_ => some k_ ≠ (.slice Ao26 x12_1.length co26 : Value).ownBlock) (fun _ => False) rfl (by first | (go_simp; done) | (go_simp; rfl)) ?aP (fun _ hk => hk.elim) ?aF ?aO ?aB ?aS ?aL ?_; (case aP => exact rfl); (case aB => exact (zg HB.out GE301.out)); (case aF => exact (fun k_ hk => Kd.fresh' (Kd.R_lt (by (with_reducible repeat (first | apply Kd.R_alloc | apply Kd.R_drewN | apply Kd.R_drew)); exact (Kd.R_mono (Kd.R_far (p := ⟨gb301, 3, none⟩) (Kd.R_far (p := ⟨gb301, 2, none⟩) (Kd.R_far (p := ⟨gb301, 1, none⟩) (Kd.R_far (p := ⟨gb301, 0, none⟩) (Kd.R_types HO_12.out BK301.out (by decide)) (fun _ hk => hk.2) (.int .i64 ((rd_T33 l0 (rd l3 x13_1)).f0))) (fun _ hk => hk.2) (.slice A300_1 ((rd_T33 l0 (rd l3 x13_1)).f1).length c300_1)) (fun _ hk => hk.2) (.int .i64 ((rd_T33 l0 (rd l3 x13_1)).f2))) (fun _ hk => hk.2) (.int .i64 ((rd_T33 l0 (rd l3 x13_1)).f3))) (fun _ h_ => h_.1)))) k_ hk)); (case aO => exact (by (with_reducible repeat (first | apply Kd.R_alloc | apply Kd.R_drewN | apply Kd.R_drew)); exact Kd.R_mono (Kd.R_far (p := ⟨gb301, 3, none⟩) (Kd.R_far (p := ⟨gb301, 2, none⟩) (Kd.R_far (p := ⟨gb301, 1, none⟩) (Kd.R_far (p := ⟨gb301, 0, none⟩) (Kd.R_types HO_11.out BK301.out (by decide)) (fun _ hk => hk.2) (.int .i64 ((rd_T33 l0 (rd l3 x13_1)).f0))) (fun _ hk => hk.2) (.slice A300_1 ((rd_T33 l0 (rd l3 x13_1)).f1).length c300_1)) (fun _ hk => hk.2) (.int .i64 ((rd_T33 l0 (rd l3 x13_1)).f2))) (fun _ hk => hk.2) (.int .i64 ((rd_T33 l0 (rd l3 x13_1)).f3))) (fun _ hk => hk.1))); (case aS => exact (below_size (zg HB.out GE301.out))); (case aL => have := LMc22.out; omega); intro v306 w27 ho hb hg hat; rw [← Ny305.out] at ho; have n0_ := Aside0.mk (Kd.R_after (ok := (fun _ => True)) (by (with_reducible repeat (first | apply Kd.R_alloc | apply Kd.R_drewN | apply Kd.R_drew)); exact Kd.R_mono (Kd.R_far (p := ⟨gb301, 3, none⟩) (Kd.R_far (p := ⟨gb301, 2, none⟩) (Kd.R_far (p := ⟨gb301, 1, none⟩) (Kd.R_far (p := ⟨gb301, 0, none⟩) (Kd.R_types HO_12.out BK301.out (by decide)) (fun _ hk => hk.2) (.int .i64 ((rd_T33 l0 (rd l3 x13_1)).f0))) (fun _ hk => hk.2) (.slice A300_1 ((rd_T33 l0 (rd l3 x13_1)).f1).length c300_1)) (fun _ hk => hk.2) (.int .i64 ((rd_T33 l0 (rd l3 x13_1)).f2))) (fun _ hk => hk.2) (.int .i64 ((rd_T33 l0 (rd l3 x13_1)).f3))) (fun _ hk => ⟨trivial, hk.1⟩)) hg hat); have n1_ := Aside0.mk (blk_grown (g := gb301) (o := .cells #[.int .i64 ((rd_T33 l0 (rd l3 x13_1)).f0), .slice A300_1 ((rd_T33 l0 (rd l3 x13_1)).f1).length c300_1, .int .i64 ((rd_T33 l0 (rd l3 x13_1)).f2), .int .i64 ((rd_T33 l0 (rd l3 x13_1)).f3)] 33 (0, 0)) (by (with_reducible repeat (first | refine blk_drewN ?_ _ | refine blk_drew ?_ | refine blk_alloc ?_ _)); refine blk_put (cs := #[.int .i64 ((rd_T33 l0 (rd l3 x13_1)).f0), .slice A300_1 ((rd_T33 l0 (rd l3 x13_1)).f1).length c300_1, .int .i64 ((rd_T33 l0 (rd l3 x13_1)).f2), .int .i64 0]) ?_ 3 _ rfl; (with_reducible repeat (first | refine blk_drewN ?_ _ | refine blk_drew ?_ | refine blk_alloc ?_ _)); refine blk_put (cs := #[.int .i64 ((rd_T33 l0 (rd l3 x13_1)).f0), .slice A300_1 ((rd_T33 l0 (rd l3 x13_1)).f1).length c300_1, .int .i64 0, .int .i64 0]) ?_ 2 _ rfl; (with_reducible repeat (first | refine blk_drewN ?_ _ | refine blk_drew ?_ | refine blk_alloc ?_ _)); refine blk_put (cs := #[.int .i64 ((rd_T33 l0 (rd l3 x13_1)).f0), .slice none 0 0, .int .i64 0, .int .i64 0]) ?_ 1 _ rfl; (with_reducible repeat (first | refine blk_drewN ?_ _ | refine blk_drew ?_ | refine blk_alloc ?_ _)); refine blk_put (cs := #[.int .i64 0, .slice none 0 0, .int .i64 0, .int .i64 0]) ?_ 0 _ rfl; (with_reducible repeat (first | refine blk_drewN ?_ _ | refine blk_drew ?_ | refine blk_alloc ?_ _)); exact BK301.out) hg (Kd.R_ne HO_11.out BK301.out (by decide))); have n2_ := Aside0.mk (hb); have n3_ := Aside0.mk (ho); clear HO_12 BK301 HB HO_11; have HO_12 := n0_; have BK301 := n1_; have HB := n2_; have HO307 := n3_; clear n0_ n1_ n2_ n3_; clear ho hb hg hat; have p308 : 0 ≤ (x13_1 : Int) := of_decide_eq_true (za); have q308 : x13_1 < (l3.length : Int) := of_decide_eq_true (za); obtain ⟨ad308, e308, hx308_0⟩ := Kd.at_int HR3.out x13_1 p308 q308; obtain rfl : ad299 = ad308 := (by injection e308); replace hx308_0 := (HB.out.cell (World.block_lt_of_cell? w _ hx308_0)).trans hx308_0; replace p308 := eq_true p308; replace q308 := eq_true q308) | ((with_reducible refine gate_builtin (b := .append) (xs := #[.tmp 58, .tmp 63]) rfl ?_); (try (refine gate_guard (by rfl) ?_; dsimp only)); at_builtin; refine Kd.R_append (Kd.int .i64) (w0 := w) w.heap.size rfl (.tmp 58) (.tmp 63) 24 3 (.int .i64 0) 8 rfl Tryd.underlying24 info3 rfl (by decide) (by omega) (.slice Ao26 x12_1.length co26) x12_1 (rd l3 x13_1) [.int .i64 (rd l3 x13_1)] (fun k_ => some k_ ≠ (v306 : Value).ownBlock) (fun _ => False) rfl rfl ?aP (fun _ hk => hk.elim) ?aF ?aO ?aB ?aS ?aL ?_; (case aP => exact rfl); (case aB => exact (zg HB.out GE301.out)); (case aF => exact (fun k_ hk => Kd.fresh' (Kd.R_lt (zr HO307.out)) k_ hk)); (case aO => exact (by (with_reducible repeat (first | apply Kd.R_alloc | apply Kd.R_drewN | apply Kd.R_drew)); exact Kd.R_mono HO_12.out (fun _ hk => hk.2))); (case aS => exact (below_size (zg HB.out GE301.out))); (case aL => have := LMc23.out; omega); intro v310 w28 ho hb hg hat; rw [← Ny309.out] at ho; have n0_ := Aside0.mk (blk_grown (g := gb301) (o := .cells #[.int .i64 ((rd_T33 l0 (rd l3 x13_1)).f0), .slice A300_1 ((rd_T33 l0 (rd l3 x13_1)).f1).length c300_1, .int .i64 ((rd_T33 l0 (rd l3 x13_1)).f2), .int .i64 ((rd_T33 l0 (rd l3 x13_1)).f3)] 33 (0, 0)) (by (with_reducible repeat (first | refine blk_drewN ?_ _ | refine blk_drew ?_ | refine blk_alloc ?_ _)); exact BK301.out) hg (Kd.R_ne HO_12.out BK301.out (by decide))); have n1_ := Aside0.mk (Kd.R_after (ok := (fun _ => True)) (by (with_reducible repeat (first | apply Kd.R_alloc | apply Kd.R_drewN | apply Kd.R_drew)); exact Kd.R_mono HO307.out (fun _ hk => ⟨trivial, hk⟩)) hg hat); have n2_ := Aside0.mk (hb); have n3_ := Aside0.mk (ho); clear BK301 HO307 HB HO_12; have BK301 := n0_; have HO307 := n1_; have HB := n2_; have HO311 := n3_; clear n0_ n1_ n2_ n3_; clear ho hb hg hat)))
                              go_roundg kj9
                              case measure => have := HK1.out; have := HJ9.out; omega
                              case rel => exact ⟨(y305), (y309), (wrap64 (x13_1 + 1)), (zf), H', ⟨by have := HK1.out; have := HJ9.out; omega⟩, ⟨by (with_reducible repeat (first | apply Kd.R_alloc | apply Kd.R_drewN | apply Kd.R_drew)); exact Kd.R_mono HO307.out (fun _ hk => hk.2)⟩, ⟨by (with_reducible repeat (first | apply Kd.R_alloc | apply Kd.R_drewN | apply Kd.R_drew)); exact HO311.out⟩, ⟨zg HB.out GE301.out⟩⟩
                            rw [if_neg c23] at H
                            exact absurd H (by simp)
                          rw [if_neg c22] at H
                          exact absurd H (by simp)
                        rw [if_neg c21] at H
                        have c21b0 : decide ((wrap64 (t302 + ((rd_T33 l0 (rd l3 x13_1)).f3))) ≤ (rd l1 ((rd_T33 l0 (rd l3 x13_1)).f2))) = false := decide_eq_false c21
                        have c21b0_ : decide ((IntKind.i64.wrap (t302 + ((rd_T33 l0 (rd l3 x13_1)).f3))) ≤ (rd l1 ((rd_T33 l0 (rd l3 x13_1)).f2))) = false := by first | exact c21b0 | (rw [i64_w]; exact c21b0) | simpa [i64_w] using c21b0
                        clear c21
                        have H' := Aside0.mk H
                        clear H
                        have p299 : 0 ≤ (x13_1 : Int) := of_decide_eq_true (za)
                        have q299 : x13_1 < (l3.length : Int) := of_decide_eq_true (za)
                        obtain ⟨ad299, e299, hx299_0⟩ := Kd.at_int HR3.out x13_1 p299 q299
                        cases e299
                        replace hx299_0 := (HB.out.cell (World.block_lt_of_cell? w _ hx299_0)).trans hx299_0
                        replace p299 := eq_true p299
                        replace q299 := eq_true q299
                        have p300 : 0 ≤ ((rd l3 x13_1) : Int) := of_decide_eq_true (za)
                        have q300 : (rd l3 x13_1) < (l0.length : Int) := of_decide_eq_true (za)
                        obtain ⟨ad300, A300_1, c300_1, e300, hx300_0, hx300_1, hx300_2, hx300_3, hl300_1, hi300_1⟩ := at_T33 HR0.out (rd l3 x13_1) p300 q300
                        cases e300
                        replace hx300_0 := (HB.out.cell (World.block_lt_of_cell? w _ hx300_0)).trans hx300_0
                        replace hx300_1 := (HB.out.cell (World.block_lt_of_cell? w _ hx300_1)).trans hx300_1
                        replace hx300_2 := (HB.out.cell (World.block_lt_of_cell? w _ hx300_2)).trans hx300_2
                        replace hx300_3 := (HB.out.cell (World.block_lt_of_cell? w _ hx300_3)).trans hx300_3
                        have HR300_1 := Aside0.mk hi300_1
                        have HC300_1 := Aside0.mk hl300_1
                        clear hi300_1 hl300_1
                        replace p300 := eq_true p300
                        replace q300 := eq_true q300
                        go_wp2_with (first | ((with_reducible refine gate_dst (N := 14) rfl ?_); (try (refine gate_guard (by rfl) ?_; dsimp only)); refine box_event ?hg (N := 14) ?hd (cs := #[.int .i64 0, .slice none 0 0, .int .i64 0, .int .i64 0]) (t := 33) ?hr ?_; (case hd => rfl); (case hg => rfl); (case hr => first | (go_simp; done) | (go_simp; rfl)); intro gb301 hg w29 hbox hb; have n0_ := Aside0.mk (Kd.R_below (zr HO_11.out) hb); have n1_ := Aside0.mk (Kd.R_below (zr HO_12.out) hb); have n2_ := Aside0.mk (below_step (zb HB.out) hb); have n3_ := Aside0.mk (hbox); have n4_ := Aside0.mk ((by rw [hg]; exact (below_size (zb HB.out)) : w.heap.size ≤ gb301)); have n5_ := Aside0.mk ((by rw [hg]; exact (below_size (zb HB.out)) : w.heap.size ≤ gb301)); clear HO_11 HO_12 HB; have HO_11 := n0_; have HO_12 := n1_; have HB := n2_; have BK301 := n3_; have GW301 := n4_; have GE301 := n5_; clear n0_ n1_ n2_ n3_ n4_ n5_; clear hb hbox hg; have hcz30_0 : w29.cell? ⟨gb301, 0, none⟩ = some (.int .i64 0) := (blk_cell BK301.out 0).trans rfl; have hcz30_1 : w29.cell? ⟨gb301, 1, none⟩ = some (.slice none 0 0) := (blk_cell BK301.out 1).trans rfl; have hcz30_2 : w29.cell? ⟨gb301, 2, none⟩ = some (.int .i64 0) := (blk_cell BK301.out 2).trans rfl; have hcz30_3 : w29.cell? ⟨gb301, 3, none⟩ = some (.int .i64 0) := (blk_cell BK301.out 3).trans rfl; have hfz30_0 := blk_frozen BK301.out 0; have hfz30_1 := blk_frozen BK301.out 1; have hfz30_2 := blk_frozen BK301.out 2; have hfz30_3 := blk_frozen BK301.out 3; obtain ⟨Ao31, co31, eo31⟩ := Kd.R_slice HO_12.out; subst eo31) | (go_at_call 87; (with_reducible refine (spec_used.calls kj9 _ _ l0 _ _ x12_1 ((rd_T33 l0 (rd l3 x13_1)).f2) t302 _ ?side1 ?side2 ?side3 ?side4 A18.out).mono ?_); (case side1 => exact Kd.C_below HR0.out (zg HB.out GE301.out)); (case side2 => exact HC0.out); (case side3 => refine (Kd.R_reads' (e := 3) (base := w.heap.size) (ok := fun k_ => some k_ ≠ (u11 : Value).ownBlock) (n := x12_1.length) (c := co31) ?_).2.2; exact (by (with_reducible repeat (first | apply Kd.R_alloc | apply Kd.R_drewN | apply Kd.R_drew)); exact (Kd.R_mono (Kd.R_far (p := ⟨gb301, 3, none⟩) (Kd.R_far (p := ⟨gb301, 2, none⟩) (Kd.R_far (p := ⟨gb301, 1, none⟩) (Kd.R_far (p := ⟨gb301, 0, none⟩) (Kd.R_types HO_12.out BK301.out (by decide)) (fun _ hk => hk.2) (.int .i64 ((rd_T33 l0 (rd l3 x13_1)).f0))) (fun _ hk => hk.2) (.slice A300_1 ((rd_T33 l0 (rd l3 x13_1)).f1).length c300_1)) (fun _ hk => hk.2) (.int .i64 ((rd_T33 l0 (rd l3 x13_1)).f2))) (fun _ hk => hk.2) (.int .i64 ((rd_T33 l0 (rd l3 x13_1)).f3))) (fun _ h_ => h_.1)))); (case side4 => exact (Kd.R_reads' HO_12.out).2.1); rintro e w' ⟨rfl, ⟨nd, rfl⟩⟩; (try first | exact ⟨rfl, _, World.drewN_drewN _ _ _⟩ | exact ⟨rfl, _, Eq.trans (World.drewN_drewN _ _ _) (congrArg (World.drewN _) (Nat.add_assoc _ _ _))⟩); have p303 : 0 ≤ (((rd_T33 l0 (rd l3 x13_1)).f2) : Int) := of_decide_eq_true (za); have q303 : ((rd_T33 l0 (rd l3 x13_1)).f2) < (l1.length : Int) := of_decide_eq_true (za); obtain ⟨ad303, e303, hx303_0⟩ := Kd.at_int HR1.out ((rd_T33 l0 (rd l3 x13_1)).f2) p303 q303; cases e303; have hn303_0 : ad303.block ≠ gb301 := Nat.ne_of_lt (Nat.lt_of_lt_of_le (by have := World.block_lt_of_cell? _ _ hx303_0; first | rwa [add_block] at this | exact this) GW301.out); have hn303_1 : ad303.block ≠ gb301 := Nat.ne_of_lt (Nat.lt_of_lt_of_le (by have := World.block_lt_of_cell? _ _ hx303_0; first | rwa [add_block] at this | exact this) GW301.out); have hn303_2 : ad303.block ≠ gb301 := Nat.ne_of_lt (Nat.lt_of_lt_of_le (by have := World.block_lt_of_cell? _ _ hx303_0; first | rwa [add_block] at this | exact this) GW301.out); have hn303_3 : ad303.block ≠ gb301 := Nat.ne_of_lt (Nat.lt_of_lt_of_le (by have := World.block_lt_of_cell? _ _ hx303_0; first | rwa [add_block] at this | exact this) GW301.out); replace hx303_0 := (HB.out.cell (World.block_lt_of_cell? w _ hx303_0)).trans hx303_0; replace hx303_0 := (cell_far (p := ⟨gb301, 0, none⟩) (by first | (rw [add_block]; exact hn303_0) | (show (Addr.add _ _).block ≠ _; rw [add_block]; exact hn303_0) | exact hn303_0) (.int .i64 ((rd_T33 l0 (rd l3 x13_1)).f0))).trans hx303_0; replace hx303_0 := (cell_far (p := ⟨gb301, 1, none⟩) (by first | (rw [add_block]; exact hn303_1) | (show (Addr.add _ _).block ≠ _; rw [add_block]; exact hn303_1) | exact hn303_1) (.slice A300_1 ((rd_T33 l0 (rd l3 x13_1)).f1).length c300_1)).trans hx303_0; replace hx303_0 := (cell_far (p := ⟨gb301, 2, none⟩) (by first | (rw [add_block]; exact hn303_2) | (show (Addr.add _ _).block ≠ _; rw [add_block]; exact hn303_2) | exact hn303_2) (.int .i64 ((rd_T33 l0 (rd l3 x13_1)).f2))).trans hx303_0; replace hx303_0 := (cell_far (p := ⟨gb301, 3, none⟩) (by first | (rw [add_block]; exact hn303_3) | (show (Addr.add _ _).block ≠ _; rw [add_block]; exact hn303_3) | exact hn303_3) (.int .i64 ((rd_T33 l0 (rd l3 x13_1)).f3))).trans hx303_0; (try have hy303_0 := fun (n_ : Nat) => (show ((((((w29.drewN n_).setCell ⟨gb301, 0, none⟩ (.int .i64 ((rd_T33 l0 (rd l3 x13_1)).f0))).setCell ⟨gb301, 1, none⟩ (.slice A300_1 ((rd_T33 l0 (rd l3 x13_1)).f1).length c300_1)).setCell ⟨gb301, 2, none⟩ (.int .i64 ((rd_T33 l0 (rd l3 x13_1)).f2))).setCell ⟨gb301, 3, none⟩ (.int .i64 ((rd_T33 l0 (rd l3 x13_1)).f3)))).cell? _ = some _ from hx303_0)); clear hn303_0 hn303_1 hn303_2 hn303_3; replace p303 := eq_true p303; replace q303 := eq_true q303))
                        repeat (go_quiet (first | ((with_reducible refine gate_dst (N := 14) rfl ?_); (try (refine gate_guard (by rfl) ?_; dsimp only)); refine box_event ?hg (N := 14) ?hd (cs := #[.int .i64 0, .slice none 0 0, .int .i64 0, .int .i64 0]) (t := 33) ?hr ?_; (case hd => rfl); (case hg => rfl); (case hr => first | (go_simp; done) | (go_simp; rfl)); intro gb301 hg w29 hbox hb; have n0_ := Aside0.mk (Kd.R_below (zr HO_11.out) hb); have n1_ := Aside0.mk (Kd.R_below (zr HO_12.out) hb); have n2_ := Aside0.mk (below_step (zb HB.out) hb); have n3_ := Aside0.mk (hbox); have n4_ := Aside0.mk ((by rw [hg]; exact (below_size (zb HB.out)) : w.heap.size ≤ gb301)); have n5_ := Aside0.mk ((by rw [hg]; exact (below_size (zb HB.out)) : w.heap.size ≤ gb301)); clear HO_11 HO_12 HB; have HO_11 := n0_; have HO_12 := n1_; have HB := n2_; have BK301 := n3_; have GW301 := n4_; have GE301 := n5_; clear n0_ n1_ n2_ n3_ n4_ n5_; clear hb hbox hg; have hcz30_0 : w29.cell? ⟨gb301, 0, none⟩ = some (.int .i64 0) := (blk_cell BK301.out 0).trans rfl; have hcz30_1 : w29.cell? ⟨gb301, 1, none⟩ = some (.slice none 0 0) := (blk_cell BK301.out 1).trans rfl; have hcz30_2 : w29.cell? ⟨gb301, 2, none⟩ = some (.int .i64 0) := (blk_cell BK301.out 2).trans rfl; have hcz30_3 : w29.cell? ⟨gb301, 3, none⟩ = some (.int .i64 0) := (blk_cell BK301.out 3).trans rfl; have hfz30_0 := blk_frozen BK301.out 0; have hfz30_1 := blk_frozen BK301.out 1; have hfz30_2 := blk_frozen BK301.out 2; have hfz30_3 := blk_frozen BK301.out 3; obtain ⟨Ao31, co31, eo31⟩ := Kd.R_slice HO_12.out; subst eo31) | (go_at_call 87; (with_reducible refine (spec_used.calls kj9 _ _ l0 _ _ x12_1 ((rd_T33 l0 (rd l3 x13_1)).f2) t302 _ ?side1 ?side2 ?side3 ?side4 A18.out).mono ?_); (case side1 => exact Kd.C_below HR0.out (zg HB.out GE301.out)); (case side2 => exact HC0.out); (case side3 => refine (Kd.R_reads' (e := 3) (base := w.heap.size) (ok := fun k_ => some k_ ≠ (u11 : Value).ownBlock) (n := x12_1.length) (c := co31) ?_).2.2; exact (by (with_reducible repeat (first | apply Kd.R_alloc | apply Kd.R_drewN | apply Kd.R_drew)); exact (Kd.R_mono (Kd.R_far (p := ⟨gb301, 3, none⟩) (Kd.R_far (p := ⟨gb301, 2, none⟩) (Kd.R_far (p := ⟨gb301, 1, none⟩) (Kd.R_far (p := ⟨gb301, 0, none⟩) (Kd.R_types HO_12.out BK301.out (by decide)) (fun _ hk => hk.2) (.int .i64 ((rd_T33 l0 (rd l3 x13_1)).f0))) (fun _ hk => hk.2) (.slice A300_1 ((rd_T33 l0 (rd l3 x13_1)).f1).length c300_1)) (fun _ hk => hk.2) (.int .i64 ((rd_T33 l0 (rd l3 x13_1)).f2))) (fun _ hk => hk.2) (.int .i64 ((rd_T33 l0 (rd l3 x13_1)).f3))) (fun _ h_ => h_.1)))); (case side4 => exact (Kd.R_reads' HO_12.out).2.1); rintro e w' ⟨rfl, ⟨nd, rfl⟩⟩; (try first | exact ⟨rfl, _, World.drewN_drewN _ _ _⟩ | exact ⟨rfl, _, Eq.trans (World.drewN_drewN _ _ _) (congrArg (World.drewN _) (Nat.add_assoc _ _ _))⟩); have p303 : 0 ≤ (((rd_T33 l0 (rd l3 x13_1)).f2) : Int) := of_decide_eq_true (za); have q303 : ((rd_T33 l0 (rd l3 x13_1)).f2) < (l1.length : Int) := of_decide_eq_true (za); obtain ⟨ad303, e303, hx303_0⟩ := Kd.at_int HR1.out ((rd_T33 l0 (rd l3 x13_1)).f2) p303 q303; cases e303; have hn303_0 : ad303.block ≠ gb301 := Nat.ne_of_lt (Nat.lt_of_lt_of_le (by have := World.block_lt_of_cell? _ _ hx303_0; first | rwa [add_block] at this | exact this) GW301.out); have hn303_1 : ad303.block ≠ gb301 := Nat.ne_of_lt (Nat.lt_of_lt_of_le (by have := World.block_lt_of_cell? _ _ hx303_0; first | rwa [add_block] at this | exact this) GW301.out); have hn303_2 : ad303.block ≠ gb301 := Nat.ne_of_lt (Nat.lt_of_lt_of_le (by have := World.block_lt_of_cell? _ _ hx303_0; first | rwa [add_block] at this | exact this) GW301.out); have hn303_3 : ad303.block ≠ gb301 := Nat.ne_of_lt (Nat.lt_of_lt_of_le (by have := World.block_lt_of_cell? _ _ hx303_0; first | rwa [add_block] at this | exact this) GW301.out); replace hx303_0 := (HB.out.cell (World.block_lt_of_cell? w _ hx303_0)).trans hx303_0; replace hx303_0 := (cell_far (p := ⟨gb301, 0, none⟩) (by first | (rw [add_block]; exact hn303_0) | (show (Addr.add _ _).block ≠ _; rw [add_block]; exact hn303_0) | exact hn303_0) (.int .i64 ((rd_T33 l0 (rd l3 x13_1)).f0))).trans hx303_0; replace hx303_0 := (cell_far (p := ⟨gb301, 1, none⟩) (by first | (rw [add_block]; exact hn303_1) | (show (Addr.add _ _).block ≠ _; rw [add_block]; exact hn303_1) | exact hn303_1) (.slice A300_1 ((rd_T33 l0 (rd l3 x13_1)).f1).length c300_1)).trans hx303_0; replace hx303_0 := (cell_far (p := ⟨gb301, 2, none⟩) (by first | (rw [add_block]; exact hn303_2) | (show (Addr.add _ _).block ≠ _; rw [add_block]; exact hn303_2) | exact hn303_2) (.int .i64 ((rd_T33 l0 (rd l3 x13_1)).f2))).trans hx303_0; replace hx303_0 := (cell_far (p := ⟨gb301, 3, none⟩) (by first | (rw [add_block]; exact hn303_3) | (show (Addr.add _ _).block ≠ _; rw [add_block]; exact hn303_3) | exact hn303_3) (.int .i64 ((rd_T33 l0 (rd l3 x13_1)).f3))).trans hx303_0; (try have hy303_0 := fun (n_ : Nat) => (show ((((((w29.drewN n_).setCell ⟨gb301, 0, none⟩ (.int .i64 ((rd_T33 l0 (rd l3 x13_1)).f0))).setCell ⟨gb301, 1, none⟩ (.slice A300_1 ((rd_T33 l0 (rd l3 x13_1)).f1).length c300_1)).setCell ⟨gb301, 2, none⟩ (.int .i64 ((rd_T33 l0 (rd l3 x13_1)).f2))).setCell ⟨gb301, 3, none⟩ (.int .i64 ((rd_T33 l0 (rd l3 x13_1)).f3)))).cell? _ = some _ from hx303_0)); clear hn303_0 hn303_1 hn303_2 hn303_3; replace p303 := eq_true p303; replace q303 := eq_true q303)); try go_wp2_with (first | ((with_reducible refine gate_dst (N := 14) rfl ?_); (try (refine gate_guard (by rfl) ?_; dsimp only)); refine box_event ?hg (N := 14) ?hd (cs := #[.int .i64 0, .slice none 0 0, .int .i64 0, .int .i64 0]) (t := 33) ?hr ?_; (case hd => rfl); (case hg => rfl); (case hr => first | (go_simp; done) | (go_simp; rfl)); intro gb301 hg w29 hbox hb; have n0_ := Aside0.mk (Kd.R_below (zr HO_11.out) hb); have n1_ := Aside0.mk (Kd.R_below (zr HO_12.out) hb); have n2_ := Aside0.mk (below_step (zb HB.out) hb); have n3_ := Aside0.mk (hbox); have n4_ := Aside0.mk ((by rw [hg]; exact (below_size (zb HB.out)) : w.heap.size ≤ gb301)); have n5_ := Aside0.mk ((by rw [hg]; exact (below_size (zb HB.out)) : w.heap.size ≤ gb301)); clear HO_11 HO_12 HB; have HO_11 := n0_; have HO_12 := n1_; have HB := n2_; have BK301 := n3_; have GW301 := n4_; have GE301 := n5_; clear n0_ n1_ n2_ n3_ n4_ n5_; clear hb hbox hg; have hcz30_0 : w29.cell? ⟨gb301, 0, none⟩ = some (.int .i64 0) := (blk_cell BK301.out 0).trans rfl; have hcz30_1 : w29.cell? ⟨gb301, 1, none⟩ = some (.slice none 0 0) := (blk_cell BK301.out 1).trans rfl; have hcz30_2 : w29.cell? ⟨gb301, 2, none⟩ = some (.int .i64 0) := (blk_cell BK301.out 2).trans rfl; have hcz30_3 : w29.cell? ⟨gb301, 3, none⟩ = some (.int .i64 0) := (blk_cell BK301.out 3).trans rfl; have hfz30_0 := blk_frozen BK301.out 0; have hfz30_1 := blk_frozen BK301.out 1; have hfz30_2 := blk_frozen BK301.out 2; have hfz30_3 := blk_frozen BK301.out 3; obtain ⟨Ao31, co31, eo31⟩ := Kd.R_slice HO_12.out; subst eo31) | (go_at_call 87; (with_reducible refine (spec_used.calls kj9 _ _ l0 _ _ x12_1 ((rd_T33 l0 (rd l3 x13_1)).f2) t302 _ ?side1 ?side2 ?side3 ?side4 A18.out).mono ?_); (case side1 => exact Kd.C_below HR0.out (zg HB.out GE301.out)); (case side2 => exact HC0.out); (case side3 => refine (Kd.R_reads' (e := 3) (base := w.heap.size) (ok := fun k_ => some k_ ≠ (u11 : Value).ownBlock) (n := x12_1.length) (c := co31) ?_).2.2; exact (by (with_reducible repeat (first | apply Kd.R_alloc | apply Kd.R_drewN | apply Kd.R_drew)); exact (Kd.R_mono (Kd.R_far (p := ⟨gb301, 3, none⟩) (Kd.R_far (p := ⟨gb301, 2, none⟩) (Kd.R_far (p := ⟨gb301, 1, none⟩) (Kd.R_far (p := ⟨gb301, 0, none⟩) (Kd.R_types HO_12.out BK301.out (by decide)) (fun _ hk => hk.2) (.int .i64 ((rd_T33 l0 (rd l3 x13_1)).f0))) (fun _ hk => hk.2) (.slice A300_1 ((rd_T33 l0 (rd l3 x13_1)).f1).length c300_1)) (fun _ hk => hk.2) (.int .i64 ((rd_T33 l0 (rd l3 x13_1)).f2))) (fun _ hk => hk.2) (.int .i64 ((rd_T33 l0 (rd l3 x13_1)).f3))) (fun _ h_ => h_.1)))); (case side4 => exact (Kd.R_reads' HO_12.out).2.1); rintro e w' ⟨rfl, ⟨nd, rfl⟩⟩; (try first | exact ⟨rfl, _, World.drewN_drewN _ _ _⟩ | exact ⟨rfl, _, Eq.trans (World.drewN_drewN _ _ _) (congrArg (World.drewN _) (Nat.add_assoc _ _ _))⟩); have p303 : 0 ≤ (((rd_T33 l0 (rd l3 x13_1)).f2) : Int) := of_decide_eq_true (za); have q303 : ((rd_T33 l0 (rd l3 x13_1)).f2) < (l1.length : Int) := of_decide_eq_true (za); obtain ⟨ad303, e303, hx303_0⟩ := Kd.at_int HR1.out ((rd_T33 l0 (rd l3 x13_1)).f2) p303 q303; cases e303; have hn303_0 : ad303.block ≠ gb301 := Nat.ne_of_lt (Nat.lt_of_lt_of_le (by have := World.block_lt_of_cell? _ _ hx303_0; first | rwa [add_block] at this | exact this) GW301.out); have hn303_1 : ad303.block ≠ gb301 := Nat.ne_of_lt (Nat.lt_of_lt_of_le (by have := World.block_lt_of_cell? _ _ hx303_0; first | rwa [add_block] at this | exact this) GW301.out); have hn303_2 : ad303.block ≠ gb301 := Nat.ne_of_lt (Nat.lt_of_lt_of_le (by have := World.block_lt_of_cell? _ _ hx303_0; first | rwa [add_block] at this | exact this) GW301.out); have hn303_3 : ad303.block ≠ gb301 := Nat.ne_of_lt (Nat.lt_of_lt_of_le (by have := World.block_lt_of_cell? _ _ hx303_0; first | rwa [add_block] at this | exact this) GW301.out); replace hx303_0 := (HB.out.cell (World.block_lt_of_cell? w _ hx303_0)).trans hx303_0; replace hx303_0 := (cell_far (p := ⟨gb301, 0, none⟩) (by first | (rw [add_block]; exact hn303_0) | (show (Addr.add _ _).block ≠ _; rw [add_block]; exact hn303_0) | exact hn303_0) (.int .i64 ((rd_T33 l0 (rd l3 x13_1)).f0))).trans hx303_0; replace hx303_0 := (cell_far (p := ⟨gb301, 1, none⟩) (by first | (rw [add_block]; exact hn303_1) | (show (Addr.add _ _).block ≠ _; rw [add_block]; exact hn303_1) | exact hn303_1) (.slice A300_1 ((rd_T33 l0 (rd l3 x13_1)).f1).length c300_1)).trans hx303_0; replace hx303_0 := (cell_far (p := ⟨gb301, 2, none⟩) (by first | (rw [add_block]; exact hn303_2) | (show (Addr.add _ _).block ≠ _; rw [add_block]; exact hn303_2) | exact hn303_2) (.int .i64 ((rd_T33 l0 (rd l3 x13_1)).f2))).trans hx303_0; replace hx303_0 := (cell_far (p := ⟨gb301, 3, none⟩) (by first | (rw [add_block]; exact hn303_3) | (show (Addr.add _ _).block ≠ _; rw [add_block]; exact hn303_3) | exact hn303_3) (.int .i64 ((rd_T33 l0 (rd l3 x13_1)).f3))).trans hx303_0; (try have hy303_0 := fun (n_ : Nat) => (show ((((((w29.drewN n_).setCell ⟨gb301, 0, none⟩ (.int .i64 ((rd_T33 l0 (rd l3 x13_1)).f0))).setCell ⟨gb301, 1, none⟩ (.slice A300_1 ((rd_T33 l0 (rd l3 x13_1)).f1).length c300_1)).setCell ⟨gb301, 2, none⟩ (.int .i64 ((rd_T33 l0 (rd l3 x13_1)).f2))).setCell ⟨gb301, 3, none⟩ (.int .i64 ((rd_T33 l0 (rd l3 x13_1)).f3)))).cell? _ = some _ from hx303_0)); clear hn303_0 hn303_1 hn303_2 hn303_3; replace p303 := eq_true p303; replace q303 := eq_true q303)))
                        go_roundg kj9
                        case measure => have := HK1.out; have := HJ9.out; omega
                        case rel => exact ⟨(x11_1), (x12_1), (wrap64 (x13_1 + 1)), (zf), H', ⟨by have := HK1.out; have := HJ9.out; omega⟩, ⟨by (with_reducible repeat (first | apply Kd.R_alloc | apply Kd.R_drewN | apply Kd.R_drew)); exact Kd.R_mono (Kd.R_far (p := ⟨gb301, 3, none⟩) (Kd.R_far (p := ⟨gb301, 2, none⟩) (Kd.R_far (p := ⟨gb301, 1, none⟩) (Kd.R_far (p := ⟨gb301, 0, none⟩) (Kd.R_types HO_11.out BK301.out (by decide)) (fun _ hk => hk.2) (.int .i64 ((rd_T33 l0 (rd l3 x13_1)).f0))) (fun _ hk => hk.2) (.slice A300_1 ((rd_T33 l0 (rd l3 x13_1)).f1).length c300_1)) (fun _ hk => hk.2) (.int .i64 ((rd_T33 l0 (rd l3 x13_1)).f2))) (fun _ hk => hk.2) (.int .i64 ((rd_T33 l0 (rd l3 x13_1)).f3))) (fun _ hk => hk.1)⟩, ⟨by (with_reducible repeat (first | apply Kd.R_alloc | apply Kd.R_drewN | apply Kd.R_drew)); exact Kd.R_mono (Kd.R_far (p := ⟨gb301, 3, none⟩) (Kd.R_far (p := ⟨gb301, 2, none⟩) (Kd.R_far (p := ⟨gb301, 1, none⟩) (Kd.R_far (p := ⟨gb301, 0, none⟩) (Kd.R_types HO_12.out BK301.out (by decide)) (fun _ hk => hk.2) (.int .i64 ((rd_T33 l0 (rd l3 x13_1)).f0))) (fun _ hk => hk.2) (.slice A300_1 ((rd_T33 l0 (rd l3 x13_1)).f1).length c300_1)) (fun _ hk => hk.2) (.int .i64 ((rd_T33 l0 (rd l3 x13_1)).f2))) (fun _ hk => hk.2) (.int .i64 ((rd_T33 l0 (rd l3 x13_1)).f3))) (fun _ hk => hk.1)⟩, ⟨zg HB.out GE301.out⟩⟩
                      rw [if_neg c20] at H
                      exact absurd H (by simp)
                    rw [if_neg c19] at H
                    exact absurd H (by simp)
                  rw [if_neg c17] at H
                  exact absurd H (by simp)
                rw [if_neg c16] at H
                exact absurd H (by simp)
              rw [if_neg c15] at H
              exact absurd H (by simp)
            rw [if_neg c14] at H
            exact absurd H (by simp)
          replace c13 := Bool.eq_false_iff.mpr c13
          subst c13
          have H1 : (some x11_1) = some r := by rw [if_neg (show ¬ (false = true) by decide)] at H; exact H
          clear H
          have H := H1
          clear H1
          obtain rfl := Option.some.inj H
          go_wp2
          repeat (go_quiet (fail); try go_wp2)
          go_ret
          exact ⟨_, ze, by (with_reducible repeat (first | apply Kd.R_alloc | apply Kd.R_drewN | apply Kd.R_drew)); exact Kd.R_mono HO_11.out (fun _ hk => trivial), zb HB.out⟩

mutual
def spec_tails.l0 : Nat → List (S33) → List Int → List Int → Int → Option (List Int)
  | 0, _, _, _, _ => none
  | k + 1, x0, x3, x4, x5 => if x5 ≥ 0 then (if 0 ≤ x5 then (if x5 < (x4.length : Int) then (spec_tails.l1 k x0 x3 x4 x5 (rd x4 x5) 0 0) else (none)) else (none)) else (some x3)
def spec_tails.l1 : Nat → List (S33) → List Int → List Int → Int → Int → Int → Int → Option (List Int)
  | 0, _, _, _, _, _, _, _ => none
  | k + 1, x0, x3, x4, x5, x6, x7, x8 => if x8 < (x0.length : Int) then (if 0 ≤ x8 then ((spec_isIn.f k ((rd_T33 x0 x8).f1) x6).bind fun t320 => (if t320 = true then (if x8 < (x3.length : Int) then (spec_tails.l1 k x0 x3 x4 x5 x6 (mx x7 (rd x3 x8)) (wrap64 (x8 + 1))) else (none)) else (spec_tails.l1 k x0 x3 x4 x5 x6 x7 (wrap64 (x8 + 1))))) else (none)) else (if 0 ≤ x6 then (if x6 < (x0.length : Int) then (if x6 < (x3.length : Int) then (spec_tails.l0 k x0 (x3.set (x6 : Int).toNat (wrap64 (x7 + ((rd_T33 x0 x6).f0)))) x4 (wrap64 (x5 - 1))) else (none)) else (none)) else (none))
end
def spec_tails.f (k : Nat) (l0 : List (S33)) : Option (List Int) := if 0 ≤ (l0.length : Int) then (if ((l0.length : Int) : Int).toNat ≤ 35184372088832 then ((spec_topOrder.f k l0).bind fun t315 => (spec_tails.l0 k l0 (List.replicate ((l0.length : Int) : Int).toNat 0) t315 (wrap64 ((t315.length : Int) - 1)))) else (none)) else (none)
set_option maxHeartbeats 8000000 in
set_option maxRecDepth 100000 in
theorem spec_tails.calls (k : Nat) (A0 : Option Addr) (c0 : Nat) (l0 : List (S33)) (r : List Int) (w : World) (hr0 : Kd.C k33 w A0 l0.length l0) (hc0 : l0.length ≤ c0) (h : spec_tails.f k l0 = some r) :
    Calls Tryd.prog 111 #[.slice A0 l0.length c0] w fun e w' => ∃ v0_ : Value, e = .returned (v0_) ∧ Kd.R (Kd.int .i64) 3 w' w.heap.size (fun _ => True) v0_ r ∧ Below w.heap.size w w' := by
  have HR0 := Aside0.mk hr0
  have HC0 := Aside0.mk hc0
  clear hr0 hc0
  have HB := Aside0.mk (Below.refl w.heap.size w)
  have H : (if 0 ≤ (l0.length : Int) then (if ((l0.length : Int) : Int).toNat ≤ 35184372088832 then ((spec_topOrder.f k l0).bind fun t315 => (spec_tails.l0 k l0 (List.replicate ((l0.length : Int) : Int).toNat 0) t315 (wrap64 ((t315.length : Int) - 1)))) else (none)) else (none)) = some r := h
  clear h
  by_cases c2 : 0 ≤ (l0.length : Int)
  · rw [if_pos c2] at H
    have c2b0 := eq_true c2
    have c2b1 : decide (0 ≤ (l0.length : Int)) = true := decide_eq_true c2
    clear c2
    by_cases c3 : ((l0.length : Int) : Int).toNat ≤ 35184372088832
    · rw [if_pos c3] at H
      have c3b0 := eq_true c3
      have c3b1 : decide (((l0.length : Int) : Int).toNat ≤ 35184372088832) = true := decide_eq_true c3
      clear c3
      obtain ⟨y312, hy312⟩ : ∃ y_ : List Int, y_ = (List.replicate ((l0.length : Int) : Int).toNat 0) := ⟨_, rfl⟩
      replace H : ((spec_topOrder.f k l0).bind fun t315 => (spec_tails.l0 k l0 y312 t315 (wrap64 ((t315.length : Int) - 1)))) = some r := by first | (rw [hy312]; with_reducible exact H) | (have H2_ := (Option.bind_some _ _).symm.trans H; rw [hy312]; with_reducible exact H2_) | (have H2_ := (Option.bind_some _ _).symm.trans H; with_reducible exact H2_) | with_reducible exact H | (rw [hy312]; exact H) | exact H
      have Ny312 := Aside0.mk hy312
      clear hy312
      replace H := Option.bind_eq_some_iff.mp H
      obtain ⟨t315, A40, H⟩ := H
      replace H : (spec_tails.l0 k l0 y312 t315 (wrap64 ((t315.length : Int) - 1))) = some r := H
      have A4 := Aside0.mk A40
      clear A40
      have H' := Aside0.mk H
      clear H
      go_enter Tryd.func111, Tryd.ntmps111
      go_wp2_with (first | ((with_reducible refine gate_dst (N := 11) rfl ?_); refine Kd.R_make (Kd.int .i64) _ 3 rfl (N := 11) rfl 24 _ _ rfl (l0.length : Int) rfl rfl Tryd.underlying24 (.int .i64 0) 8 info3 rfl (by decide) (by omega) 0 (ok := fun _ => True) (okp := fun _ => True) rfl (fun _ hk => hk) trivial (of_decide_eq_true (za)) (Nat.le_trans (Nat.mul_le_mul_right _ (of_decide_eq_true (za) : (l0.length : Int).toNat ≤ 35184372088832)) (by omega)) (Below.refl _ _) (Nat.le_refl _) ?_; intro v313 w5 ho6 hb hg_ hnew_; clear hg_ hnew_; (first | rw [← Ny312.out] at ho6 | (simp only [Int.reduceToNat] at ho6; rw [← Ny312.out] at ho6)); have n0_ := Aside0.mk (Kd.R_lower ho6 (below_size (zb HB.out))); have n1_ := Aside0.mk (below_step (zb HB.out) hb); clear HB; have HO314 := n0_; have HB := n1_; clear n0_ n1_; clear hb ho6) | ((with_reducible refine gate_callee (f := 85) rfl ?_); refine goesL_ (some 13) rfl rfl Tryd.func85 (by kernel_rfl) rfl #[.slice A0 l0.length c0] rfl (by (try simp only [List.map_toArray, List.map_cons, List.map_nil]); first | done | rfl | (simp only [List.length_drop, List.length_take]; rfl)) ?_; (with_reducible refine (spec_topOrder.calls k _ _ l0 t315 _ ?side1 ?side2 A4.out).mono ?_); (case side1 => exact zt (Kd.C_below HR0.out HB.out)); (case side2 => exact HC0.out); rintro e w7 ⟨v316, rfl, ho0, hb⟩; refine ⟨_, rfl, ?_⟩; have n0_ := Aside0.mk (Kd.R_elder' (zr HO314.out) (Kd.R_base ho0) hb); have n1_ := Aside0.mk (Kd.R_lower (Kd.R_new' ho0 (Kd.R_lt (zr HO314.out))) (below_size (zb HB.out))); have n2_ := Aside0.mk (below_step (zb HB.out) hb); clear HO314 HB; have HO314 := n0_; have HO317 := n1_; have HB := n2_; clear n0_ n1_ n2_; (try clear hb); (try clear ho0); obtain ⟨Ao8, co8, eo8⟩ := Kd.R_slice HO317.out; subst eo8))
      go_loopg [5] k (fun kq v5 w' => ∃ (x3_1 : List Int) (x5_1 : Int), v5 = .int .i64 x5_1 ∧ Aside0 (spec_tails.l0 kq l0 x3_1 t315 x5_1 = some r) ∧ Aside0 (kq ≤ k) ∧ Aside0 (Kd.R (Kd.int .i64) 3 w' w.heap.size (fun k_ => some k_ ≠ ((.slice Ao8 t315.length co8) : Value).ownBlock) v313 x3_1) ∧ Aside0 (Kd.R (Kd.int .i64) 3 w' w.heap.size (fun k_ => some k_ ≠ (v313 : Value).ownBlock) (.slice Ao8 t315.length co8) t315) ∧ Aside0 (Below w.heap.size w w'))
      case atStart => exact ⟨(y312), (wrap64 ((t315.length : Int) - 1)), (zf), H', ⟨Nat.le_refl _⟩, ⟨by (with_reducible repeat (first | apply Kd.R_alloc | apply Kd.R_drewN | apply Kd.R_drew)); exact Kd.R_mono HO314.out (fun _ hk => hk.2)⟩, ⟨by (with_reducible repeat (first | apply Kd.R_alloc | apply Kd.R_drewN | apply Kd.R_drew)); exact Kd.R_mono HO317.out (fun _ hk => hk.2)⟩, ⟨zb HB.out⟩⟩
      case round =>
        clear H'
        try clear c1
        try clear c2
        try clear c2b0
        try clear c2b1
        try clear p2
        try clear c3
        try clear c3b0
        try clear c3b1
        try clear p6
        try clear c8
        obtain ⟨x3_1, x5_1, rfl, HA, HK1, HO_3, HO_4, HB⟩ := hrel
        cases gk with
        | zero => exact absurd HA.out (by simp [spec_tails.l0])
        | succ k1 =>
          have H := HA.out
          clear HA
          simp only [spec_tails.l0] at H
          by_cases c9 : x5_1 ≥ 0
          · rw [if_pos c9] at H
            have c9b0 : decide (0 ≤ x5_1) = true := decide_eq_true c9
            clear c9
            by_cases c10 : 0 ≤ x5_1
            · rw [if_pos c10] at H
              have c10b0 : decide (0 ≤ x5_1) = true := decide_eq_true c10
              clear c10
              by_cases c11 : x5_1 < (t315.length : Int)
              · rw [if_pos c11] at H
                have c11b0 : decide (x5_1 < (t315.length : Int)) = true := decide_eq_true c11
                clear c11
                have H' := Aside0.mk H
                clear H
                have p318 : 0 ≤ (x5_1 : Int) := of_decide_eq_true (za)
                have q318 : x5_1 < (t315.length : Int) := of_decide_eq_true (za)
                obtain ⟨ad318, e318, hx318_0⟩ := Kd.at_int (Kd.R_reads' HO_4.out).2.2 x5_1 p318 q318
                cases e318
                replace p318 := eq_true p318
                replace q318 := eq_true q318
                go_wp2
                go_loopg [7, 8] k1 (fun kq v7 v8 w' => ∃ (x7_2 : Int) (x8_2 : Int), v7 = .int .i64 x7_2 ∧ v8 = .int .i64 x8_2 ∧ Aside0 (spec_tails.l1 kq l0 x3_1 t315 x5_1 (rd t315 x5_1) x7_2 x8_2 = some r) ∧ Aside0 (kq ≤ k1) ∧ Aside0 (Kd.R (Kd.int .i64) 3 w' w.heap.size (fun k_ => some k_ ≠ ((.slice (some ad318) t315.length co8) : Value).ownBlock) v313 x3_1) ∧ Aside0 (Kd.R (Kd.int .i64) 3 w' w.heap.size (fun k_ => some k_ ≠ (v313 : Value).ownBlock) (.slice (some ad318) t315.length co8) t315) ∧ Aside0 (Below w.heap.size w w'))
                case atStart => exact ⟨(0), (0), (zf), (zf), H', ⟨Nat.le_refl _⟩, ⟨by (with_reducible repeat (first | apply Kd.R_alloc | apply Kd.R_drewN | apply Kd.R_drew)); exact HO_3.out⟩, ⟨by (with_reducible repeat (first | apply Kd.R_alloc | apply Kd.R_drewN | apply Kd.R_drew)); exact HO_4.out⟩, ⟨zb HB.out⟩⟩
                case round =>
                  clear H'
                  try clear c1
                  try clear c2
                  try clear c2b0
                  try clear c2b1
                  try clear p2
                  try clear c3
                  try clear c3b0
                  try clear c3b1
                  try clear p3
                  try clear q3
                  try clear hx3
                  try clear p6
                  try clear c8
                  try clear c9
                  try clear c9b0
                  try clear c10
                  try clear c10b0
                  try clear c11
                  try clear c11b0
                  try clear hx318_0
                  try clear p2
                  try clear p318
                  try clear p6
                  try clear q318
                  obtain ⟨x7_2, x8_2, rfl, rfl, HA, HK2, HO_3, HO_4, HB⟩ := hrel
                  cases gk with
                  | zero => exact absurd HA.out (by simp [spec_tails.l1])
                  | succ k2 =>
                    have H := HA.out
                    clear HA
                    simp only [spec_tails.l1] at H
                    by_cases c12 : x8_2 < (l0.length : Int)
                    · rw [if_pos c12] at H
                      have c12b0 : decide (x8_2 < (l0.length : Int)) = true := decide_eq_true c12
                      clear c12
                      by_cases c13 : 0 ≤ x8_2
                      · rw [if_pos c13] at H
                        have c13b0 : decide (0 ≤ x8_2) = true := decide_eq_true c13
                        clear c13
                        replace H := Option.bind_eq_some_iff.mp H
                        obtain ⟨t320, A140, H⟩ := H
                        replace H : (if t320 = true then (if x8_2 < (x3_1.length : Int) then (spec_tails.l1 k2 l0 x3_1 t315 x5_1 (rd t315 x5_1) (mx x7_2 (rd x3_1 x8_2)) (wrap64 (x8_2 + 1))) else (none)) else (spec_tails.l1 k2 l0 x3_1 t315 x5_1 (rd t315 x5_1) x7_2 (wrap64 (x8_2 + 1)))) = some r := H
                        have A14 := Aside0.mk A140
                        clear A140
                        by_cases c15 : t320 = true
                        · subst c15
                          have H1 : (if x8_2 < (x3_1.length : Int) then (spec_tails.l1 k2 l0 x3_1 t315 x5_1 (rd t315 x5_1) (mx x7_2 (rd x3_1 x8_2)) (wrap64 (x8_2 + 1))) else (none)) = some r := by rw [if_pos rfl] at H; exact H
                          clear H
                          have H := H1
                          clear H1
                          by_cases c16 : x8_2 < (x3_1.length : Int)
                          · rw [if_pos c16] at H
                            have c16b0 : decide (x8_2 < (x3_1.length : Int)) = true := decide_eq_true c16
                            clear c16
                            obtain ⟨ji17, hji17⟩ : ∃ j_ : Int, (mx x7_2 (rd x3_1 x8_2)) = j_ := ⟨_, rfl⟩
                            replace H : (spec_tails.l1 k2 l0 x3_1 t315 x5_1 (rd t315 x5_1) ji17 (wrap64 (x8_2 + 1))) = some r := by first | (rw [hji17] at H; exact H) | (simp only [hji17] at H ⊢; exact H)
                            (try rw [hji17] at A14)
                            have hji17_ : (if x7_2 < (rd x3_1 x8_2) then (rd x3_1 x8_2) else x7_2) = ji17 := hji17
                            have H' := Aside0.mk H
                            clear H
                            have p319 : 0 ≤ (x8_2 : Int) := of_decide_eq_true (za)
                            have q319 : x8_2 < (l0.length : Int) := of_decide_eq_true (za)
                            obtain ⟨ad319, A319_1, c319_1, e319, hx319_0, hx319_1, hx319_2, hx319_3, hl319_1, hi319_1⟩ := at_T33 HR0.out x8_2 p319 q319
                            cases e319
                            replace hx319_0 := (HB.out.cell (World.block_lt_of_cell? w _ hx319_0)).trans hx319_0
                            replace hx319_1 := (HB.out.cell (World.block_lt_of_cell? w _ hx319_1)).trans hx319_1
                            replace hx319_2 := (HB.out.cell (World.block_lt_of_cell? w _ hx319_2)).trans hx319_2
                            replace hx319_3 := (HB.out.cell (World.block_lt_of_cell? w _ hx319_3)).trans hx319_3
                            have HR319_1 := Aside0.mk hi319_1
                            have HC319_1 := Aside0.mk hl319_1
                            clear hi319_1 hl319_1
                            replace p319 := eq_true p319
                            replace q319 := eq_true q319
                            go_wp2_with (first | ((with_reducible refine gate_callee (f := 99) rfl ?_); refine goesL_ (some 37) rfl rfl Tryd.func99 (by kernel_rfl) rfl #[.slice A319_1 ((rd_T33 l0 x8_2).f1).length c319_1, .int .i64 (rd t315 x5_1)] rfl (by (try simp only [List.map_toArray, List.map_cons, List.map_nil]); first | done | rfl | (simp only [List.length_drop, List.length_take]; rfl)) ?_; (with_reducible refine (spec_isIn.calls k2 _ _ ((rd_T33 l0 x8_2).f1) (rd t315 x5_1) true _ ?side1 ?side2 A14.out).mono ?_); (case side1 => exact zt (Kd.C_below HR319_1.out HB.out)); (case side2 => exact HC319_1.out); rintro e w' ⟨rfl, ⟨nd, rfl⟩⟩; refine ⟨_, rfl, ?_⟩; obtain ⟨Ao18, co18, eo18⟩ := Kd.R_slice HO_3.out; subst eo18; have p321 : 0 ≤ (x8_2 : Int) := of_decide_eq_true (za); have q321 : x8_2 < (x3_1.length : Int) := of_decide_eq_true (za); obtain ⟨ad321, e321, hx321_0⟩ := Kd.at_int (Kd.R_reads' HO_3.out).2.2 x8_2 p321 q321; cases e321; replace p321 := eq_true p321; replace q321 := eq_true q321))
                            go_roundg k2
                            case measure => have := HK1.out; have := HK2.out; omega
                            case rel => exact ⟨(ji17), (wrap64 (x8_2 + 1)), (by first | rfl | (simp; done) | (simp only [← hji17] <;> (first | rfl | simp)) | (simp [*]; done)), (zf), H', ⟨by have := HK1.out; have := HK2.out; omega⟩, ⟨by (with_reducible repeat (first | apply Kd.R_alloc | apply Kd.R_drewN | apply Kd.R_drew)); exact HO_3.out⟩, ⟨by (with_reducible repeat (first | apply Kd.R_alloc | apply Kd.R_drewN | apply Kd.R_drew)); exact HO_4.out⟩, ⟨zb HB.out⟩⟩
                          rw [if_neg c16] at H
                          exact absurd H (by simp)
                        replace c15 := Bool.eq_false_iff.mpr c15
                        subst c15
                        have H1 : (spec_tails.l1 k2 l0 x3_1 t315 x5_1 (rd t315 x5_1) x7_2 (wrap64 (x8_2 + 1))) = some r := by rw [if_neg (show ¬ (false = true) by decide)] at H; exact H
                        clear H
                        have H := H1
                        clear H1
                        have H' := Aside0.mk H
                        clear H
                        have p319 : 0 ≤ (x8_2 : Int) := of_decide_eq_true (za)
                        have q319 : x8_2 < (l0.length : Int) := of_decide_eq_true (za)
                        obtain ⟨ad319, A319_1, c319_1, e319, hx319_0, hx319_1, hx319_2, hx319_3, hl319_1, hi319_1⟩ := at_T33 HR0.out x8_2 p319 q319
                        cases e319
                        replace hx319_0 := (HB.out.cell (World.block_lt_of_cell? w _ hx319_0)).trans hx319_0
                        replace hx319_1 := (HB.out.cell (World.block_lt_of_cell? w _ hx319_1)).trans hx319_1
                        replace hx319_2 := (HB.out.cell (World.block_lt_of_cell? w _ hx319_2)).trans hx319_2
                        replace hx319_3 := (HB.out.cell (World.block_lt_of_cell? w _ hx319_3)).trans hx319_3
                        have HR319_1 := Aside0.mk hi319_1
                        have HC319_1 := Aside0.mk hl319_1
                        clear hi319_1 hl319_1
                        replace p319 := eq_true p319
                        replace q319 := eq_true q319
                        go_wp2_with (first | ((with_reducible refine gate_callee (f := 99) rfl ?_); refine goesL_ (some 37) rfl rfl Tryd.func99 (by kernel_rfl) rfl #[.slice A319_1 ((rd_T33 l0 x8_2).f1).length c319_1, .int .i64 (rd t315 x5_1)] rfl (by (try simp only [List.map_toArray, List.map_cons, List.map_nil]); first | done | rfl | (simp only [List.length_drop, List.length_take]; rfl)) ?_; (with_reducible refine (spec_isIn.calls k2 _ _ ((rd_T33 l0 x8_2).f1) (rd t315 x5_1) false _ ?side1 ?side2 A14.out).mono ?_); (case side1 => exact zt (Kd.C_below HR319_1.out HB.out)); (case side2 => exact HC319_1.out); rintro e w' ⟨rfl, ⟨nd, rfl⟩⟩; refine ⟨_, rfl, ?_⟩))
                        go_roundg k2
                        case measure => have := HK1.out; have := HK2.out; omega
                        case rel => exact ⟨(x7_2), (wrap64 (x8_2 + 1)), (zf), (zf), H', ⟨by have := HK1.out; have := HK2.out; omega⟩, ⟨by (with_reducible repeat (first | apply Kd.R_alloc | apply Kd.R_drewN | apply Kd.R_drew)); exact HO_3.out⟩, ⟨by (with_reducible repeat (first | apply Kd.R_alloc | apply Kd.R_drewN | apply Kd.R_drew)); exact HO_4.out⟩, ⟨zb HB.out⟩⟩
                      rw [if_neg c13] at H
                      exact absurd H (by simp)
                    rw [if_neg c12] at H
                    have c12b0 : decide (x8_2 < (l0.length : Int)) = false := decide_eq_false c12
                    clear c12
                    by_cases c19 : 0 ≤ (rd t315 x5_1)
                    · rw [if_pos c19] at H
                      have c19b0 : decide (0 ≤ (rd t315 x5_1)) = true := decide_eq_true c19
                      clear c19
                      by_cases c20 : (rd t315 x5_1) < (l0.length : Int)
                      · rw [if_pos c20] at H
                        have c20b0 : decide ((rd t315 x5_1) < (l0.length : Int)) = true := decide_eq_true c20
                        clear c20
                        by_cases c21 : (rd t315 x5_1) < (x3_1.length : Int)
                        · rw [if_pos c21] at H
                          have c21b0 : decide ((rd t315 x5_1) < (x3_1.length : Int)) = true := decide_eq_true c21
                          clear c21
                          obtain ⟨y323, hy323⟩ : ∃ y_ : List Int, y_ = (x3_1.set ((rd t315 x5_1) : Int).toNat (wrap64 (x7_2 + ((rd_T33 l0 (rd t315 x5_1)).f0)))) := ⟨_, rfl⟩
                          replace H : (spec_tails.l0 k2 l0 y323 t315 (wrap64 (x5_1 - 1))) = some r := by first | (rw [hy323]; with_reducible exact H) | (have H2_ := (Option.bind_some _ _).symm.trans H; rw [hy323]; with_reducible exact H2_) | (have H2_ := (Option.bind_some _ _).symm.trans H; with_reducible exact H2_) | with_reducible exact H | (rw [hy323]; exact H) | exact H
                          have Ny323 := Aside0.mk hy323
                          clear hy323
                          have H' := Aside0.mk H
                          clear H
                          have p322 : 0 ≤ ((rd t315 x5_1) : Int) := of_decide_eq_true (za)
                          have q322 : (rd t315 x5_1) < (l0.length : Int) := of_decide_eq_true (za)
                          obtain ⟨ad322, A322_1, c322_1, e322, hx322_0, hx322_1, hx322_2, hx322_3, hl322_1, hi322_1⟩ := at_T33 HR0.out (rd t315 x5_1) p322 q322
                          cases e322
                          replace hx322_0 := (HB.out.cell (World.block_lt_of_cell? w _ hx322_0)).trans hx322_0
                          replace hx322_1 := (HB.out.cell (World.block_lt_of_cell? w _ hx322_1)).trans hx322_1
                          replace hx322_2 := (HB.out.cell (World.block_lt_of_cell? w _ hx322_2)).trans hx322_2
                          replace hx322_3 := (HB.out.cell (World.block_lt_of_cell? w _ hx322_3)).trans hx322_3
                          have HR322_1 := Aside0.mk hi322_1
                          have HC322_1 := Aside0.mk hl322_1
                          clear hi322_1 hl322_1
                          replace p322 := eq_true p322
                          replace q322 := eq_true q322
                          have p22 : 0 ≤ ((rd t315 x5_1) : Int) := of_decide_eq_true (za)
                          have q22 : ((rd t315 x5_1) : Int) < ((x3_1.length : Int) : Int) := of_decide_eq_true (za)
                          obtain ⟨go22, co22, eo22, gb22, gl22, cl22, HG22⟩ := Kd.R_form HO_3.out (by omega)
                          (first | cases eo22 | (injection eo22 with ea_ en_ ec_; (first | subst ea_ | (injection ea_ with ea_; subst ea_)); subst ec_; clear en_))
                          have GB22 := Aside0.mk gb22
                          have GG22 := Aside0.mk HG22
                          clear gb22 gl22 HG22
                          obtain ⟨hx22_0, hf22_0⟩ := Kd.R_celln 0 HO_3.out ((rd t315 x5_1) : Int) p22 q22
                          replace p22 := eq_true p22
                          replace q22 := eq_true q22
                          have HP23 := Kd.R_putg HO_3.out ((rd t315 x5_1) : Int) (wrap64 (x7_2 + ((rd_T33 l0 (rd t315 x5_1)).f0)))
                          go_wp2_with (first | ((with_reducible refine gate_store (t := 3) (p := 53) rfl ?_); refine store_event (t := 3) (p := 53) (v := ?vo_w24) (w1 := (wr.setCell ⟨go22, ((rd t315 x5_1) : Int).toNat, none⟩ (.int .i64 (wrap64 (x7_2 + ((rd_T33 l0 (rd t315 x5_1)).f0)))))) ?hg ?ho ?hn ?hr ?_; (case ho => rfl); (case hg => rfl); (case hn => rfl); (case hr => first | (go_simp; done) | (go_simp; rfl)); intro w24 hw; have hg : wr.grownBy w24 (some go22) := (by rw [hw]; exact HP23.2); have hp_ : Kd.R (Kd.int .i64) 3 w24 w.heap.size (fun k_ => some k_ ≠ (.slice (some ad318) t315.length co8 : Value).ownBlock) (.slice (some ⟨go22, 0, none⟩) x3_1.length co22) y323 := (by rw [hw, Ny323.out]; exact HP23.1); clear HP23; have n0_ := Aside0.mk (hp_); have n1_ := Aside0.mk (Kd.R_after (v := (.slice (some ⟨go22, 0, none⟩) x3_1.length co22)) (v1 := (.slice (some ⟨go22, 0, none⟩) x3_1.length co22)) (ok := (fun _ => True)) (by (with_reducible repeat (first | apply Kd.R_alloc | apply Kd.R_drewN | apply Kd.R_drew)); exact Kd.R_mono HO_4.out (fun _ hk => ⟨trivial, hk⟩)) hg (.inl rfl)); have n2_ := Aside0.mk ((by rw [hw]; exact below_set (HB.out) GB22.out : Below w.heap.size w w24)); clear HO_3 HO_4 HB; have HO_3 := n0_; have HO_4 := n1_; have HB := n2_; clear n0_ n1_ n2_; clear hg hw hp_))
                          go_roundg k2
                          case measure => have := HK1.out; have := HK2.out; omega
                          case rel => exact ⟨(y323), (wrap64 (x5_1 - 1)), (zf), H', ⟨by have := HK1.out; have := HK2.out; omega⟩, ⟨by (with_reducible repeat (first | apply Kd.R_alloc | apply Kd.R_drewN | apply Kd.R_drew)); exact HO_3.out⟩, ⟨by (with_reducible repeat (first | apply Kd.R_alloc | apply Kd.R_drewN | apply Kd.R_drew)); exact Kd.R_mono HO_4.out (fun _ hk => hk.2)⟩, ⟨zb HB.out⟩⟩
                        rw [if_neg c21] at H
                        exact absurd H (by simp)
                      rw [if_neg c20] at H
                      exact absurd H (by simp)
                    rw [if_neg c19] at H
                    exact absurd H (by simp)
              rw [if_neg c11] at H
              exact absurd H (by simp)
            rw [if_neg c10] at H
            exact absurd H (by simp)
          rw [if_neg c9] at H
          have c9b0 : decide (0 ≤ x5_1) = false := decide_eq_false c9
          clear c9
          obtain rfl := Option.some.inj H
          go_wp2
          go_ret
          exact ⟨_, ze, by (with_reducible repeat (first | apply Kd.R_alloc | apply Kd.R_drewN | apply Kd.R_drew)); exact Kd.R_mono HO_3.out (fun _ hk => trivial), zb HB.out⟩
    rw [if_neg c3] at H
    exact absurd H (by simp)
  rw [if_neg c2] at H
  exact absurd H (by simp)

def spec_sooner.f (l0 : List Int) (a1 : Int) (a2 : Int) : Option (Bool) := if 0 ≤ a1 then (if a1 < (l0.length : Int) then (if 0 ≤ a2 then (if a2 < (l0.length : Int) then (if (rd l0 a1) > (rd l0 a2) then (some true) else (if (rd l0 a1) = (rd l0 a2) then (some (decide (a1 < a2))) else (some false))) else (none)) else (none)) else (none)) else (none)
set_option maxHeartbeats 8000000 in
set_option maxRecDepth 100000 in
theorem spec_sooner.calls (A0 : Option Addr) (c0 : Nat) (l0 : List Int) (a1 : Int) (a2 : Int) (r : Bool) (w : World) (hr0 : Kd.C (Kd.int .i64) w A0 l0.length l0) (hc0 : l0.length ≤ c0) (h : spec_sooner.f l0 a1 a2 = some r) :
    Calls Tryd.prog 112 #[.slice A0 l0.length c0, .int .i64 a1, .int .i64 a2] w fun e w' => e = .returned (.bool r) ∧ Drawn0 w w' := by
  have HR0 := Aside0.mk hr0
  have HC0 := Aside0.mk hc0
  clear hr0 hc0
  have H : (if 0 ≤ a1 then (if a1 < (l0.length : Int) then (if 0 ≤ a2 then (if a2 < (l0.length : Int) then (if (rd l0 a1) > (rd l0 a2) then (some true) else (if (rd l0 a1) = (rd l0 a2) then (some (decide (a1 < a2))) else (some false))) else (none)) else (none)) else (none)) else (none)) = some r := h
  clear h
  by_cases c4 : 0 ≤ a1
  · rw [if_pos c4] at H
    have c4b0 : decide (0 ≤ a1) = true := decide_eq_true c4
    clear c4
    by_cases c5 : a1 < (l0.length : Int)
    · rw [if_pos c5] at H
      have c5b0 : decide (a1 < (l0.length : Int)) = true := decide_eq_true c5
      clear c5
      by_cases c6 : 0 ≤ a2
      · rw [if_pos c6] at H
        have c6b0 : decide (0 ≤ a2) = true := decide_eq_true c6
        clear c6
        by_cases c7 : a2 < (l0.length : Int)
        · rw [if_pos c7] at H
          have c7b0 : decide (a2 < (l0.length : Int)) = true := decide_eq_true c7
          clear c7
          by_cases c8 : (rd l0 a1) > (rd l0 a2)
          · rw [if_pos c8] at H
            have c8b0 : decide ((rd l0 a2) < (rd l0 a1)) = true := decide_eq_true c8
            clear c8
            obtain rfl := Option.some.inj H
            have p324 : 0 ≤ (a1 : Int) := of_decide_eq_true (za)
            have q324 : a1 < (l0.length : Int) := of_decide_eq_true (za)
            obtain ⟨ad324, e324, hx324_0⟩ := Kd.at_int HR0.out a1 p324 q324
            cases e324
            replace p324 := eq_true p324
            replace q324 := eq_true q324
            have p325 : 0 ≤ (a2 : Int) := of_decide_eq_true (za)
            have q325 : a2 < (l0.length : Int) := of_decide_eq_true (za)
            obtain ⟨ad325, e325, hx325_0⟩ := Kd.at_int HR0.out a2 p325 q325
            obtain rfl : ad324 = ad325 := (by injection e325)
            replace p325 := eq_true p325
            replace q325 := eq_true q325
            go_enter Tryd.func112, Tryd.ntmps112
            go_wp2
            repeat (go_quiet (fail); try go_wp2)
            go_ret
            exact ⟨zf, zd⟩
          rw [if_neg c8] at H
          have c8b0 : decide ((rd l0 a2) < (rd l0 a1)) = false := decide_eq_false c8
          clear c8
          by_cases c9 : (rd l0 a1) = (rd l0 a2)
          · rw [if_pos c9] at H
            have c9b0 : ((rd l0 a1) == (rd l0 a2)) = true := beq_iff_eq.mpr c9
            have c9b1 : ((rd l0 a1) != (rd l0 a2)) = false := bne_eq_false_iff_eq.mpr c9
            clear c9
            obtain rfl := Option.some.inj H
            have p324 : 0 ≤ (a1 : Int) := of_decide_eq_true (za)
            have q324 : a1 < (l0.length : Int) := of_decide_eq_true (za)
            obtain ⟨ad324, e324, hx324_0⟩ := Kd.at_int HR0.out a1 p324 q324
            cases e324
            replace p324 := eq_true p324
            replace q324 := eq_true q324
            have p325 : 0 ≤ (a2 : Int) := of_decide_eq_true (za)
            have q325 : a2 < (l0.length : Int) := of_decide_eq_true (za)
            obtain ⟨ad325, e325, hx325_0⟩ := Kd.at_int HR0.out a2 p325 q325
            obtain rfl : ad324 = ad325 := (by injection e325)
            replace p325 := eq_true p325
            replace q325 := eq_true q325
            have p326 : 0 ≤ (a1 : Int) := of_decide_eq_true (za)
            have q326 : a1 < (l0.length : Int) := of_decide_eq_true (za)
            obtain ⟨ad326, e326, hx326_0⟩ := Kd.at_int HR0.out a1 p326 q326
            obtain rfl : ad324 = ad326 := (by injection e326)
            replace p326 := eq_true p326
            replace q326 := eq_true q326
            have p327 : 0 ≤ (a2 : Int) := of_decide_eq_true (za)
            have q327 : a2 < (l0.length : Int) := of_decide_eq_true (za)
            obtain ⟨ad327, e327, hx327_0⟩ := Kd.at_int HR0.out a2 p327 q327
            obtain rfl : ad324 = ad327 := (by injection e327)
            replace p327 := eq_true p327
            replace q327 := eq_true q327
            go_enter Tryd.func112, Tryd.ntmps112
            go_wp2
            repeat (go_quiet (fail); try go_wp2)
            go_ret
            exact ⟨zf, zd⟩
          rw [if_neg c9] at H
          have c9b0 : ((rd l0 a1) == (rd l0 a2)) = false := beq_eq_false_iff_ne.mpr c9
          have c9b1 : ((rd l0 a1) != (rd l0 a2)) = true := bne_iff_ne.mpr c9
          obtain rfl := Option.some.inj H
          have p324 : 0 ≤ (a1 : Int) := of_decide_eq_true (za)
          have q324 : a1 < (l0.length : Int) := of_decide_eq_true (za)
          obtain ⟨ad324, e324, hx324_0⟩ := Kd.at_int HR0.out a1 p324 q324
          cases e324
          replace p324 := eq_true p324
          replace q324 := eq_true q324
          have p325 : 0 ≤ (a2 : Int) := of_decide_eq_true (za)
          have q325 : a2 < (l0.length : Int) := of_decide_eq_true (za)
          obtain ⟨ad325, e325, hx325_0⟩ := Kd.at_int HR0.out a2 p325 q325
          obtain rfl : ad324 = ad325 := (by injection e325)
          replace p325 := eq_true p325
          replace q325 := eq_true q325
          have p326 : 0 ≤ (a1 : Int) := of_decide_eq_true (za)
          have q326 : a1 < (l0.length : Int) := of_decide_eq_true (za)
          obtain ⟨ad326, e326, hx326_0⟩ := Kd.at_int HR0.out a1 p326 q326
          obtain rfl : ad324 = ad326 := (by injection e326)
          replace p326 := eq_true p326
          replace q326 := eq_true q326
          have p327 : 0 ≤ (a2 : Int) := of_decide_eq_true (za)
          have q327 : a2 < (l0.length : Int) := of_decide_eq_true (za)
          obtain ⟨ad327, e327, hx327_0⟩ := Kd.at_int HR0.out a2 p327 q327
          obtain rfl : ad324 = ad327 := (by injection e327)
          replace p327 := eq_true p327
          replace q327 := eq_true q327
          go_enter Tryd.func112, Tryd.ntmps112
          go_wp2
          repeat (go_quiet (fail); try go_wp2)
          go_ret
          exact ⟨zf, zd⟩
        rw [if_neg c7] at H
        exact absurd H (by simp)
      rw [if_neg c6] at H
      exact absurd H (by simp)
    rw [if_neg c5] at H
    exact absurd H (by simp)
  rw [if_neg c4] at H
  exact absurd H (by simp)

attribute [local go_sem] max2_int min2_int max_two min_two
set_option linter.unusedVariables false
set_option linter.unusedSimpArgs false

mutual
def spec_byTail.l0 : Nat → List Int → List Int → List Int → Int → Option (List Int)
  | 0, _, _, _, _ => none
  | k + 1, x1, x5, x6, x7 => if x7 < (x1.length : Int) then (if 0 ≤ x7 then (if x5.length < 17592186044416 then ((some (x5 ++ [rd x1 x7] : List Int)).bind fun y335 => (spec_byTail.l1 k x1 y335 x6 x7 (wrap64 ((y335.length : Int) - 1)))) else (none)) else (none)) else (some x5)
def spec_byTail.l1 : Nat → List Int → List Int → List Int → Int → Int → Option (List Int)
  | 0, _, _, _, _, _ => none
  | k + 1, x1, x5, x6, x7, x8 => if x8 > 0 then (if 0 ≤ x8 then (if x8 < (x5.length : Int) then (if 0 ≤ (wrap64 (x8 - 1)) then (if (wrap64 (x8 - 1)) < (x5.length : Int) then ((spec_sooner.f x6 (rd x5 x8) (rd x5 (wrap64 (x8 - 1)))).bind fun t340 => (if t340 = true then (spec_byTail.l1 k x1 ((x5.set (x8 : Int).toNat (rd x5 (wrap64 (x8 - 1)))).set ((wrap64 (x8 - 1)) : Int).toNat (rd x5 x8)) x6 x7 (wrap64 (x8 - 1))) else (spec_byTail.l0 k x1 x5 x6 (wrap64 (x7 + 1))))) else (none)) else (none)) else (none)) else (none)) else (spec_byTail.l0 k x1 x5 x6 (wrap64 (x7 + 1)))
end
def spec_byTail.f (k : Nat) (l0 : List (S33)) (l1 : List Int) : Option (List Int) := (spec_tails.f k l0).bind fun t331 => (spec_byTail.l0 k l1 (([] : List Int)) t331 0)
set_option maxHeartbeats 8000000 in
set_option maxRecDepth 100000 in
theorem spec_byTail.calls (k : Nat) (A0 : Option Addr) (c0 : Nat) (l0 : List (S33)) (A1 : Option Addr) (c1 : Nat) (l1 : List Int) (r : List Int) (w : World) (hr0 : Kd.C k33 w A0 l0.length l0) (hc0 : l0.length ≤ c0) (hr1 : Kd.C (Kd.int .i64) w A1 l1.length l1) (hc1 : l1.length ≤ c1) (h : spec_byTail.f k l0 l1 = some r) :
    Calls Tryd.prog 97 #[.slice A0 l0.length c0, .slice A1 l1.length c1] w fun e w' => ∃ v0_ : Value, e = .returned (v0_) ∧ Kd.R (Kd.int .i64) 3 w' w.heap.size (fun _ => True) v0_ r ∧ Below w.heap.size w w' := by
  have HR0 := Aside0.mk hr0
  have HC0 := Aside0.mk hc0
  clear hr0 hc0
  have HR1 := Aside0.mk hr1
  have HC1 := Aside0.mk hc1
  clear hr1 hc1
  have HB := Aside0.mk (Below.refl w.heap.size w)
  have H : ((spec_tails.f k l0).bind fun t331 => (spec_byTail.l0 k l1 (([] : List Int)) t331 0)) = some r := h
  clear h
  obtain ⟨y328, hy328⟩ : ∃ y_ : List Int, y_ = (([] : List Int)) := ⟨_, rfl⟩
  replace H : ((spec_tails.f k l0).bind fun t331 => (spec_byTail.l0 k l1 y328 t331 0)) = some r := by first | (rw [hy328]; with_reducible exact H) | (have H2_ := (Option.bind_some _ _).symm.trans H; rw [hy328]; with_reducible exact H2_) | (have H2_ := (Option.bind_some _ _).symm.trans H; with_reducible exact H2_) | with_reducible exact H | (rw [hy328]; exact H) | exact H
  have Ny328 := Aside0.mk hy328
  clear hy328
  replace H := Option.bind_eq_some_iff.mp H
  obtain ⟨t331, A30, H⟩ := H
  replace H : (spec_byTail.l0 k l1 y328 t331 0) = some r := H
  have A3 := Aside0.mk A30
  clear A30
  have H' := Aside0.mk H
  clear H
  go_enter Tryd.func97, Tryd.ntmps97
  go_wp2_with (first | ((with_reducible refine gate_dst (N := 10) rfl ?_); refine Kd.R_lit (Kd.int .i64) _ 3 ?hg (N := 10) ?hd (xs := ([] : List Int)) (inner := []) (ok := fun _ => True) (okp := fun _ => True) ?hr ?hp (fun _ hk => hk) trivial (Below.refl _ _) (Nat.le_refl _) (by simp) ?_; (case hd => rfl); (case hg => rfl); (case hr => first | (go_simp; done) | (go_simp; rfl)); (case hp => exact (Reps.none _ _)); intro v329 w4 ho5 hb hg_ hnew_; clear hg_ hnew_; (first | rw [← Ny328.out] at ho5 | (simp only [Int.reduceToNat] at ho5; rw [← Ny328.out] at ho5)); have n0_ := Aside0.mk (Kd.R_lower ho5 (below_size (zb HB.out))); have n1_ := Aside0.mk (below_step (zb HB.out) hb); clear HB; have HO330 := n0_; have HB := n1_; clear n0_ n1_; clear hb ho5) | (go_at_call 111; (with_reducible refine (spec_tails.calls k _ _ l0 t331 _ ?side1 ?side2 A3.out).mono ?_); (case side1 => exact zt (Kd.C_below HR0.out HB.out)); (case side2 => exact HC0.out); rintro e w6 ⟨v332, rfl, ho0, hb⟩; have n0_ := Aside0.mk (Kd.R_elder' (zr HO330.out) (Kd.R_base ho0) hb); have n1_ := Aside0.mk (Kd.R_lower (Kd.R_new' ho0 (Kd.R_lt (zr HO330.out))) (below_size (zb HB.out))); have n2_ := Aside0.mk (below_step (zb HB.out) hb); clear HO330 HB; have HO330 := n0_; have HO333 := n1_; have HB := n2_; clear n0_ n1_ n2_; (try clear hb); (try clear ho0)))
  repeat (go_quiet (first | ((with_reducible refine gate_dst (N := 10) rfl ?_); refine Kd.R_lit (Kd.int .i64) _ 3 ?hg (N := 10) ?hd (xs := ([] : List Int)) (inner := []) (ok := fun _ => True) (okp := fun _ => True) ?hr ?hp (fun _ hk => hk) trivial (Below.refl _ _) (Nat.le_refl _) (by simp) ?_; (case hd => rfl); (case hg => rfl); (case hr => first | (go_simp; done) | (go_simp; rfl)); (case hp => exact (Reps.none _ _)); intro v329 w4 ho5 hb hg_ hnew_; clear hg_ hnew_; (first | rw [← Ny328.out] at ho5 | (simp only [Int.reduceToNat] at ho5; rw [← Ny328.out] at ho5)); have n0_ := Aside0.mk (Kd.R_lower ho5 (below_size (zb HB.out))); have n1_ := Aside0.mk (below_step (zb HB.out) hb); clear HB; have HO330 := n0_; have HB := n1_; clear n0_ n1_; clear hb ho5) | (go_at_call 111; (with_reducible refine (spec_tails.calls k _ _ l0 t331 _ ?side1 ?side2 A3.out).mono ?_); (case side1 => exact zt (Kd.C_below HR0.out HB.out)); (case side2 => exact HC0.out); rintro e w6 ⟨v332, rfl, ho0, hb⟩; have n0_ := Aside0.mk (Kd.R_elder' (zr HO330.out) (Kd.R_base ho0) hb); have n1_ := Aside0.mk (Kd.R_lower (Kd.R_new' ho0 (Kd.R_lt (zr HO330.out))) (below_size (zb HB.out))); have n2_ := Aside0.mk (below_step (zb HB.out) hb); clear HO330 HB; have HO330 := n0_; have HO333 := n1_; have HB := n2_; clear n0_ n1_ n2_; (try clear hb); (try clear ho0))); try go_wp2_with (first | ((with_reducible refine gate_dst (N := 10) rfl ?_); refine Kd.R_lit (Kd.int .i64) _ 3 ?hg (N := 10) ?hd (xs := ([] : List Int)) (inner := []) (ok := fun _ => True) (okp := fun _ => True) ?hr ?hp (fun _ hk => hk) trivial (Below.refl _ _) (Nat.le_refl _) (by simp) ?_; (case hd => rfl); (case hg => rfl); (case hr => first | (go_simp; done) | (go_simp; rfl)); (case hp => exact (Reps.none _ _)); intro v329 w4 ho5 hb hg_ hnew_; clear hg_ hnew_; (first | rw [← Ny328.out] at ho5 | (simp only [Int.reduceToNat] at ho5; rw [← Ny328.out] at ho5)); have n0_ := Aside0.mk (Kd.R_lower ho5 (below_size (zb HB.out))); have n1_ := Aside0.mk (below_step (zb HB.out) hb); clear HB; have HO330 := n0_; have HB := n1_; clear n0_ n1_; clear hb ho5) | (go_at_call 111; (with_reducible refine (spec_tails.calls k _ _ l0 t331 _ ?side1 ?side2 A3.out).mono ?_); (case side1 => exact zt (Kd.C_below HR0.out HB.out)); (case side2 => exact HC0.out); rintro e w6 ⟨v332, rfl, ho0, hb⟩; have n0_ := Aside0.mk (Kd.R_elder' (zr HO330.out) (Kd.R_base ho0) hb); have n1_ := Aside0.mk (Kd.R_lower (Kd.R_new' ho0 (Kd.R_lt (zr HO330.out))) (below_size (zb HB.out))); have n2_ := Aside0.mk (below_step (zb HB.out) hb); clear HO330 HB; have HO330 := n0_; have HO333 := n1_; have HB := n2_; clear n0_ n1_ n2_; (try clear hb); (try clear ho0))))
  go_loopg [5, 7] k (fun kq v5 v7 w' => ∃ (x5_1 : List Int) (x6_1 : List Int) (x7_1 : Int), v7 = .int .i64 x7_1 ∧ Aside0 (spec_byTail.l0 kq l1 x5_1 x6_1 x7_1 = some r) ∧ Aside0 (kq ≤ k) ∧ Aside0 (Kd.R (Kd.int .i64) 3 w' w.heap.size (fun k_ => some k_ ≠ (v332 : Value).ownBlock) v5 x5_1) ∧ Aside0 (Kd.R (Kd.int .i64) 3 w' w.heap.size (fun k_ => some k_ ≠ (v5 : Value).ownBlock) v332 x6_1) ∧ Aside0 (Below w.heap.size w w'))
  case atStart => exact ⟨(y328), (t331), (0), (zf), H', ⟨Nat.le_refl _⟩, ⟨by (with_reducible repeat (first | apply Kd.R_alloc | apply Kd.R_drewN | apply Kd.R_drew)); exact Kd.R_mono HO330.out (fun _ hk => hk.2)⟩, ⟨by (with_reducible repeat (first | apply Kd.R_alloc | apply Kd.R_drewN | apply Kd.R_drew)); exact Kd.R_mono HO333.out (fun _ hk => hk.2)⟩, ⟨zb HB.out⟩⟩
  case round =>
    clear H'
    try clear c1
    try clear p2
    obtain ⟨x5_1, x6_1, x7_1, rfl, HA, HK1, HO_5, HO_6, HB⟩ := hrel
    cases gk with
    | zero => exact absurd HA.out (by simp [spec_byTail.l0])
    | succ k1 =>
      have H := HA.out
      clear HA
      simp only [spec_byTail.l0] at H
      by_cases c7 : x7_1 < (l1.length : Int)
      · rw [if_pos c7] at H
        have c7b0 : decide (x7_1 < (l1.length : Int)) = true := decide_eq_true c7
        clear c7
        by_cases c8 : 0 ≤ x7_1
        · rw [if_pos c8] at H
          have c8b0 : decide (0 ≤ x7_1) = true := decide_eq_true c8
          clear c8
          by_cases c9 : x5_1.length < 17592186044416
          · rw [if_pos c9] at H
            have LMc9 := Aside0.mk c9
            clear c9
            obtain ⟨y335, hy335⟩ : ∃ y_ : List Int, y_ = (x5_1 ++ [rd l1 x7_1]) := ⟨_, rfl⟩
            replace H : (spec_byTail.l1 k1 l1 y335 x6_1 x7_1 (wrap64 ((y335.length : Int) - 1))) = some r := by first | (rw [hy335]; with_reducible exact H) | (have H2_ := (Option.bind_some _ _).symm.trans H; rw [hy335]; with_reducible exact H2_) | (have H2_ := (Option.bind_some _ _).symm.trans H; with_reducible exact H2_) | with_reducible exact H | (rw [hy335]; exact H) | exact H
            have Ny335 := Aside0.mk hy335
            clear hy335
            have H' := Aside0.mk H
            clear H
            have p334 : 0 ≤ (x7_1 : Int) := of_decide_eq_true (za)
            have q334 : x7_1 < (l1.length : Int) := of_decide_eq_true (za)
            obtain ⟨ad334, e334, hx334_0⟩ := Kd.at_int HR1.out x7_1 p334 q334
            cases e334
            replace hx334_0 := (HB.out.cell (World.block_lt_of_cell? w _ hx334_0)).trans hx334_0
            replace p334 := eq_true p334
            replace q334 := eq_true q334
            go_wp2_with (first | ((with_reducible refine gate_builtin (b := .append) (xs := #[.tmp 19, .tmp 24]) rfl ?_); at_builtin; refine Kd.R_append (Kd.int .i64) (w0 := w) w.heap.size rfl (.tmp 19) (.tmp 24) 24 3 (.int .i64 0) 8 rfl Tryd.underlying24 info3 rfl (by decide) (by omega) u5 x5_1 (rd l1 x7_1) [.int .i64 (rd l1 x7_1)] (fun k_ => some k_ ≠ (v332 : Value).ownBlock) (fun _ => False) rfl rfl ?aP (fun _ hk => hk.elim) ?aF ?aO ?aB ?aS ?aL ?_; (case aP => exact rfl); (case aB => exact (zb HB.out)); (case aF => exact (fun k_ hk => Kd.fresh' (Kd.R_lt (zr HO_6.out)) k_ hk)); (case aO => exact (zr HO_5.out)); (case aS => exact (below_size (zb HB.out))); (case aL => have := LMc9.out; omega); intro v336 w10 ho hb hg hat; rw [← Ny335.out] at ho; have n0_ := Aside0.mk (Kd.R_after (ok := (fun _ => True)) (by (with_reducible repeat (first | apply Kd.R_alloc | apply Kd.R_drewN | apply Kd.R_drew)); exact Kd.R_mono HO_6.out (fun _ hk => ⟨trivial, hk⟩)) hg hat); have n1_ := Aside0.mk (hb); have n2_ := Aside0.mk (ho); clear HO_6 HB HO_5; have HO_6 := n0_; have HB := n1_; have HO337 := n2_; clear n0_ n1_ n2_; clear ho hb hg hat; obtain ⟨Ao11, co11, eo11⟩ := Kd.R_slice HO337.out; subst eo11))
            repeat (go_quiet (first | ((with_reducible refine gate_builtin (b := .append) (xs := #[.tmp 19, .tmp 24]) rfl ?_); at_builtin; refine Kd.R_append (Kd.int .i64) (w0 := w) w.heap.size rfl (.tmp 19) (.tmp 24) 24 3 (.int .i64 0) 8 rfl Tryd.underlying24 info3 rfl (by decide) (by omega) u5 x5_1 (rd l1 x7_1) [.int .i64 (rd l1 x7_1)] (fun k_ => some k_ ≠ (v332 : Value).ownBlock) (fun _ => False) rfl rfl ?aP (fun _ hk => hk.elim) ?aF ?aO ?aB ?aS ?aL ?_; (case aP => exact rfl); (case aB => exact (zb HB.out)); (case aF => exact (fun k_ hk => Kd.fresh' (Kd.R_lt (zr HO_6.out)) k_ hk)); (case aO => exact (zr HO_5.out)); (case aS => exact (below_size (zb HB.out))); (case aL => have := LMc9.out; omega); intro v336 w10 ho hb hg hat; rw [← Ny335.out] at ho; have n0_ := Aside0.mk (Kd.R_after (ok := (fun _ => True)) (by (with_reducible repeat (first | apply Kd.R_alloc | apply Kd.R_drewN | apply Kd.R_drew)); exact Kd.R_mono HO_6.out (fun _ hk => ⟨trivial, hk⟩)) hg hat); have n1_ := Aside0.mk (hb); have n2_ := Aside0.mk (ho); clear HO_6 HB HO_5; have HO_6 := n0_; have HB := n1_; have HO337 := n2_; clear n0_ n1_ n2_; clear ho hb hg hat; obtain ⟨Ao11, co11, eo11⟩ := Kd.R_slice HO337.out; subst eo11)); try go_wp2_with (first | ((with_reducible refine gate_builtin (b := .append) (xs := #[.tmp 19, .tmp 24]) rfl ?_); at_builtin; refine Kd.R_append (Kd.int .i64) (w0 := w) w.heap.size rfl (.tmp 19) (.tmp 24) 24 3 (.int .i64 0) 8 rfl Tryd.underlying24 info3 rfl (by decide) (by omega) u5 x5_1 (rd l1 x7_1) [.int .i64 (rd l1 x7_1)] (fun k_ => some k_ ≠ (v332 : Value).ownBlock) (fun _ => False) rfl rfl ?aP (fun _ hk => hk.elim) ?aF ?aO ?aB ?aS ?aL ?_; (case aP => exact rfl); (case aB => exact (zb HB.out)); (case aF => exact (fun k_ hk => Kd.fresh' (Kd.R_lt (zr HO_6.out)) k_ hk)); (case aO => exact (zr HO_5.out)); (case aS => exact (below_size (zb HB.out))); (case aL => have := LMc9.out; omega); intro v336 w10 ho hb hg hat; rw [← Ny335.out] at ho; have n0_ := Aside0.mk (Kd.R_after (ok := (fun _ => True)) (by (with_reducible repeat (first | apply Kd.R_alloc | apply Kd.R_drewN | apply Kd.R_drew)); exact Kd.R_mono HO_6.out (fun _ hk => ⟨trivial, hk⟩)) hg hat); have n1_ := Aside0.mk (hb); have n2_ := Aside0.mk (ho); clear HO_6 HB HO_5; have HO_6 := n0_; have HB := n1_; have HO337 := n2_; clear n0_ n1_ n2_; clear ho hb hg hat; obtain ⟨Ao11, co11, eo11⟩ := Kd.R_slice HO337.out; subst eo11)))
            go_loopg [8] k1 (fun kq v8 w' => ∃ (x5_2 : List Int) (x8_2 : Int), v8 = .int .i64 x8_2 ∧ Aside0 (spec_byTail.l1 kq l1 x5_2 x6_1 x7_1 x8_2 = some r) ∧ Aside0 (kq ≤ k1) ∧ Aside0 (Kd.R (Kd.int .i64) 3 w' w.heap.size (fun k_ => some k_ ≠ (v332 : Value).ownBlock) (.slice Ao11 y335.length co11) x5_2) ∧ Aside0 (Kd.R (Kd.int .i64) 3 w' w.heap.size (fun k_ => some k_ ≠ ((.slice Ao11 y335.length co11) : Value).ownBlock) v332 x6_1) ∧ Aside0 (Below w.heap.size w w'))
            case atStart => exact ⟨(y335), (wrap64 ((y335.length : Int) - 1)), (zf), H', ⟨Nat.le_refl _⟩, ⟨by (with_reducible repeat (first | apply Kd.R_alloc | apply Kd.R_drewN | apply Kd.R_drew)); exact HO337.out⟩, ⟨by (with_reducible repeat (first | apply Kd.R_alloc | apply Kd.R_drewN | apply Kd.R_drew)); exact Kd.R_mono HO_6.out (fun _ hk => hk.2)⟩, ⟨zb HB.out⟩⟩
            case round =>
              clear H'
              try clear c1
              try clear p2
              try clear p3
              try clear q3
              try clear hx3
              try clear p6
              try clear c7
              try clear c7b0
              try clear c8
              try clear c8b0
              try clear c9
              try clear hx334_0
              try clear p2
              try clear p334
              try clear q334
              obtain ⟨x5_2, x8_2, rfl, HA, HK2, HO_5, HO_6, HB⟩ := hrel
              have hl5_2 := (Kd.R_reads' HO_5.out).1
              rw [hl5_2] at HO_5
              (try simp only [hl5_2])
              (try simp only [hl5_2] at HO_6)
              cases gk with
              | zero => exact absurd HA.out (by simp [spec_byTail.l1])
              | succ k2 =>
                have H := HA.out
                clear HA
                simp only [spec_byTail.l1] at H
                by_cases c12 : x8_2 > 0
                · rw [if_pos c12] at H
                  have c12b0 : decide (0 < x8_2) = true := decide_eq_true c12
                  clear c12
                  by_cases c13 : 0 ≤ x8_2
                  · rw [if_pos c13] at H
                    have c13b0 : decide (0 ≤ x8_2) = true := decide_eq_true c13
                    clear c13
                    by_cases c14 : x8_2 < (x5_2.length : Int)
                    · rw [if_pos c14] at H
                      have c14b0 : decide (x8_2 < (x5_2.length : Int)) = true := decide_eq_true c14
                      clear c14
                      obtain ⟨ji15, hji15⟩ : ∃ j_ : Int, (wrap64 (x8_2 - 1)) = j_ := ⟨_, rfl⟩
                      replace H : (if 0 ≤ (ji15) then (if (ji15) < (x5_2.length : Int) then ((spec_sooner.f x6_1 (rd x5_2 x8_2) (rd x5_2 (ji15))).bind fun t340 => (if t340 = true then (spec_byTail.l1 k2 l1 ((x5_2.set (x8_2 : Int).toNat (rd x5_2 (ji15))).set ((ji15) : Int).toNat (rd x5_2 x8_2)) x6_1 x7_1 ji15) else (spec_byTail.l0 k2 l1 x5_2 x6_1 (wrap64 (x7_1 + 1))))) else (none)) else (none)) = some r := by first | (rw [hji15] at H; exact H) | (simp only [hji15] at H ⊢; exact H)
                      have hji15w : (IntKind.i64.wrap (x8_2 - 1)) = ji15 := (i64_w _).trans hji15
                      by_cases c16 : 0 ≤ (ji15)
                      · rw [if_pos c16] at H
                        have c16b0 : decide (0 ≤ (ji15)) = true := decide_eq_true c16
                        clear c16
                        by_cases c17 : (ji15) < (x5_2.length : Int)
                        · rw [if_pos c17] at H
                          have c17b0 : decide ((ji15) < (x5_2.length : Int)) = true := decide_eq_true c17
                          clear c17
                          replace H := Option.bind_eq_some_iff.mp H
                          obtain ⟨t340, A180, H⟩ := H
                          replace H : (if t340 = true then (spec_byTail.l1 k2 l1 ((x5_2.set (x8_2 : Int).toNat (rd x5_2 (ji15))).set ((ji15) : Int).toNat (rd x5_2 x8_2)) x6_1 x7_1 ji15) else (spec_byTail.l0 k2 l1 x5_2 x6_1 (wrap64 (x7_1 + 1)))) = some r := H
                          have A18 := Aside0.mk A180
                          clear A180
                          by_cases c19 : t340 = true
                          · subst c19
                            have H1 : (spec_byTail.l1 k2 l1 ((x5_2.set (x8_2 : Int).toNat (rd x5_2 (ji15))).set ((ji15) : Int).toNat (rd x5_2 x8_2)) x6_1 x7_1 ji15) = some r := by rw [if_pos rfl] at H; exact H
                            clear H
                            have H := H1
                            clear H1
                            obtain ⟨y343, hy343⟩ : ∃ y_ : List Int, y_ = (x5_2.set (x8_2 : Int).toNat (rd x5_2 (ji15))) := ⟨_, rfl⟩
                            replace H : (spec_byTail.l1 k2 l1 (y343.set ((ji15) : Int).toNat (rd x5_2 x8_2)) x6_1 x7_1 ji15) = some r := by first | (rw [hy343]; with_reducible exact H) | (have H2_ := (Option.bind_some _ _).symm.trans H; rw [hy343]; with_reducible exact H2_) | (have H2_ := (Option.bind_some _ _).symm.trans H; with_reducible exact H2_) | with_reducible exact H | (rw [hy343]; exact H) | exact H
                            have Ny343 := Aside0.mk hy343
                            clear hy343
                            obtain ⟨y344, hy344⟩ : ∃ y_ : List Int, y_ = (y343.set ((ji15) : Int).toNat (rd x5_2 x8_2)) := ⟨_, rfl⟩
                            replace H : (spec_byTail.l1 k2 l1 y344 x6_1 x7_1 ji15) = some r := by first | (rw [hy344]; with_reducible exact H) | (have H2_ := (Option.bind_some _ _).symm.trans H; rw [hy344]; with_reducible exact H2_) | (have H2_ := (Option.bind_some _ _).symm.trans H; with_reducible exact H2_) | with_reducible exact H | (rw [hy344]; exact H) | exact H
                            have Ny344 := Aside0.mk hy344
                            clear hy344
                            have H' := Aside0.mk H
                            clear H
                            have p338 : 0 ≤ (x8_2 : Int) := of_decide_eq_true (za)
                            have q338 : x8_2 < (x5_2.length : Int) := of_decide_eq_true (za)
                            obtain ⟨ad338, e338, hx338_0⟩ := Kd.at_int (Kd.R_reads' HO_5.out).2.2 x8_2 p338 q338
                            cases e338
                            replace p338 := eq_true p338
                            replace q338 := eq_true q338
                            have p339 : 0 ≤ ((ji15) : Int) := of_decide_eq_true (za)
                            have q339 : (ji15) < (x5_2.length : Int) := of_decide_eq_true (za)
                            obtain ⟨ad339, e339, hx339_0⟩ := Kd.at_int (Kd.R_reads' HO_5.out).2.2 (ji15) p339 q339
                            obtain rfl : ad338 = ad339 := (by injection e339)
                            replace p339 := eq_true p339
                            replace q339 := eq_true q339
                            obtain ⟨Ao22, co22, eo22⟩ := Kd.R_slice HO_6.out
                            subst eo22
                            go_wp2_with (first | (go_at_call 112; (with_reducible refine (spec_sooner.calls _ _ x6_1 (rd x5_2 x8_2) (rd x5_2 (ji15)) true _ ?side1 ?side2 A18.out).mono ?_); (case side1 => exact zt (Kd.R_reads' HO_6.out).2.2); (case side2 => exact (Kd.R_reads' HO_6.out).2.1); rintro e w' ⟨rfl, ⟨nd, rfl⟩⟩; (try first | exact ⟨rfl, _, World.drewN_drewN _ _ _⟩ | exact ⟨rfl, _, Eq.trans (World.drewN_drewN _ _ _) (congrArg (World.drewN _) (Nat.add_assoc _ _ _))⟩); have p341 : 0 ≤ (x8_2 : Int) := of_decide_eq_true (za); have q341 : x8_2 < (x5_2.length : Int) := of_decide_eq_true (za); obtain ⟨ad341, e341, hx341_0⟩ := Kd.at_int (Kd.R_reads' HO_5.out).2.2 x8_2 p341 q341; obtain rfl : ad338 = ad341 := (by injection e341); replace p341 := eq_true p341; replace q341 := eq_true q341; have p342 : 0 ≤ ((ji15) : Int) := of_decide_eq_true (za); have q342 : (ji15) < (x5_2.length : Int) := of_decide_eq_true (za); obtain ⟨ad342, e342, hx342_0⟩ := Kd.at_int (Kd.R_reads' HO_5.out).2.2 (ji15) p342 q342; obtain rfl : ad338 = ad342 := (by injection e342); replace p342 := eq_true p342; replace q342 := eq_true q342; have p20 : 0 ≤ (x8_2 : Int) := of_decide_eq_true (za); have q20 : (x8_2 : Int) < ((x5_2.length : Int) : Int) := of_decide_eq_true (za); obtain ⟨go20, co20, eo20, gb20, gl20, cl20, HG20⟩ := Kd.R_form HO_5.out (by omega); (first | cases eo20 | (injection eo20 with ea_ en_ ec_; (first | subst ea_ | (injection ea_ with ea_; subst ea_)); subst ec_; clear en_)); have GB20 := Aside0.mk gb20; have GG20 := Aside0.mk HG20; clear gb20 gl20 HG20; (first | simp only [add_plain] at hx338_0 | skip); (first | simp only [add_plain] at hx339_0 | skip); (first | simp only [add_plain] at hx341_0 | skip); (first | simp only [add_plain] at hx342_0 | skip); obtain ⟨hx20_0, hf20_0⟩ := Kd.R_celln 0 HO_5.out (x8_2 : Int) p20 q20; replace p20 := eq_true p20; replace q20 := eq_true q20; obtain ⟨hy23_, hz23_⟩ := Kd.R_celln 0 HO_5.out (x8_2 : Int) (of_decide_eq_true (za)) (of_decide_eq_true (za)); have HP23 := Kd.R_putg HO_5.out (x8_2 : Int) (rd x5_2 (ji15))) | ((with_reducible refine gate_store (t := 3) (p := 57) rfl ?_); (try (rw [drewN_self wr]; generalize hq_ : World.drewN wr _ = wr; have n0_ := Aside0.mk (Kd.R_at hq_ HO_5.out); have n1_ := Aside0.mk (Kd.R_at hq_ HO_6.out); have n2_ := Aside0.mk (below_at hq_ HB.out); clear hq_ HO_5 HO_6 HB; have HO_5 := n0_; have HO_6 := n1_; have HB := n2_; clear n0_ n1_ n2_; (try (obtain ⟨hy23_, hz23_⟩ := Kd.R_celln 0 HO_5.out (x8_2 : Int) (of_decide_eq_true (za)) (of_decide_eq_true (za)))); (try (have HP23 := Kd.R_putg HO_5.out (x8_2 : Int) (rd x5_2 (ji15)))))); refine store_event (t := 3) (p := 57) (v := ?vo_w24) (w1 := (wr.setCell ⟨go20, (x8_2 : Int).toNat, none⟩ (.int .i64 (rd x5_2 (ji15))))) ?hg ?ho ?hn ?hr ?_; (case ho => rfl); (case hg => rfl); (case hn => rfl); (case hr => first | (go_simp; done) | (go_simp; rfl)); intro w24 hw; have hg : wr.grownBy w24 (some go20) := (by rw [hw]; exact HP23.2); have hp_ : Kd.R (Kd.int .i64) 3 w24 w.heap.size (fun k_ => some k_ ≠ (.slice Ao22 x6_1.length co22 : Value).ownBlock) (.slice (some ⟨go20, 0, none⟩) x5_2.length co11) y343 := (by rw [hw, Ny343.out]; exact HP23.1); clear HP23; have n0_ := Aside0.mk (hp_); have n1_ := Aside0.mk (Kd.R_after (v := (.slice (some ⟨go20, 0, none⟩) x5_2.length co11)) (v1 := (.slice (some ⟨go20, 0, none⟩) x5_2.length co11)) (ok := (fun _ => True)) (by (with_reducible repeat (first | apply Kd.R_alloc | apply Kd.R_drewN | apply Kd.R_drew)); exact Kd.R_mono HO_6.out (fun _ hk => ⟨trivial, hk⟩)) hg (.inl rfl)); have n2_ := Aside0.mk ((by rw [hw]; exact below_set (HB.out) GB20.out : Below w.heap.size w w24)); clear HO_5 HO_6 HB; have HO_5 := n0_; have HO_6 := n1_; have HB := n2_; clear n0_ n1_ n2_; clear hg hw hp_; have p21 : 0 ≤ ((ji15) : Int) := of_decide_eq_true (za); have q21 : ((ji15) : Int) < ((x5_2.length : Int) : Int) := of_decide_eq_true (za); obtain ⟨hx21_0, hf21_0⟩ := Kd.R_celln 0 HO_5.out ((ji15) : Int) p21 q21; replace p21 := eq_true p21; replace q21 := eq_true q21; obtain ⟨hy25_, hz25_⟩ := Kd.R_celln 0 HO_5.out ((ji15) : Int) (of_decide_eq_true (za)) (of_decide_eq_true (za)); have HP25 := Kd.R_putg HO_5.out ((ji15) : Int) (rd x5_2 x8_2)) | ((with_reducible refine gate_store (t := 3) (p := 62) rfl ?_); (try (rw [drewN_self w24]; generalize hq_ : World.drewN w24 _ = w24; have n0_ := Aside0.mk (Kd.R_at hq_ HO_5.out); have n1_ := Aside0.mk (Kd.R_at hq_ HO_6.out); have n2_ := Aside0.mk (below_at hq_ HB.out); clear hq_ HO_5 HO_6 HB; have HO_5 := n0_; have HO_6 := n1_; have HB := n2_; clear n0_ n1_ n2_; (try (obtain ⟨hy25_, hz25_⟩ := Kd.R_celln 0 HO_5.out ((ji15) : Int) (of_decide_eq_true (za)) (of_decide_eq_true (za)))); (try (have HP25 := Kd.R_putg HO_5.out ((ji15) : Int) (rd x5_2 x8_2))))); refine store_event (t := 3) (p := 62) (v := ?vo_w26) (w1 := (w24.setCell ⟨go20, ((ji15) : Int).toNat, none⟩ (.int .i64 (rd x5_2 x8_2)))) ?hg ?ho ?hn ?hr ?_; (case ho => rfl); (case hg => rfl); (case hn => rfl); (case hr => first | (go_simp; done) | (go_simp; rfl)); intro w26 hw; have hg : w24.grownBy w26 (some go20) := (by rw [hw]; exact HP25.2); have hp_ : Kd.R (Kd.int .i64) 3 w26 w.heap.size (fun k_ => some k_ ≠ (.slice Ao22 x6_1.length co22 : Value).ownBlock) (.slice (some ⟨go20, 0, none⟩) x5_2.length co11) y344 := (by rw [hw, Ny344.out]; exact HP25.1); clear HP25; have n0_ := Aside0.mk (hp_); have n1_ := Aside0.mk (Kd.R_after (v := (.slice (some ⟨go20, 0, none⟩) x5_2.length co11)) (v1 := (.slice (some ⟨go20, 0, none⟩) x5_2.length co11)) (ok := (fun _ => True)) (zr HO_6.out) hg (.inl rfl)); have n2_ := Aside0.mk ((by rw [hw]; exact below_set (HB.out) GB20.out : Below w.heap.size w w26)); clear HO_5 HO_6 HB; have HO_5 := n0_; have HO_6 := n1_; have HB := n2_; clear n0_ n1_ n2_; clear hg hw hp_))
                            repeat (go_quiet (first | (go_at_call 112; (with_reducible refine (spec_sooner.calls _ _ x6_1 (rd x5_2 x8_2) (rd x5_2 (ji15)) true _ ?side1 ?side2 A18.out).mono ?_); (case side1 => exact zt (Kd.R_reads' HO_6.out).2.2); (case side2 => exact (Kd.R_reads' HO_6.out).2.1); rintro e w' ⟨rfl, ⟨nd, rfl⟩⟩; (try first | exact ⟨rfl, _, World.drewN_drewN _ _ _⟩ | exact ⟨rfl, _, Eq.trans (World.drewN_drewN _ _ _) (congrArg (World.drewN _) (Nat.add_assoc _ _ _))⟩); have p341 : 0 ≤ (x8_2 : Int) := of_decide_eq_true (za); have q341 : x8_2 < (x5_2.length : Int) := of_decide_eq_true (za); obtain ⟨ad341, e341, hx341_0⟩ := Kd.at_int (Kd.R_reads' HO_5.out).2.2 x8_2 p341 q341; obtain rfl : ad338 = ad341 := (by injection e341); replace p341 := eq_true p341; replace q341 := eq_true q341; have p342 : 0 ≤ ((ji15) : Int) := of_decide_eq_true (za); have q342 : (ji15) < (x5_2.length : Int) := of_decide_eq_true (za); obtain ⟨ad342, e342, hx342_0⟩ := Kd.at_int (Kd.R_reads' HO_5.out).2.2 (ji15) p342 q342; obtain rfl : ad338 = ad342 := (by injection e342); replace p342 := eq_true p342; replace q342 := eq_true q342; have p20 : 0 ≤ (x8_2 : Int) := of_decide_eq_true (za); have q20 : (x8_2 : Int) < ((x5_2.length : Int) : Int) := of_decide_eq_true (za); obtain ⟨go20, co20, eo20, gb20, gl20, cl20, HG20⟩ := Kd.R_form HO_5.out (by omega); (first | cases eo20 | (injection eo20 with ea_ en_ ec_; (first | subst ea_ | (injection ea_ with ea_; subst ea_)); subst ec_; clear en_)); have GB20 := Aside0.mk gb20; have GG20 := Aside0.mk HG20; clear gb20 gl20 HG20; (first | simp only [add_plain] at hx338_0 | skip); (first | simp only [add_plain] at hx339_0 | skip); (first | simp only [add_plain] at hx341_0 | skip); (first | simp only [add_plain] at hx342_0 | skip); obtain ⟨hx20_0, hf20_0⟩ := Kd.R_celln 0 HO_5.out (x8_2 : Int) p20 q20; replace p20 := eq_true p20; replace q20 := eq_true q20; obtain ⟨hy23_, hz23_⟩ := Kd.R_celln 0 HO_5.out (x8_2 : Int) (of_decide_eq_true (za)) (of_decide_eq_true (za)); have HP23 := Kd.R_putg HO_5.out (x8_2 : Int) (rd x5_2 (ji15))) | ((with_reducible refine gate_store (t := 3) (p := 57) rfl ?_); (try (rw [drewN_self wr]; generalize hq_ : World.drewN wr _ = wr; have n0_ := Aside0.mk (Kd.R_at hq_ HO_5.out); have n1_ := Aside0.mk (Kd.R_at hq_ HO_6.out); have n2_ := Aside0.mk (below_at hq_ HB.out); clear hq_ HO_5 HO_6 HB; have HO_5 := n0_; have HO_6 := n1_; have HB := n2_; clear n0_ n1_ n2_; (try (obtain ⟨hy23_, hz23_⟩ := Kd.R_celln 0 HO_5.out (x8_2 : Int) (of_decide_eq_true (za)) (of_decide_eq_true (za)))); (try (have HP23 := Kd.R_putg HO_5.out (x8_2 : Int) (rd x5_2 (ji15)))))); refine store_event (t := 3) (p := 57) (v := ?vo_w24) (w1 := (wr.setCell ⟨go20, (x8_2 : Int).toNat, none⟩ (.int .i64 (rd x5_2 (ji15))))) ?hg ?ho ?hn ?hr ?_; (case ho => rfl); (case hg => rfl); (case hn => rfl); (case hr => first | (go_simp; done) | (go_simp; rfl)); intro w24 hw; have hg : wr.grownBy w24 (some go20) := (by rw [hw]; exact HP23.2); have hp_ : Kd.R (Kd.int .i64) 3 w24 w.heap.size (fun k_ => some k_ ≠ (.slice Ao22 x6_1.length co22 : Value).ownBlock) (.slice (some ⟨go20, 0, none⟩) x5_2.length co11) y343 := (by rw [hw, Ny343.out]; exact HP23.1); clear HP23; have n0_ := Aside0.mk (hp_); have n1_ := Aside0.mk (Kd.R_after (v := (.slice (some ⟨go20, 0, none⟩) x5_2.length co11)) (v1 := (.slice (some ⟨go20, 0, none⟩) x5_2.length co11)) (ok := (fun _ => True)) (by (with_reducible repeat (first | apply Kd.R_alloc | apply Kd.R_drewN | apply Kd.R_drew)); exact Kd.R_mono HO_6.out (fun _ hk => ⟨trivial, hk⟩)) hg (.inl rfl)); have n2_ := Aside0.mk ((by rw [hw]; exact below_set (HB.out) GB20.out : Below w.heap.size w w24)); clear HO_5 HO_6 HB; have HO_5 := n0_; have HO_6 := n1_; have HB := n2_; clear n0_ n1_ n2_; clear hg hw hp_; have p21 : 0 ≤ ((ji15) : Int) := of_decide_eq_true (za); have q21 : ((ji15) : Int) < ((x5_2.length : Int) : Int) := of_decide_eq_true (za); obtain ⟨hx21_0, hf21_0⟩ := Kd.R_celln 0 HO_5.out ((ji15) : Int) p21 q21; replace p21 := eq_true p21; replace q21 := eq_true q21; obtain ⟨hy25_, hz25_⟩ := Kd.R_celln 0 HO_5.out ((ji15) : Int) (of_decide_eq_true (za)) (of_decide_eq_true (za)); have HP25 := Kd.R_putg HO_5.out ((ji15) : Int) (rd x5_2 x8_2)) | ((with_reducible refine gate_store (t := 3) (p := 62) rfl ?_); (try (rw [drewN_self w24]; generalize hq_ : World.drewN w24 _ = w24; have n0_ := Aside0.mk (Kd.R_at hq_ HO_5.out); have n1_ := Aside0.mk (Kd.R_at hq_ HO_6.out); have n2_ := Aside0.mk (below_at hq_ HB.out); clear hq_ HO_5 HO_6 HB; have HO_5 := n0_; have HO_6 := n1_; have HB := n2_; clear n0_ n1_ n2_; (try (obtain ⟨hy25_, hz25_⟩ := Kd.R_celln 0 HO_5.out ((ji15) : Int) (of_decide_eq_true (za)) (of_decide_eq_true (za)))); (try (have HP25 := Kd.R_putg HO_5.out ((ji15) : Int) (rd x5_2 x8_2))))); refine store_event (t := 3) (p := 62) (v := ?vo_w26) (w1 := (w24.setCell ⟨go20, ((ji15) : Int).toNat, none⟩ (.int .i64 (rd x5_2 x8_2)))) ?hg ?ho ?hn ?hr ?_; (case ho => rfl); (case hg => rfl); (case hn => rfl); (case hr => first | (go_simp; done) | (go_simp; rfl)); intro w26 hw; have hg : w24.grownBy w26 (some go20) := (by rw [hw]; exact HP25.2); have hp_ : Kd.R (Kd.int .i64) 3 w26 w.heap.size (fun k_ => some k_ ≠ (.slice Ao22 x6_1.length co22 : Value).ownBlock) (.slice (some ⟨go20, 0, none⟩) x5_2.length co11) y344 := (by rw [hw, Ny344.out]; exact HP25.1); clear HP25; have n0_ := Aside0.mk (hp_); have n1_ := Aside0.mk (Kd.R_after (v := (.slice (some ⟨go20, 0, none⟩) x5_2.length co11)) (v1 := (.slice (some ⟨go20, 0, none⟩) x5_2.length co11)) (ok := (fun _ => True)) (zr HO_6.out) hg (.inl rfl)); have n2_ := Aside0.mk ((by rw [hw]; exact below_set (HB.out) GB20.out : Below w.heap.size w w26)); clear HO_5 HO_6 HB; have HO_5 := n0_; have HO_6 := n1_; have HB := n2_; clear n0_ n1_ n2_; clear hg hw hp_)); try go_wp2_with (first | (go_at_call 112; (with_reducible refine (spec_sooner.calls _ _ x6_1 (rd x5_2 x8_2) (rd x5_2 (ji15)) true _ ?side1 ?side2 A18.out).mono ?_); (case side1 => exact zt (Kd.R_reads' HO_6.out).2.2); (case side2 => exact (Kd.R_reads' HO_6.out).2.1); rintro e w' ⟨rfl, ⟨nd, rfl⟩⟩; (try first | exact ⟨rfl, _, World.drewN_drewN _ _ _⟩ | exact ⟨rfl, _, Eq.trans (World.drewN_drewN _ _ _) (congrArg (World.drewN _) (Nat.add_assoc _ _ _))⟩); have p341 : 0 ≤ (x8_2 : Int) := of_decide_eq_true (za); have q341 : x8_2 < (x5_2.length : Int) := of_decide_eq_true (za); obtain ⟨ad341, e341, hx341_0⟩ := Kd.at_int (Kd.R_reads' HO_5.out).2.2 x8_2 p341 q341; obtain rfl : ad338 = ad341 := (by injection e341); replace p341 := eq_true p341; replace q341 := eq_true q341; have p342 : 0 ≤ ((ji15) : Int) := of_decide_eq_true (za); have q342 : (ji15) < (x5_2.length : Int) := of_decide_eq_true (za); obtain ⟨ad342, e342, hx342_0⟩ := Kd.at_int (Kd.R_reads' HO_5.out).2.2 (ji15) p342 q342; obtain rfl : ad338 = ad342 := (by injection e342); replace p342 := eq_true p342; replace q342 := eq_true q342; have p20 : 0 ≤ (x8_2 : Int) := of_decide_eq_true (za); have q20 : (x8_2 : Int) < ((x5_2.length : Int) : Int) := of_decide_eq_true (za); obtain ⟨go20, co20, eo20, gb20, gl20, cl20, HG20⟩ := Kd.R_form HO_5.out (by omega); (first | cases eo20 | (injection eo20 with ea_ en_ ec_; (first | subst ea_ | (injection ea_ with ea_; subst ea_)); subst ec_; clear en_)); have GB20 := Aside0.mk gb20; have GG20 := Aside0.mk HG20; clear gb20 gl20 HG20; (first | simp only [add_plain] at hx338_0 | skip); (first | simp only [add_plain] at hx339_0 | skip); (first | simp only [add_plain] at hx341_0 | skip); (first | simp only [add_plain] at hx342_0 | skip); obtain ⟨hx20_0, hf20_0⟩ := Kd.R_celln 0 HO_5.out (x8_2 : Int) p20 q20; replace p20 := eq_true p20; replace q20 := eq_true q20; obtain ⟨hy23_, hz23_⟩ := Kd.R_celln 0 HO_5.out (x8_2 : Int) (of_decide_eq_true (za)) (of_decide_eq_true (za)); have HP23 := Kd.R_putg HO_5.out (x8_2 : Int) (rd x5_2 (ji15))) | ((with_reducible refine gate_store (t := 3) (p := 57) rfl ?_); (try (rw [drewN_self wr]; generalize hq_ : World.drewN wr _ = wr; have n0_ := Aside0.mk (Kd.R_at hq_ HO_5.out); have n1_ := Aside0.mk (Kd.R_at hq_ HO_6.out); have n2_ := Aside0.mk (below_at hq_ HB.out); clear hq_ HO_5 HO_6 HB; have HO_5 := n0_; have HO_6 := n1_; have HB := n2_; clear n0_ n1_ n2_; (try (obtain ⟨hy23_, hz23_⟩ := Kd.R_celln 0 HO_5.out (x8_2 : Int) (of_decide_eq_true (za)) (of_decide_eq_true (za)))); (try (have HP23 := Kd.R_putg HO_5.out (x8_2 : Int) (rd x5_2 (ji15)))))); refine store_event (t := 3) (p := 57) (v := ?vo_w24) (w1 := (wr.setCell ⟨go20, (x8_2 : Int).toNat, none⟩ (.int .i64 (rd x5_2 (ji15))))) ?hg ?ho ?hn ?hr ?_; (case ho => rfl); (case hg => rfl); (case hn => rfl); (case hr => first | (go_simp; done) | (go_simp; rfl)); intro w24 hw; have hg : wr.grownBy w24 (some go20) := (by rw [hw]; exact HP23.2); have hp_ : Kd.R (Kd.int .i64) 3 w24 w.heap.size (fun k_ => some k_ ≠ (.slice Ao22 x6_1.length co22 : Value).ownBlock) (.slice (some ⟨go20, 0, none⟩) x5_2.length co11) y343 := (by rw [hw, Ny343.out]; exact HP23.1); clear HP23; have n0_ := Aside0.mk (hp_); have n1_ := Aside0.mk (Kd.R_after (v := (.slice (some ⟨go20, 0, none⟩) x5_2.length co11)) (v1 := (.slice (some ⟨go20, 0, none⟩) x5_2.length co11)) (ok := (fun _ => True)) (by (with_reducible repeat (first | apply Kd.R_alloc | apply Kd.R_drewN | apply Kd.R_drew)); exact Kd.R_mono HO_6.out (fun _ hk => ⟨trivial, hk⟩)) hg (.inl rfl)); have n2_ := Aside0.mk ((by rw [hw]; exact below_set (HB.out) GB20.out : Below w.heap.size w w24)); clear HO_5 HO_6 HB; have HO_5 := n0_; have HO_6 := n1_; have HB := n2_; clear n0_ n1_ n2_; clear hg hw hp_; have p21 : 0 ≤ ((ji15) : Int) := of_decide_eq_true (za); have q21 : ((ji15) : Int) < ((x5_2.length : Int) : Int) := of_decide_eq_true (za); obtain ⟨hx21_0, hf21_0⟩ := Kd.R_celln 0 HO_5.out ((ji15) : Int) p21 q21; replace p21 := eq_true p21; replace q21 := eq_true q21; obtain ⟨hy25_, hz25_⟩ := Kd.R_celln 0 HO_5.out ((ji15) : Int) (of_decide_eq_true (za)) (of_decide_eq_true (za)); have HP25 := Kd.R_putg HO_5.out ((ji15) : Int) (rd x5_2 x8_2)) | ((with_reducible refine gate_store (t := 3) (p := 62) rfl ?_); (try (rw [drewN_self w24]; generalize hq_ : World.drewN w24 _ = w24; have n0_ := Aside0.mk (Kd.R_at hq_ HO_5.out); have n1_ := Aside0.mk (Kd.R_at hq_ HO_6.out); have n2_ := Aside0.mk (below_at hq_ HB.out); clear hq_ HO_5 HO_6 HB; have HO_5 := n0_; have HO_6 := n1_; have HB := n2_; clear n0_ n1_ n2_; (try (obtain ⟨hy25_, hz25_⟩ := Kd.R_celln 0 HO_5.out ((ji15) : Int) (of_decide_eq_true (za)) (of_decide_eq_true (za)))); (try (have HP25 := Kd.R_putg HO_5.out ((ji15) : Int) (rd x5_2 x8_2))))); refine store_event (t := 3) (p := 62) (v := ?vo_w26) (w1 := (w24.setCell ⟨go20, ((ji15) : Int).toNat, none⟩ (.int .i64 (rd x5_2 x8_2)))) ?hg ?ho ?hn ?hr ?_; (case ho => rfl); (case hg => rfl); (case hn => rfl); (case hr => first | (go_simp; done) | (go_simp; rfl)); intro w26 hw; have hg : w24.grownBy w26 (some go20) := (by rw [hw]; exact HP25.2); have hp_ : Kd.R (Kd.int .i64) 3 w26 w.heap.size (fun k_ => some k_ ≠ (.slice Ao22 x6_1.length co22 : Value).ownBlock) (.slice (some ⟨go20, 0, none⟩) x5_2.length co11) y344 := (by rw [hw, Ny344.out]; exact HP25.1); clear HP25; have n0_ := Aside0.mk (hp_); have n1_ := Aside0.mk (Kd.R_after (v := (.slice (some ⟨go20, 0, none⟩) x5_2.length co11)) (v1 := (.slice (some ⟨go20, 0, none⟩) x5_2.length co11)) (ok := (fun _ => True)) (zr HO_6.out) hg (.inl rfl)); have n2_ := Aside0.mk ((by rw [hw]; exact below_set (HB.out) GB20.out : Below w.heap.size w w26)); clear HO_5 HO_6 HB; have HO_5 := n0_; have HO_6 := n1_; have HB := n2_; clear n0_ n1_ n2_; clear hg hw hp_)))
                            (try simp only [← hl5_2])
                            go_roundg k2
                            case measure => have := HK1.out; have := HK2.out; omega
                            case rel => exact ⟨(y344), (ji15), (by first | rfl | (simp; done) | (simp only [← hji15] <;> (first | rfl | simp)) | (simp [*]; done)), H', ⟨by have := HK1.out; have := HK2.out; omega⟩, ⟨by (try simp only [hl5_2]); (with_reducible repeat (first | apply Kd.R_alloc | apply Kd.R_drewN | apply Kd.R_drew)); exact HO_5.out⟩, ⟨by (try simp only [hl5_2]); (with_reducible repeat (first | apply Kd.R_alloc | apply Kd.R_drewN | apply Kd.R_drew)); exact Kd.R_mono HO_6.out (fun _ hk => hk.2)⟩, ⟨zb HB.out⟩⟩
                          replace c19 := Bool.eq_false_iff.mpr c19
                          subst c19
                          have H1 : (spec_byTail.l0 k2 l1 x5_2 x6_1 (wrap64 (x7_1 + 1))) = some r := by rw [if_neg (show ¬ (false = true) by decide)] at H; exact H
                          clear H
                          have H := H1
                          clear H1
                          have H' := Aside0.mk H
                          clear H
                          have p338 : 0 ≤ (x8_2 : Int) := of_decide_eq_true (za)
                          have q338 : x8_2 < (x5_2.length : Int) := of_decide_eq_true (za)
                          obtain ⟨ad338, e338, hx338_0⟩ := Kd.at_int (Kd.R_reads' HO_5.out).2.2 x8_2 p338 q338
                          cases e338
                          replace p338 := eq_true p338
                          replace q338 := eq_true q338
                          have p339 : 0 ≤ ((ji15) : Int) := of_decide_eq_true (za)
                          have q339 : (ji15) < (x5_2.length : Int) := of_decide_eq_true (za)
                          obtain ⟨ad339, e339, hx339_0⟩ := Kd.at_int (Kd.R_reads' HO_5.out).2.2 (ji15) p339 q339
                          obtain rfl : ad338 = ad339 := (by injection e339)
                          replace p339 := eq_true p339
                          replace q339 := eq_true q339
                          obtain ⟨Ao27, co27, eo27⟩ := Kd.R_slice HO_6.out
                          subst eo27
                          go_wp2_with (first | (go_at_call 112; (with_reducible refine (spec_sooner.calls _ _ x6_1 (rd x5_2 x8_2) (rd x5_2 (ji15)) false _ ?side1 ?side2 A18.out).mono ?_); (case side1 => exact zt (Kd.R_reads' HO_6.out).2.2); (case side2 => exact (Kd.R_reads' HO_6.out).2.1); rintro e w' ⟨rfl, ⟨nd, rfl⟩⟩; (try first | exact ⟨rfl, _, World.drewN_drewN _ _ _⟩ | exact ⟨rfl, _, Eq.trans (World.drewN_drewN _ _ _) (congrArg (World.drewN _) (Nat.add_assoc _ _ _))⟩)))
                          repeat (go_quiet (first | (go_at_call 112; (with_reducible refine (spec_sooner.calls _ _ x6_1 (rd x5_2 x8_2) (rd x5_2 (ji15)) false _ ?side1 ?side2 A18.out).mono ?_); (case side1 => exact zt (Kd.R_reads' HO_6.out).2.2); (case side2 => exact (Kd.R_reads' HO_6.out).2.1); rintro e w' ⟨rfl, ⟨nd, rfl⟩⟩; (try first | exact ⟨rfl, _, World.drewN_drewN _ _ _⟩ | exact ⟨rfl, _, Eq.trans (World.drewN_drewN _ _ _) (congrArg (World.drewN _) (Nat.add_assoc _ _ _))⟩))); try go_wp2_with (first | (go_at_call 112; (with_reducible refine (spec_sooner.calls _ _ x6_1 (rd x5_2 x8_2) (rd x5_2 (ji15)) false _ ?side1 ?side2 A18.out).mono ?_); (case side1 => exact zt (Kd.R_reads' HO_6.out).2.2); (case side2 => exact (Kd.R_reads' HO_6.out).2.1); rintro e w' ⟨rfl, ⟨nd, rfl⟩⟩; (try first | exact ⟨rfl, _, World.drewN_drewN _ _ _⟩ | exact ⟨rfl, _, Eq.trans (World.drewN_drewN _ _ _) (congrArg (World.drewN _) (Nat.add_assoc _ _ _))⟩))))
                          (try simp only [← hl5_2])
                          go_roundg k2
                          case measure => have := HK1.out; have := HK2.out; omega
                          case rel => exact ⟨(x5_2), (x6_1), (wrap64 (x7_1 + 1)), (zf), H', ⟨by have := HK1.out; have := HK2.out; omega⟩, ⟨by (try simp only [hl5_2]); (with_reducible repeat (first | apply Kd.R_alloc | apply Kd.R_drewN | apply Kd.R_drew)); exact HO_5.out⟩, ⟨by (try simp only [hl5_2]); (with_reducible repeat (first | apply Kd.R_alloc | apply Kd.R_drewN | apply Kd.R_drew)); exact HO_6.out⟩, ⟨zb HB.out⟩⟩
                        rw [if_neg c17] at H
                        exact absurd H (by simp)
                      rw [if_neg c16] at H
                      exact absurd H (by simp)
                    rw [if_neg c14] at H
                    exact absurd H (by simp)
                  rw [if_neg c13] at H
                  exact absurd H (by simp)
                rw [if_neg c12] at H
                have c12b0 : decide (0 < x8_2) = false := decide_eq_false c12
                clear c12
                have H' := Aside0.mk H
                clear H
                go_wp2
                repeat (go_quiet (fail); try go_wp2)
                (try simp only [← hl5_2])
                go_roundg k2
                case measure => have := HK1.out; have := HK2.out; omega
                case rel => exact ⟨(x5_2), (x6_1), (wrap64 (x7_1 + 1)), (zf), H', ⟨by have := HK1.out; have := HK2.out; omega⟩, ⟨by (try simp only [hl5_2]); (with_reducible repeat (first | apply Kd.R_alloc | apply Kd.R_drewN | apply Kd.R_drew)); exact HO_5.out⟩, ⟨by (try simp only [hl5_2]); (with_reducible repeat (first | apply Kd.R_alloc | apply Kd.R_drewN | apply Kd.R_drew)); exact HO_6.out⟩, ⟨zb HB.out⟩⟩
          rw [if_neg c9] at H
          exact absurd H (by simp)
        rw [if_neg c8] at H
        exact absurd H (by simp)
      rw [if_neg c7] at H
      have c7b0 : decide (x7_1 < (l1.length : Int)) = false := decide_eq_false c7
      clear c7
      obtain rfl := Option.some.inj H
      go_wp2
      repeat (go_quiet (fail); try go_wp2)
      go_ret
      exact ⟨_, ze, by (with_reducible repeat (first | apply Kd.R_alloc | apply Kd.R_drewN | apply Kd.R_drew)); exact Kd.R_mono HO_5.out (fun _ hk => trivial), zb HB.out⟩

end Go.Proofs.YtaoeopeempmnnaaDoor.PA

