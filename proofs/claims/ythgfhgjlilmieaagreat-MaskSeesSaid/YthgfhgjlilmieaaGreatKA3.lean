/- texts of this claim, merged by a program of this session out of its own texts and the print's words -/
import Derived.BigQuiet
import Derived.BigRegion
import Derived.ChangeAlike
import Derived.Deep.QuietTactic
import Derived.Deep.RegionHeld3
import Derived.Outline
import Derived.RegionTactic
import Derived.StillTailTactics
import Derived.Test.YthgfhgjlilmieaaGreatKA0
import Derived.Test.YthgfhgjlilmieaaGreatKA1
import Derived.Test.YthgfhgjlilmieaaGreatKA2
namespace Go.Proofs.YthgfhgjlilmieaaGreat.B
open Go.RowKit Go.Proofs.YthgfhgjlilmieaaGreatW.PrintWords Go.Proofs.YthgfhgjlilmieaaGreatW.PrintLast Go.Proofs.YthgfhgjlilmieaaGreatW.PrintMore
attribute [local go_sem] max2_int min2_int max_two min_two max_three min_three max_four min_four
set_option linter.unusedVariables false
set_option linter.unusedSimpArgs false
def glisterref06_In.f (a0 : Int) (a1 : Int) (a2 : Int) : Option (Bool) := if a0 ≥ a1 then (some (decide (a0 ≤ a2))) else (some false)
set_option maxHeartbeats 8000000 in
set_option maxRecDepth 100000 in
theorem glisterref06_In.calls (a0 : Int) (a1 : Int) (a2 : Int) (r : Bool) (w : World) (h : glisterref06_In.f a0 a1 a2 = some r) :
  Calls Tryz.prog 23 #[.int .i64 a0, .int .i64 a1, .int .i64 a2] w fun e w' => e = .returned (.bool r) ∧ Drawn0 w w' := by
 have H : (if a0 ≥ a1 then (some (decide (a0 ≤ a2))) else (some false)) = some r := h
 clear h
 by_cases c4 : a0 ≥ a1
 ·rw [if_pos c4] at H
  have c4b0 : decide (a1 ≤ a0) = true := decide_eq_true c4
  clear c4
  obtain rfl := Option.some.inj H
  go_enter Tryz.func23, Tryz.ntmps23
  go_wp2
  go_ret
  exact ⟨by first | rfl | (simp; done) | (simp [*]; done), by repeat (first | exact Drawn0.refl _ | apply Drawn0.step)⟩
 ·rw [if_neg c4] at H
  have c4b0 : decide (a1 ≤ a0) = false := decide_eq_false c4
  clear c4
  obtain rfl := Option.some.inj H
  go_enter Tryz.func23, Tryz.ntmps23
  go_wp2
  go_ret
  exact ⟨by first | rfl | (simp; done) | (simp [*]; done), by repeat (first | exact Drawn0.refl _ | apply Drawn0.step)⟩
def glisterref02_In.f (a0 : Int) (a1 : Int) (a2 : Int) : Option (Bool) := if a0 ≥ a1 then (some (decide (a0 ≤ a2))) else (some false)
set_option maxHeartbeats 8000000 in
set_option maxRecDepth 100000 in
theorem glisterref02_In.calls (a0 : Int) (a1 : Int) (a2 : Int) (r : Bool) (w : World) (h : glisterref02_In.f a0 a1 a2 = some r) :
  Calls Tryz.prog 127 #[.int .i64 a0, .int .i64 a1, .int .i64 a2] w fun e w' => e = .returned (.bool r) ∧ Drawn0 w w' := by
 have H : (if a0 ≥ a1 then (some (decide (a0 ≤ a2))) else (some false)) = some r := h
 clear h
 by_cases c4 : a0 ≥ a1
 ·rw [if_pos c4] at H
  have c4b0 : decide (a1 ≤ a0) = true := decide_eq_true c4
  clear c4
  obtain rfl := Option.some.inj H
  go_enter Tryz.func127, Tryz.ntmps127
  go_wp2
  go_ret
  exact ⟨by first | rfl | (simp; done) | (simp [*]; done), by repeat (first | exact Drawn0.refl _ | apply Drawn0.step)⟩
 ·rw [if_neg c4] at H
  have c4b0 : decide (a1 ≤ a0) = false := decide_eq_false c4
  clear c4
  obtain rfl := Option.some.inj H
  go_enter Tryz.func127, Tryz.ntmps127
  go_wp2
  go_ret
  exact ⟨by first | rfl | (simp; done) | (simp [*]; done), by repeat (first | exact Drawn0.refl _ | apply Drawn0.step)⟩
def glisterref02_Same.l0 : Nat → List Int → List Int → Int → Option (Bool)
 | 0, _, _, _ => none
 | k + 1, x0, x1, x5 => if x5 < (x0.length : Int) then (if 0 ≤ x5 then (if x5 < (x1.length : Int) then (if (rd x0 x5) = (rd x1 x5) then (glisterref02_Same.l0 k x0 x1 (wrap64 (x5 + 1))) else (some false)) else (none)) else (none)) else (some true)
def glisterref02_Same.f (k : Nat) (l0 : List Int) (l1 : List Int) : Option (Bool) := if (l0.length : Int) = (l1.length : Int) then (glisterref02_Same.l0 k l0 l1 0) else (some false)
theorem glisterref02_Same.mono_l : ∀ k, (∀ y0 y1 y2, LeO (glisterref02_Same.l0 k y0 y1 y2) (glisterref02_Same.l0 (k + 1) y0 y1 y2))
 | 0 => fun _ _ _ r h => by simp [glisterref02_Same.l0] at h
 | k + 1 => by
  have ih0 := glisterref02_Same.mono_l k
  ·intro y0 y1 y2
   unfold glisterref02_Same.l0
   repeat' first
   | (with_reducible exact ih0 _ _ _)
   | (with_reducible exact LeO.refl _)
   | (with_reducible exact LeO.none _)
   | (with_reducible refine LeO.ite ?_ ?_)
   | (with_reducible refine LeO.bind ?_ (fun _ => ?_))
   | exact ih0 _ _ _
   | exact LeO.none _
   | refine LeO.ite ?_ ?_
   | refine LeO.bind ?_ (fun _ => ?_)
theorem glisterref02_Same.mono : ∀ a0 a1 k, LeO (glisterref02_Same.f k a0 a1) (glisterref02_Same.f (k + 1) a0 a1) := by
 intro a0 a1 k
 have ih0 := glisterref02_Same.mono_l k
 unfold glisterref02_Same.f
 repeat' first
   | (with_reducible exact ih0 _ _ _)
   | (with_reducible exact LeO.refl _)
   | (with_reducible exact LeO.none _)
   | (with_reducible refine LeO.ite ?_ ?_)
   | (with_reducible refine LeO.bind ?_ (fun _ => ?_))
   | exact ih0 _ _ _
   | exact LeO.none _
   | refine LeO.ite ?_ ?_
   | refine LeO.bind ?_ (fun _ => ?_)
set_option maxHeartbeats 8000000 in
set_option maxRecDepth 100000 in
theorem glisterref02_Same.calls (k : Nat) (A0 : Option Addr) (c0 : Nat) (l0 : List Int) (A1 : Option Addr) (c1 : Nat) (l1 : List Int) (r : Bool) (w : World) (hr0 : Kd.C (Kd.int .i64) w A0 l0.length l0) (hc0 : l0.length ≤ c0) (hr1 : Kd.C (Kd.int .i64) w A1 l1.length l1) (hc1 : l1.length ≤ c1) (h : glisterref02_Same.f k l0 l1 = some r) :
  Calls Tryz.prog 24 #[.slice A0 l0.length c0, .slice A1 l1.length c1] w fun e w' => e = .returned (.bool r) ∧ Drawn0 w w' := by
 have HR0 := Aside0.mk hr0
 have HC0 := Aside0.mk hc0
 clear hr0 hc0
 have HR1 := Aside0.mk hr1
 have HC1 := Aside0.mk hc1
 clear hr1 hc1
 have H : (if (l0.length : Int) = (l1.length : Int) then (glisterref02_Same.l0 k l0 l1 0) else (some false)) = some r := h
 clear h
 by_cases c3 : (l0.length : Int) = (l1.length : Int)
 ·rw [if_pos c3] at H
  have c3b0 : ((l0.length : Int) == (l1.length : Int)) = true := beq_iff_eq.mpr c3
  have c3b1 : ((l0.length : Int) != (l1.length : Int)) = false := bne_eq_false_iff_eq.mpr c3
  have c3b2 : (l0.length == l1.length) = true := by first | simpa using c3 | (simp at c3 ⊢; omega)
  clear c3
  have H' := Aside0.mk H
  clear H
  go_enter Tryz.func24, Tryz.ntmps24
  go_wp2
  repeat (go_quiet (fail); try go_wp2)
  go_loopg [5] k (fun kq v5 w' => ∃ (x5_1 : Int), v5 = .int .i64 x5_1 ∧ Aside0 (glisterref02_Same.l0 kq l0 l1 x5_1 = some r) ∧ Aside0 (kq ≤ k) ∧ Drawn0 w w')
  case atStart => exact ⟨(0), (by first | rfl | (simp; done) | (simp [*]; done)), H', ⟨Nat.le_refl _⟩, by repeat (first | exact Drawn0.refl _ | apply Drawn0.step)⟩
  case round =>
   clear H'
   try clear c1
   try clear c2
   try clear p2
   try clear c3
   try clear c3b0
   try clear c3b1
   try clear c3b2
   obtain ⟨x5_1, rfl, HA, HK1, ⟨m1, rfl⟩⟩ := hrel
   cases gk with
   | zero => exact absurd HA.out (by simp [glisterref02_Same.l0])
   | succ k1 =>
    have H := HA.out
    clear HA
    simp only [glisterref02_Same.l0] at H
    by_cases c4 : x5_1 < (l0.length : Int)
    ·rw [if_pos c4] at H
     have c4b0 : decide (x5_1 < (l0.length : Int)) = true := decide_eq_true c4
     clear c4
     by_cases c5 : 0 ≤ x5_1
     ·rw [if_pos c5] at H
      have c5b0 : decide (0 ≤ x5_1) = true := decide_eq_true c5
      clear c5
      by_cases c6 : x5_1 < (l1.length : Int)
      ·rw [if_pos c6] at H
       have c6b0 : decide (x5_1 < (l1.length : Int)) = true := decide_eq_true c6
       clear c6
       by_cases c7 : (rd l0 x5_1) = (rd l1 x5_1)
       ·rw [if_pos c7] at H
        have c7b0 : ((rd l0 x5_1) == (rd l1 x5_1)) = true := beq_iff_eq.mpr c7
        have c7b1 : ((rd l0 x5_1) != (rd l1 x5_1)) = false := bne_eq_false_iff_eq.mpr c7
        clear c7
        have H' := Aside0.mk H
        clear H
        have p118 : 0 ≤ (x5_1 : Int) := of_decide_eq_true (by first | (with_reducible assumption) | assumption)
        have q118 : x5_1 < (l0.length : Int) := of_decide_eq_true (by first | (with_reducible assumption) | assumption)
        obtain ⟨ad118, e118, hx118_0⟩ := Kd.at_int HR0.out x5_1 p118 q118
        cases e118
        replace p118 := eq_true p118
        replace q118 := eq_true q118
        have p119 : 0 ≤ (x5_1 : Int) := of_decide_eq_true (by first | (with_reducible assumption) | assumption)
        have q119 : x5_1 < (l1.length : Int) := of_decide_eq_true (by first | (with_reducible assumption) | assumption)
        obtain ⟨ad119, e119, hx119_0⟩ := Kd.at_int HR1.out x5_1 p119 q119
        cases e119
        replace p119 := eq_true p119
        replace q119 := eq_true q119
        go_wp2
        repeat (go_quiet (fail); try go_wp2)
        go_roundg k1
        case measure => have := HK1.out; omega
        case rel => exact ⟨(wrap64 (x5_1 + 1)), (by first | rfl | (simp; done) | (simp [*]; done)), H', ⟨by have := HK1.out; omega⟩, by repeat (first | exact Drawn0.refl _ | apply Drawn0.step)⟩
       ·rw [if_neg c7] at H
        have c7b0 : ((rd l0 x5_1) == (rd l1 x5_1)) = false := beq_eq_false_iff_ne.mpr c7
        have c7b1 : ((rd l0 x5_1) != (rd l1 x5_1)) = true := bne_iff_ne.mpr c7
        obtain rfl := Option.some.inj H
        have p118 : 0 ≤ (x5_1 : Int) := of_decide_eq_true (by first | (with_reducible assumption) | assumption)
        have q118 : x5_1 < (l0.length : Int) := of_decide_eq_true (by first | (with_reducible assumption) | assumption)
        obtain ⟨ad118, e118, hx118_0⟩ := Kd.at_int HR0.out x5_1 p118 q118
        cases e118
        replace p118 := eq_true p118
        replace q118 := eq_true q118
        have p119 : 0 ≤ (x5_1 : Int) := of_decide_eq_true (by first | (with_reducible assumption) | assumption)
        have q119 : x5_1 < (l1.length : Int) := of_decide_eq_true (by first | (with_reducible assumption) | assumption)
        obtain ⟨ad119, e119, hx119_0⟩ := Kd.at_int HR1.out x5_1 p119 q119
        cases e119
        replace p119 := eq_true p119
        replace q119 := eq_true q119
        go_wp2
        repeat (go_quiet (fail); try go_wp2)
        go_ret
        exact ⟨by first | rfl | (simp; done) | (simp [*]; done), by repeat (first | exact Drawn0.refl _ | apply Drawn0.step)⟩
      ·rw [if_neg c6] at H
       exact absurd H (by simp)
     ·rw [if_neg c5] at H
      exact absurd H (by simp)
    ·rw [if_neg c4] at H
     have c4b0 : decide (x5_1 < (l0.length : Int)) = false := decide_eq_false c4
     clear c4
     obtain rfl := Option.some.inj H
     go_wp2
     repeat (go_quiet (fail); try go_wp2)
     go_ret
     exact ⟨by first | rfl | (simp; done) | (simp [*]; done), by repeat (first | exact Drawn0.refl _ | apply Drawn0.step)⟩
 ·rw [if_neg c3] at H
  have c3b0 : ((l0.length : Int) == (l1.length : Int)) = false := beq_eq_false_iff_ne.mpr c3
  have c3b1 : ((l0.length : Int) != (l1.length : Int)) = true := bne_iff_ne.mpr c3
  have c3b2 : (l0.length == l1.length) = false := by first | simpa using c3 | (simp at c3 ⊢; omega)
  obtain rfl := Option.some.inj H
  go_enter Tryz.func24, Tryz.ntmps24
  go_wp2
  repeat (go_quiet (fail); try go_wp2)
  go_ret
  exact ⟨by first | rfl | (simp; done) | (simp [*]; done), by repeat (first | exact Drawn0.refl _ | apply Drawn0.step)⟩
def glisterlaw06_same.l0 : Nat → List (List Int) → List (List Int) → Int → Option (Bool)
 | 0, _, _, _ => none
 | k + 1, x0, x1, x5 => if x5 < (x0.length : Int) then (if 0 ≤ x5 then (if x5 < (x1.length : Int) then ((glisterref02_Same.f k (rd_L2 x0 x5) (rd_L2 x1 x5)).bind fun t148 => (if t148 = true then (glisterlaw06_same.l0 k x0 x1 (wrap64 (x5 + 1))) else (some false))) else (none)) else (none)) else (some true)
def glisterlaw06_same.f (k : Nat) (l0 : List (List Int)) (l1 : List (List Int)) : Option (Bool) := if (l0.length : Int) = (l1.length : Int) then (glisterlaw06_same.l0 k l0 l1 0) else (some false)
theorem glisterlaw06_same.mono_l : ∀ k, (∀ y0 y1 y2, LeO (glisterlaw06_same.l0 k y0 y1 y2) (glisterlaw06_same.l0 (k + 1) y0 y1 y2))
 | 0 => fun _ _ _ r h => by simp [glisterlaw06_same.l0] at h
 | k + 1 => by
  have ih0 := glisterlaw06_same.mono_l k
  ·intro y0 y1 y2
   unfold glisterlaw06_same.l0
   repeat' first
   | (with_reducible exact ih0 _ _ _)
   | (with_reducible exact glisterref02_Same.mono _ _ _)
   | (with_reducible exact LeO.refl _)
   | (with_reducible exact LeO.none _)
   | (with_reducible refine LeO.ite ?_ ?_)
   | (with_reducible refine LeO.bind ?_ (fun _ => ?_))
   | exact ih0 _ _ _
   | exact glisterref02_Same.mono _ _ _
   | exact LeO.none _
   | refine LeO.ite ?_ ?_
   | refine LeO.bind ?_ (fun _ => ?_)
theorem glisterlaw06_same.mono : ∀ a0 a1 k, LeO (glisterlaw06_same.f k a0 a1) (glisterlaw06_same.f (k + 1) a0 a1) := by
 intro a0 a1 k
 have ih0 := glisterlaw06_same.mono_l k
 unfold glisterlaw06_same.f
 repeat' first
   | (with_reducible exact ih0 _ _ _)
   | (with_reducible exact glisterref02_Same.mono _ _ _)
   | (with_reducible exact LeO.refl _)
   | (with_reducible exact LeO.none _)
   | (with_reducible refine LeO.ite ?_ ?_)
   | (with_reducible refine LeO.bind ?_ (fun _ => ?_))
   | exact ih0 _ _ _
   | exact glisterref02_Same.mono _ _ _
   | exact LeO.none _
   | refine LeO.ite ?_ ?_
   | refine LeO.bind ?_ (fun _ => ?_)
set_option maxHeartbeats 8000000 in
set_option maxRecDepth 100000 in
theorem glisterlaw06_same.calls (k : Nat) (A0 : Option Addr) (c0 : Nat) (l0 : List (List Int)) (A1 : Option Addr) (c1 : Nat) (l1 : List (List Int)) (r : Bool) (w : World) (hr0 : Kd.C (Kd.slice 3 (Kd.int .i64)) w A0 l0.length l0) (hc0 : l0.length ≤ c0) (hr1 : Kd.C (Kd.slice 3 (Kd.int .i64)) w A1 l1.length l1) (hc1 : l1.length ≤ c1) (h : glisterlaw06_same.f k l0 l1 = some r) :
  Calls Tryz.prog 28 #[.slice A0 l0.length c0, .slice A1 l1.length c1] w fun e w' => e = .returned (.bool r) ∧ Drawn0 w w' := by
 have HR0 := Aside0.mk hr0
 have HC0 := Aside0.mk hc0
 clear hr0 hc0
 have HR1 := Aside0.mk hr1
 have HC1 := Aside0.mk hc1
 clear hr1 hc1
 have H : (if (l0.length : Int) = (l1.length : Int) then (glisterlaw06_same.l0 k l0 l1 0) else (some false)) = some r := h
 clear h
 by_cases c3 : (l0.length : Int) = (l1.length : Int)
 ·rw [if_pos c3] at H
  have c3b0 : ((l0.length : Int) == (l1.length : Int)) = true := beq_iff_eq.mpr c3
  have c3b1 : ((l0.length : Int) != (l1.length : Int)) = false := bne_eq_false_iff_eq.mpr c3
  have c3b2 : (l0.length == l1.length) = true := by first | simpa using c3 | (simp at c3 ⊢; omega)
  clear c3
  have H' := Aside0.mk H
  clear H
  go_enter Tryz.func28, Tryz.ntmps28
  go_wp2
  repeat (go_quiet (fail); try go_wp2)
  go_loopg [5] k (fun kq v5 w' => ∃ (x5_1 : Int), v5 = .int .i64 x5_1 ∧ Aside0 (glisterlaw06_same.l0 kq l0 l1 x5_1 = some r) ∧ Aside0 (kq ≤ k) ∧ Drawn0 w w')
  case atStart => exact ⟨(0), (by first | rfl | (simp; done) | (simp [*]; done)), H', ⟨Nat.le_refl _⟩, by repeat (first | exact Drawn0.refl _ | apply Drawn0.step)⟩
  case round =>
   clear H'
   try clear c1
   try clear c2
   try clear p2
   try clear c3
   try clear c3b0
   try clear c3b1
   try clear c3b2
   obtain ⟨x5_1, rfl, HA, HK1, ⟨m1, rfl⟩⟩ := hrel
   cases gk with
   | zero => exact absurd HA.out (by simp [glisterlaw06_same.l0])
   | succ k1 =>
    have H := HA.out
    clear HA
    simp only [glisterlaw06_same.l0] at H
    by_cases c4 : x5_1 < (l0.length : Int)
    ·rw [if_pos c4] at H
     have c4b0 : decide (x5_1 < (l0.length : Int)) = true := decide_eq_true c4
     clear c4
     by_cases c5 : 0 ≤ x5_1
     ·rw [if_pos c5] at H
      have c5b0 : decide (0 ≤ x5_1) = true := decide_eq_true c5
      clear c5
      by_cases c6 : x5_1 < (l1.length : Int)
      ·rw [if_pos c6] at H
       have c6b0 : decide (x5_1 < (l1.length : Int)) = true := decide_eq_true c6
       clear c6
       replace H := Option.bind_eq_some_iff.mp H
       obtain ⟨t148, A70, H⟩ := H
       replace H : (if t148 = true then (glisterlaw06_same.l0 k1 l0 l1 (wrap64 (x5_1 + 1))) else (some false)) = some r := H
       have A7 := Aside0.mk A70
       clear A70
       by_cases c8 : t148 = true
       ·subst c8
        have H1 : (glisterlaw06_same.l0 k1 l0 l1 (wrap64 (x5_1 + 1))) = some r := by rw [if_pos rfl] at H; exact H
        clear H
        have H := H1
        clear H1
        have H' := Aside0.mk H
        clear H
        have p146 : 0 ≤ (x5_1 : Int) := of_decide_eq_true (by first | (with_reducible assumption) | assumption)
        have q146 : x5_1 < (l0.length : Int) := of_decide_eq_true (by first | (with_reducible assumption) | assumption)
        obtain ⟨ad146, A146_0, c146_0, e146, hx146_0, hl146_0, hi146_0⟩ := at_L2 HR0.out x5_1 p146 q146
        cases e146
        have HR146_0 := Aside0.mk hi146_0
        have HC146_0 := Aside0.mk hl146_0
        clear hi146_0 hl146_0
        replace p146 := eq_true p146
        replace q146 := eq_true q146
        have p147 : 0 ≤ (x5_1 : Int) := of_decide_eq_true (by first | (with_reducible assumption) | assumption)
        have q147 : x5_1 < (l1.length : Int) := of_decide_eq_true (by first | (with_reducible assumption) | assumption)
        obtain ⟨ad147, A147_0, c147_0, e147, hx147_0, hl147_0, hi147_0⟩ := at_L2 HR1.out x5_1 p147 q147
        cases e147
        have HR147_0 := Aside0.mk hi147_0
        have HC147_0 := Aside0.mk hl147_0
        clear hi147_0 hl147_0
        replace p147 := eq_true p147
        replace q147 := eq_true q147
        go_wp2_with (first | (go_at_call 24; (with_reducible refine (glisterref02_Same.calls k1 _ _ (rd_L2 l0 x5_1) _ _ (rd_L2 l1 x5_1) true _ ?side1 ?side2 ?side3 ?side4 A7.out).mono ?_); (case side1 => repeat (first | exact HR146_0.out | (with_reducible refine Kd.C_alloc ?_ _) | (with_reducible refine Kd.C_drewN ?_ _) | (with_reducible refine Kd.C_drew ?_))); (case side2 => exact HC146_0.out); (case side3 => repeat (first | exact HR147_0.out | (with_reducible refine Kd.C_alloc ?_ _) | (with_reducible refine Kd.C_drewN ?_ _) | (with_reducible refine Kd.C_drew ?_))); (case side4 => exact HC147_0.out); rintro e w' ⟨rfl, ⟨nd, rfl⟩⟩; (try first | exact ⟨rfl, _, World.drewN_drewN _ _ _⟩ | exact ⟨rfl, _, Eq.trans (World.drewN_drewN _ _ _) (congrArg (World.drewN _) (Nat.add_assoc _ _ _))⟩)))
        repeat (go_quiet (first | (go_at_call 24; (with_reducible refine (glisterref02_Same.calls k1 _ _ (rd_L2 l0 x5_1) _ _ (rd_L2 l1 x5_1) true _ ?side1 ?side2 ?side3 ?side4 A7.out).mono ?_); (case side1 => repeat (first | exact HR146_0.out | (with_reducible refine Kd.C_alloc ?_ _) | (with_reducible refine Kd.C_drewN ?_ _) | (with_reducible refine Kd.C_drew ?_))); (case side2 => exact HC146_0.out); (case side3 => repeat (first | exact HR147_0.out | (with_reducible refine Kd.C_alloc ?_ _) | (with_reducible refine Kd.C_drewN ?_ _) | (with_reducible refine Kd.C_drew ?_))); (case side4 => exact HC147_0.out); rintro e w' ⟨rfl, ⟨nd, rfl⟩⟩; (try first | exact ⟨rfl, _, World.drewN_drewN _ _ _⟩ | exact ⟨rfl, _, Eq.trans (World.drewN_drewN _ _ _) (congrArg (World.drewN _) (Nat.add_assoc _ _ _))⟩))); try go_wp2_with (first | (go_at_call 24; (with_reducible refine (glisterref02_Same.calls k1 _ _ (rd_L2 l0 x5_1) _ _ (rd_L2 l1 x5_1) true _ ?side1 ?side2 ?side3 ?side4 A7.out).mono ?_); (case side1 => repeat (first | exact HR146_0.out | (with_reducible refine Kd.C_alloc ?_ _) | (with_reducible refine Kd.C_drewN ?_ _) | (with_reducible refine Kd.C_drew ?_))); (case side2 => exact HC146_0.out); (case side3 => repeat (first | exact HR147_0.out | (with_reducible refine Kd.C_alloc ?_ _) | (with_reducible refine Kd.C_drewN ?_ _) | (with_reducible refine Kd.C_drew ?_))); (case side4 => exact HC147_0.out); rintro e w' ⟨rfl, ⟨nd, rfl⟩⟩; (try first | exact ⟨rfl, _, World.drewN_drewN _ _ _⟩ | exact ⟨rfl, _, Eq.trans (World.drewN_drewN _ _ _) (congrArg (World.drewN _) (Nat.add_assoc _ _ _))⟩))))
        go_roundg k1
        case measure => have := HK1.out; omega
        case rel => exact ⟨(wrap64 (x5_1 + 1)), (by first | rfl | (simp; done) | (simp [*]; done)), H', ⟨by have := HK1.out; omega⟩, by repeat (first | exact Drawn0.refl _ | apply Drawn0.step)⟩
       ·replace c8 := Bool.eq_false_iff.mpr c8
        subst c8
        have H1 : (some false) = some r := by rw [if_neg (show ¬ (false = true) by decide)] at H; exact H
        clear H
        have H := H1
        clear H1
        obtain rfl := Option.some.inj H
        have p146 : 0 ≤ (x5_1 : Int) := of_decide_eq_true (by first | (with_reducible assumption) | assumption)
        have q146 : x5_1 < (l0.length : Int) := of_decide_eq_true (by first | (with_reducible assumption) | assumption)
        obtain ⟨ad146, A146_0, c146_0, e146, hx146_0, hl146_0, hi146_0⟩ := at_L2 HR0.out x5_1 p146 q146
        cases e146
        have HR146_0 := Aside0.mk hi146_0
        have HC146_0 := Aside0.mk hl146_0
        clear hi146_0 hl146_0
        replace p146 := eq_true p146
        replace q146 := eq_true q146
        have p147 : 0 ≤ (x5_1 : Int) := of_decide_eq_true (by first | (with_reducible assumption) | assumption)
        have q147 : x5_1 < (l1.length : Int) := of_decide_eq_true (by first | (with_reducible assumption) | assumption)
        obtain ⟨ad147, A147_0, c147_0, e147, hx147_0, hl147_0, hi147_0⟩ := at_L2 HR1.out x5_1 p147 q147
        cases e147
        have HR147_0 := Aside0.mk hi147_0
        have HC147_0 := Aside0.mk hl147_0
        clear hi147_0 hl147_0
        replace p147 := eq_true p147
        replace q147 := eq_true q147
        go_wp2_with (first | (go_at_call 24; (with_reducible refine (glisterref02_Same.calls k1 _ _ (rd_L2 l0 x5_1) _ _ (rd_L2 l1 x5_1) false _ ?side1 ?side2 ?side3 ?side4 A7.out).mono ?_); (case side1 => repeat (first | exact HR146_0.out | (with_reducible refine Kd.C_alloc ?_ _) | (with_reducible refine Kd.C_drewN ?_ _) | (with_reducible refine Kd.C_drew ?_))); (case side2 => exact HC146_0.out); (case side3 => repeat (first | exact HR147_0.out | (with_reducible refine Kd.C_alloc ?_ _) | (with_reducible refine Kd.C_drewN ?_ _) | (with_reducible refine Kd.C_drew ?_))); (case side4 => exact HC147_0.out); rintro e w' ⟨rfl, ⟨nd, rfl⟩⟩; (try first | exact ⟨rfl, _, World.drewN_drewN _ _ _⟩ | exact ⟨rfl, _, Eq.trans (World.drewN_drewN _ _ _) (congrArg (World.drewN _) (Nat.add_assoc _ _ _))⟩)))
        repeat (go_quiet (first | (go_at_call 24; (with_reducible refine (glisterref02_Same.calls k1 _ _ (rd_L2 l0 x5_1) _ _ (rd_L2 l1 x5_1) false _ ?side1 ?side2 ?side3 ?side4 A7.out).mono ?_); (case side1 => repeat (first | exact HR146_0.out | (with_reducible refine Kd.C_alloc ?_ _) | (with_reducible refine Kd.C_drewN ?_ _) | (with_reducible refine Kd.C_drew ?_))); (case side2 => exact HC146_0.out); (case side3 => repeat (first | exact HR147_0.out | (with_reducible refine Kd.C_alloc ?_ _) | (with_reducible refine Kd.C_drewN ?_ _) | (with_reducible refine Kd.C_drew ?_))); (case side4 => exact HC147_0.out); rintro e w' ⟨rfl, ⟨nd, rfl⟩⟩; (try first | exact ⟨rfl, _, World.drewN_drewN _ _ _⟩ | exact ⟨rfl, _, Eq.trans (World.drewN_drewN _ _ _) (congrArg (World.drewN _) (Nat.add_assoc _ _ _))⟩))); try go_wp2_with (first | (go_at_call 24; (with_reducible refine (glisterref02_Same.calls k1 _ _ (rd_L2 l0 x5_1) _ _ (rd_L2 l1 x5_1) false _ ?side1 ?side2 ?side3 ?side4 A7.out).mono ?_); (case side1 => repeat (first | exact HR146_0.out | (with_reducible refine Kd.C_alloc ?_ _) | (with_reducible refine Kd.C_drewN ?_ _) | (with_reducible refine Kd.C_drew ?_))); (case side2 => exact HC146_0.out); (case side3 => repeat (first | exact HR147_0.out | (with_reducible refine Kd.C_alloc ?_ _) | (with_reducible refine Kd.C_drewN ?_ _) | (with_reducible refine Kd.C_drew ?_))); (case side4 => exact HC147_0.out); rintro e w' ⟨rfl, ⟨nd, rfl⟩⟩; (try first | exact ⟨rfl, _, World.drewN_drewN _ _ _⟩ | exact ⟨rfl, _, Eq.trans (World.drewN_drewN _ _ _) (congrArg (World.drewN _) (Nat.add_assoc _ _ _))⟩))))
        go_ret
        exact ⟨by first | rfl | (simp; done) | (simp [*]; done), by repeat (first | exact Drawn0.refl _ | apply Drawn0.step)⟩
      ·rw [if_neg c6] at H
       exact absurd H (by simp)
     ·rw [if_neg c5] at H
      exact absurd H (by simp)
    ·rw [if_neg c4] at H
     have c4b0 : decide (x5_1 < (l0.length : Int)) = false := decide_eq_false c4
     clear c4
     obtain rfl := Option.some.inj H
     go_wp2
     repeat (go_quiet (fail); try go_wp2)
     go_ret
     exact ⟨by first | rfl | (simp; done) | (simp [*]; done), by repeat (first | exact Drawn0.refl _ | apply Drawn0.step)⟩
 ·rw [if_neg c3] at H
  have c3b0 : ((l0.length : Int) == (l1.length : Int)) = false := beq_eq_false_iff_ne.mpr c3
  have c3b1 : ((l0.length : Int) != (l1.length : Int)) = true := bne_iff_ne.mpr c3
  have c3b2 : (l0.length == l1.length) = false := by first | simpa using c3 | (simp at c3 ⊢; omega)
  obtain rfl := Option.some.inj H
  go_enter Tryz.func28, Tryz.ntmps28
  go_wp2
  repeat (go_quiet (fail); try go_wp2)
  go_ret
  exact ⟨by first | rfl | (simp; done) | (simp [*]; done), by repeat (first | exact Drawn0.refl _ | apply Drawn0.step)⟩
def glisterlaw06_list.f (l0 : List Int) : Option (List Int) := (some (([] : List Int) : List Int)).bind fun y188 => (if y188.length + l0.length < 17592186044416 then (some (y188 ++ l0)) else (none))
set_option maxHeartbeats 8000000 in
set_option maxRecDepth 100000 in
theorem glisterlaw06_list.calls (A0 : Option Addr) (c0 : Nat) (l0 : List Int) (r : List Int) (w : World) (hr0 : Kd.C (Kd.int .i64) w A0 l0.length l0) (hc0 : l0.length ≤ c0) (h : glisterlaw06_list.f l0 = some r) :
  Calls Tryz.prog 39 #[.slice A0 l0.length c0] w fun e w' => ∃ v0_ : Value, e = .returned (v0_) ∧ Kd.R (Kd.int .i64) 3 w' w.heap.size (fun _ => True) v0_ r ∧ Below w.heap.size w w' := by
 have HR0 := Aside0.mk hr0
 have HC0 := Aside0.mk hc0
 clear hr0 hc0
 have HB := Aside0.mk (Below.refl w.heap.size w)
 have H : ((some (([] : List Int) : List Int)).bind fun y188 => (if y188.length + l0.length < 17592186044416 then (some (y188 ++ l0)) else (none))) = some r := h
 clear h
 obtain ⟨y188, hy188⟩ : ∃ y_ : List Int, y_ = (([] : List Int)) := ⟨_, rfl⟩
 replace H : (if y188.length + l0.length < 17592186044416 then (some (y188 ++ l0)) else (none)) = some r := by first | (rw [hy188]; with_reducible exact H) | (have H2_ := (Option.bind_some _ _).symm.trans H; rw [hy188]; with_reducible exact H2_) | (have H2_ := (Option.bind_some _ _).symm.trans H; with_reducible exact H2_) | with_reducible exact H | (rw [hy188]; exact H) | exact H
 have Ny188 := Aside0.mk hy188
 clear hy188
 by_cases c2 : y188.length + l0.length < 17592186044416
 ·rw [if_pos c2] at H
  have LMc2 := Aside0.mk c2
  clear c2
  obtain ⟨y191, hy191⟩ : ∃ y_ : List Int, y_ = (y188 ++ l0) := ⟨_, rfl⟩
  replace H : (some y191) = some r := by first | (rw [hy191]; with_reducible exact H) | (have H2_ := (Option.bind_some _ _).symm.trans H; rw [hy191]; with_reducible exact H2_) | (have H2_ := (Option.bind_some _ _).symm.trans H; with_reducible exact H2_) | with_reducible exact H | (rw [hy191]; exact H) | exact H
  have Ny191 := Aside0.mk hy191
  clear hy191
  obtain rfl := Option.some.inj H
  go_enter Tryz.func39, Tryz.ntmps39
  go_wp2_with (first | ((with_reducible refine gate_dst (N := 3) rfl ?_); refine Kd.R_lit (Kd.int .i64) _ 3 ?hg (N := 3) ?hd (xs := ([] : List Int)) (inner := []) (ok := fun _ => True) (okp := fun _ => True) ?hr ?hp (fun _ hk => hk) trivial (Below.refl _ _) (Nat.le_refl _) (by simp) ?_; (case hd => rfl); (case hg => rfl); (case hr => first | (go_simp; done) | (go_simp; rfl)); (case hp => exact (Reps.none _ _)); intro v189 w3 ho4 hb hg_ hnew_; clear hg_ hnew_; (first | rw [← Ny188.out] at ho4 | (simp only [Int.reduceToNat] at ho4; rw [← Ny188.out] at ho4)); have n0_ := Aside0.mk (Kd.R_lower ho4 (below_size (by repeat (first | (with_reducible first | exact HB.out | apply below_alloc | apply pw_below_drewN | apply below_drew1) | exact HB.out)))); have n1_ := Aside0.mk (below_step (by repeat (first | (with_reducible first | exact HB.out | apply below_alloc | apply pw_below_drewN | apply below_drew1) | exact HB.out)) hb); clear HB; have HO190 := n0_; have HB := n1_; clear n0_ n1_; clear hb ho4) | ((with_reducible refine gate_builtin (b := .append) (xs := #[.tmp 3, .tmp 4]) rfl ?_); at_builtin; refine Kd.R_append_rows (Kd.int .i64) (w0 := w) w.heap.size rfl (.tmp 3) (.tmp 4) 25 3 (.int .i64 0) 8 rfl Tryz.underlying25 info3 rfl (by decide) (by omega) v189 y188 l0 _ _ _ (fun _ => True) (fun _ => False) rfl rfl ?aO ?aR (fun _ _ h => h) (fun _ h => h.elim) ?aF ?aB ?aS ?aL ?_; (case aR => repeat (first | exact (Kd.C_below HR0.out HB.out) | (with_reducible refine Kd.C_alloc ?_ _) | (with_reducible refine Kd.C_drewN ?_ _) | (with_reducible refine Kd.C_drew ?_))); (case aB => exact (by repeat (first | (with_reducible first | exact HB.out | apply below_alloc | apply pw_below_drewN | apply below_drew1) | exact HB.out))); (case aF => exact (fun _ _ => trivial)); (case aO => exact (by (with_reducible repeat (first | apply Kd.R_alloc | apply Kd.R_drewN | apply Kd.R_drew)); exact HO190.out)); (case aS => exact (below_size (by repeat (first | (with_reducible first | exact HB.out | apply below_alloc | apply pw_below_drewN | apply below_drew1) | exact HB.out)))); (case aL => have := LMc2.out; omega); intro v192 w5 ho hb hg hat; rw [← Ny191.out] at ho; have n0_ := Aside0.mk (hb); have n1_ := Aside0.mk (ho); clear HB; clear HO190; have HB := n0_; have HO193 := n1_; clear n0_ n1_; clear ho hb hg hat))
  go_ret
  exact ⟨_, by first | rfl | (simp [errW_none, errW_some] <;> rfl) | (simp [*, errW_none, errW_some] <;> rfl), by (with_reducible repeat (first | apply Kd.R_alloc | apply Kd.R_drewN | apply Kd.R_drew)); exact HO193.out, by repeat (first | (with_reducible first | exact HB.out | apply below_alloc | apply pw_below_drewN | apply below_drew1) | exact HB.out)⟩
 ·rw [if_neg c2] at H
  exact absurd H (by simp)
def glisterlaw02_Code.f (l0_0 : List ByteArray) : Option (List ByteArray) := (some (([] : List ByteArray) : List ByteArray)).bind fun y196 => (if y196.length + l0_0.length < 8796093022208 then (some (y196 ++ l0_0)) else (none))
set_option maxHeartbeats 8000000 in
set_option maxRecDepth 100000 in
theorem glisterlaw02_Code.calls (A0_0 : Option Addr) (c0_0 : Nat) (l0_0 : List ByteArray) (r : List ByteArray) (w : World) (hr0_0 : Kd.C Kd.string w A0_0 l0_0.length l0_0) (hc0_0 : l0_0.length ≤ c0_0) (h : glisterlaw02_Code.f l0_0 = some r) :
  Calls Tryz.prog 63 #[.agg #[.slice A0_0 l0_0.length c0_0]] w fun e w' => ∃ v0_ : Value, e = .returned (.agg #[v0_]) ∧ Kd.R Kd.string 9 w' w.heap.size (fun _ => True) v0_ r ∧ Below w.heap.size w w' := by
 have hu24 := Tryz.underlying24
 have hu34 := Tryz.underlying34
 have HR0_0 := Aside0.mk hr0_0
 have HC0_0 := Aside0.mk hc0_0
 clear hr0_0 hc0_0
 have HB := Aside0.mk (Below.refl w.heap.size w)
 have H : ((some (([] : List ByteArray) : List ByteArray)).bind fun y196 => (if y196.length + l0_0.length < 8796093022208 then (some (y196 ++ l0_0)) else (none))) = some r := h
 clear h
 obtain ⟨y196, hy196⟩ : ∃ y_ : List ByteArray, y_ = (([] : List ByteArray)) := ⟨_, rfl⟩
 replace H : (if y196.length + l0_0.length < 8796093022208 then (some (y196 ++ l0_0)) else (none)) = some r := by first | (rw [hy196]; with_reducible exact H) | (have H2_ := (Option.bind_some _ _).symm.trans H; rw [hy196]; with_reducible exact H2_) | (have H2_ := (Option.bind_some _ _).symm.trans H; with_reducible exact H2_) | with_reducible exact H | (rw [hy196]; exact H) | exact H
 have Ny196 := Aside0.mk hy196
 clear hy196
 by_cases c2 : y196.length + l0_0.length < 8796093022208
 ·rw [if_pos c2] at H
  have LMc2 := Aside0.mk c2
  clear c2
  obtain ⟨y199, hy199⟩ : ∃ y_ : List ByteArray, y_ = (y196 ++ l0_0) := ⟨_, rfl⟩
  replace H : (some y199) = some r := by first | (rw [hy199]; with_reducible exact H) | (have H2_ := (Option.bind_some _ _).symm.trans H; rw [hy199]; with_reducible exact H2_) | (have H2_ := (Option.bind_some _ _).symm.trans H; with_reducible exact H2_) | with_reducible exact H | (rw [hy199]; exact H) | exact H
  have Ny199 := Aside0.mk hy199
  clear hy199
  obtain rfl := Option.some.inj H
  go_enter Tryz.func63, Tryz.ntmps63
  go_wp2_with (first | ((with_reducible refine gate_dst (N := 1) rfl ?_); refine box_event ?hg (N := 1) ?hd (cs := #[.slice A0_0 l0_0.length c0_0]) (t := 24) ?hr ?_; (case hd => rfl); (case hg => rfl); (case hr => first | (go_simp; done) | (go_simp; rfl)); intro gb194 hg w3 hbox hb; have n0_ := Aside0.mk (below_step (by repeat (first | (with_reducible first | exact HB.out | apply below_alloc | apply pw_below_drewN | apply below_drew1) | exact HB.out)) hb); have n1_ := Aside0.mk (hbox); have n2_ := Aside0.mk ((by rw [hg]; exact (below_size (by repeat (first | (with_reducible first | exact HB.out | apply below_alloc | apply pw_below_drewN | apply below_drew1) | exact HB.out))) : w.heap.size ≤ gb194)); have n3_ := Aside0.mk ((by rw [hg]; exact (below_size (by repeat (first | (with_reducible first | exact HB.out | apply below_alloc | apply pw_below_drewN | apply below_drew1) | exact HB.out))) : w.heap.size ≤ gb194)); clear HB; have HB := n0_; have BK194 := n1_; have GW194 := n2_; have GE194 := n3_; clear n0_ n1_ n2_ n3_; clear hb hbox hg) | ((with_reducible refine gate_dst (N := 2) rfl ?_); refine box_event ?hg (N := 2) ?hd (cs := #[.slice none 0 0]) (t := 34) ?hr ?_; (case hd => rfl); (case hg => rfl); (case hr => first | (go_simp; done) | (go_simp; rfl)); intro gb195 hg w4 hbox hb; have n0_ := Aside0.mk (blk_below (g := gb194) (o := .cells #[.slice A0_0 l0_0.length c0_0] 24 (0, 0)) (by (with_reducible repeat (first | refine blk_drewN ?_ _ | refine blk_drew ?_ | refine blk_alloc ?_ _)); exact BK194.out) hb); have n1_ := Aside0.mk (below_step (by repeat (first | (with_reducible first | exact HB.out | apply below_alloc | apply pw_below_drewN | apply below_drew1 | refine below_set ?_ GE194.out) | exact HB.out)) hb); have n2_ := Aside0.mk (hbox); have n3_ := Aside0.mk ((by rw [hg]; exact (below_size (by repeat (first | (with_reducible first | exact HB.out | apply below_alloc | apply pw_below_drewN | apply below_drew1 | refine below_set ?_ GE194.out) | exact HB.out))) : w.heap.size ≤ gb195)); have n4_ := Aside0.mk ((by rw [hg]; exact (below_size (by repeat (first | (with_reducible first | exact HB.out | apply below_alloc | apply pw_below_drewN | apply below_drew1 | refine below_set ?_ GE194.out) | exact HB.out))) : w.heap.size ≤ gb195)); have n5_ := Aside0.mk ((by rw [hg]; exact Nat.ne_of_lt (blk_lt (g := gb194) (o := .cells #[.slice A0_0 l0_0.length c0_0] 24 (0, 0)) (by (with_reducible repeat (first | refine blk_drewN ?_ _ | refine blk_drew ?_ | refine blk_alloc ?_ _)); exact BK194.out)) : gb194 ≠ gb195)); have n6_ := Aside0.mk ((by rw [hg]; exact Nat.ne_of_gt (blk_lt (g := gb194) (o := .cells #[.slice A0_0 l0_0.length c0_0] 24 (0, 0)) (by (with_reducible repeat (first | refine blk_drewN ?_ _ | refine blk_drew ?_ | refine blk_alloc ?_ _)); exact BK194.out)) : gb195 ≠ gb194)); clear BK194; clear HB; have BK194 := n0_; have HB := n1_; have BK195 := n2_; have GW195 := n3_; have GE195 := n4_; have NB194_195 := n5_; have NB195_194 := n6_; clear n0_ n1_ n2_ n3_ n4_ n5_ n6_; clear hb hbox hg) | ((with_reducible refine gate_dst (N := 3) rfl ?_); refine Kd.R_lit Kd.string _ 9 ?hg (N := 3) ?hd (xs := ([] : List ByteArray)) (inner := []) (ok := fun _ => True) (okp := fun _ => True) ?hr ?hp (fun _ hk => hk) trivial (Below.refl _ _) (Nat.le_refl _) (by simp) ?_; (case hd => rfl); (case hg => rfl); (case hr => first | (go_simp; done) | (go_simp; rfl)); (case hp => exact (Reps.none _ _)); intro v197 w5 ho6 hb hg_ hnew_; clear hg_ hnew_; (first | rw [← Ny196.out] at ho6 | (simp only [Int.reduceToNat] at ho6; rw [← Ny196.out] at ho6)); have n0_ := Aside0.mk (Kd.R_lower ho6 (below_size (by repeat (first | (with_reducible first | exact HB.out | apply below_alloc | apply pw_below_drewN | apply below_drew1 | refine below_set ?_ GE194.out | refine below_set ?_ GE195.out) | exact HB.out)))); have n1_ := Aside0.mk (blk_below (g := gb194) (o := .cells #[.slice A0_0 l0_0.length c0_0] 24 (0, 0)) (by (with_reducible repeat (first | refine blk_drewN ?_ _ | refine blk_drew ?_ | refine blk_alloc ?_ _)); exact BK194.out) hb); have n2_ := Aside0.mk (blk_below (g := gb195) (o := .cells #[.slice none 0 0] 34 (0, 0)) (by (with_reducible repeat (first | refine blk_drewN ?_ _ | refine blk_drew ?_ | refine blk_alloc ?_ _)); exact BK195.out) hb); have n3_ := Aside0.mk (below_step (by repeat (first | (with_reducible first | exact HB.out | apply below_alloc | apply pw_below_drewN | apply below_drew1 | refine below_set ?_ GE194.out | refine below_set ?_ GE195.out) | exact HB.out)) hb); clear BK194; clear BK195; clear HB; have HO198 := n0_; have BK194 := n1_; have BK195 := n2_; have HB := n3_; clear n0_ n1_ n2_ n3_; clear hb ho6; have hnb7 := NB194_195.out; have hnc7 := NB195_194.out; have hcz8_0 : w5.cell? ⟨gb194, 0, none⟩ = some (.slice A0_0 l0_0.length c0_0) := (blk_cell BK194.out 0).trans rfl; have hfz8_0 := blk_frozen BK194.out 0) | ((with_reducible refine gate_builtin (b := .append) (xs := #[.tmp 3, .tmp 5]) rfl ?_); at_builtin; refine Kd.R_append_rows Kd.string (w0 := w) w.heap.size rfl (.tmp 3) (.tmp 5) 22 9 (.string ⟨#[]⟩) 16 rfl Tryz.underlying22 info9 rfl (by decide) (by omega) v197 y196 l0_0 _ _ _ (fun _ => True) (fun _ => False) rfl rfl ?aO ?aR (fun _ _ h => h) (fun _ h => h.elim) ?aF ?aB ?aS ?aL ?_; (case aR => repeat (first | exact (Kd.C_below HR0_0.out HB.out) | (with_reducible refine Kd.C_alloc ?_ _) | (with_reducible refine Kd.C_drewN ?_ _) | (with_reducible refine Kd.C_drew ?_))); (case aB => exact (by repeat (first | (with_reducible first | exact HB.out | apply below_alloc | apply pw_below_drewN | apply below_drew1 | refine below_set ?_ GE194.out | refine below_set ?_ GE195.out) | exact HB.out))); (case aF => exact (fun _ _ => trivial)); (case aO => exact (by (with_reducible repeat (first | apply Kd.R_alloc | apply Kd.R_drewN | apply Kd.R_drew)); exact HO198.out)); (case aS => exact (below_size (by repeat (first | (with_reducible first | exact HB.out | apply below_alloc | apply pw_below_drewN | apply below_drew1 | refine below_set ?_ GE194.out | refine below_set ?_ GE195.out) | exact HB.out)))); (case aL => have := LMc2.out; omega); intro v200 w9 ho hb hg hat; rw [← Ny199.out] at ho; have n0_ := Aside0.mk (blk_grown (g := gb194) (o := .cells #[.slice A0_0 l0_0.length c0_0] 24 (0, 0)) (by (with_reducible repeat (first | refine blk_drewN ?_ _ | refine blk_drew ?_ | refine blk_alloc ?_ _)); exact BK194.out) hg (Kd.R_ne HO198.out BK194.out (by decide))); have n1_ := Aside0.mk (blk_grown (g := gb195) (o := .cells #[.slice none 0 0] 34 (0, 0)) (by (with_reducible repeat (first | refine blk_drewN ?_ _ | refine blk_drew ?_ | refine blk_alloc ?_ _)); exact BK195.out) hg (Kd.R_ne HO198.out BK195.out (by decide))); have n2_ := Aside0.mk (hb); have n3_ := Aside0.mk (ho); clear BK194; clear BK195; clear HB; clear HO198; have BK194 := n0_; have BK195 := n1_; have HB := n2_; have HO201 := n3_; clear n0_ n1_ n2_ n3_; clear ho hb hg hat; obtain ⟨Ao10, co10, eo10⟩ := Kd.R_slice HO201.out; subst eo10; have hcz11_0 : w9.cell? ⟨gb195, 0, none⟩ = some (.slice none 0 0) := (blk_cell BK195.out 0).trans rfl; have hfz11_0 := blk_frozen BK195.out 0))
  refine bodyPost_ret (results_cell_row rfl _ _ gb195 34 #[.slice Ao10 y199.length co10] (0, 0) _ rfl (by (with_reducible repeat (first | refine blk_drewN ?_ _ | refine blk_drew ?_ | refine blk_alloc ?_ _)); refine blk_put (cs := #[.slice none 0 0]) ?_ 0 _ rfl; (with_reducible repeat (first | refine blk_drewN ?_ _ | refine blk_drew ?_ | refine blk_alloc ?_ _)); exact BK195.out) Tryz.underlying34 rfl (by kernel_rfl)) rfl ?_
  exact ⟨_, by first | rfl | (simp [errW_none, errW_some] <;> rfl) | (simp [*, errW_none, errW_some] <;> rfl), by (with_reducible repeat (first | apply Kd.R_alloc | apply Kd.R_drewN | apply Kd.R_drew)); exact Kd.R_mono (Kd.R_far (p := ⟨gb195, 0, none⟩) (Kd.R_types HO201.out BK195.out (by decide)) (fun _ hk => hk.2) (.slice Ao10 y199.length co10)) (fun _ hk => trivial), by repeat (first | (with_reducible first | exact HB.out | apply below_alloc | apply pw_below_drewN | apply below_drew1 | refine below_set ?_ GE194.out | refine below_set ?_ GE195.out) | exact HB.out)⟩
 ·rw [if_neg c2] at H
  exact absurd H (by simp)
def glisterref02_Cost.f (a0 : Int) : Option (Int) := if a0 = 0 then (some 0) else (some 1)
set_option maxHeartbeats 8000000 in
set_option maxRecDepth 100000 in
theorem glisterref02_Cost.calls (a0 : Int) (r : Int) (w : World) (h : glisterref02_Cost.f a0 = some r) :
  Calls Tryz.prog 112 #[.int .i64 a0] w fun e w' => e = .returned (.int .i64 r) ∧ Drawn0 w w' := by
 have H : (if a0 = 0 then (some 0) else (some 1)) = some r := h
 clear h
 by_cases c2 : a0 = 0
 ·rw [if_pos c2] at H
  have c2b0 : (a0 == 0) = true := beq_iff_eq.mpr c2
  have c2b1 : (a0 != 0) = false := bne_eq_false_iff_eq.mpr c2
  clear c2
  obtain rfl := Option.some.inj H
  go_enter Tryz.func112, Tryz.ntmps112
  go_wp2
  go_ret
  exact ⟨by first | rfl | (simp; done) | (simp [*]; done), by repeat (first | exact Drawn0.refl _ | apply Drawn0.step)⟩
 ·rw [if_neg c2] at H
  have c2b0 : (a0 == 0) = false := beq_eq_false_iff_ne.mpr c2
  have c2b1 : (a0 != 0) = true := bne_iff_ne.mpr c2
  obtain rfl := Option.some.inj H
  go_enter Tryz.func112, Tryz.ntmps112
  go_wp2
  go_ret
  exact ⟨by first | rfl | (simp; done) | (simp [*]; done), by repeat (first | exact Drawn0.refl _ | apply Drawn0.step)⟩
mutual
def glisterlaw02_Thin.l0 : Nat → ByteArray → Int → List ByteArray → Option (Bool)
 | 0, _, _, _ => none
 | k + 1, x1, x5, x102000 => if x5 < (x102000.length : Int) then (glisterlaw02_Thin.j1 k x1 x5 (decide (x5 < 10)) x102000) else (glisterlaw02_Thin.j1 k x1 x5 false x102000)
def glisterlaw02_Thin.j1 : Nat → ByteArray → Int → Bool → List ByteArray → Option (Bool)
 | 0, _, _, _, _ => none
 | k + 1, x1, x5, x14, x102000 => if x14 = true then (if 0 ≤ x5 then (if x5 < (x102000.length : Int) then (if ((rdOf ByteArray.empty x102000 x5).size : Int) > 9 then (some false) else (glisterlaw02_Thin.l0 k x1 (wrap64 (x5 + 1)) x102000)) else (none)) else (none)) else (if (x102000.length : Int) ≤ 9 then (some (decide ((x1.size : Int) ≤ 60))) else (some false))
end
def glisterlaw02_Thin.f (k : Nat) (l0_0 : List ByteArray) (a1 : ByteArray) : Option (Bool) := glisterlaw02_Thin.l0 k a1 0 l0_0
theorem glisterlaw02_Thin.mono_l : ∀ k, (∀ y0 y1 y2, LeO (glisterlaw02_Thin.l0 k y0 y1 y2) (glisterlaw02_Thin.l0 (k + 1) y0 y1 y2)) ∧ (∀ y0 y1 y2 y3, LeO (glisterlaw02_Thin.j1 k y0 y1 y2 y3) (glisterlaw02_Thin.j1 (k + 1) y0 y1 y2 y3))
 | 0 => ⟨fun _ _ _ r h => by simp [glisterlaw02_Thin.l0] at h, fun _ _ _ _ r h => by simp [glisterlaw02_Thin.j1] at h⟩
 | k + 1 => by
  obtain ⟨ih0, ih1⟩ := glisterlaw02_Thin.mono_l k
  refine ⟨?_, ?_⟩
  ·intro y0 y1 y2
   unfold glisterlaw02_Thin.l0
   repeat' first
   | (with_reducible exact ih0 _ _ _)
   | (with_reducible exact ih1 _ _ _ _)
   | (with_reducible exact LeO.refl _)
   | (with_reducible exact LeO.none _)
   | (with_reducible refine LeO.ite ?_ ?_)
   | (with_reducible refine LeO.bind ?_ (fun _ => ?_))
   | exact ih0 _ _ _
   | exact ih1 _ _ _ _
   | exact LeO.none _
   | refine LeO.ite ?_ ?_
   | refine LeO.bind ?_ (fun _ => ?_)
  ·intro y0 y1 y2 y3
   unfold glisterlaw02_Thin.j1
   repeat' first
   | (with_reducible exact ih0 _ _ _)
   | (with_reducible exact ih1 _ _ _ _)
   | (with_reducible exact LeO.refl _)
   | (with_reducible exact LeO.none _)
   | (with_reducible refine LeO.ite ?_ ?_)
   | (with_reducible refine LeO.bind ?_ (fun _ => ?_))
   | exact ih0 _ _ _
   | exact ih1 _ _ _ _
   | exact LeO.none _
   | refine LeO.ite ?_ ?_
   | refine LeO.bind ?_ (fun _ => ?_)
theorem glisterlaw02_Thin.mono : ∀ a0 a1 k, LeO (glisterlaw02_Thin.f k a0 a1) (glisterlaw02_Thin.f (k + 1) a0 a1) := by
 intro a0 a1 k
 obtain ⟨ih0, ih1⟩ := glisterlaw02_Thin.mono_l k
 unfold glisterlaw02_Thin.f
 repeat' first
   | (with_reducible exact ih0 _ _ _)
   | (with_reducible exact ih1 _ _ _ _)
   | (with_reducible exact LeO.refl _)
   | (with_reducible exact LeO.none _)
   | (with_reducible refine LeO.ite ?_ ?_)
   | (with_reducible refine LeO.bind ?_ (fun _ => ?_))
   | exact ih0 _ _ _
   | exact ih1 _ _ _ _
   | exact LeO.none _
   | refine LeO.ite ?_ ?_
   | refine LeO.bind ?_ (fun _ => ?_)
set_option maxHeartbeats 8000000 in
set_option maxRecDepth 100000 in
theorem glisterlaw02_Thin.calls (k : Nat) (A0_0 : Option Addr) (c0_0 : Nat) (l0_0 : List ByteArray) (a1 : ByteArray) (r : Bool) (w : World) (hr0_0 : Kd.C Kd.string w A0_0 l0_0.length l0_0) (hc0_0 : l0_0.length ≤ c0_0) (h : glisterlaw02_Thin.f k l0_0 a1 = some r) :
  Calls Tryz.prog 53 #[.agg #[.slice A0_0 l0_0.length c0_0], .string a1] w fun e w' => e = .returned (.bool r) ∧ Below w.heap.size w w' := by
 have hu24 := Tryz.underlying24
 have HR0_0 := Aside0.mk hr0_0
 have HC0_0 := Aside0.mk hc0_0
 clear hr0_0 hc0_0
 have HB := Aside0.mk (Below.refl w.heap.size w)
 have H : (glisterlaw02_Thin.l0 k a1 0 l0_0) = some r := h
 clear h
 have H' := Aside0.mk H
 clear H
 go_enter Tryz.func53, Tryz.ntmps53
 go_wp2_with (first | ((with_reducible refine gate_dst (N := 2) rfl ?_); (try (refine gate_guard (by rfl) ?_; dsimp only)); refine box_event ?hg (N := 2) ?hd (cs := #[.slice A0_0 l0_0.length c0_0]) (t := 24) ?hr ?_; (case hd => rfl); (case hg => rfl); (case hr => first | (go_simp; done) | (go_simp; rfl)); intro gb101 hg w3 hbox hb; have n0_ := Aside0.mk (below_step (by repeat (first | (with_reducible first | exact HB.out | apply below_alloc | apply pw_below_drewN | apply below_drew1) | exact HB.out)) hb); have n1_ := Aside0.mk (hbox); have n2_ := Aside0.mk ((by rw [hg]; exact (below_size (by repeat (first | (with_reducible first | exact HB.out | apply below_alloc | apply pw_below_drewN | apply below_drew1) | exact HB.out))) : w.heap.size ≤ gb101)); have n3_ := Aside0.mk ((by rw [hg]; exact (below_size (by repeat (first | (with_reducible first | exact HB.out | apply below_alloc | apply pw_below_drewN | apply below_drew1) | exact HB.out))) : w.heap.size ≤ gb101)); clear HB; have HB := n0_; have BK101 := n1_; have GW101 := n2_; have GE101 := n3_; clear n0_ n1_ n2_ n3_; clear hb hbox hg))
 go_loopg [5] k (fun kq v5 w' => ∃ (x5_1 : Int), v5 = .int .i64 x5_1 ∧ Aside0 (glisterlaw02_Thin.l0 kq a1 x5_1 l0_0 = some r) ∧ Aside0 (kq ≤ k) ∧ Aside0 (w'.heap[gb101]? = some (.cells #[(.slice A0_0 l0_0.length c0_0)] 24 (0, 0))) ∧ Aside0 (Below w.heap.size w w'))
 case atStart => exact ⟨(0), (by first | rfl | (simp; done) | (simp [*]; done)), H', ⟨Nat.le_refl _⟩, ⟨by (with_reducible repeat (first | refine blk_drewN ?_ _ | refine blk_drew ?_ | refine blk_alloc ?_ _)); exact BK101.out⟩, ⟨by repeat (first | (with_reducible first | exact HB.out | apply below_alloc | apply pw_below_drewN | apply below_drew1 | refine below_set ?_ GE101.out) | exact HB.out)⟩⟩
 case round =>
  clear H'
  try clear p2
  obtain ⟨x5_1, rfl, HA, HK1, BK101, HB⟩ := hrel
  cases gk with
  | zero => exact absurd HA.out (by simp [glisterlaw02_Thin.l0])
  | succ k1 =>
   have H := HA.out
   clear HA
   simp only [glisterlaw02_Thin.l0] at H
   have HC4 := Aside0.mk H
   clear H
   go_upto_region 2 with (fail)
   go_cut [14] (fun v14 wc => ∃ (kq : Nat) (x14_3 : Bool), v14 = .bool x14_3 ∧ Aside0 (glisterlaw02_Thin.j1 kq a1 x5_1 x14_3 l0_0 = some r) ∧ Aside0 (kq ≤ k1) ∧ Aside0 (wc.heap[gb101]? = some (.cells #[(.slice A0_0 l0_0.length c0_0)] 24 (0, 0))) ∧ Aside0 (Below w.heap.size w wc))
   case first =>
    have H := HC4.out
    clear HC4
    by_cases c5 : x5_1 < (l0_0.length : Int)
    ·rw [if_pos c5] at H
     have c5b0 : decide (x5_1 < (l0_0.length : Int)) = true := decide_eq_true c5
     clear c5
     (first | rw [c5b0] | (simp only [i64_w, i32_w]; rw [c5b0]) | skip)
     have H' := Aside0.mk H
     clear H
     have hcz6_0 : wr.cell? ⟨gb101, 0, none⟩ = some (.slice A0_0 l0_0.length c0_0) := (blk_cell BK101.out 0).trans rfl
     have hfz6_0 := blk_frozen BK101.out 0
     go_wp2
     go_meet
     case rel => exact ⟨_, (decide (x5_1 < 10)), (by first | rfl | (simp; done) | (simp [*]; done)), H', ⟨by have := HK1.out; first | omega | exact Nat.le_refl _⟩, ⟨by (with_reducible repeat (first | refine blk_drewN ?_ _ | refine blk_drew ?_ | refine blk_alloc ?_ _)); exact BK101.out⟩, ⟨by repeat (first | (with_reducible first | exact HB.out | apply below_alloc | apply pw_below_drewN | apply below_drew1 | refine below_set ?_ GE101.out) | exact HB.out)⟩⟩
    ·rw [if_neg c5] at H
     have c5b0 : decide (x5_1 < (l0_0.length : Int)) = false := decide_eq_false c5
     clear c5
     (first | rw [c5b0] | (simp only [i64_w, i32_w]; rw [c5b0]) | skip)
     have H' := Aside0.mk H
     clear H
     have hcz7_0 : wr.cell? ⟨gb101, 0, none⟩ = some (.slice A0_0 l0_0.length c0_0) := (blk_cell BK101.out 0).trans rfl
     have hfz7_0 := blk_frozen BK101.out 0
     go_wp2
     go_meet
     case rel => exact ⟨_, (false), (by first | rfl | (simp; done) | (simp [*]; done)), H', ⟨by have := HK1.out; first | omega | exact Nat.le_refl _⟩, ⟨by (with_reducible repeat (first | refine blk_drewN ?_ _ | refine blk_drew ?_ | refine blk_alloc ?_ _)); exact BK101.out⟩, ⟨by repeat (first | (with_reducible first | exact HB.out | apply below_alloc | apply pw_below_drewN | apply below_drew1 | refine below_set ?_ GE101.out) | exact HB.out)⟩⟩
   case rest =>
    clear HC4
    try clear p2
    try clear c5
    try clear c5b0
    try clear hcz6_0
    try clear hcz7_0
    try clear hfz6_0
    try clear hfz7_0
    try clear p2
    obtain ⟨kq, x14_3, rfl, HA, HJ3, BK101, HB⟩ := hcut
    cases kq with
    | zero => exact absurd HA.out (by simp [glisterlaw02_Thin.j1])
    | succ kj3 =>
     have H := HA.out
     clear HA
     simp only [glisterlaw02_Thin.j1] at H
     by_cases c8 : x14_3 = true
     ·subst c8
      have H1 : (if 0 ≤ x5_1 then (if x5_1 < (l0_0.length : Int) then (if ((rdOf ByteArray.empty l0_0 x5_1).size : Int) > 9 then (some false) else (glisterlaw02_Thin.l0 kj3 a1 (wrap64 (x5_1 + 1)) l0_0)) else (none)) else (none)) = some r := by rw [if_pos rfl] at H; exact H
      clear H
      have H := H1
      clear H1
      by_cases c9 : 0 ≤ x5_1
      ·rw [if_pos c9] at H
       have c9b0 : decide (0 ≤ x5_1) = true := decide_eq_true c9
       clear c9
       by_cases c10 : x5_1 < (l0_0.length : Int)
       ·rw [if_pos c10] at H
        have c10b0 : decide (x5_1 < (l0_0.length : Int)) = true := decide_eq_true c10
        clear c10
        by_cases c11 : ((rdOf ByteArray.empty l0_0 x5_1).size : Int) > 9
        ·rw [if_pos c11] at H
         have c11b0 : decide (9 < ((rdOf ByteArray.empty l0_0 x5_1).size : Int)) = true := decide_eq_true c11
         have c11b1 : decide (9 < (rdOf ByteArray.empty l0_0 x5_1).size) = true := decide_eq_true (by omega)
         clear c11
         obtain rfl := Option.some.inj H
         have hcz12_0 : wc.cell? ⟨gb101, 0, none⟩ = some (.slice A0_0 l0_0.length c0_0) := (blk_cell BK101.out 0).trans rfl
         have hfz12_0 := blk_frozen BK101.out 0
         have p102 : 0 ≤ (x5_1 : Int) := of_decide_eq_true (by first | (with_reducible assumption) | assumption)
         have q102 : x5_1 < (l0_0.length : Int) := of_decide_eq_true (by first | (with_reducible assumption) | assumption)
         obtain ⟨ad102, e102, hx102_0⟩ := Kd.at_string HR0_0.out x5_1 p102 q102
         cases e102
         replace hx102_0 := (HB.out.cell (World.block_lt_of_cell? w _ hx102_0)).trans hx102_0
         replace p102 := eq_true p102
         replace q102 := eq_true q102
         go_wp2
         go_ret
         exact ⟨by first | rfl | (simp [errW_none, errW_some] <;> rfl) | (simp [*, errW_none, errW_some] <;> rfl), by repeat (first | (with_reducible first | exact HB.out | apply below_alloc | apply pw_below_drewN | apply below_drew1 | refine below_set ?_ GE101.out) | exact HB.out)⟩
        ·rw [if_neg c11] at H
         have c11b0 : decide (9 < ((rdOf ByteArray.empty l0_0 x5_1).size : Int)) = false := decide_eq_false c11
         have c11b1 : decide (9 < (rdOf ByteArray.empty l0_0 x5_1).size) = false := decide_eq_false (by omega)
         clear c11
         have H' := Aside0.mk H
         clear H
         have hcz13_0 : wc.cell? ⟨gb101, 0, none⟩ = some (.slice A0_0 l0_0.length c0_0) := (blk_cell BK101.out 0).trans rfl
         have hfz13_0 := blk_frozen BK101.out 0
         have p102 : 0 ≤ (x5_1 : Int) := of_decide_eq_true (by first | (with_reducible assumption) | assumption)
         have q102 : x5_1 < (l0_0.length : Int) := of_decide_eq_true (by first | (with_reducible assumption) | assumption)
         obtain ⟨ad102, e102, hx102_0⟩ := Kd.at_string HR0_0.out x5_1 p102 q102
         cases e102
         replace hx102_0 := (HB.out.cell (World.block_lt_of_cell? w _ hx102_0)).trans hx102_0
         replace p102 := eq_true p102
         replace q102 := eq_true q102
         go_wp2
         go_roundg kj3
         case measure => have := HK1.out; have := HJ3.out; omega
         case rel => exact ⟨(wrap64 (x5_1 + 1)), (by first | rfl | (simp; done) | (simp [*]; done)), H', ⟨by have := HK1.out; have := HJ3.out; omega⟩, ⟨by (with_reducible repeat (first | refine blk_drewN ?_ _ | refine blk_drew ?_ | refine blk_alloc ?_ _)); exact BK101.out⟩, ⟨by repeat (first | (with_reducible first | exact HB.out | apply below_alloc | apply pw_below_drewN | apply below_drew1 | refine below_set ?_ GE101.out) | exact HB.out)⟩⟩
       ·rw [if_neg c10] at H
        exact absurd H (by simp)
      ·rw [if_neg c9] at H
       exact absurd H (by simp)
     ·replace c8 := Bool.eq_false_iff.mpr c8
      subst c8
      have H1 : (if (l0_0.length : Int) ≤ 9 then (some (decide ((a1.size : Int) ≤ 60))) else (some false)) = some r := by rw [if_neg (show ¬ (false = true) by decide)] at H; exact H
      clear H
      have H := H1
      clear H1
      by_cases c14 : (l0_0.length : Int) ≤ 9
      ·rw [if_pos c14] at H
       have c14b0 : decide ((l0_0.length : Int) ≤ 9) = true := decide_eq_true c14
       have c14b1 : decide (l0_0.length ≤ 9) = true := decide_eq_true (by omega)
       clear c14
       obtain rfl := Option.some.inj H
       have hcz15_0 : wc.cell? ⟨gb101, 0, none⟩ = some (.slice A0_0 l0_0.length c0_0) := (blk_cell BK101.out 0).trans rfl
       have hfz15_0 := blk_frozen BK101.out 0
       go_wp2
       go_ret
       exact ⟨by first | rfl | (simp [errW_none, errW_some] <;> rfl) | (simp [*, errW_none, errW_some] <;> rfl), by repeat (first | (with_reducible first | exact HB.out | apply below_alloc | apply pw_below_drewN | apply below_drew1 | refine below_set ?_ GE101.out) | exact HB.out)⟩
      ·rw [if_neg c14] at H
       have c14b0 : decide ((l0_0.length : Int) ≤ 9) = false := decide_eq_false c14
       have c14b1 : decide (l0_0.length ≤ 9) = false := decide_eq_false (by omega)
       clear c14
       obtain rfl := Option.some.inj H
       have hcz16_0 : wc.cell? ⟨gb101, 0, none⟩ = some (.slice A0_0 l0_0.length c0_0) := (blk_cell BK101.out 0).trans rfl
       have hfz16_0 := blk_frozen BK101.out 0
       go_wp2
       go_ret
       exact ⟨by first | rfl | (simp [errW_none, errW_some] <;> rfl) | (simp [*, errW_none, errW_some] <;> rfl), by repeat (first | (with_reducible first | exact HB.out | apply below_alloc | apply pw_below_drewN | apply below_drew1 | refine below_set ?_ GE101.out) | exact HB.out)⟩
def glisterref02_IsText.l0 : Nat → List Int → Int → List ByteArray → Option (Bool)
 | 0, _, _, _ => none
 | k + 1, x1, x5, x229000 => if x5 < (x1.length : Int) then (if 0 ≤ x5 then ((glisterref02_In.f (rd x1 x5) 0 (wrap64 ((x229000.length : Int) - 1))).bind fun t230 => (if t230 = true then (glisterref02_IsText.l0 k x1 (wrap64 (x5 + 1)) x229000) else (some false))) else (none)) else (some true)
def glisterref02_IsText.f (k : Nat) (l0_0 : List ByteArray) (l1 : List Int) : Option (Bool) := glisterref02_IsText.l0 k l1 0 l0_0
theorem glisterref02_IsText.mono_l : ∀ k, (∀ y0 y1 y2, LeO (glisterref02_IsText.l0 k y0 y1 y2) (glisterref02_IsText.l0 (k + 1) y0 y1 y2))
 | 0 => fun _ _ _ r h => by simp [glisterref02_IsText.l0] at h
 | k + 1 => by
  have ih0 := glisterref02_IsText.mono_l k
  ·intro y0 y1 y2
   unfold glisterref02_IsText.l0
   repeat' first
   | (with_reducible exact ih0 _ _ _)
   | (with_reducible exact LeO.refl _)
   | (with_reducible exact LeO.none _)
   | (with_reducible refine LeO.ite ?_ ?_)
   | (with_reducible refine LeO.bind ?_ (fun _ => ?_))
   | exact ih0 _ _ _
   | exact LeO.none _
   | refine LeO.ite ?_ ?_
   | refine LeO.bind ?_ (fun _ => ?_)
theorem glisterref02_IsText.mono : ∀ a0 a1 k, LeO (glisterref02_IsText.f k a0 a1) (glisterref02_IsText.f (k + 1) a0 a1) := by
 intro a0 a1 k
 have ih0 := glisterref02_IsText.mono_l k
 unfold glisterref02_IsText.f
 repeat' first
   | (with_reducible exact ih0 _ _ _)
   | (with_reducible exact LeO.refl _)
   | (with_reducible exact LeO.none _)
   | (with_reducible refine LeO.ite ?_ ?_)
   | (with_reducible refine LeO.bind ?_ (fun _ => ?_))
   | exact ih0 _ _ _
   | exact LeO.none _
   | refine LeO.ite ?_ ?_
   | refine LeO.bind ?_ (fun _ => ?_)
set_option maxHeartbeats 8000000 in
set_option maxRecDepth 100000 in
theorem glisterref02_IsText.calls (k : Nat) (A0_0 : Option Addr) (c0_0 : Nat) (l0_0 : List ByteArray) (A1 : Option Addr) (c1 : Nat) (l1 : List Int) (r : Bool) (w : World) (hr0_0 : Kd.C Kd.string w A0_0 l0_0.length l0_0) (hc0_0 : l0_0.length ≤ c0_0) (hr1 : Kd.C (Kd.int .i64) w A1 l1.length l1) (hc1 : l1.length ≤ c1) (h : glisterref02_IsText.f k l0_0 l1 = some r) :
  Calls Tryz.prog 97 #[.agg #[.slice A0_0 l0_0.length c0_0], .slice A1 l1.length c1] w fun e w' => e = .returned (.bool r) ∧ Below w.heap.size w w' := by
 have hu24 := Tryz.underlying24
 have HR0_0 := Aside0.mk hr0_0
 have HC0_0 := Aside0.mk hc0_0
 clear hr0_0 hc0_0
 have HR1 := Aside0.mk hr1
 have HC1 := Aside0.mk hc1
 clear hr1 hc1
 have HB := Aside0.mk (Below.refl w.heap.size w)
 have H : (glisterref02_IsText.l0 k l1 0 l0_0) = some r := h
 clear h
 have H' := Aside0.mk H
 clear H
 go_enter Tryz.func97, Tryz.ntmps97
 go_wp2_with (first | ((with_reducible refine gate_dst (N := 2) rfl ?_); refine box_event ?hg (N := 2) ?hd (cs := #[.slice A0_0 l0_0.length c0_0]) (t := 24) ?hr ?_; (case hd => rfl); (case hg => rfl); (case hr => first | (go_simp; done) | (go_simp; rfl)); intro gb228 hg w3 hbox hb; have n0_ := Aside0.mk (below_step (by repeat (first | (with_reducible first | exact HB.out | apply below_alloc | apply pw_below_drewN | apply below_drew1) | exact HB.out)) hb); have n1_ := Aside0.mk (hbox); have n2_ := Aside0.mk ((by rw [hg]; exact (below_size (by repeat (first | (with_reducible first | exact HB.out | apply below_alloc | apply pw_below_drewN | apply below_drew1) | exact HB.out))) : w.heap.size ≤ gb228)); have n3_ := Aside0.mk ((by rw [hg]; exact (below_size (by repeat (first | (with_reducible first | exact HB.out | apply below_alloc | apply pw_below_drewN | apply below_drew1) | exact HB.out))) : w.heap.size ≤ gb228)); clear HB; have HB := n0_; have BK228 := n1_; have GW228 := n2_; have GE228 := n3_; clear n0_ n1_ n2_ n3_; clear hb hbox hg))
 repeat (go_quiet (first | ((with_reducible refine gate_dst (N := 2) rfl ?_); refine box_event ?hg (N := 2) ?hd (cs := #[.slice A0_0 l0_0.length c0_0]) (t := 24) ?hr ?_; (case hd => rfl); (case hg => rfl); (case hr => first | (go_simp; done) | (go_simp; rfl)); intro gb228 hg w3 hbox hb; have n0_ := Aside0.mk (below_step (by repeat (first | (with_reducible first | exact HB.out | apply below_alloc | apply pw_below_drewN | apply below_drew1) | exact HB.out)) hb); have n1_ := Aside0.mk (hbox); have n2_ := Aside0.mk ((by rw [hg]; exact (below_size (by repeat (first | (with_reducible first | exact HB.out | apply below_alloc | apply pw_below_drewN | apply below_drew1) | exact HB.out))) : w.heap.size ≤ gb228)); have n3_ := Aside0.mk ((by rw [hg]; exact (below_size (by repeat (first | (with_reducible first | exact HB.out | apply below_alloc | apply pw_below_drewN | apply below_drew1) | exact HB.out))) : w.heap.size ≤ gb228)); clear HB; have HB := n0_; have BK228 := n1_; have GW228 := n2_; have GE228 := n3_; clear n0_ n1_ n2_ n3_; clear hb hbox hg)); try go_wp2_with (first | ((with_reducible refine gate_dst (N := 2) rfl ?_); refine box_event ?hg (N := 2) ?hd (cs := #[.slice A0_0 l0_0.length c0_0]) (t := 24) ?hr ?_; (case hd => rfl); (case hg => rfl); (case hr => first | (go_simp; done) | (go_simp; rfl)); intro gb228 hg w3 hbox hb; have n0_ := Aside0.mk (below_step (by repeat (first | (with_reducible first | exact HB.out | apply below_alloc | apply pw_below_drewN | apply below_drew1) | exact HB.out)) hb); have n1_ := Aside0.mk (hbox); have n2_ := Aside0.mk ((by rw [hg]; exact (below_size (by repeat (first | (with_reducible first | exact HB.out | apply below_alloc | apply pw_below_drewN | apply below_drew1) | exact HB.out))) : w.heap.size ≤ gb228)); have n3_ := Aside0.mk ((by rw [hg]; exact (below_size (by repeat (first | (with_reducible first | exact HB.out | apply below_alloc | apply pw_below_drewN | apply below_drew1) | exact HB.out))) : w.heap.size ≤ gb228)); clear HB; have HB := n0_; have BK228 := n1_; have GW228 := n2_; have GE228 := n3_; clear n0_ n1_ n2_ n3_; clear hb hbox hg)))
 go_loopg [5] k (fun kq v5 w' => ∃ (x5_1 : Int), v5 = .int .i64 x5_1 ∧ Aside0 (glisterref02_IsText.l0 kq l1 x5_1 l0_0 = some r) ∧ Aside0 (kq ≤ k) ∧ Aside0 (w'.heap[gb228]? = some (.cells #[(.slice A0_0 l0_0.length c0_0)] 24 (0, 0))) ∧ Aside0 (Below w.heap.size w w'))
 case atStart => exact ⟨(0), (by first | rfl | (simp; done) | (simp [*]; done)), H', ⟨Nat.le_refl _⟩, ⟨by (with_reducible repeat (first | refine blk_drewN ?_ _ | refine blk_drew ?_ | refine blk_alloc ?_ _)); exact BK228.out⟩, ⟨by repeat (first | (with_reducible first | exact HB.out | apply below_alloc | apply pw_below_drewN | apply below_drew1 | refine below_set ?_ GE228.out) | exact HB.out)⟩⟩
 case round =>
  clear H'
  try clear c1
  try clear p2
  obtain ⟨x5_1, rfl, HA, HK1, BK228, HB⟩ := hrel
  cases gk with
  | zero => exact absurd HA.out (by simp [glisterref02_IsText.l0])
  | succ k1 =>
   have H := HA.out
   clear HA
   simp only [glisterref02_IsText.l0] at H
   by_cases c4 : x5_1 < (l1.length : Int)
   ·rw [if_pos c4] at H
    have c4b0 : decide (x5_1 < (l1.length : Int)) = true := decide_eq_true c4
    clear c4
    by_cases c5 : 0 ≤ x5_1
    ·rw [if_pos c5] at H
     have c5b0 : decide (0 ≤ x5_1) = true := decide_eq_true c5
     clear c5
     replace H := Option.bind_eq_some_iff.mp H
     obtain ⟨t230, A60, H⟩ := H
     replace H : (if t230 = true then (glisterref02_IsText.l0 k1 l1 (wrap64 (x5_1 + 1)) l0_0) else (some false)) = some r := H
     have A6 := Aside0.mk A60
     clear A60
     by_cases c7 : t230 = true
     ·subst c7
      have H1 : (glisterref02_IsText.l0 k1 l1 (wrap64 (x5_1 + 1)) l0_0) = some r := by rw [if_pos rfl] at H; exact H
      clear H
      have H := H1
      clear H1
      have H' := Aside0.mk H
      clear H
      have p229 : 0 ≤ (x5_1 : Int) := of_decide_eq_true (by first | (with_reducible assumption) | assumption)
      have q229 : x5_1 < (l1.length : Int) := of_decide_eq_true (by first | (with_reducible assumption) | assumption)
      obtain ⟨ad229, e229, hx229_0⟩ := Kd.at_int HR1.out x5_1 p229 q229
      cases e229
      replace hx229_0 := (HB.out.cell (World.block_lt_of_cell? w _ hx229_0)).trans hx229_0
      replace p229 := eq_true p229
      replace q229 := eq_true q229
      have hcz8_0 : wr.cell? ⟨gb228, 0, none⟩ = some (.slice A0_0 l0_0.length c0_0) := (blk_cell BK228.out 0).trans rfl
      have hfz8_0 := blk_frozen BK228.out 0
      go_wp2_with (first | (go_at_call 127; (with_reducible refine (glisterref02_In.calls (rd l1 x5_1) 0 (wrap64 ((l0_0.length : Int) - 1)) true _ A6.out).mono ?_); rintro e w' ⟨rfl, ⟨nd, rfl⟩⟩; (try first | exact ⟨rfl, _, World.drewN_drewN _ _ _⟩ | exact ⟨rfl, _, Eq.trans (World.drewN_drewN _ _ _) (congrArg (World.drewN _) (Nat.add_assoc _ _ _))⟩)))
      repeat (go_quiet (first | (go_at_call 127; (with_reducible refine (glisterref02_In.calls (rd l1 x5_1) 0 (wrap64 ((l0_0.length : Int) - 1)) true _ A6.out).mono ?_); rintro e w' ⟨rfl, ⟨nd, rfl⟩⟩; (try first | exact ⟨rfl, _, World.drewN_drewN _ _ _⟩ | exact ⟨rfl, _, Eq.trans (World.drewN_drewN _ _ _) (congrArg (World.drewN _) (Nat.add_assoc _ _ _))⟩))); try go_wp2_with (first | (go_at_call 127; (with_reducible refine (glisterref02_In.calls (rd l1 x5_1) 0 (wrap64 ((l0_0.length : Int) - 1)) true _ A6.out).mono ?_); rintro e w' ⟨rfl, ⟨nd, rfl⟩⟩; (try first | exact ⟨rfl, _, World.drewN_drewN _ _ _⟩ | exact ⟨rfl, _, Eq.trans (World.drewN_drewN _ _ _) (congrArg (World.drewN _) (Nat.add_assoc _ _ _))⟩))))
      go_roundg k1
      case measure => have := HK1.out; omega
      case rel => exact ⟨(wrap64 (x5_1 + 1)), (by first | rfl | (simp; done) | (simp [*]; done)), H', ⟨by have := HK1.out; omega⟩, ⟨by (with_reducible repeat (first | refine blk_drewN ?_ _ | refine blk_drew ?_ | refine blk_alloc ?_ _)); exact BK228.out⟩, ⟨by repeat (first | (with_reducible first | exact HB.out | apply below_alloc | apply pw_below_drewN | apply below_drew1 | refine below_set ?_ GE228.out) | exact HB.out)⟩⟩
     ·replace c7 := Bool.eq_false_iff.mpr c7
      subst c7
      have H1 : (some false) = some r := by rw [if_neg (show ¬ (false = true) by decide)] at H; exact H
      clear H
      have H := H1
      clear H1
      obtain rfl := Option.some.inj H
      have p229 : 0 ≤ (x5_1 : Int) := of_decide_eq_true (by first | (with_reducible assumption) | assumption)
      have q229 : x5_1 < (l1.length : Int) := of_decide_eq_true (by first | (with_reducible assumption) | assumption)
      obtain ⟨ad229, e229, hx229_0⟩ := Kd.at_int HR1.out x5_1 p229 q229
      cases e229
      replace hx229_0 := (HB.out.cell (World.block_lt_of_cell? w _ hx229_0)).trans hx229_0
      replace p229 := eq_true p229
      replace q229 := eq_true q229
      have hcz9_0 : wr.cell? ⟨gb228, 0, none⟩ = some (.slice A0_0 l0_0.length c0_0) := (blk_cell BK228.out 0).trans rfl
      have hfz9_0 := blk_frozen BK228.out 0
      go_wp2_with (first | (go_at_call 127; (with_reducible refine (glisterref02_In.calls (rd l1 x5_1) 0 (wrap64 ((l0_0.length : Int) - 1)) false _ A6.out).mono ?_); rintro e w' ⟨rfl, ⟨nd, rfl⟩⟩; (try first | exact ⟨rfl, _, World.drewN_drewN _ _ _⟩ | exact ⟨rfl, _, Eq.trans (World.drewN_drewN _ _ _) (congrArg (World.drewN _) (Nat.add_assoc _ _ _))⟩)))
      repeat (go_quiet (first | (go_at_call 127; (with_reducible refine (glisterref02_In.calls (rd l1 x5_1) 0 (wrap64 ((l0_0.length : Int) - 1)) false _ A6.out).mono ?_); rintro e w' ⟨rfl, ⟨nd, rfl⟩⟩; (try first | exact ⟨rfl, _, World.drewN_drewN _ _ _⟩ | exact ⟨rfl, _, Eq.trans (World.drewN_drewN _ _ _) (congrArg (World.drewN _) (Nat.add_assoc _ _ _))⟩))); try go_wp2_with (first | (go_at_call 127; (with_reducible refine (glisterref02_In.calls (rd l1 x5_1) 0 (wrap64 ((l0_0.length : Int) - 1)) false _ A6.out).mono ?_); rintro e w' ⟨rfl, ⟨nd, rfl⟩⟩; (try first | exact ⟨rfl, _, World.drewN_drewN _ _ _⟩ | exact ⟨rfl, _, Eq.trans (World.drewN_drewN _ _ _) (congrArg (World.drewN _) (Nat.add_assoc _ _ _))⟩))))
      go_ret
      exact ⟨by first | rfl | (simp [errW_none, errW_some] <;> rfl) | (simp [*, errW_none, errW_some] <;> rfl), by repeat (first | (with_reducible first | exact HB.out | apply below_alloc | apply pw_below_drewN | apply below_drew1 | refine below_set ?_ GE228.out) | exact HB.out)⟩
    ·rw [if_neg c5] at H
     exact absurd H (by simp)
   ·rw [if_neg c4] at H
    have c4b0 : decide (x5_1 < (l1.length : Int)) = false := decide_eq_false c4
    clear c4
    obtain rfl := Option.some.inj H
    go_wp2
    repeat (go_quiet (fail); try go_wp2)
    go_ret
    exact ⟨by first | rfl | (simp [errW_none, errW_some] <;> rfl) | (simp [*, errW_none, errW_some] <;> rfl), by repeat (first | (with_reducible first | exact HB.out | apply below_alloc | apply pw_below_drewN | apply below_drew1 | refine below_set ?_ GE228.out) | exact HB.out)⟩
def glisterref02_Signs.l0 : Nat → List Int → ByteArray → Int → List ByteArray → Option (ByteArray)
 | 0, _, _, _, _ => none
 | k + 1, x1, x5, x6, x250000 => if x6 < (x1.length : Int) then (if x6 > 0 then (if x5.size + 1 ≤ 9223372036854775807 then (if 0 ≤ x6 then (if 0 ≤ (rd x1 x6) then (if (rd x1 x6) < (x250000.length : Int) then (if (x5 ++ (⟨#[32]⟩ : ByteArray)).size + (rdOf ByteArray.empty x250000 (rd x1 x6)).size ≤ 9223372036854775807 then (glisterref02_Signs.l0 k x1 ((x5 ++ (⟨#[32]⟩ : ByteArray)) ++ (rdOf ByteArray.empty x250000 (rd x1 x6))) (wrap64 (x6 + 1)) x250000) else (none)) else (none)) else (none)) else (none)) else (none)) else (if 0 ≤ x6 then (if 0 ≤ (rd x1 x6) then (if (rd x1 x6) < (x250000.length : Int) then (if x5.size + (rdOf ByteArray.empty x250000 (rd x1 x6)).size ≤ 9223372036854775807 then (glisterref02_Signs.l0 k x1 (x5 ++ (rdOf ByteArray.empty x250000 (rd x1 x6))) (wrap64 (x6 + 1)) x250000) else (none)) else (none)) else (none)) else (none))) else (some x5)
def glisterref02_Signs.f (k : Nat) (l0_0 : List ByteArray) (l1 : List Int) : Option (ByteArray) := glisterref02_Signs.l0 k l1 (⟨#[]⟩ : ByteArray) 0 l0_0
theorem glisterref02_Signs.mono_l : ∀ k, (∀ y0 y1 y2 y3, LeO (glisterref02_Signs.l0 k y0 y1 y2 y3) (glisterref02_Signs.l0 (k + 1) y0 y1 y2 y3))
 | 0 => fun _ _ _ _ r h => by simp [glisterref02_Signs.l0] at h
 | k + 1 => by
  have ih0 := glisterref02_Signs.mono_l k
  ·intro y0 y1 y2 y3
   unfold glisterref02_Signs.l0
   repeat' first
   | (with_reducible exact ih0 _ _ _ _)
   | (with_reducible exact LeO.refl _)
   | (with_reducible exact LeO.none _)
   | (with_reducible refine LeO.ite ?_ ?_)
   | (with_reducible refine LeO.bind ?_ (fun _ => ?_))
   | exact ih0 _ _ _ _
   | exact LeO.none _
   | refine LeO.ite ?_ ?_
   | refine LeO.bind ?_ (fun _ => ?_)
theorem glisterref02_Signs.mono : ∀ a0 a1 k, LeO (glisterref02_Signs.f k a0 a1) (glisterref02_Signs.f (k + 1) a0 a1) := by
 intro a0 a1 k
 have ih0 := glisterref02_Signs.mono_l k
 unfold glisterref02_Signs.f
 repeat' first
   | (with_reducible exact ih0 _ _ _ _)
   | (with_reducible exact LeO.refl _)
   | (with_reducible exact LeO.none _)
   | (with_reducible refine LeO.ite ?_ ?_)
   | (with_reducible refine LeO.bind ?_ (fun _ => ?_))
   | exact ih0 _ _ _ _
   | exact LeO.none _
   | refine LeO.ite ?_ ?_
   | refine LeO.bind ?_ (fun _ => ?_)
set_option maxHeartbeats 8000000 in
set_option maxRecDepth 100000 in
theorem glisterref02_Signs.calls (k : Nat) (A0_0 : Option Addr) (c0_0 : Nat) (l0_0 : List ByteArray) (A1 : Option Addr) (c1 : Nat) (l1 : List Int) (r : ByteArray) (w : World) (hr0_0 : Kd.C Kd.string w A0_0 l0_0.length l0_0) (hc0_0 : l0_0.length ≤ c0_0) (hr1 : Kd.C (Kd.int .i64) w A1 l1.length l1) (hc1 : l1.length ≤ c1) (h : glisterref02_Signs.f k l0_0 l1 = some r) :
  Calls Tryz.prog 81 #[.agg #[.slice A0_0 l0_0.length c0_0], .slice A1 l1.length c1] w fun e w' => e = .returned (.string r) ∧ Below w.heap.size w w' := by
 have hu24 := Tryz.underlying24
 have HR0_0 := Aside0.mk hr0_0
 have HC0_0 := Aside0.mk hc0_0
 clear hr0_0 hc0_0
 have HR1 := Aside0.mk hr1
 have HC1 := Aside0.mk hc1
 clear hr1 hc1
 have HB := Aside0.mk (Below.refl w.heap.size w)
 have H : (glisterref02_Signs.l0 k l1 (⟨#[]⟩ : ByteArray) 0 l0_0) = some r := h
 clear h
 have H' := Aside0.mk H
 clear H
 go_enter Tryz.func81, Tryz.ntmps81
 go_wp2_with (first | ((with_reducible refine gate_dst (N := 2) rfl ?_); refine box_event ?hg (N := 2) ?hd (cs := #[.slice A0_0 l0_0.length c0_0]) (t := 24) ?hr ?_; (case hd => rfl); (case hg => rfl); (case hr => first | (go_simp; done) | (go_simp; rfl)); intro gb249 hg w3 hbox hb; have n0_ := Aside0.mk (below_step (by repeat (first | (with_reducible first | exact HB.out | apply below_alloc | apply pw_below_drewN | apply below_drew1) | exact HB.out)) hb); have n1_ := Aside0.mk (hbox); have n2_ := Aside0.mk ((by rw [hg]; exact (below_size (by repeat (first | (with_reducible first | exact HB.out | apply below_alloc | apply pw_below_drewN | apply below_drew1) | exact HB.out))) : w.heap.size ≤ gb249)); have n3_ := Aside0.mk ((by rw [hg]; exact (below_size (by repeat (first | (with_reducible first | exact HB.out | apply below_alloc | apply pw_below_drewN | apply below_drew1) | exact HB.out))) : w.heap.size ≤ gb249)); clear HB; have HB := n0_; have BK249 := n1_; have GW249 := n2_; have GE249 := n3_; clear n0_ n1_ n2_ n3_; clear hb hbox hg))
 repeat (go_quiet (first | ((with_reducible refine gate_dst (N := 2) rfl ?_); refine box_event ?hg (N := 2) ?hd (cs := #[.slice A0_0 l0_0.length c0_0]) (t := 24) ?hr ?_; (case hd => rfl); (case hg => rfl); (case hr => first | (go_simp; done) | (go_simp; rfl)); intro gb249 hg w3 hbox hb; have n0_ := Aside0.mk (below_step (by repeat (first | (with_reducible first | exact HB.out | apply below_alloc | apply pw_below_drewN | apply below_drew1) | exact HB.out)) hb); have n1_ := Aside0.mk (hbox); have n2_ := Aside0.mk ((by rw [hg]; exact (below_size (by repeat (first | (with_reducible first | exact HB.out | apply below_alloc | apply pw_below_drewN | apply below_drew1) | exact HB.out))) : w.heap.size ≤ gb249)); have n3_ := Aside0.mk ((by rw [hg]; exact (below_size (by repeat (first | (with_reducible first | exact HB.out | apply below_alloc | apply pw_below_drewN | apply below_drew1) | exact HB.out))) : w.heap.size ≤ gb249)); clear HB; have HB := n0_; have BK249 := n1_; have GW249 := n2_; have GE249 := n3_; clear n0_ n1_ n2_ n3_; clear hb hbox hg)); try go_wp2_with (first | ((with_reducible refine gate_dst (N := 2) rfl ?_); refine box_event ?hg (N := 2) ?hd (cs := #[.slice A0_0 l0_0.length c0_0]) (t := 24) ?hr ?_; (case hd => rfl); (case hg => rfl); (case hr => first | (go_simp; done) | (go_simp; rfl)); intro gb249 hg w3 hbox hb; have n0_ := Aside0.mk (below_step (by repeat (first | (with_reducible first | exact HB.out | apply below_alloc | apply pw_below_drewN | apply below_drew1) | exact HB.out)) hb); have n1_ := Aside0.mk (hbox); have n2_ := Aside0.mk ((by rw [hg]; exact (below_size (by repeat (first | (with_reducible first | exact HB.out | apply below_alloc | apply pw_below_drewN | apply below_drew1) | exact HB.out))) : w.heap.size ≤ gb249)); have n3_ := Aside0.mk ((by rw [hg]; exact (below_size (by repeat (first | (with_reducible first | exact HB.out | apply below_alloc | apply pw_below_drewN | apply below_drew1) | exact HB.out))) : w.heap.size ≤ gb249)); clear HB; have HB := n0_; have BK249 := n1_; have GW249 := n2_; have GE249 := n3_; clear n0_ n1_ n2_ n3_; clear hb hbox hg)))
 go_loopg [5, 6] k (fun kq v5 v6 w' => ∃ (x5_1 : ByteArray) (x6_1 : Int), v5 = .string x5_1 ∧ v6 = .int .i64 x6_1 ∧ Aside0 (glisterref02_Signs.l0 kq l1 x5_1 x6_1 l0_0 = some r) ∧ Aside0 (kq ≤ k) ∧ Aside0 (w'.heap[gb249]? = some (.cells #[(.slice A0_0 l0_0.length c0_0)] 24 (0, 0))) ∧ Aside0 (Below w.heap.size w w'))
 case atStart => exact ⟨((⟨#[]⟩ : ByteArray)), (0), (by first | rfl | (simp; done) | (simp [*]; done)), (by first | rfl | (simp; done) | (simp [*]; done)), H', ⟨Nat.le_refl _⟩, ⟨by (with_reducible repeat (first | refine blk_drewN ?_ _ | refine blk_drew ?_ | refine blk_alloc ?_ _)); exact BK249.out⟩, ⟨by repeat (first | (with_reducible first | exact HB.out | apply below_alloc | apply pw_below_drewN | apply below_drew1 | refine below_set ?_ GE249.out) | exact HB.out)⟩⟩
 case round =>
  clear H'
  try clear c1
  try clear p2
  obtain ⟨x5_1, x6_1, rfl, rfl, HA, HK1, BK249, HB⟩ := hrel
  cases gk with
  | zero => exact absurd HA.out (by simp [glisterref02_Signs.l0])
  | succ k1 =>
   have H := HA.out
   clear HA
   simp only [glisterref02_Signs.l0] at H
   by_cases c4 : x6_1 < (l1.length : Int)
   ·rw [if_pos c4] at H
    have c4b0 : decide (x6_1 < (l1.length : Int)) = true := decide_eq_true c4
    clear c4
    by_cases c5 : x6_1 > 0
    ·rw [if_pos c5] at H
     have c5b0 : decide (0 < x6_1) = true := decide_eq_true c5
     clear c5
     by_cases c6 : x5_1.size + 1 ≤ 9223372036854775807
     ·rw [if_pos c6] at H
      have c6b0 := eq_true c6
      have c6b1 : decide (x5_1.size + 1 ≤ 9223372036854775807) = true := decide_eq_true c6
      try have c6b2 : (9223372036854775807 < x5_1.size + 1) = False := eq_false (Nat.not_lt.2 c6)
      by_cases c7 : 0 ≤ x6_1
      ·rw [if_pos c7] at H
       have c7b0 : decide (0 ≤ x6_1) = true := decide_eq_true c7
       clear c7
       by_cases c8 : 0 ≤ (rd l1 x6_1)
       ·rw [if_pos c8] at H
        have c8b0 : decide (0 ≤ (rd l1 x6_1)) = true := decide_eq_true c8
        clear c8
        by_cases c9 : (rd l1 x6_1) < (l0_0.length : Int)
        ·rw [if_pos c9] at H
         have c9b0 : decide ((rd l1 x6_1) < (l0_0.length : Int)) = true := decide_eq_true c9
         clear c9
         by_cases c10 : (x5_1 ++ (⟨#[32]⟩ : ByteArray)).size + (rdOf ByteArray.empty l0_0 (rd l1 x6_1)).size ≤ 9223372036854775807
         ·rw [if_pos c10] at H
          have c10b0 := eq_true c10
          have c10b1 : decide ((x5_1 ++ (⟨#[32]⟩ : ByteArray)).size + (rdOf ByteArray.empty l0_0 (rd l1 x6_1)).size ≤ 9223372036854775807) = true := decide_eq_true c10
          try have c10b2 : (9223372036854775807 < (x5_1 ++ (⟨#[32]⟩ : ByteArray)).size + (rdOf ByteArray.empty l0_0 (rd l1 x6_1)).size) = False := eq_false (Nat.not_lt.2 c10)
          have H' := Aside0.mk H
          clear H
          have hcz11_0 : wr.cell? ⟨gb249, 0, none⟩ = some (.slice A0_0 l0_0.length c0_0) := (blk_cell BK249.out 0).trans rfl
          have hfz11_0 := blk_frozen BK249.out 0
          have p250 : 0 ≤ (x6_1 : Int) := of_decide_eq_true (by first | (with_reducible assumption) | assumption)
          have q250 : x6_1 < (l1.length : Int) := of_decide_eq_true (by first | (with_reducible assumption) | assumption)
          obtain ⟨ad250, e250, hx250_0⟩ := Kd.at_int HR1.out x6_1 p250 q250
          cases e250
          replace hx250_0 := (HB.out.cell (World.block_lt_of_cell? w _ hx250_0)).trans hx250_0
          replace p250 := eq_true p250
          replace q250 := eq_true q250
          have p251 : 0 ≤ ((rd l1 x6_1) : Int) := of_decide_eq_true (by first | (with_reducible assumption) | assumption)
          have q251 : (rd l1 x6_1) < (l0_0.length : Int) := of_decide_eq_true (by first | (with_reducible assumption) | assumption)
          obtain ⟨ad251, e251, hx251_0⟩ := Kd.at_string HR0_0.out (rd l1 x6_1) p251 q251
          cases e251
          replace hx251_0 := (HB.out.cell (World.block_lt_of_cell? w _ hx251_0)).trans hx251_0
          replace p251 := eq_true p251
          replace q251 := eq_true q251
          go_wp2
          repeat (go_quiet (fail); try go_wp2)
          go_roundg k1
          case measure => have := HK1.out; omega
          case rel => exact ⟨((x5_1 ++ (⟨#[32]⟩ : ByteArray)) ++ (rdOf ByteArray.empty l0_0 (rd l1 x6_1))), (wrap64 (x6_1 + 1)), (by first | rfl | (simp; done) | (simp [*]; done)), (by first | rfl | (simp; done) | (simp [*]; done)), H', ⟨by have := HK1.out; omega⟩, ⟨by (with_reducible repeat (first | refine blk_drewN ?_ _ | refine blk_drew ?_ | refine blk_alloc ?_ _)); exact BK249.out⟩, ⟨by repeat (first | (with_reducible first | exact HB.out | apply below_alloc | apply pw_below_drewN | apply below_drew1 | refine below_set ?_ GE249.out) | exact HB.out)⟩⟩
         ·rw [if_neg c10] at H
          exact absurd H (by simp)
        ·rw [if_neg c9] at H
         exact absurd H (by simp)
       ·rw [if_neg c8] at H
        exact absurd H (by simp)
      ·rw [if_neg c7] at H
       exact absurd H (by simp)
     ·rw [if_neg c6] at H
      exact absurd H (by simp)
    ·rw [if_neg c5] at H
     have c5b0 : decide (0 < x6_1) = false := decide_eq_false c5
     clear c5
     by_cases c12 : 0 ≤ x6_1
     ·rw [if_pos c12] at H
      have c12b0 : decide (0 ≤ x6_1) = true := decide_eq_true c12
      clear c12
      by_cases c13 : 0 ≤ (rd l1 x6_1)
      ·rw [if_pos c13] at H
       have c13b0 : decide (0 ≤ (rd l1 x6_1)) = true := decide_eq_true c13
       clear c13
       by_cases c14 : (rd l1 x6_1) < (l0_0.length : Int)
       ·rw [if_pos c14] at H
        have c14b0 : decide ((rd l1 x6_1) < (l0_0.length : Int)) = true := decide_eq_true c14
        clear c14
        by_cases c15 : x5_1.size + (rdOf ByteArray.empty l0_0 (rd l1 x6_1)).size ≤ 9223372036854775807
        ·rw [if_pos c15] at H
         have c15b0 := eq_true c15
         have c15b1 : decide (x5_1.size + (rdOf ByteArray.empty l0_0 (rd l1 x6_1)).size ≤ 9223372036854775807) = true := decide_eq_true c15
         try have c15b2 : (9223372036854775807 < x5_1.size + (rdOf ByteArray.empty l0_0 (rd l1 x6_1)).size) = False := eq_false (Nat.not_lt.2 c15)
         have H' := Aside0.mk H
         clear H
         have hcz16_0 : wr.cell? ⟨gb249, 0, none⟩ = some (.slice A0_0 l0_0.length c0_0) := (blk_cell BK249.out 0).trans rfl
         have hfz16_0 := blk_frozen BK249.out 0
         have p252 : 0 ≤ (x6_1 : Int) := of_decide_eq_true (by first | (with_reducible assumption) | assumption)
         have q252 : x6_1 < (l1.length : Int) := of_decide_eq_true (by first | (with_reducible assumption) | assumption)
         obtain ⟨ad252, e252, hx252_0⟩ := Kd.at_int HR1.out x6_1 p252 q252
         cases e252
         replace hx252_0 := (HB.out.cell (World.block_lt_of_cell? w _ hx252_0)).trans hx252_0
         replace p252 := eq_true p252
         replace q252 := eq_true q252
         have p253 : 0 ≤ ((rd l1 x6_1) : Int) := of_decide_eq_true (by first | (with_reducible assumption) | assumption)
         have q253 : (rd l1 x6_1) < (l0_0.length : Int) := of_decide_eq_true (by first | (with_reducible assumption) | assumption)
         obtain ⟨ad253, e253, hx253_0⟩ := Kd.at_string HR0_0.out (rd l1 x6_1) p253 q253
         cases e253
         replace hx253_0 := (HB.out.cell (World.block_lt_of_cell? w _ hx253_0)).trans hx253_0
         replace p253 := eq_true p253
         replace q253 := eq_true q253
         go_wp2
         repeat (go_quiet (fail); try go_wp2)
         go_roundg k1
         case measure => have := HK1.out; omega
         case rel => exact ⟨(x5_1 ++ (rdOf ByteArray.empty l0_0 (rd l1 x6_1))), (wrap64 (x6_1 + 1)), (by first | rfl | (simp; done) | (simp [*]; done)), (by first | rfl | (simp; done) | (simp [*]; done)), H', ⟨by have := HK1.out; omega⟩, ⟨by (with_reducible repeat (first | refine blk_drewN ?_ _ | refine blk_drew ?_ | refine blk_alloc ?_ _)); exact BK249.out⟩, ⟨by repeat (first | (with_reducible first | exact HB.out | apply below_alloc | apply pw_below_drewN | apply below_drew1 | refine below_set ?_ GE249.out) | exact HB.out)⟩⟩
        ·rw [if_neg c15] at H
         exact absurd H (by simp)
       ·rw [if_neg c14] at H
        exact absurd H (by simp)
      ·rw [if_neg c13] at H
       exact absurd H (by simp)
     ·rw [if_neg c12] at H
      exact absurd H (by simp)
   ·rw [if_neg c4] at H
    have c4b0 : decide (x6_1 < (l1.length : Int)) = false := decide_eq_false c4
    clear c4
    obtain rfl := Option.some.inj H
    go_wp2
    repeat (go_quiet (fail); try go_wp2)
    go_ret
    exact ⟨by first | rfl | (simp [errW_none, errW_some] <;> rfl) | (simp [*, errW_none, errW_some] <;> rfl), by repeat (first | (with_reducible first | exact HB.out | apply below_alloc | apply pw_below_drewN | apply below_drew1 | refine below_set ?_ GE249.out) | exact HB.out)⟩
end Go.Proofs.YthgfhgjlilmieaaGreat.B
namespace Go.Proofs.YthgfhgjlilmieaaGreat.G
open Go.RowKit Go.Shelf Go.Proofs.YthgfhgjlilmieaaGreatW.PrintWords Go.Proofs.YthgfhgjlilmieaaGreatW.PrintLast Go.Proofs.YthgfhgjlilmieaaGreatW.PrintMore
open Go.Proofs.YthgfhgjlilmieaaGreat.B
set_option linter.unusedVariables false
set_option linter.unusedSimpArgs false
theorem wrap_nat (i : Nat) (n : Nat) (h : i < n) (hn : n ≤ 9223372036854775807) : wrap64 ((i : Int) + 1) = ((i + 1 : Nat) : Int) := by
  unfold wrap64
  omega
theorem rd_nat (xs : List Int) (i : Nat) (h : i < xs.length) : rd xs (i : Int) = xs[i] := by simp [rd, h]
theorem same_l (xs ys : List Int) (hl : xs.length = ys.length) (hb : xs.length ≤ 9223372036854775807) : ∀ (d i k : Nat), d = xs.length - i → i ≤ xs.length → d < k → xs.take i = ys.take i → glisterref02_Same.l0 k xs ys i = some (xs == ys) := by
  intro d
  induction d with
  | zero =>
    intro i k hd hi hk he
    obtain ⟨k, rfl⟩ : ∃ m, k = m + 1 := ⟨k - 1, by omega⟩
    have hi2 : i = xs.length := by omega
    subst hi2
    simp only [glisterref02_Same.l0]
    rw [if_neg (by omega)]
    rw [List.take_length, hl, List.take_length] at he
    simp [he]
  | succ d ih =>
    intro i k hd hi hk he
    obtain ⟨k, rfl⟩ : ∃ m, k = m + 1 := ⟨k - 1, by omega⟩
    have h1 : i < xs.length := by omega
    have h2 : i < ys.length := by omega
    simp only [glisterref02_Same.l0]
    rw [if_pos (by omega), if_pos (by omega), if_pos (by omega), rd_nat xs i h1, rd_nat ys i h2, wrap_nat i xs.length h1 hb]
    by_cases hx : xs[i] = ys[i]
    · rw [if_pos hx]
      exact ih (i + 1) k (by omega) (by omega) (by omega) (by rw [List.take_succ_eq_append_getElem h1, List.take_succ_eq_append_getElem h2, he, hx])
    · rw [if_neg hx]
      have : (xs == ys) = false := by
        rw [beq_eq_false_iff_ne]
        rintro rfl
        exact hx rfl
      rw [this]
theorem same_f (xs ys : List Int) (hb : xs.length ≤ 9223372036854775807) (k : Nat) (hk : xs.length < k) : glisterref02_Same.f k xs ys = some (xs == ys) := by
  unfold glisterref02_Same.f
  by_cases hl : xs.length = ys.length
  · rw [if_pos (by omega)]
    exact same_l xs ys hl hb xs.length 0 k (by omega) (by omega) hk (by simp)
  · rw [if_neg (by omega)]
    have : (xs == ys) = false := by
      rw [beq_eq_false_iff_ne]
      rintro rfl
      exact hl rfl
    rw [this]
theorem same_any (A B : Option Addr) (c d : Nat) (xs ys : List Int) (w : World) (hx : Kd.C (Kd.int .i64) w A xs.length xs) (hc : xs.length ≤ c) (hy : Kd.C (Kd.int .i64) w B ys.length ys) (hd : ys.length ≤ d) :
    Calls Tryz.prog 24 #[.slice A xs.length c, .slice B ys.length d] w fun e w' => e = .returned (.bool (xs == ys)) ∧ Below w.heap.size w w' := by
  have hb : xs.length ≤ 9223372036854775807 := by have := hx.2.1; omega
  refine (glisterref02_Same.calls (xs.length + 1) A c xs B d ys _ w hx hc hy hd (same_f xs ys hb _ (by omega))).mono ?_
  rintro e w' ⟨he, n, rfl⟩
  exact ⟨he, belowN w n⟩
theorem sames_l (xs ys : List (List Int)) (M : Nat) (hM : ∀ t, t ∈ xs → t.length ≤ M) (hM2 : M ≤ 9223372036854775807) (hl : xs.length = ys.length) (hb : xs.length ≤ 9223372036854775807) : ∀ (d i k : Nat), d = xs.length - i → i ≤ xs.length → d + M + 1 < k → xs.take i = ys.take i → glisterlaw06_same.l0 k xs ys i = some (xs == ys) := by
  intro d
  induction d with
  | zero =>
    intro i k hd hi hk he
    obtain ⟨k, rfl⟩ : ∃ m, k = m + 1 := ⟨k - 1, by omega⟩
    have hi2 : i = xs.length := by omega
    subst hi2
    simp only [glisterlaw06_same.l0]
    rw [if_neg (by omega)]
    rw [List.take_length, hl, List.take_length] at he
    simp [he]
  | succ d ih =>
    intro i k hd hi hk he
    obtain ⟨k, rfl⟩ : ∃ m, k = m + 1 := ⟨k - 1, by omega⟩
    have h1 : i < xs.length := by omega
    have h2 : i < ys.length := by omega
    have r1 : rd_L2 xs (i : Int) = xs[i] := by simp [rd_L2, h1]
    have r2 : rd_L2 ys (i : Int) = ys[i] := by simp [rd_L2, h2]
    have hm := hM xs[i] (List.getElem_mem h1)
    simp only [glisterlaw06_same.l0]
    rw [if_pos (by omega), if_pos (by omega), if_pos (by omega), r1, r2, same_f xs[i] ys[i] (by omega) k (by omega), Option.bind_some, wrap_nat i xs.length h1 hb]
    by_cases hx : xs[i] = ys[i]
    · rw [if_pos (by simp [hx])]
      exact ih (i + 1) k (by omega) (by omega) (by omega) (by rw [List.take_succ_eq_append_getElem h1, List.take_succ_eq_append_getElem h2, he, hx])
    · rw [if_neg (by simp [hx])]
      have : (xs == ys) = false := by
        rw [beq_eq_false_iff_ne]
        rintro rfl
        exact hx rfl
      rw [this]
theorem sames_f (xs ys : List (List Int)) (M : Nat) (hM : ∀ t, t ∈ xs → t.length ≤ M) (hM2 : M ≤ 9223372036854775807) (hb : xs.length ≤ 9223372036854775807) (k : Nat) (hk : xs.length + M + 1 < k) : glisterlaw06_same.f k xs ys = some (xs == ys) := by
  unfold glisterlaw06_same.f
  by_cases hl : xs.length = ys.length
  · rw [if_pos (by omega)]
    exact sames_l xs ys M hM hM2 hl hb xs.length 0 k (by omega) (by omega) (by omega) (by simp)
  · rw [if_neg (by omega)]
    have : (xs == ys) = false := by
      rw [beq_eq_false_iff_ne]
      rintro rfl
      exact hl rfl
    rw [this]
theorem sames_any (A B : Option Addr) (c d : Nat) (xs ys : List (List Int)) (w : World) (M : Nat) (hM : ∀ t, t ∈ xs → t.length ≤ M) (hM2 : M ≤ 9223372036854775807) (hx : Kd.C (Kd.slice 3 (Kd.int .i64)) w A xs.length xs) (hc : xs.length ≤ c) (hy : Kd.C (Kd.slice 3 (Kd.int .i64)) w B ys.length ys) (hd : ys.length ≤ d) :
    Calls Tryz.prog 28 #[.slice A xs.length c, .slice B ys.length d] w fun e w' => e = .returned (.bool (xs == ys)) ∧ Below w.heap.size w w' := by
  have hb : xs.length ≤ 9223372036854775807 := by have := hx.2.1; omega
  refine (glisterlaw06_same.calls (xs.length + M + 2) A c xs B d ys _ w hx hc hy hd (sames_f xs ys M hM hM2 hb _ (by omega))).mono ?_
  rintro e w' ⟨he, n, rfl⟩
  exact ⟨he, belowN w n⟩
end Go.Proofs.YthgfhgjlilmieaaGreat.G
namespace Go.Proofs.YthgfhgjlilmieaaGreat.G
open Go.RowKit Go.Shelf Go.Proofs.YthgfhgjlilmieaaGreatW.PrintWords Go.Proofs.YthgfhgjlilmieaaGreatW.PrintLast Go.Proofs.YthgfhgjlilmieaaGreatW.PrintMore
open Go.Proofs.YthgfhgjlilmieaaGreat.B
set_option linter.unusedVariables false
set_option linter.unusedSimpArgs false
abbrev noS : ByteArray × ByteArray × Bool := ((⟨#[]⟩ : ByteArray), (⟨#[]⟩ : ByteArray), false)
def StP (x : ByteArray × ByteArray × Bool) (w : World) (e : Ending) (w' : World) : Prop := e = .returned (.tuple #[.string x.1, .string x.2.1, .bool x.2.2]) ∧ ∃ n, w' = w.drewN n
theorem empty_size {s : ByteArray} : s.toList = ([] : List UInt8) ↔ s.size = 0 := by
  rw [Lib.toList_data]
  constructor
  · intro h
    show s.data.size = 0
    rw [← Array.length_toList, h]
    rfl
  · intro h
    exact List.eq_nil_of_length_eq_zero (by rw [Array.length_toList]; exact h)
theorem e_yes {s : ByteArray} (h : s.size = 0) : (s.toList == ([] : List UInt8)) = true := by rw [empty_size.2 h]; rfl
theorem e_yes2 {s : ByteArray} (h : s.size = 0) : (s.toList = ([] : List UInt8)) = True := eq_true (empty_size.2 h)
theorem e_yes3 {s : ByteArray} (h : s.size = 0) : s.toList.isEmpty = true := by rw [empty_size.2 h]; rfl
theorem e_no2 {s : ByteArray} (h : 0 < s.size) : (s.toList = ([] : List UInt8)) = False := eq_false (fun e => by have := empty_size.1 e; omega)
theorem e_no {s : ByteArray} (h : 0 < s.size) : (s.toList == ([] : List UInt8)) = false := by rw [beq_eq_false_iff_ne]; exact fun e => by have := empty_size.1 e; omega
theorem e_no3 {s : ByteArray} (h : 0 < s.size) : s.toList.isEmpty = false := by
  cases hx : s.toList with
  | nil => have := empty_size.1 hx; omega
  | cons a t => rfl
theorem sz1 {s : ByteArray} (h : 0 < s.size) : (s.extract 0 1).size = 1 := by
  rw [ByteArray.size_extract]
  omega
theorem sz2 {s : ByteArray} (h : 2 ≤ s.size) : (s.extract 0 2).size = 2 := by
  rw [ByteArray.size_extract]
  omega
set_option maxRecDepth 100000
set_option maxHeartbeats 1000000 in
theorem st0_e (s r : ByteArray) (hs : s.size = 0) (w : World) : Calls Tryz.prog 111 #[.int .i64 0, .string s, .string r] w (StP noS w) := by
  have e1 := e_yes hs
  have e2 := e_yes2 hs
  have e3 := e_yes3 hs
  go_enter Tryz.func111, Tryz.ntmps111
  go_wp2
  go_ret3
  exact ⟨rfl, 0, rfl⟩
set_option maxHeartbeats 1000000 in
theorem st1_e (s r : ByteArray) (hs : s.size = 0) (w : World) : Calls Tryz.prog 111 #[.int .i64 1, .string s, .string r] w (StP noS w) := by
  have e1 := e_yes hs
  have e2 := e_yes2 hs
  have e3 := e_yes3 hs
  go_enter Tryz.func111, Tryz.ntmps111
  go_wp2
  go_ret3
  exact ⟨rfl, 0, rfl⟩
set_option maxHeartbeats 1000000 in
theorem st2_e (s r : ByteArray) (hs : s.size = 0) (w : World) : Calls Tryz.prog 111 #[.int .i64 2, .string s, .string r] w (StP noS w) := by
  have e1 := e_yes hs
  have e2 := e_yes2 hs
  have e3 := e_yes3 hs
  go_enter Tryz.func111, Tryz.ntmps111
  go_wp2
  go_ret3
  exact ⟨rfl, 0, rfl⟩
set_option maxHeartbeats 1000000 in
theorem st4_e (s r : ByteArray) (hs : s.size = 0) (w : World) : Calls Tryz.prog 111 #[.int .i64 4, .string s, .string r] w (StP noS w) := by
  have e1 := e_yes hs
  have e2 := e_yes2 hs
  have e3 := e_yes3 hs
  go_enter Tryz.func111, Tryz.ntmps111
  go_wp2
  go_ret3
  exact ⟨rfl, 0, rfl⟩
set_option maxHeartbeats 1000000 in
theorem st0_short (s r : ByteArray) (hs : 0 < s.size) (hr : r.size < 1) (w : World) : Calls Tryz.prog 111 #[.int .i64 0, .string s, .string r] w (StP noS w) := by
  have e1 := e_no hs
  have e2 := e_no2 hs
  have e3 := e_no3 hs
  have h1 : (1 : Int) ≤ (s.size : Int) := by omega
  have h2 : (0 : Int) < (s.size : Int) := by omega
  have h3 : 1 ≤ s.size := hs
  have z1 := sz1 hs
  have t1 : (r.size : Int) < 1 := by omega
  go_enter Tryz.func111, Tryz.ntmps111
  go_wp2
  go_ret3
  exact ⟨rfl, 0, rfl⟩
set_option maxHeartbeats 1000000 in
theorem st0_other (s r : ByteArray) (hs : 0 < s.size) (hr : 1 ≤ r.size) (hw : ¬ (r.extract 0 1).toList = (s.extract 0 1).toList) (w : World) : Calls Tryz.prog 111 #[.int .i64 0, .string s, .string r] w (StP noS w) := by
  have e1 := e_no hs
  have e2 := e_no2 hs
  have e3 := e_no3 hs
  have h1 : (1 : Int) ≤ (s.size : Int) := by omega
  have h2 : (0 : Int) < (s.size : Int) := by omega
  have h3 : 1 ≤ s.size := hs
  have z1 := sz1 hs
  have t1 : ¬ (r.size : Int) < 1 := by omega
  have t2 : (1 : Int) ≤ (r.size : Int) := by omega
  have t3 : ((r.extract 0 1).toList == (s.extract 0 1).toList) = false := by simpa using hw
  have t4 : ((r.extract 0 1).toList != (s.extract 0 1).toList) = true := by simpa using hw
  have t5 := eq_false hw
  go_enter Tryz.func111, Tryz.ntmps111
  go_wp2
  go_ret3
  exact ⟨rfl, 0, rfl⟩
set_option maxHeartbeats 1000000 in
theorem st0_ok (s r : ByteArray) (hs : 0 < s.size) (hr : 1 ≤ r.size) (hw : (r.extract 0 1).toList = (s.extract 0 1).toList) (w : World) : Calls Tryz.prog 111 #[.int .i64 0, .string s, .string r] w (StP (s.extract 1 s.size, r.extract 1 r.size, true) w) := by
  have e1 := e_no hs
  have e2 := e_no2 hs
  have e3 := e_no3 hs
  have h1 : (1 : Int) ≤ (s.size : Int) := by omega
  have h2 : (0 : Int) < (s.size : Int) := by omega
  have h3 : 1 ≤ s.size := hs
  have z1 := sz1 hs
  have t1 : ¬ (r.size : Int) < 1 := by omega
  have t2 : (1 : Int) ≤ (r.size : Int) := by omega
  have t3 : ((r.extract 0 1).toList == (s.extract 0 1).toList) = true := by simpa using hw
  have t4 : ((r.extract 0 1).toList != (s.extract 0 1).toList) = false := by simpa using hw
  have t5 := eq_true hw
  have t6 : (1 : Int) ≤ (s.size : Int) := by omega
  go_enter Tryz.func111, Tryz.ntmps111
  go_wp2
  go_quiet (fail)
  go_wp2
  go_ret3
  exact ⟨rfl, _, rfl⟩
set_option maxHeartbeats 1000000 in
theorem st1_c (s r : ByteArray) (hs : 0 < s.size) (hc : bt s 0 = 32) (w : World) : Calls Tryz.prog 111 #[.int .i64 1, .string s, .string r] w (StP noS w) := by
  have e1 := e_no hs
  have e2 := e_no2 hs
  have e3 := e_no3 hs
  have h1 : (1 : Int) ≤ (s.size : Int) := by omega
  have h2 : (0 : Int) < (s.size : Int) := by omega
  have h3 : 1 ≤ s.size := hs
  have hb : ∀ h : 0 < s.size, ((s[0]'h).toNat : Int) = bt s 0 := bt_at s 0
  have hc1 : (bt s 0 == 32) = true := by simpa using hc
  have hc2 : (bt s 0 != 32) = false := by simpa using hc
  go_enter Tryz.func111, Tryz.ntmps111
  go_wp2
  go_ret3
  exact ⟨rfl, 0, rfl⟩
set_option maxHeartbeats 1000000 in
theorem st1_ok (s r : ByteArray) (hs : 0 < s.size) (hc : ¬ bt s 0 = 32) (w : World) : Calls Tryz.prog 111 #[.int .i64 1, .string s, .string r] w (StP (s.extract 1 s.size, r, true) w) := by
  have e1 := e_no hs
  have e2 := e_no2 hs
  have e3 := e_no3 hs
  have h1 : (1 : Int) ≤ (s.size : Int) := by omega
  have h2 : (0 : Int) < (s.size : Int) := by omega
  have h3 : 1 ≤ s.size := hs
  have hb : ∀ h : 0 < s.size, ((s[0]'h).toNat : Int) = bt s 0 := bt_at s 0
  have hc1 : (bt s 0 == 32) = false := by simpa using hc
  have hc2 : (bt s 0 != 32) = true := by simpa using hc
  have t1 : ¬ (r.size : Int) < 0 := by omega
  have t2 : (0 : Int) ≤ (r.size : Int) := by omega
  have z0 : (r.extract 0 0).size = 0 := by rw [ByteArray.size_extract]; omega
  have t3 := e_yes z0
  have t4 := e_yes2 z0
  have t5 := e_yes3 z0
  go_enter Tryz.func111, Tryz.ntmps111
  go_wp2
  go_quiet (fail)
  go_wp2
  go_ret3
  exact ⟨rfl, _, rfl⟩
set_option maxHeartbeats 1000000 in
theorem st4_ok (s r : ByteArray) (hs : 0 < s.size) (hc : bt s 0 = 32) (w : World) : Calls Tryz.prog 111 #[.int .i64 4, .string s, .string r] w (StP (s.extract 1 s.size, r, true) w) := by
  have e1 := e_no hs
  have e2 := e_no2 hs
  have e3 := e_no3 hs
  have h1 : (1 : Int) ≤ (s.size : Int) := by omega
  have h2 : (0 : Int) < (s.size : Int) := by omega
  have h3 : 1 ≤ s.size := hs
  have hb : ∀ h : 0 < s.size, ((s[0]'h).toNat : Int) = bt s 0 := bt_at s 0
  have hc1 : (bt s 0 == 32) = true := by simpa using hc
  have hc2 : (bt s 0 != 32) = false := by simpa using hc
  have t1 : ¬ (r.size : Int) < 0 := by omega
  have t2 : (0 : Int) ≤ (r.size : Int) := by omega
  have z0 : (r.extract 0 0).size = 0 := by rw [ByteArray.size_extract]; omega
  have t3 := e_yes z0
  have t4 := e_yes2 z0
  have t5 := e_yes3 z0
  go_enter Tryz.func111, Tryz.ntmps111
  go_wp2
  go_quiet (fail)
  go_wp2
  go_ret3
  exact ⟨rfl, _, rfl⟩
set_option maxHeartbeats 1000000 in
theorem st4_c (s r : ByteArray) (hs : 0 < s.size) (hc : ¬ bt s 0 = 32) (w : World) : Calls Tryz.prog 111 #[.int .i64 4, .string s, .string r] w (StP noS w) := by
  have e1 := e_no hs
  have e2 := e_no2 hs
  have e3 := e_no3 hs
  have h1 : (1 : Int) ≤ (s.size : Int) := by omega
  have h2 : (0 : Int) < (s.size : Int) := by omega
  have h3 : 1 ≤ s.size := hs
  have hb : ∀ h : 0 < s.size, ((s[0]'h).toNat : Int) = bt s 0 := bt_at s 0
  have hc1 : (bt s 0 == 32) = false := by simpa using hc
  have hc2 : (bt s 0 != 32) = true := by simpa using hc
  go_enter Tryz.func111, Tryz.ntmps111
  go_wp2
  go_ret3
  exact ⟨rfl, 0, rfl⟩
set_option maxHeartbeats 1000000 in
theorem st2_c (s r : ByteArray) (hs : 0 < s.size) (hc : ¬ bt s 0 = 45) (w : World) : Calls Tryz.prog 111 #[.int .i64 2, .string s, .string r] w (StP noS w) := by
  have e1 := e_no hs
  have e2 := e_no2 hs
  have e3 := e_no3 hs
  have h1 : (1 : Int) ≤ (s.size : Int) := by omega
  have h2 : (0 : Int) < (s.size : Int) := by omega
  have h3 : 1 ≤ s.size := hs
  have hb : ∀ h : 0 < s.size, ((s[0]'h).toNat : Int) = bt s 0 := bt_at s 0
  have hc1 : (bt s 0 == 45) = false := by simpa using hc
  have hc2 : (bt s 0 != 45) = true := by simpa using hc
  go_enter Tryz.func111, Tryz.ntmps111
  go_wp2
  go_ret3
  exact ⟨rfl, 0, rfl⟩
set_option maxHeartbeats 1000000 in
theorem st2_short (s r : ByteArray) (hs : 0 < s.size) (hc : bt s 0 = 45) (hr : r.size < 2) (w : World) : Calls Tryz.prog 111 #[.int .i64 2, .string s, .string r] w (StP noS w) := by
  have e1 := e_no hs
  have e2 := e_no2 hs
  have e3 := e_no3 hs
  have h1 : (1 : Int) ≤ (s.size : Int) := by omega
  have h2 : (0 : Int) < (s.size : Int) := by omega
  have h3 : 1 ≤ s.size := hs
  have hb : ∀ h : 0 < s.size, ((s[0]'h).toNat : Int) = bt s 0 := bt_at s 0
  have hc1 : (bt s 0 == 45) = true := by simpa using hc
  have hc2 : (bt s 0 != 45) = false := by simpa using hc
  have t1 : (r.size : Int) < 2 := by omega
  go_enter Tryz.func111, Tryz.ntmps111
  go_wp2
  go_ret3
  exact ⟨rfl, 0, rfl⟩
set_option maxHeartbeats 1000000 in
theorem st2_other (s r : ByteArray) (hs : 0 < s.size) (hc : bt s 0 = 45) (hr : 2 ≤ r.size) (hw : ¬ (r.extract 0 2).toList = ([46, 46] : List UInt8)) (w : World) : Calls Tryz.prog 111 #[.int .i64 2, .string s, .string r] w (StP noS w) := by
  have e1 := e_no hs
  have e2 := e_no2 hs
  have e3 := e_no3 hs
  have h1 : (1 : Int) ≤ (s.size : Int) := by omega
  have h2 : (0 : Int) < (s.size : Int) := by omega
  have h3 : 1 ≤ s.size := hs
  have hb : ∀ h : 0 < s.size, ((s[0]'h).toNat : Int) = bt s 0 := bt_at s 0
  have hc1 : (bt s 0 == 45) = true := by simpa using hc
  have hc2 : (bt s 0 != 45) = false := by simpa using hc
  have t1 : ¬ (r.size : Int) < 2 := by omega
  have t2 : (2 : Int) ≤ (r.size : Int) := by omega
  have t3 : ((r.extract 0 2).toList == ([46, 46] : List UInt8)) = false := by simpa using hw
  have t4 : ((r.extract 0 2).toList != ([46, 46] : List UInt8)) = true := by simpa using hw
  have t5 := eq_false hw
  go_enter Tryz.func111, Tryz.ntmps111
  go_wp2
  go_ret3
  exact ⟨rfl, 0, rfl⟩
set_option maxHeartbeats 1000000 in
theorem st2_ok (s r : ByteArray) (hs : 0 < s.size) (hc : bt s 0 = 45) (hr : 2 ≤ r.size) (hw : (r.extract 0 2).toList = ([46, 46] : List UInt8)) (w : World) : Calls Tryz.prog 111 #[.int .i64 2, .string s, .string r] w (StP (s.extract 1 s.size, r.extract 2 r.size, true) w) := by
  have e1 := e_no hs
  have e2 := e_no2 hs
  have e3 := e_no3 hs
  have h1 : (1 : Int) ≤ (s.size : Int) := by omega
  have h2 : (0 : Int) < (s.size : Int) := by omega
  have h3 : 1 ≤ s.size := hs
  have hb : ∀ h : 0 < s.size, ((s[0]'h).toNat : Int) = bt s 0 := bt_at s 0
  have hc1 : (bt s 0 == 45) = true := by simpa using hc
  have hc2 : (bt s 0 != 45) = false := by simpa using hc
  have t1 : ¬ (r.size : Int) < 2 := by omega
  have t2 : (2 : Int) ≤ (r.size : Int) := by omega
  have t3 : ((r.extract 0 2).toList == ([46, 46] : List UInt8)) = true := by simpa using hw
  have t4 : ((r.extract 0 2).toList != ([46, 46] : List UInt8)) = false := by simpa using hw
  have t5 := eq_true hw
  have t6 : (1 : Int) ≤ (s.size : Int) := by omega
  go_enter Tryz.func111, Tryz.ntmps111
  go_wp2
  go_quiet (fail)
  go_wp2
  go_ret3
  exact ⟨rfl, _, rfl⟩
set_option maxHeartbeats 1000000 in
theorem st3_e (s r : ByteArray) (hs : s.size < 2) (w : World) : Calls Tryz.prog 111 #[.int .i64 3, .string s, .string r] w (StP noS w) := by
  have h1 : (s.size : Int) < 2 := by omega
  go_enter Tryz.func111, Tryz.ntmps111
  go_wp2
  go_ret3
  exact ⟨rfl, 0, rfl⟩
set_option maxHeartbeats 1000000 in
theorem st3_c (s r : ByteArray) (hs : 2 ≤ s.size) (hc : ¬ (s.extract 0 2).toList = ([46, 46] : List UInt8)) (w : World) : Calls Tryz.prog 111 #[.int .i64 3, .string s, .string r] w (StP noS w) := by
  have h1 : ¬ (s.size : Int) < 2 := by omega
  have h2 : (2 : Int) ≤ (s.size : Int) := by omega
  have c1 : ((s.extract 0 2).toList == ([46, 46] : List UInt8)) = false := by simpa using hc
  have c2 : ((s.extract 0 2).toList != ([46, 46] : List UInt8)) = true := by simpa using hc
  have c3 := eq_false hc
  go_enter Tryz.func111, Tryz.ntmps111
  go_wp2
  go_ret3
  exact ⟨rfl, 0, rfl⟩
set_option maxHeartbeats 1000000 in
theorem st3_short (s r : ByteArray) (hs : 2 ≤ s.size) (hc : (s.extract 0 2).toList = ([46, 46] : List UInt8)) (hr : r.size < 1) (w : World) : Calls Tryz.prog 111 #[.int .i64 3, .string s, .string r] w (StP noS w) := by
  have h1 : ¬ (s.size : Int) < 2 := by omega
  have h2 : (2 : Int) ≤ (s.size : Int) := by omega
  have c1 : ((s.extract 0 2).toList == ([46, 46] : List UInt8)) = true := by simpa using hc
  have c2 : ((s.extract 0 2).toList != ([46, 46] : List UInt8)) = false := by simpa using hc
  have c3 := eq_true hc
  have t1 : (r.size : Int) < 1 := by omega
  go_enter Tryz.func111, Tryz.ntmps111
  go_wp2
  go_ret3
  exact ⟨rfl, 0, rfl⟩
set_option maxHeartbeats 1000000 in
theorem st3_other (s r : ByteArray) (hs : 2 ≤ s.size) (hc : (s.extract 0 2).toList = ([46, 46] : List UInt8)) (hr : 1 ≤ r.size) (hw : ¬ (r.extract 0 1).toList = ([45] : List UInt8)) (w : World) : Calls Tryz.prog 111 #[.int .i64 3, .string s, .string r] w (StP noS w) := by
  have h1 : ¬ (s.size : Int) < 2 := by omega
  have h2 : (2 : Int) ≤ (s.size : Int) := by omega
  have c1 : ((s.extract 0 2).toList == ([46, 46] : List UInt8)) = true := by simpa using hc
  have c2 : ((s.extract 0 2).toList != ([46, 46] : List UInt8)) = false := by simpa using hc
  have c3 := eq_true hc
  have t1 : ¬ (r.size : Int) < 1 := by omega
  have t2 : (1 : Int) ≤ (r.size : Int) := by omega
  have t3 : ((r.extract 0 1).toList == ([45] : List UInt8)) = false := by simpa using hw
  have t4 : ((r.extract 0 1).toList != ([45] : List UInt8)) = true := by simpa using hw
  have t5 := eq_false hw
  go_enter Tryz.func111, Tryz.ntmps111
  go_wp2
  go_ret3
  exact ⟨rfl, 0, rfl⟩
set_option maxHeartbeats 1000000 in
theorem st3_ok (s r : ByteArray) (hs : 2 ≤ s.size) (hc : (s.extract 0 2).toList = ([46, 46] : List UInt8)) (hr : 1 ≤ r.size) (hw : (r.extract 0 1).toList = ([45] : List UInt8)) (w : World) : Calls Tryz.prog 111 #[.int .i64 3, .string s, .string r] w (StP (s.extract 2 s.size, r.extract 1 r.size, true) w) := by
  have h1 : ¬ (s.size : Int) < 2 := by omega
  have h2 : (2 : Int) ≤ (s.size : Int) := by omega
  have c1 : ((s.extract 0 2).toList == ([46, 46] : List UInt8)) = true := by simpa using hc
  have c2 : ((s.extract 0 2).toList != ([46, 46] : List UInt8)) = false := by simpa using hc
  have c3 := eq_true hc
  have t1 : ¬ (r.size : Int) < 1 := by omega
  have t2 : (1 : Int) ≤ (r.size : Int) := by omega
  have t3 : ((r.extract 0 1).toList == ([45] : List UInt8)) = true := by simpa using hw
  have t4 : ((r.extract 0 1).toList != ([45] : List UInt8)) = false := by simpa using hw
  have t5 := eq_true hw
  have t6 : (2 : Int) ≤ (s.size : Int) := by omega
  go_enter Tryz.func111, Tryz.ntmps111
  go_wp2
  go_quiet (fail)
  go_wp2
  go_ret3
  exact ⟨rfl, _, rfl⟩
set_option maxHeartbeats 1000000 in
theorem st5_short (s r : ByteArray) (hr : r.size < 1) (w : World) : Calls Tryz.prog 111 #[.int .i64 5, .string s, .string r] w (StP noS w) := by
  have t1 : (r.size : Int) < 1 := by omega
  go_enter Tryz.func111, Tryz.ntmps111
  go_wp2
  go_ret3
  exact ⟨rfl, 0, rfl⟩
set_option maxHeartbeats 1000000 in
theorem st5_other (s r : ByteArray) (hr : 1 ≤ r.size) (hw : ¬ (r.extract 0 1).toList = ([32] : List UInt8)) (w : World) : Calls Tryz.prog 111 #[.int .i64 5, .string s, .string r] w (StP noS w) := by
  have t1 : ¬ (r.size : Int) < 1 := by omega
  have t2 : (1 : Int) ≤ (r.size : Int) := by omega
  have t3 : ((r.extract 0 1).toList == ([32] : List UInt8)) = false := by simpa using hw
  have t4 : ((r.extract 0 1).toList != ([32] : List UInt8)) = true := by simpa using hw
  have t5 := eq_false hw
  go_enter Tryz.func111, Tryz.ntmps111
  go_wp2
  go_ret3
  exact ⟨rfl, 0, rfl⟩
set_option maxHeartbeats 1000000 in
theorem st5_ok (s r : ByteArray) (hr : 1 ≤ r.size) (hw : (r.extract 0 1).toList = ([32] : List UInt8)) (w : World) : Calls Tryz.prog 111 #[.int .i64 5, .string s, .string r] w (StP (s, r.extract 1 r.size, true) w) := by
  have t1 : ¬ (r.size : Int) < 1 := by omega
  have t2 : (1 : Int) ≤ (r.size : Int) := by omega
  have t3 : ((r.extract 0 1).toList == ([32] : List UInt8)) = true := by simpa using hw
  have t4 : ((r.extract 0 1).toList != ([32] : List UInt8)) = false := by simpa using hw
  have t5 := eq_true hw
  have t6 : (0 : Int) ≤ (s.size : Int) := by omega
  go_enter Tryz.func111, Tryz.ntmps111
  go_wp2
  go_quiet (fail)
  go_wp2
  go_ret3
  exact ⟨rfl, _, rfl⟩
def stepR (k : Nat) (s r : ByteArray) : ByteArray × ByteArray × Bool := if goes s r k = true then (leftS s k, leftR s r k, true) else noS
theorem ext_take (s : ByteArray) (k : Nat) : (s.extract 0 k).data.toList = s.data.toList.take k := by
  rw [ByteArray.data_extract, Array.toList_extract]
  simp
theorem take_pre (r p : ByteArray) : ((r.extract 0 p.size).toList = p.toList ∧ p.size ≤ r.size) ↔ Lib.hasPrefix r.data.toList p.data.toList = true := by
  rw [← Lib.hasPrefix_of_take, Lib.toList_data, Lib.toList_data, ext_take]
  simp only [Bool.and_eq_true, decide_eq_true_eq, beq_iff_eq]
  rw [show p.data.toList.length = p.size from Array.length_toList, show r.data.toList.length = r.size from Array.length_toList]
  exact ⟨fun h => ⟨h.2, h.1⟩, fun h => ⟨h.2, h.1⟩⟩
theorem bang (r : ByteArray) (h : ∀ x, x ∈ r.data.toList → x ≠ 33) : Lib.hasPrefix r.data.toList [33] = false := by
  unfold Lib.hasPrefix
  cases hr : r.data.toList with
  | nil => rfl
  | cons a t =>
    have : a ≠ 33 := h a (by rw [hr]; simp)
    have h2 : (33 == a) = false := by rw [beq_eq_false_iff_ne]; exact fun e => this e.symm
    simp [List.isPrefixOf, h2]
theorem ext_all (r : ByteArray) : r.extract 0 r.size = r := by
  apply ByteArray.ext
  simp
theorem step_no (k : Nat) (s r : ByteArray) (h : goes s r k = false) : stepR k s r = noS := by unfold stepR; rw [h]; rfl
theorem step_yes (k : Nat) (s r : ByteArray) (h : goes s r k = true) : stepR k s r = (leftS s k, leftR s r k, true) := by unfold stepR; rw [h]; rfl
theorem goes_ne {s r : ByteArray} (k : Nat) (hs : 0 < s.size) : goes s r k = Lib.hasPrefix r.data.toList (twK k s).2.data.toList := by
  unfold goes
  simp [hs]
theorem goes_e {s r : ByteArray} (k : Nat) (hs : s.size = 0) (h5 : k ≠ 5) : goes s r k = false := by
  unfold goes
  have : (k == 5) = false := by simp [h5]
  rw [this]
  simp [hs]
theorem pre_short {r w : ByteArray} (h : r.size < w.size) : Lib.hasPrefix r.data.toList w.data.toList = false := by
  cases hx : Lib.hasPrefix r.data.toList w.data.toList with
  | false => rfl
  | true => have := ((take_pre r w).2 hx).2; omega
theorem pre_other {r w : ByteArray} (m : Nat) (hm : w.size = m) (h : ¬ (r.extract 0 m).toList = w.toList) : Lib.hasPrefix r.data.toList w.data.toList = false := by
  subst hm
  cases hx : Lib.hasPrefix r.data.toList w.data.toList with
  | false => rfl
  | true => exact absurd ((take_pre r w).2 hx).1 h
theorem pre_ok {r w : ByteArray} (m : Nat) (hm : w.size = m) (h : (r.extract 0 m).toList = w.toList) (hr : m ≤ r.size) : Lib.hasPrefix r.data.toList w.data.toList = true := by
  subst hm
  exact (take_pre r w).1 ⟨h, hr⟩
theorem step111_any (k : Nat) (hk : k < 6) (s r : ByteArray) (hv : ∀ x, x ∈ r.data.toList → x ≠ 33) (w : World) : Calls Tryz.prog 111 #[.int .i64 (k : Int), .string s, .string r] w (StP (stepR k s r) w) := by
  have hb := bang r hv
  by_cases hs : s.size = 0
  · match k, hk with
    | 0, _ => rw [step_no 0 s r (goes_e 0 hs (by decide))]; exact st0_e s r hs w
    | 1, _ => rw [step_no 1 s r (goes_e 1 hs (by decide))]; exact st1_e s r hs w
    | 2, _ => rw [step_no 2 s r (goes_e 2 hs (by decide))]; exact st2_e s r hs w
    | 3, _ => rw [step_no 3 s r (goes_e 3 hs (by decide))]; exact st3_e s r (by omega) w
    | 4, _ => rw [step_no 4 s r (goes_e 4 hs (by decide))]; exact st4_e s r hs w
    | 5, _ =>
      have hg : goes s r 5 = Lib.hasPrefix r.data.toList (⟨#[32]⟩ : ByteArray).data.toList := by unfold goes; simp [twK]
      by_cases h1 : r.size < 1
      · rw [step_no 5 s r (hg.trans (pre_short h1))]; exact st5_short s r h1 w
      · by_cases h2 : (r.extract 0 1).toList = ([32] : List UInt8)
        · rw [step_yes 5 s r (hg.trans (pre_ok 1 rfl (h2.trans (ByteArray.toList_mk [32]).symm) (by omega))), show leftS s 5 = s from ext_all s, show leftR s r 5 = r.extract 1 r.size from rfl]; exact st5_ok s r (by omega) h2 w
        · rw [step_no 5 s r (hg.trans (pre_other 1 rfl (fun e => h2 (e.trans (ByteArray.toList_mk [32])))))]; exact st5_other s r (by omega) h2 w
  · have hp : 0 < s.size := by omega
    match k, hk with
    | 0, _ =>
      have hg := goes_ne (r := r) 0 hp
      have hz := sz1 hp
      have e0 : (twK 0 s).2 = s.extract 0 1 := rfl
      rw [e0] at hg
      by_cases h1 : r.size < 1
      · rw [step_no 0 s r (hg.trans (pre_short (by omega)))]; exact st0_short s r hp h1 w
      · by_cases h2 : (r.extract 0 1).toList = (s.extract 0 1).toList
        · rw [step_yes 0 s r (hg.trans (pre_ok 1 hz h2 (by omega)))]
          have := st0_ok s r hp (by omega) h2 w
          have e1 : leftS s 0 = s.extract 1 s.size := by show s.extract (s.extract 0 1).size s.size = _; rw [hz]
          have e2 : leftR s r 0 = r.extract 1 r.size := by show r.extract (s.extract 0 1).size r.size = _; rw [hz]
          rw [e1, e2]
          exact this
        · rw [step_no 0 s r (hg.trans (pre_other 1 hz h2))]; exact st0_other s r hp (by omega) h2 w
    | 1, _ =>
      have hg := goes_ne (r := r) 1 hp
      by_cases hc : bt s 0 = 32
      · have e0 : (twK 1 s).2 = ⟨#[33]⟩ := by simp [twK, hc]
        rw [e0] at hg
        rw [step_no 1 s r (hg.trans hb)]; exact st1_c s r hp hc w
      · have e0 : (twK 1 s).2 = ⟨#[]⟩ := by simp [twK, hc]
        have e1 : (twK 1 s).1 = s.extract 0 1 := by simp [twK, hc]
        rw [e0] at hg
        rw [step_yes 1 s r (hg.trans (by simp [Lib.hasPrefix]))]
        have f1 : leftS s 1 = s.extract 1 s.size := by unfold leftS; rw [e1, sz1 hp]
        have f2 : leftR s r 1 = r := by unfold leftR; rw [e0]; exact ext_all r
        rw [f1, f2]
        exact st1_ok s r hp hc w
    | 2, _ =>
      have hg := goes_ne (r := r) 2 hp
      by_cases hc : bt s 0 = 45
      · have e0 : (twK 2 s).2 = ⟨#[46, 46]⟩ := by simp [twK, hc]
        have e1 : (twK 2 s).1 = s.extract 0 1 := by simp [twK, hc]
        rw [e0] at hg
        by_cases h1 : r.size < 2
        · rw [step_no 2 s r (hg.trans (pre_short h1))]; exact st2_short s r hp hc h1 w
        · by_cases h2 : (r.extract 0 2).toList = ([46, 46] : List UInt8)
          · rw [step_yes 2 s r (hg.trans (pre_ok 2 rfl (h2.trans (ByteArray.toList_mk [46, 46]).symm) (by omega)))]
            have f1 : leftS s 2 = s.extract 1 s.size := by unfold leftS; rw [e1, sz1 hp]
            have f2 : leftR s r 2 = r.extract 2 r.size := by unfold leftR; rw [e0]; rfl
            rw [f1, f2]
            exact st2_ok s r hp hc (by omega) h2 w
          · rw [step_no 2 s r (hg.trans (pre_other 2 rfl (fun e => h2 (e.trans (ByteArray.toList_mk [46, 46])))))]; exact st2_other s r hp hc (by omega) h2 w
      · have e0 : (twK 2 s).2 = ⟨#[33]⟩ := by simp [twK, hc]
        rw [e0] at hg
        rw [step_no 2 s r (hg.trans hb)]; exact st2_c s r hp hc w
    | 3, _ =>
      have hg := goes_ne (r := r) 3 hp
      have q33 : ∀ h : Lib.hasPrefix s.data.toList [46, 46] = false, goes s r 3 = false := fun h => by
        have e0 : (twK 3 s).2 = ⟨#[33]⟩ := by simp [twK, h]
        rw [hg, e0]
        exact hb
      by_cases hl : s.size < 2
      · rw [step_no 3 s r (q33 (pre_short (w := ⟨#[46, 46]⟩) hl))]; exact st3_e s r hl w
      · by_cases hc : (s.extract 0 2).toList = ([46, 46] : List UInt8)
        · have hpre : Lib.hasPrefix s.data.toList [46, 46] = true := pre_ok (w := ⟨#[46, 46]⟩) 2 rfl (hc.trans (ByteArray.toList_mk [46, 46]).symm) (by omega)
          have e0 : (twK 3 s).2 = ⟨#[45]⟩ := by simp [twK, hpre]
          have e1 : (twK 3 s).1 = s.extract 0 2 := by simp [twK, hpre]
          rw [e0] at hg
          by_cases h1 : r.size < 1
          · rw [step_no 3 s r (hg.trans (pre_short h1))]; exact st3_short s r (by omega) hc h1 w
          · by_cases h2 : (r.extract 0 1).toList = ([45] : List UInt8)
            · rw [step_yes 3 s r (hg.trans (pre_ok 1 rfl (h2.trans (ByteArray.toList_mk [45]).symm) (by omega)))]
              have f1 : leftS s 3 = s.extract 2 s.size := by unfold leftS; rw [e1, sz2 (by omega)]
              have f2 : leftR s r 3 = r.extract 1 r.size := by unfold leftR; rw [e0]; rfl
              rw [f1, f2]
              exact st3_ok s r (by omega) hc (by omega) h2 w
            · rw [step_no 3 s r (hg.trans (pre_other 1 rfl (fun e => h2 (e.trans (ByteArray.toList_mk [45])))))]; exact st3_other s r (by omega) hc (by omega) h2 w
        · rw [step_no 3 s r (q33 (pre_other (w := ⟨#[46, 46]⟩) 2 rfl (fun e => hc (e.trans (ByteArray.toList_mk [46, 46])))))]; exact st3_c s r (by omega) hc w
    | 4, _ =>
      have hg := goes_ne (r := r) 4 hp
      by_cases hc : bt s 0 = 32
      · have e0 : (twK 4 s).2 = ⟨#[]⟩ := by simp [twK, hc]
        have e1 : (twK 4 s).1 = s.extract 0 1 := by simp [twK, hc]
        rw [e0] at hg
        rw [step_yes 4 s r (hg.trans (by simp [Lib.hasPrefix]))]
        have f1 : leftS s 4 = s.extract 1 s.size := by unfold leftS; rw [e1, sz1 hp]
        have f2 : leftR s r 4 = r := by unfold leftR; rw [e0]; exact ext_all r
        rw [f1, f2]
        exact st4_ok s r hp hc w
      · have e0 : (twK 4 s).2 = ⟨#[33]⟩ := by simp [twK, hc]
        rw [e0] at hg
        rw [step_no 4 s r (hg.trans hb)]; exact st4_c s r hp hc w
    | 5, _ =>
      have hg : goes s r 5 = Lib.hasPrefix r.data.toList (⟨#[32]⟩ : ByteArray).data.toList := by unfold goes; simp [twK]
      by_cases h1 : r.size < 1
      · rw [step_no 5 s r (hg.trans (pre_short h1))]; exact st5_short s r h1 w
      · by_cases h2 : (r.extract 0 1).toList = ([32] : List UInt8)
        · rw [step_yes 5 s r (hg.trans (pre_ok 1 rfl (h2.trans (ByteArray.toList_mk [32]).symm) (by omega))), show leftS s 5 = s from ext_all s, show leftR s r 5 = r.extract 1 r.size from rfl]; exact st5_ok s r (by omega) h2 w
        · rw [step_no 5 s r (hg.trans (pre_other 1 rfl (fun e => h2 (e.trans (ByteArray.toList_mk [32])))))]; exact st5_other s r (by omega) h2 w
end Go.Proofs.YthgfhgjlilmieaaGreat.G
namespace Go.Proofs.YthgfhgjlilmieaaGreat.G
open Go.RowKit Go.Shelf Go.Proofs.YthgfhgjlilmieaaGreatW.PrintWords Go.Proofs.YthgfhgjlilmieaaGreatW.PrintLast Go.Proofs.YthgfhgjlilmieaaGreatW.PrintMore
open Go.Proofs.YthgfhgjlilmieaaGreat.B
set_option linter.unusedVariables false
set_option linter.unusedSimpArgs false
theorem cost112_any (k : Nat) (w : World) : Calls Tryz.prog 112 #[.int .i64 (k : Int)] w fun e w' => e = .returned (.int .i64 (costK k)) ∧ w' = w := by
  by_cases h : k = 0
  · subst h
    have e1 : costK 0 = 0 := rfl
    rw [e1]
    go_enter Tryz.func112, Tryz.ntmps112
    go_wp2
    go_ret
    exact ⟨rfl, rfl⟩
  · have e1 : costK k = 1 := by simp [costK, h]
    rw [e1]
    have h1 : ¬ (k : Int) = 0 := by omega
    have h2 : ((k : Int) == 0) = false := by simpa using h1
    go_enter Tryz.func112, Tryz.ntmps112
    go_wp2
    go_ret
    exact ⟨rfl, rfl⟩
def sfx (s : ByteArray) (i : Nat) : ByteArray := s.extract i s.size
theorem sfx_size (s : ByteArray) (i : Nat) (h : i ≤ s.size) : (sfx s i).size = s.size - i := by
  unfold sfx
  rw [ByteArray.size_extract]
  omega
theorem sfx_sfx (s : ByteArray) (i t : Nat) (h : i + t ≤ s.size) : (sfx s i).extract t (sfx s i).size = sfx s (i + t) := by
  rw [sfx_size s i (by omega)]
  unfold sfx
  rw [ByteArray.extract_extract]
  congr 1
  omega
def tb (s r : ByteArray) (i k : Nat) : Int := min 1000 (few (sfx s i) (sfx r k))
def tv0 (s r : ByteArray) (i k : Nat) : Int := if (sfx s i).size = 0 ∧ (sfx r k).size = 0 then 0 else far
def tacc (s r : ByteArray) (i k j : Nat) : Int := min 1000 (acc (sfx s i) (sfx r k) (tv0 s r i k) (nx (sfx s i) (sfx r k) j))
theorem tacc_6 (s r : ByteArray) (i k : Nat) : tacc s r i k 6 = tb s r i k := by
  unfold tacc tb acc tv0
  rw [few_eq (sfx s i) (sfx r k)]
theorem nx_succ (s r : ByteArray) (j : Nat) (hj : j < 6) : nx s r (j + 1) = nx s r j ++ (if h : goes s r j = true then [⟨j, hj, h⟩] else []) := by
  unfold nx
  rw [List.range_succ, List.filterMap_append]
  congr 1
  by_cases h : goes s r j = true <;> simp [h, hj]
theorem tacc_skip (s r : ByteArray) (i k j : Nat) (hj : j < 6) (h : goes (sfx s i) (sfx r k) j = false) : tacc s r i k (j + 1) = tacc s r i k j := by
  unfold tacc
  rw [nx_succ _ _ _ hj]
  simp [h]
theorem tacc_step (s r : ByteArray) (i k j : Nat) (hj : j < 6) (h : goes (sfx s i) (sfx r k) j = true) :
    tacc s r i k (j + 1) = min (tacc s r i k j) (costK j + min 1000 (few (leftS (sfx s i) j) (leftR (sfx s i) (sfx r k) j))) := by
  unfold tacc
  rw [nx_succ _ _ _ hj]
  have hc : 0 ≤ costK j := by unfold costK; split <;> omega
  simp only [h, dif_pos]
  unfold acc
  rw [List.foldl_append]
  simp only [List.foldl_cons, List.foldl_nil]
  omega
theorem tacc_0 (s r : ByteArray) (i k : Nat) : tacc s r i k 0 = if (sfx s i).size = 0 ∧ (sfx r k).size = 0 then 0 else 1000 := by
  unfold tacc tv0
  have : nx (sfx s i) (sfx r k) 0 = [] := rfl
  rw [this]
  unfold acc
  simp only [List.foldl_nil]
  by_cases h : (sfx s i).size = 0 ∧ (sfx r k).size = 0
  · rw [if_pos h, if_pos h]; rfl
  · rw [if_neg h, if_neg h]; rfl
theorem tacc_bd (s r : ByteArray) (i k j : Nat) : tacc s r i k j ≤ 1000 := by unfold tacc; omega
structure TB (w0 : World) (b : Nat) (s r : ByteArray) (D : Nat → Nat → Prop) (w : World) : Prop where
  bel : Below w0.heap.size w0 w
  cur : ∃ cur : Array Value, w.heap[b]? = some (.cells cur 193 (0, 0)) ∧ cur.size = 1681 ∧ (∀ j : Nat, j < 1681 → ∃ v, cur[j]? = some (.int .i64 v)) ∧ ∀ i k : Nat, i ≤ s.size → k ≤ r.size → D i k → cur[i * 41 + k]? = some (.int .i64 (tb s r i k))
theorem TB.drewN {w0 w : World} {b : Nat} {s r : ByteArray} {D : Nat → Nat → Prop} (h : TB w0 b s r D w) (n : Nat) : TB w0 b s r D (w.drewN n) := ⟨below_next h.bel (belowN w n), h.cur⟩
theorem TB.drew {w0 w : World} {b : Nat} {s r : ByteArray} {D : Nat → Nat → Prop} (h : TB w0 b s r D w) : TB w0 b s r D w.drew := ⟨below_drew h.bel, h.cur⟩
theorem TB.imp {w0 w : World} {b : Nat} {s r : ByteArray} {D D' : Nat → Nat → Prop} (h : TB w0 b s r D w) (hd : ∀ i k, i ≤ s.size → k ≤ r.size → D' i k → D i k) : TB w0 b s r D' w := by
  obtain ⟨h1, c, h2, h3, h4, h5⟩ := h
  exact ⟨h1, c, h2, h3, h4, fun i k hi hk hD => h5 i k hi hk (hd i k hi hk hD)⟩
theorem TB.cell {w0 w : World} {b : Nat} {s r : ByteArray} {D : Nat → Nat → Prop} (h : TB w0 b s r D w) (j : Nat) (hj : j < 1681) : ∃ v, w.cell? ⟨b, j, none⟩ = some (.int .i64 v) := by
  obtain ⟨h1, c, h2, h3, h4, h5⟩ := h
  obtain ⟨v, hv⟩ := h4 j hj
  exact ⟨v, cell_of_block h2 hv⟩
theorem TB.at_ {w0 w : World} {b : Nat} {s r : ByteArray} {D : Nat → Nat → Prop} (h : TB w0 b s r D w) (i k : Nat) (hi : i ≤ s.size) (hk : k ≤ r.size) (hD : D i k) : w.cell? ⟨b, i * 41 + k, none⟩ = some (.int .i64 (tb s r i k)) := by
  obtain ⟨h1, c, h2, h3, h4, h5⟩ := h
  exact cell_of_block h2 (h5 i k hi hk hD)
theorem TB.frozen {w0 w : World} {b : Nat} {s r : ByteArray} {D : Nat → Nat → Prop} (h : TB w0 b s r D w) (j : Nat) : w.frozen? ⟨b, j, none⟩ = false := by
  obtain ⟨h1, c, h2, h3, h4, h5⟩ := h
  exact frozen_of_block h2
theorem TB.set {w0 w : World} {b : Nat} {s r : ByteArray} {D D' : Nat → Nat → Prop} (h : TB w0 b s r D w) (hb : w0.heap.size ≤ b) (i k : Nat) (v : Int) (hr : r.size ≤ 40) (hk : k ≤ r.size) (hij : i * 41 + k < 1681)
    (hd : ∀ i' k', i' ≤ s.size → k' ≤ r.size → D' i' k' → (i' = i ∧ k' = k ∧ v = tb s r i k) ∨ (D i' k' ∧ ¬ (i' = i ∧ k' = k))) : TB w0 b s r D' (w.setCell ⟨b, i * 41 + k, none⟩ (.int .i64 v)) := by
  obtain ⟨h1, c, h2, h3, h4, h5⟩ := h
  refine ⟨h1.setCell hb _, _, heap_setCell_at h2, by simpa using h3, fun j hj => ?_, fun i' k' hi' hk' hD => ?_⟩
  · rw [Array.getElem?_setIfInBounds]
    by_cases e : i * 41 + k = j
    · rw [if_pos e, if_pos (by omega)]; exact ⟨v, rfl⟩
    · rw [if_neg e]; exact h4 j hj
  · rw [Array.getElem?_setIfInBounds]
    rcases hd i' k' hi' hk' hD with ⟨rfl, rfl, rfl⟩ | ⟨hD1, hne⟩
    · rw [if_pos rfl, if_pos (by omega)]
    · rw [if_neg (by omega)]
      exact h5 i' k' hi' hk' hD1
theorem TB.cellset {w0 w : World} {b : Nat} {s r : ByteArray} {D : Nat → Nat → Prop} (h : TB w0 b s r D w) (j : Nat) (hj : j < 1681) (v : Value) : (w.setCell ⟨b, j, none⟩ v).cell? ⟨b, j, none⟩ = some v := by
  obtain ⟨h1, c, h2, h3, h4, h5⟩ := h
  exact cell_of_block (heap_setCell_at h2) (by rw [Array.getElem?_setIfInBounds, if_pos rfl, if_pos (by omega)])
theorem TB.add {w0 w : World} {b : Nat} {s r : ByteArray} {D D' : Nat → Nat → Prop} (h : TB w0 b s r D w) (i k : Nat) (hc : w.cell? ⟨b, i * 41 + k, none⟩ = some (.int .i64 (tb s r i k))) (hd : ∀ i' k', i' ≤ s.size → k' ≤ r.size → D' i' k' → (i' = i ∧ k' = k) ∨ D i' k') : TB w0 b s r D' w := by
  obtain ⟨h1, c, h2, h3, h4, h5⟩ := h
  refine ⟨h1, c, h2, h3, h4, fun i' k' hi' hk' hD => ?_⟩
  rcases hd i' k' hi' hk' hD with ⟨rfl, rfl⟩ | hD1
  · simpa [World.cell?, h2] using hc
  · exact h5 i' k' hi' hk' hD1
def D1 (m : Nat) (i k : Nat) : Prop := m ≤ i
def D2 (i m : Nat) (i' k' : Nat) : Prop := i < i' ∨ (i' = i ∧ m ≤ k')
theorem TB.start3 {w0 w : World} {b : Nat} {s r : ByteArray} (i k : Nat) (h : TB w0 b s r (D2 i (k + 1)) w) (hb : w0.heap.size ≤ b) (hs : s.size ≤ 40) (hr : r.size ≤ 40) (hi : i ≤ s.size) (hk : k ≤ r.size) (v : Int) :
    TB w0 b s r (D2 i (k + 1)) (w.setCell ⟨b, i * 41 + k, none⟩ (.int .i64 v)) ∧ (w.setCell ⟨b, i * 41 + k, none⟩ (.int .i64 v)).cell? ⟨b, i * 41 + k, none⟩ = some (.int .i64 v) :=
  ⟨h.set hb i k v hr hk (by omega) (fun i' k' _ _ hD => .inr ⟨hD, fun e => by unfold D2 at hD; omega⟩), h.cellset _ (by omega) _⟩
theorem left_sfx (s r : ByteArray) (i k j : Nat) (hi : i ≤ s.size) (hk : k ≤ r.size) (hj : j < 6) (hg : goes (sfx s i) (sfx r k) j = true) :
    ∃ i' k', i' ≤ s.size ∧ k' ≤ r.size ∧ i ≤ i' ∧ k ≤ k' ∧ (i < i' ∨ k < k') ∧ leftS (sfx s i) j = sfx s i' ∧ leftR (sfx s i) (sfx r k) j = sfx r k' := by
  have hp := prog_size (sfx s i) (sfx r k) ⟨j, hj, hg⟩
  have hz := tw_size j (sfx s i)
  have hq : (twK j (sfx s i)).2.size ≤ (sfx r k).size := prefix_size (by
    simp only [goes, Bool.and_eq_true] at hg
    exact hg.2)
  rw [sfx_size s i hi] at hz
  rw [sfx_size r k hk] at hq
  have e1 : leftS (sfx s i) j = sfx s (i + (twK j (sfx s i)).1.size) := by
    unfold leftS
    exact sfx_sfx s i _ (by omega)
  have e2 : leftR (sfx s i) (sfx r k) j = sfx r (k + (twK j (sfx s i)).2.size) := by
    unfold leftR
    exact sfx_sfx r k _ (by omega)
  refine ⟨_, _, ?_, ?_, ?_, ?_, ?_, e1, e2⟩
  · omega
  · omega
  · omega
  · omega
  · simp only [e1, e2] at hp
    rw [sfx_size s i hi, sfx_size r k hk, sfx_size _ _ (by omega), sfx_size _ _ (by omega)] at hp
    omega
end Go.Proofs.YthgfhgjlilmieaaGreat.G
namespace Go.Proofs.YthgfhgjlilmieaaGreat.G
open Go.RowKit Go.Shelf Go.Proofs.YthgfhgjlilmieaaGreatW.PrintWords Go.Proofs.YthgfhgjlilmieaaGreatW.PrintLast Go.Proofs.YthgfhgjlilmieaaGreatW.PrintMore
open Go.Proofs.YthgfhgjlilmieaaGreat.B
set_option linter.unusedVariables false
set_option linter.unusedSimpArgs false
theorem sfx_bytes (r : ByteArray) (k : Nat) (hv : ∀ x, x ∈ r.data.toList → x ≠ 33) : ∀ x, x ∈ (sfx r k).data.toList → x ≠ 33 := by
  intro x hx
  unfold sfx at hx
  rw [ByteArray.data_extract, Array.toList_extract] at hx
  exact hv x (List.mem_of_mem_drop (List.mem_of_mem_take (by simpa [List.extract_eq_take_drop] using hx)))
theorem wp_still_tail {P : Program} {id : Nat} {Q : Exit → Act → World → Prop} {a : Act} {w : World} {l : List Oper} (n : Nat) (hm : P.follows .mixedOrders = true) (hB : Region.lexTailB .any l.toArray n = true)
    (h : wpStill P l.toArray w.drew (fun a' => wpList P l.toArray Q (l.drop n) a' w.drew) (l.take n) a) : (Code.region id l.toArray true).wp P Q a w := wp_region_still_tail n hm hB h
set_option maxRecDepth 100000 in
set_option maxHeartbeats 8000000 in
theorem ends_any (s r : ByteArray) (w : World) (hs : s.size ≤ 40) (hr : r.size ≤ 40) (hv : ∀ x, x ∈ r.data.toList → x ≠ 33) :
    Calls Tryz.prog 133 #[.string s, .string r] w fun e w' => e = .returned (.pointer (some ⟨w.heap.size, 0, none⟩)) ∧ TB w w.heap.size s r (fun _ _ => True) w' := by
  have hZ : Tryz.zeroCells193 = Array.replicate 1681 (.int .i64 0) := by kernel_rfl
  have hT0 : TB w w.heap.size s r (fun _ _ => False) (w.alloc (.cells Tryz.zeroCells193 193)) := by
    refine ⟨(Below.refl _ w).alloc (Nat.le_refl _) _, Tryz.zeroCells193, alloc_new _ _, by rw [hZ]; simp, fun j hj => ⟨0, by rw [hZ, Array.getElem?_replicate, if_pos hj]⟩, fun _ _ _ _ h => h.elim⟩
  have HT0 := Aside0.mk (hT0.imp (D' := D1 (s.size + 1)) (fun i k hi hk hD => by unfold D1 at hD; omega))
  clear hZ hT0
  obtain ⟨N, hN⟩ : ∃ N, N = w.heap.size := ⟨_, rfl⟩
  go_enter Tryz.func133, Tryz.ntmps133
  go_wp2
  go_loopg [6] (s.size + 1) (fun gg v6 wr => (∃ i : Nat, i ≤ s.size ∧ i + 1 ≤ gg ∧ v6 = .int .i64 i ∧ Aside0 (TB w w.heap.size s r (D1 (i + 1)) wr)) ∨ (v6 = .int .i64 (-1) ∧ Aside0 (TB w w.heap.size s r (D1 0) wr)))
  case atStart => exact .inl ⟨s.size, by omega, by omega, rfl, HT0⟩
  case round =>
    rcases hrel with ⟨i, hi, hg, rfl, HT⟩ | ⟨rfl, HT⟩
    · have hiz : (0 : Int) ≤ (i : Int) := by omega
      have HT1 := Aside0.mk (HT.out.imp (D' := D2 i (r.size + 1)) (fun i' k' hi' hk' hD => by unfold D2 at hD; unfold D1; omega))
      clear HT
      go_wp2
      go_loopg [7] (r.size + 1) (fun gg v7 wr => (∃ k : Nat, k ≤ r.size ∧ k + 1 ≤ gg ∧ v7 = .int .i64 k ∧ Aside0 (TB w w.heap.size s r (D2 i (k + 1)) wr)) ∨ (v7 = .int .i64 (-1) ∧ Aside0 (TB w w.heap.size s r (D2 i 0) wr)))
      case atStart => exact .inl ⟨r.size, by omega, by omega, rfl, HT1⟩
      case round =>
        rcases hrel with ⟨k, hk, hg2, rfl, HT⟩ | ⟨rfl, HT⟩
        · have hkz : (0 : Int) ≤ (k : Int) := by omega
          have hi41 : (i : Int) < 41 := by omega
          have hk41 : (k : Int) < 41 := by omega
          have hi41n : i < 41 := by omega
          have hk41n : k < 41 := by omega
          obtain ⟨v0, c0⟩ := HT.out.cell (i * 41 + k) (by omega)
          have f0 := HT.out.frozen (i * 41 + k)
          by_cases q1 : i = s.size
          · have q1b : ((i : Int) == (s.size : Int)) = true := by rw [q1]; exact beq_self_eq_true _
            have Q1 := Aside0.mk q1
            by_cases q2 : k = r.size
            · have q2b : ((k : Int) == (r.size : Int)) = true := by rw [q2]; exact beq_self_eq_true _
              have Q2 := Aside0.mk q2
              have H00 : Aside0 ((if (sfx s i).size = 0 ∧ (sfx r k).size = 0 then (0 : Int) else 1000) = 0) := ⟨if_pos (by rw [sfx_size s i hi, sfx_size r k hk]; omega)⟩
              clear q1 q2
              have hst2 := HT.out.start3 i k (Nat.le_refl _) hs hr hi hk 1000
              have hst3 := hst2.1.start3 i k (Nat.le_refl _) hs hr hi hk 0
              have c00 := hst2.2
              have f00 := hst2.1.frozen (i * 41 + k)
              clear hst2
              have HST3 := Aside0.mk hst3
              clear HT hst3
              go_wp2
              go_loopg [8] 6 (fun gg v8 wq => ∃ j : Nat, j ≤ 6 ∧ 6 - j ≤ gg ∧ v8 = .int .i64 j ∧ Aside0 (TB w w.heap.size s r (D2 i (k + 1)) wq) ∧ Aside0 (wq.cell? ⟨w.heap.size, i * 41 + k, none⟩ = some (.int .i64 (tacc s r i k j))))
              case atStart => exact ⟨0, by omega, by omega, rfl, ⟨HST3.out.1⟩, ⟨by rw [HST3.out.2, tacc_0, H00.out]⟩⟩
              case round =>
                obtain ⟨j, hj, hg3, rfl, HT3, HC3⟩ := hrel
                by_cases hj6 : j < 6
                · have hj6z : (j : Int) ≤ 5 := by omega
                  have hvr := sfx_bytes r k hv
                  have hstep : ∀ n, Calls Tryz.prog 111 #[.int .i64 (j : Int), .string (s.extract i s.size), .string (r.extract k r.size)] (wr.drewN n) fun e w' => e = .returned (.tuple #[.string (stepR j (sfx s i) (sfx r k)).1, .string (stepR j (sfx s i) (sfx r k)).2.1, .bool (stepR j (sfx s i) (sfx r k)).2.2]) ∧ ∃ m, w' = wr.drewN m := fun n =>
                    (step111_any j hj6 (sfx s i) (sfx r k) hvr (wr.drewN n)).mono fun _ _ ⟨he, m, hm⟩ => ⟨he, n + m, by rw [hm, World.drewN_drewN]⟩
                  have y1 : (i : Int) ≤ (s.size : Int) := by omega
                  have y2 : (k : Int) ≤ (r.size : Int) := by omega
                  cases hgo : goes (sfx s i) (sfx r k) j with
                  | false =>
                    rw [step_no j _ _ hgo] at hstep
                    have HSP := Aside0.mk hstep
                    have HTA := Aside0.mk (tacc_skip s r i k j hj6 hgo)
                    clear hstep hvr hgo
                    go_wp2
                    go_quiet ((go_at_call 111; exact HSP.out _))
                    go_wp2
                    go_roundg (6 - (j + 1))
                    case measure => omega
                    case rel => exact ⟨j + 1, by omega, by omega, by go_num, ⟨HT3.out.drewN _⟩, ⟨by rw [HTA.out]; exact HC3.out⟩⟩
                  | true =>
                    rw [step_yes j _ _ hgo] at hstep
                    have hta := tacc_step s r i k j hj6 hgo
                    obtain ⟨i', k', b1, b2, b3, b4, b5, b6, b7⟩ := left_sfx s r i k j hi hk hj6 hgo
                    rw [b6, b7] at hstep hta
                    have za := sfx_size s i' b1
                    have zb := sfx_size r k' b2
                    have c9 := HT3.out.at_ i' k' b1 b2 (by unfold D2; omega)
                    have f3 := HT3.out.frozen (i * 41 + k)
                    have c3 := HC3.out
                    have ht1 : tb s r i' k' ≤ 1000 := by unfold tb; omega
                    have ht2 : 0 ≤ tb s r i' k' := by have := (few_bd (sfx s i') (sfx r k')).1; unfold tb; omega
                    have ht3 := tacc_bd s r i k j
                    have hc1 : 0 ≤ costK j ∧ costK j ≤ 1 := by unfold costK; split <;> omega
                    have hz1 : ((s.size : Int) - ((sfx s i').size : Int)) = (i' : Int) := by omega
                    have hz2 : ((r.size : Int) - ((sfx r k').size : Int)) = (k' : Int) := by omega
                    have HSP := Aside0.mk hstep
                    have HTA := Aside0.mk (show tacc s r i k (j + 1) = min (tacc s r i k j) (costK j + tb s r i' k') from hta)
                    have hb4 : i' < 41 := by omega
                    have hb5 : k' < 41 := by omega
                    have hb6 : (i' : Int) < 41 := by omega
                    have hb7 : (k' : Int) < 41 := by omega
                    have hb8 : (0 : Int) ≤ (i' : Int) := by omega
                    have hb9 : (0 : Int) ≤ (k' : Int) := by omega
                    have HCO := Aside0.mk (fun W => cost112_any j W)
                    have hw1 : IntKind.i64.wrap ((s.size : Int) - ((sfx s i').size : Int)) = (i' : Int) := by rw [hz1]; exact IntWalk.i64_in _ (by omega)
                    have hw2 : IntKind.i64.wrap ((r.size : Int) - ((sfx r k').size : Int)) = (k' : Int) := by rw [hz2]; exact IntWalk.i64_in _ (by omega)
                    have hw3 : IntKind.i64.wrap (costK j + tb s r i' k') = costK j + tb s r i' k' := IntWalk.i64_in _ (by omega)
                    clear hstep hvr hgo hta b6 b7 za zb ht1 ht2 ht3 hc1 hz1 hz2
                    generalize sfx s i' = a at *
                    generalize sfx r k' = b at *
                    generalize tb s r i' k' = T at *
                    generalize costK j = C at *
                    go_wp2
                    go_quiet ((go_at_call 111; exact HSP.out _))
                    go_wp2
                    refine wp_still_tail 32 (by kernel_rfl) (by kernel_rfl) ?_
                    simp only [List.take_succ_cons, List.take_zero, List.drop_succ_cons, List.drop_zero]
                    repeat still_step
                    still_call (HCO.out _)
                    repeat still_step
                    refine wpStill_nil ?_
                    have hst4 := (HT3.out.drewN nq).drew.start3 i k (Nat.le_refl _) hs hr hi hk (tacc s r i k (j + 1))
                    rw [HTA.out] at hst4
                    have HST4 := Aside0.mk hst4
                    clear hst4 hw1 hw2 hw3
                    go_wp2
                    go_roundg (6 - (j + 1))
                    case measure => omega
                    case rel => exact ⟨j + 1, by omega, by omega, by go_num, ⟨HST4.out.1⟩, ⟨by rw [HTA.out]; exact HST4.out.2⟩⟩
                · have hj7 : j = 6 := by omega
                  subst hj7
                  have hj6z : ¬ ((6 : Nat) : Int) ≤ 5 := by omega
                  have HTF := Aside0.mk (HT3.out.add (D' := D2 i k) i k (by rw [← tacc_6]; exact HC3.out) (fun i' k' _ _ hD => by unfold D2 at *; omega))
                  clear HT3 HC3
                  go_wp2
                  go_roundg k
                  case measure => omega
                  case rel =>
                    by_cases q : k = 0
                    · exact .inr ⟨by rw [q]; rfl, by rw [← q]; exact HTF⟩
                    · exact .inl ⟨k - 1, by omega, by omega, by congr 1; omega, by rw [show k - 1 + 1 = k by omega]; exact HTF⟩
            · have q2b : ((k : Int) == (r.size : Int)) = false := by rw [beq_eq_false_iff_ne]; omega
              have H00 : Aside0 ((if (sfx s i).size = 0 ∧ (sfx r k).size = 0 then (0 : Int) else 1000) = 1000) := ⟨if_neg (by rw [sfx_size s i hi, sfx_size r k hk]; omega)⟩
              clear q1
              have hst3 := HT.out.start3 i k (Nat.le_refl _) hs hr hi hk 1000
              have HST3 := Aside0.mk hst3
              clear HT hst3
              go_wp2
              go_loopg [8] 6 (fun gg v8 wq => ∃ j : Nat, j ≤ 6 ∧ 6 - j ≤ gg ∧ v8 = .int .i64 j ∧ Aside0 (TB w w.heap.size s r (D2 i (k + 1)) wq) ∧ Aside0 (wq.cell? ⟨w.heap.size, i * 41 + k, none⟩ = some (.int .i64 (tacc s r i k j))))
              case atStart => exact ⟨0, by omega, by omega, rfl, ⟨HST3.out.1⟩, ⟨by rw [HST3.out.2, tacc_0, H00.out]⟩⟩
              case round =>
                obtain ⟨j, hj, hg3, rfl, HT3, HC3⟩ := hrel
                by_cases hj6 : j < 6
                · have hj6z : (j : Int) ≤ 5 := by omega
                  have hvr := sfx_bytes r k hv
                  have hstep : ∀ n, Calls Tryz.prog 111 #[.int .i64 (j : Int), .string (s.extract i s.size), .string (r.extract k r.size)] (wr.drewN n) fun e w' => e = .returned (.tuple #[.string (stepR j (sfx s i) (sfx r k)).1, .string (stepR j (sfx s i) (sfx r k)).2.1, .bool (stepR j (sfx s i) (sfx r k)).2.2]) ∧ ∃ m, w' = wr.drewN m := fun n =>
                    (step111_any j hj6 (sfx s i) (sfx r k) hvr (wr.drewN n)).mono fun _ _ ⟨he, m, hm⟩ => ⟨he, n + m, by rw [hm, World.drewN_drewN]⟩
                  have y1 : (i : Int) ≤ (s.size : Int) := by omega
                  have y2 : (k : Int) ≤ (r.size : Int) := by omega
                  cases hgo : goes (sfx s i) (sfx r k) j with
                  | false =>
                    rw [step_no j _ _ hgo] at hstep
                    have HSP := Aside0.mk hstep
                    have HTA := Aside0.mk (tacc_skip s r i k j hj6 hgo)
                    clear hstep hvr hgo
                    go_wp2
                    go_quiet ((go_at_call 111; exact HSP.out _))
                    go_wp2
                    go_roundg (6 - (j + 1))
                    case measure => omega
                    case rel => exact ⟨j + 1, by omega, by omega, by go_num, ⟨HT3.out.drewN _⟩, ⟨by rw [HTA.out]; exact HC3.out⟩⟩
                  | true =>
                    rw [step_yes j _ _ hgo] at hstep
                    have hta := tacc_step s r i k j hj6 hgo
                    obtain ⟨i', k', b1, b2, b3, b4, b5, b6, b7⟩ := left_sfx s r i k j hi hk hj6 hgo
                    rw [b6, b7] at hstep hta
                    have za := sfx_size s i' b1
                    have zb := sfx_size r k' b2
                    have c9 := HT3.out.at_ i' k' b1 b2 (by unfold D2; omega)
                    have f3 := HT3.out.frozen (i * 41 + k)
                    have c3 := HC3.out
                    have ht1 : tb s r i' k' ≤ 1000 := by unfold tb; omega
                    have ht2 : 0 ≤ tb s r i' k' := by have := (few_bd (sfx s i') (sfx r k')).1; unfold tb; omega
                    have ht3 := tacc_bd s r i k j
                    have hc1 : 0 ≤ costK j ∧ costK j ≤ 1 := by unfold costK; split <;> omega
                    have hz1 : ((s.size : Int) - ((sfx s i').size : Int)) = (i' : Int) := by omega
                    have hz2 : ((r.size : Int) - ((sfx r k').size : Int)) = (k' : Int) := by omega
                    have HSP := Aside0.mk hstep
                    have HTA := Aside0.mk (show tacc s r i k (j + 1) = min (tacc s r i k j) (costK j + tb s r i' k') from hta)
                    have hb4 : i' < 41 := by omega
                    have hb5 : k' < 41 := by omega
                    have hb6 : (i' : Int) < 41 := by omega
                    have hb7 : (k' : Int) < 41 := by omega
                    have hb8 : (0 : Int) ≤ (i' : Int) := by omega
                    have hb9 : (0 : Int) ≤ (k' : Int) := by omega
                    have HCO := Aside0.mk (fun W => cost112_any j W)
                    have hw1 : IntKind.i64.wrap ((s.size : Int) - ((sfx s i').size : Int)) = (i' : Int) := by rw [hz1]; exact IntWalk.i64_in _ (by omega)
                    have hw2 : IntKind.i64.wrap ((r.size : Int) - ((sfx r k').size : Int)) = (k' : Int) := by rw [hz2]; exact IntWalk.i64_in _ (by omega)
                    have hw3 : IntKind.i64.wrap (costK j + tb s r i' k') = costK j + tb s r i' k' := IntWalk.i64_in _ (by omega)
                    clear hstep hvr hgo hta b6 b7 za zb ht1 ht2 ht3 hc1 hz1 hz2
                    generalize sfx s i' = a at *
                    generalize sfx r k' = b at *
                    generalize tb s r i' k' = T at *
                    generalize costK j = C at *
                    go_wp2
                    go_quiet ((go_at_call 111; exact HSP.out _))
                    go_wp2
                    refine wp_still_tail 32 (by kernel_rfl) (by kernel_rfl) ?_
                    simp only [List.take_succ_cons, List.take_zero, List.drop_succ_cons, List.drop_zero]
                    repeat still_step
                    still_call (HCO.out _)
                    repeat still_step
                    refine wpStill_nil ?_
                    have hst4 := (HT3.out.drewN nq).drew.start3 i k (Nat.le_refl _) hs hr hi hk (tacc s r i k (j + 1))
                    rw [HTA.out] at hst4
                    have HST4 := Aside0.mk hst4
                    clear hst4 hw1 hw2 hw3
                    go_wp2
                    go_roundg (6 - (j + 1))
                    case measure => omega
                    case rel => exact ⟨j + 1, by omega, by omega, by go_num, ⟨HST4.out.1⟩, ⟨by rw [HTA.out]; exact HST4.out.2⟩⟩
                · have hj7 : j = 6 := by omega
                  subst hj7
                  have hj6z : ¬ ((6 : Nat) : Int) ≤ 5 := by omega
                  have HTF := Aside0.mk (HT3.out.add (D' := D2 i k) i k (by rw [← tacc_6]; exact HC3.out) (fun i' k' _ _ hD => by unfold D2 at *; omega))
                  clear HT3 HC3
                  go_wp2
                  go_roundg k
                  case measure => omega
                  case rel =>
                    by_cases q : k = 0
                    · exact .inr ⟨by rw [q]; rfl, by rw [← q]; exact HTF⟩
                    · exact .inl ⟨k - 1, by omega, by omega, by congr 1; omega, by rw [show k - 1 + 1 = k by omega]; exact HTF⟩
          · have q1b : ((i : Int) == (s.size : Int)) = false := by rw [beq_eq_false_iff_ne]; omega
            have q1c : ¬ (i : Int) = (s.size : Int) := by omega
            have H00 : Aside0 ((if (sfx s i).size = 0 ∧ (sfx r k).size = 0 then (0 : Int) else 1000) = 1000) := ⟨if_neg (by rw [sfx_size s i hi]; omega)⟩
            have hst3 := HT.out.start3 i k (Nat.le_refl _) hs hr hi hk 1000
            have HST3 := Aside0.mk hst3
            clear HT hst3
            go_wp2
            go_loopg [8] 6 (fun gg v8 wq => ∃ j : Nat, j ≤ 6 ∧ 6 - j ≤ gg ∧ v8 = .int .i64 j ∧ Aside0 (TB w w.heap.size s r (D2 i (k + 1)) wq) ∧ Aside0 (wq.cell? ⟨w.heap.size, i * 41 + k, none⟩ = some (.int .i64 (tacc s r i k j))))
            case atStart => exact ⟨0, by omega, by omega, rfl, ⟨HST3.out.1⟩, ⟨by rw [HST3.out.2, tacc_0, H00.out]⟩⟩
            case round =>
              obtain ⟨j, hj, hg3, rfl, HT3, HC3⟩ := hrel
              by_cases hj6 : j < 6
              · have hj6z : (j : Int) ≤ 5 := by omega
                have hvr := sfx_bytes r k hv
                have hstep : ∀ n, Calls Tryz.prog 111 #[.int .i64 (j : Int), .string (s.extract i s.size), .string (r.extract k r.size)] (wr.drewN n) fun e w' => e = .returned (.tuple #[.string (stepR j (sfx s i) (sfx r k)).1, .string (stepR j (sfx s i) (sfx r k)).2.1, .bool (stepR j (sfx s i) (sfx r k)).2.2]) ∧ ∃ m, w' = wr.drewN m := fun n =>
                  (step111_any j hj6 (sfx s i) (sfx r k) hvr (wr.drewN n)).mono fun _ _ ⟨he, m, hm⟩ => ⟨he, n + m, by rw [hm, World.drewN_drewN]⟩
                have y1 : (i : Int) ≤ (s.size : Int) := by omega
                have y2 : (k : Int) ≤ (r.size : Int) := by omega
                cases hgo : goes (sfx s i) (sfx r k) j with
                | false =>
                  rw [step_no j _ _ hgo] at hstep
                  have HSP := Aside0.mk hstep
                  have HTA := Aside0.mk (tacc_skip s r i k j hj6 hgo)
                  clear hstep hvr hgo
                  go_wp2
                  go_quiet ((go_at_call 111; exact HSP.out _))
                  go_wp2
                  go_roundg (6 - (j + 1))
                  case measure => omega
                  case rel => exact ⟨j + 1, by omega, by omega, by go_num, ⟨HT3.out.drewN _⟩, ⟨by rw [HTA.out]; exact HC3.out⟩⟩
                | true =>
                  rw [step_yes j _ _ hgo] at hstep
                  have hta := tacc_step s r i k j hj6 hgo
                  obtain ⟨i', k', b1, b2, b3, b4, b5, b6, b7⟩ := left_sfx s r i k j hi hk hj6 hgo
                  rw [b6, b7] at hstep hta
                  have za := sfx_size s i' b1
                  have zb := sfx_size r k' b2
                  have c9 := HT3.out.at_ i' k' b1 b2 (by unfold D2; omega)
                  have f3 := HT3.out.frozen (i * 41 + k)
                  have c3 := HC3.out
                  have ht1 : tb s r i' k' ≤ 1000 := by unfold tb; omega
                  have ht2 : 0 ≤ tb s r i' k' := by have := (few_bd (sfx s i') (sfx r k')).1; unfold tb; omega
                  have ht3 := tacc_bd s r i k j
                  have hc1 : 0 ≤ costK j ∧ costK j ≤ 1 := by unfold costK; split <;> omega
                  have hz1 : ((s.size : Int) - ((sfx s i').size : Int)) = (i' : Int) := by omega
                  have hz2 : ((r.size : Int) - ((sfx r k').size : Int)) = (k' : Int) := by omega
                  have HSP := Aside0.mk hstep
                  have HTA := Aside0.mk (show tacc s r i k (j + 1) = min (tacc s r i k j) (costK j + tb s r i' k') from hta)
                  have hb4 : i' < 41 := by omega
                  have hb5 : k' < 41 := by omega
                  have hb6 : (i' : Int) < 41 := by omega
                  have hb7 : (k' : Int) < 41 := by omega
                  have hb8 : (0 : Int) ≤ (i' : Int) := by omega
                  have hb9 : (0 : Int) ≤ (k' : Int) := by omega
                  have HCO := Aside0.mk (fun W => cost112_any j W)
                  have hw1 : IntKind.i64.wrap ((s.size : Int) - ((sfx s i').size : Int)) = (i' : Int) := by rw [hz1]; exact IntWalk.i64_in _ (by omega)
                  have hw2 : IntKind.i64.wrap ((r.size : Int) - ((sfx r k').size : Int)) = (k' : Int) := by rw [hz2]; exact IntWalk.i64_in _ (by omega)
                  have hw3 : IntKind.i64.wrap (costK j + tb s r i' k') = costK j + tb s r i' k' := IntWalk.i64_in _ (by omega)
                  clear hstep hvr hgo hta b6 b7 za zb ht1 ht2 ht3 hc1 hz1 hz2
                  generalize sfx s i' = a at *
                  generalize sfx r k' = b at *
                  generalize tb s r i' k' = T at *
                  generalize costK j = C at *
                  go_wp2
                  go_quiet ((go_at_call 111; exact HSP.out _))
                  go_wp2
                  refine wp_still_tail 32 (by kernel_rfl) (by kernel_rfl) ?_
                  simp only [List.take_succ_cons, List.take_zero, List.drop_succ_cons, List.drop_zero]
                  repeat still_step
                  still_call (HCO.out _)
                  repeat still_step
                  refine wpStill_nil ?_
                  have hst4 := (HT3.out.drewN nq).drew.start3 i k (Nat.le_refl _) hs hr hi hk (tacc s r i k (j + 1))
                  rw [HTA.out] at hst4
                  have HST4 := Aside0.mk hst4
                  clear hst4 hw1 hw2 hw3
                  go_wp2
                  go_roundg (6 - (j + 1))
                  case measure => omega
                  case rel => exact ⟨j + 1, by omega, by omega, by go_num, ⟨HST4.out.1⟩, ⟨by rw [HTA.out]; exact HST4.out.2⟩⟩
              · have hj7 : j = 6 := by omega
                subst hj7
                have hj6z : ¬ ((6 : Nat) : Int) ≤ 5 := by omega
                have HTF := Aside0.mk (HT3.out.add (D' := D2 i k) i k (by rw [← tacc_6]; exact HC3.out) (fun i' k' _ _ hD => by unfold D2 at *; omega))
                clear HT3 HC3
                go_wp2
                go_roundg k
                case measure => omega
                case rel =>
                  by_cases q : k = 0
                  · exact .inr ⟨by rw [q]; rfl, by rw [← q]; exact HTF⟩
                  · exact .inl ⟨k - 1, by omega, by omega, by congr 1; omega, by rw [show k - 1 + 1 = k by omega]; exact HTF⟩
        · have HTn := Aside0.mk (HT.out.imp (D' := D1 i) (fun i' k' hi' hk' hD => by unfold D1 at hD; unfold D2; omega))
          clear HT
          go_wp2
          go_roundg i
          case measure => omega
          case rel =>
            by_cases q : i = 0
            · exact .inr ⟨by rw [q]; rfl, by rw [← q]; exact HTn⟩
            · exact .inl ⟨i - 1, by omega, by omega, by congr 1; omega, by rw [show i - 1 + 1 = i by omega]; exact HTn⟩
    · go_wp2
      go_ret
      exact ⟨rfl, HT.out.imp (fun i k hi hk _ => Nat.zero_le _)⟩
end Go.Proofs.YthgfhgjlilmieaaGreat.G
namespace Go.Proofs.YthgfhgjlilmieaaGreat.G
open Go.RowKit Go.Shelf Go.Proofs.YthgfhgjlilmieaaGreatW.PrintWords Go.Proofs.YthgfhgjlilmieaaGreatW.PrintLast Go.Proofs.YthgfhgjlilmieaaGreatW.PrintMore
open Go.Proofs.YthgfhgjlilmieaaGreat.B
set_option linter.unusedVariables false
set_option linter.unusedSimpArgs false
def errR (s r : ByteArray) : Int := min 1000 (few s r)
theorem errs105_any (s r : ByteArray) (w : World) (hs : s.size ≤ 40) (hr : r.size ≤ 40) (hv : ∀ x, x ∈ r.data.toList → x ≠ 33) :
    Calls Tryz.prog 105 #[.string s, .string r] w fun e w' => e = .returned (.tuple #[.int .i64 (errR s r), .bool (decide (errR s r < 1000))]) ∧ Below w.heap.size w w' := by
  have hend := ends_any s r w hs hr hv
  have e0 : tb s r 0 0 = errR s r := by
    unfold tb errR sfx
    rw [ext_all, ext_all]
  have HE := Aside0.mk hend
  have HE0 := Aside0.mk e0
  clear hend e0
  generalize errR s r = E at *
  go_enter Tryz.func105, Tryz.ntmps105
  go_wp2_with (fail)
  refine HE.out.mono ?_
  rintro e w1 ⟨rfl, hT⟩
  have c0 := hT.at_ 0 0 (Nat.zero_le _) (Nat.zero_le _) trivial
  rw [HE0.out] at c0
  rw [show 0 * 41 + 0 = 0 from rfl] at c0
  have HT := Aside0.mk hT.bel
  clear hT
  go_wp2
  go_ret2
  exact ⟨rfl, HT.out⟩
def sgB (ls : List ByteArray) (t : List Int) (i : Nat) : List UInt8 := Lib.join ((t.take i).map (fun n => (letterAt ls n).data.toList)) [32]
theorem join_snoc (a : List (List UInt8)) (x sep : List UInt8) (h : a ≠ []) : Lib.join (a ++ [x]) sep = Lib.join a sep ++ sep ++ x := by
  cases a with
  | nil => exact absurd rfl h
  | cons y t =>
    rw [List.cons_append, Lib.join_cons, Lib.join_cons]
    simp [Lib.joinTail, List.append_assoc]
theorem sgB_0 (ls : List ByteArray) (t : List Int) : sgB ls t 0 = [] := rfl
theorem sgB_1 (ls : List ByteArray) (t : List Int) (i : Nat) (hi : i < t.length) (h0 : i = 0) : sgB ls t (i + 1) = (letterAt ls t[i]).data.toList := by
  subst h0
  unfold sgB
  rw [List.take_succ_eq_append_getElem hi]
  simp [Lib.join_one]
theorem sgB_s (ls : List ByteArray) (t : List Int) (i : Nat) (hi : i < t.length) (h0 : 0 < i) : sgB ls t (i + 1) = sgB ls t i ++ [32] ++ (letterAt ls t[i]).data.toList := by
  unfold sgB
  rw [List.take_succ_eq_append_getElem hi, List.map_append, List.map_cons, List.map_nil, join_snoc]
  intro e
  have := congrArg List.length e
  rw [List.length_map, List.length_take] at this
  change min i t.length = 0 at this
  omega
theorem sgB_len (ls : List ByteArray) (t : List Int) (hl : ∀ x, x ∈ t → (letterAt ls x).size ≤ 4) : ∀ i, i ≤ t.length → (sgB ls t i).length ≤ 5 * i
  | 0, _ => by simp [sgB_0]
  | i + 1, h => by
    have ih := sgB_len ls t hl i (by omega)
    have h4 := hl t[i] (List.getElem_mem (by omega))
    have e : (letterAt ls t[i]).data.toList.length = (letterAt ls t[i]).size := Array.length_toList
    by_cases h0 : i = 0
    · rw [sgB_1 ls t i (by omega) h0, e]; omega
    · rw [sgB_s ls t i (by omega) (by omega), List.length_append, List.length_append, e]; simp; omega
theorem ba_eq {a b : ByteArray} (h : a.data.toList = b.data.toList) : a = b := by
  apply ByteArray.ext
  exact Array.toList_inj.1 h
theorem signs_l (ls : List ByteArray) (t : List Int) (hb : t.length ≤ 1000) (hin : ∀ x, x ∈ t → 0 ≤ x ∧ x < ls.length) (hl : ∀ x, x ∈ t → (letterAt ls x).size ≤ 4) : ∀ (d i k : Nat) (b : ByteArray), d = t.length - i → i ≤ t.length → d < k → b = ⟨(sgB ls t i).toArray⟩ →
    glisterref02_Signs.l0 k t b i ls = some ⟨(signsL ls t).toArray⟩ := by
  intro d
  induction d with
  | zero =>
    intro i k b hd hi hk he
    obtain ⟨k, rfl⟩ : ∃ m, k = m + 1 := ⟨k - 1, by omega⟩
    have hi2 : i = t.length := by omega
    subst hi2
    simp only [glisterref02_Signs.l0]
    rw [if_neg (by omega), he]
    unfold sgB signsL
    rw [List.take_length]
  | succ d ih =>
    intro i k b hd hi hk he
    obtain ⟨k, rfl⟩ : ∃ m, k = m + 1 := ⟨k - 1, by omega⟩
    have h1 : i < t.length := by omega
    have hm := List.getElem_mem h1
    obtain ⟨g1, g2⟩ := hin t[i] hm
    have g4 := hl t[i] hm
    have hbs : b.size ≤ 5 * i := by
      have := sgB_len ls t hl i hi
      rw [he]
      show (sgB ls t i).toArray.size ≤ 5 * i
      simpa using this
    have eL : rdOf ByteArray.empty ls t[i] = letterAt ls t[i] := rfl
    simp only [glisterref02_Signs.l0]
    rw [if_pos (by omega), rd_nat t i h1, wrap_nat i t.length h1 (by omega), eL]
    by_cases h0 : i = 0
    · rw [if_neg (by omega), if_pos (by omega), if_pos g1, if_pos g2, if_pos (by omega)]
      refine ih (i + 1) k _ (by omega) (by omega) (by omega) (ba_eq ?_)
      rw [sgB_1 ls t i h1 h0, he]
      subst h0
      rw [sgB_0]
      simp
    · have hsz : (b ++ (⟨#[32]⟩ : ByteArray)).size = b.size + 1 := by simp [ByteArray.size_append]; rfl
      rw [if_pos (by omega), if_pos (by omega), if_pos (by omega), if_pos g1, if_pos g2, if_pos (by rw [hsz]; omega)]
      refine ih (i + 1) k _ (by omega) (by omega) (by omega) (ba_eq ?_)
      rw [sgB_s ls t i h1 (by omega), he]
      simp
theorem signs81_any (ls : List ByteArray) (A : Option Addr) (c : Nat) (A1 : Option Addr) (c1 : Nat) (t : List Int) (w : World) (hls : Kd.C Kd.string w A ls.length ls) (hc : ls.length ≤ c) (ht : Kd.C (Kd.int .i64) w A1 t.length t) (hc1 : t.length ≤ c1)
    (hb : t.length ≤ 1000) (hin : ∀ x, x ∈ t → 0 ≤ x ∧ x < ls.length) (hl : ∀ x, x ∈ t → (letterAt ls x).size ≤ 4) :
    Calls Tryz.prog 81 #[.agg #[.slice A ls.length c], .slice A1 t.length c1] w fun e w' => e = .returned (.string ⟨(signsL ls t).toArray⟩) ∧ Below w.heap.size w w' :=
  glisterref02_Signs.calls (t.length + 1) A c ls A1 c1 t _ w hls hc ht hc1 (by
    unfold glisterref02_Signs.f
    exact signs_l ls t hb hin hl t.length 0 (t.length + 1) _ (by omega) (by omega) (by omega) rfl)
end Go.Proofs.YthgfhgjlilmieaaGreat.G
namespace Go.Proofs.YthgfhgjlilmieaaGreat.G
open Go.RowKit Go.Shelf Go.Proofs.YthgfhgjlilmieaaGreatW.PrintWords Go.Proofs.YthgfhgjlilmieaaGreatW.PrintLast Go.Proofs.YthgfhgjlilmieaaGreatW.PrintMore
open Go.Proofs.YthgfhgjlilmieaaGreat.B
set_option linter.unusedVariables false
set_option linter.unusedSimpArgs false
def inR (n lo hi : Int) : Bool := decide (lo ≤ n) && decide (n ≤ hi)
theorem in23_any (n lo hi : Int) (w : World) : Calls Tryz.prog 23 #[.int .i64 n, .int .i64 lo, .int .i64 hi] w fun e w' => e = .returned (.bool (inR n lo hi)) ∧ w = w' := by
  by_cases h1 : lo ≤ n
  · obtain ⟨V, hV⟩ : ∃ V, V = inR n lo hi := ⟨_, rfl⟩
    rw [← hV]
    have HV := Aside0.mk (hV.trans (show inR n lo hi = decide (n ≤ hi) by simp [inR, h1]))
    clear hV
    go_enter Tryz.func23, Tryz.ntmps23
    go_wp2
    go_ret
    exact ⟨by rw [HV.out]; rfl, rfl⟩
  · obtain ⟨V, hV⟩ : ∃ V, V = inR n lo hi := ⟨_, rfl⟩
    rw [← hV]
    have HV := Aside0.mk (hV.trans (show inR n lo hi = false by simp [inR]; omega))
    clear hV
    go_enter Tryz.func23, Tryz.ntmps23
    go_wp2
    go_ret
    exact ⟨by rw [HV.out]; rfl, rfl⟩
theorem in127_any (n lo hi : Int) (w : World) : Calls Tryz.prog 127 #[.int .i64 n, .int .i64 lo, .int .i64 hi] w fun e w' => e = .returned (.bool (inR n lo hi)) ∧ w' = w := by
  by_cases h1 : lo ≤ n
  · obtain ⟨V, hV⟩ : ∃ V, V = inR n lo hi := ⟨_, rfl⟩
    rw [← hV]
    have HV := Aside0.mk (hV.trans (show inR n lo hi = decide (n ≤ hi) by simp [inR, h1]))
    clear hV
    go_enter Tryz.func127, Tryz.ntmps127
    go_wp2
    go_ret
    exact ⟨by rw [HV.out]; rfl, rfl⟩
  · obtain ⟨V, hV⟩ : ∃ V, V = inR n lo hi := ⟨_, rfl⟩
    rw [← hV]
    have HV := Aside0.mk (hV.trans (show inR n lo hi = false by simp [inR]; omega))
    clear hV
    go_enter Tryz.func127, Tryz.ntmps127
    go_wp2
    go_ret
    exact ⟨by rw [HV.out]; rfl, rfl⟩
def okC (x : Int) : Bool := x == 46 || x == 45 || x == 32
def okD (x : Int) : Bool := x == 46 || x == 45
theorem hasC (x : Int) (h0 : 0 ≤ x) (h1 : x < 256) : hasBy ⟨#[46, 45, 32]⟩ x = okC x := by
  have h : ∀ n : Fin 256, hasBy ⟨#[46, 45, 32]⟩ ((n.1 : Nat) : Int) = okC ((n.1 : Nat) : Int) := by decide +kernel
  have := h ⟨x.toNat, by omega⟩
  rwa [show ((x.toNat : Nat) : Int) = x by omega] at this
theorem hasD (x : Int) (h0 : 0 ≤ x) (h1 : x < 256) : hasBy ⟨#[46, 45]⟩ x = okD x := by
  have h : ∀ n : Fin 256, hasBy ⟨#[46, 45]⟩ ((n.1 : Nat) : Int) = okD ((n.1 : Nat) : Int) := by decide +kernel
  have := h ⟨x.toNat, by omega⟩
  rwa [show ((x.toNat : Nat) : Int) = x by omega] at this
theorem bytes_get (s : ByteArray) (j : Nat) (h : j < s.size) : ∃ hj, (bytesOf s)[j]'hj = bt s (j : Int) ∧ 0 ≤ bt s (j : Int) ∧ bt s (j : Int) < 256 := by
  have e : bt s (j : Int) = (s[j].toNat : Int) := by have := bt_at s (j : Int); simp [bt, h]
  refine ⟨by rw [bytesOf_length]; exact h, ?_, ?_, ?_⟩
  · rw [e]; simp [bytesOf]; rfl
  · rw [e]; omega
  · rw [e]; have := UInt8.toNat_lt s[j]; omega
theorem all_bytes (s : ByteArray) (p q : Int → Bool) (hpq : ∀ x, 0 ≤ x → x < 256 → p x = q x) : (bytesOf s).all p = true ↔ ∀ j : Nat, j < s.size → q (bt s (j : Int)) = true := by
  rw [List.all_eq_true]
  constructor
  · intro h j hj
    obtain ⟨hj2, e1, e2, e3⟩ := bytes_get s j hj
    rw [← hpq _ e2 e3, ← e1]
    exact h _ (List.getElem_mem hj2)
  · intro h x hx
    obtain ⟨j, hj, rfl⟩ := List.getElem_of_mem hx
    have hj2 : j < s.size := by rwa [bytesOf_length] at hj
    obtain ⟨_, e1, e2, e3⟩ := bytes_get s j hj2
    rw [e1, hpq _ e2 e3]
    exact h j hj2
theorem sig_iff (s : ByteArray) : sigB s = true ↔ ∀ j : Nat, j < s.size → okC (bt s (j : Int)) = true := all_bytes s _ _ hasC
theorem dig_iff (s : ByteArray) : (bytesOf s).all (hasBy ⟨#[46, 45]⟩) = true ↔ ∀ j : Nat, j < s.size → okD (bt s (j : Int)) = true := all_bytes s _ _ hasD
def sfE (s : ByteArray) : Int := if lenB s = false then 3 else if sigB s = false then 4 else 0
theorem app_empty (s : ByteArray) : s ++ (⟨#[]⟩ : ByteArray) = s := by
  apply ByteArray.ext
  simp
set_option maxRecDepth 100000 in
set_option maxHeartbeats 4000000 in
theorem signsFault98_any (s : ByteArray) (w : World) : Calls Tryz.prog 98 #[.string s, .string ⟨#[]⟩] w fun e w' => e = .returned (.int .i64 (sfE s)) ∧ w' = w := by
  obtain ⟨V, hV⟩ : ∃ V, V = sfE s := ⟨_, rfl⟩
  rw [← hV]
  by_cases h40 : s.size ≤ 40
  · have HA := Aside0.mk (fun (h : ∀ j : Nat, j < s.size → okC (bt s (j : Int)) = true) => hV.trans (show sfE s = 0 by
      have h1 : lenB s = true := by simp [lenB]; omega
      simp [sfE, h1, (sig_iff s).2 h]))
    have HN := Aside0.mk (fun (j : Nat) (hj : j < s.size) (h : okC (bt s (j : Int)) = false) => hV.trans (show sfE s = 4 by
      have h1 : lenB s = true := by simp [lenB]; omega
      have h2 : sigB s = false := by
        cases hx : sigB s with
        | false => rfl
        | true => rw [(sig_iff s).1 hx j hj] at h; cases h
      simp [sfE, h1, h2]))
    clear hV
    have hz : ¬ (s.size : Int) > 40 := by omega
    have hz2 : (s.size : Int) ≤ 40 := by omega
    have happ := app_empty s
    go_enter Tryz.func98, Tryz.ntmps98
    go_wp2
    go_loopg [6] s.size (fun gg v6 wr => ∃ i : Nat, i ≤ s.size ∧ s.size - i ≤ gg ∧ v6 = .int .i64 i ∧ Aside0 (∀ j : Nat, j < i → okC (bt s (j : Int)) = true) ∧ wr = w)
    case atStart => exact ⟨0, by omega, by omega, by go_num, ⟨fun j hj => by omega⟩, rfl⟩
    case round =>
      obtain ⟨i, hi, hg, rfl, HI, rfl⟩ := hrel
      by_cases hlt : i < s.size
      · have hltz : (i : Int) < (s.size : Int) := by omega
        have hb : ∀ h : i < s.size, ((s[i]'h).toNat : Int) = bt s (i : Int) := fun h => by simp [bt, h]
        have HN2 := Aside0.mk (HN.out i hlt)
        have HS := Aside0.mk (fun (h : okC (bt s (i : Int)) = true) (j : Nat) (hj : j < i + 1) => show okC (bt s (j : Int)) = true from by
          by_cases e : j = i
          · rw [e]; exact h
          · exact HI.out j (by omega))
        generalize bt s (i : Int) = x at *
        by_cases x46 : x = 46
        · subst x46
          have HY := Aside0.mk (HS.out (by decide))
          go_wp2
          go_roundg (s.size - (i + 1))
          case measure => omega
          case rel => exact ⟨i + 1, by omega, by omega, by go_num, HY, rfl⟩
        · have a1 : (x == 46) = false := by simpa using x46
          have a2 : (x != 46) = true := by simpa using x46
          by_cases x45 : x = 45
          · subst x45
            have HY := Aside0.mk (HS.out (by decide))
            go_wp2
            go_roundg (s.size - (i + 1))
            case measure => omega
            case rel => exact ⟨i + 1, by omega, by omega, by go_num, HY, rfl⟩
          · have a3 : (x == 45) = false := by simpa using x45
            have a4 : (x != 45) = true := by simpa using x45
            by_cases x32 : x = 32
            · subst x32
              have HY := Aside0.mk (HS.out (by decide))
              go_wp2
              go_roundg (s.size - (i + 1))
              case measure => omega
              case rel => exact ⟨i + 1, by omega, by omega, by go_num, HY, rfl⟩
            · have a5 : (x == 32) = false := by simpa using x32
              have a6 : (x != 32) = true := by simpa using x32
              have HF := Aside0.mk (HN2.out (by simp [okC, x46, x45, x32]))
              go_wp2
              go_ret
              exact ⟨by rw [HF.out]; rfl, rfl⟩
      · have hi2 : i = s.size := by omega
        have HF := Aside0.mk (HA.out (by rw [← hi2]; exact HI.out))
        clear HI
        subst hi2
        have hltz : ¬ (s.size : Int) < (s.size : Int) := by omega
        go_wp2
        go_ret
        exact ⟨by rw [HF.out]; rfl, rfl⟩
  · have HV := Aside0.mk (hV.trans (show sfE s = 3 by
      have : lenB s = false := by simp [lenB]; omega
      simp [sfE, this]))
    clear hV
    have hz : (s.size : Int) > 40 := by omega
    go_enter Tryz.func98, Tryz.ntmps98
    go_wp2
    go_ret
    exact ⟨by rw [HV.out]; rfl, rfl⟩
end Go.Proofs.YthgfhgjlilmieaaGreat.G
namespace Go.Proofs.YthgfhgjlilmieaaGreat.G
open Go.RowKit Go.Shelf Go.Proofs.YthgfhgjlilmieaaGreatW.PrintWords Go.Proofs.YthgfhgjlilmieaaGreatW.PrintLast Go.Proofs.YthgfhgjlilmieaaGreatW.PrintMore
open Go.Proofs.YthgfhgjlilmieaaGreat.B
set_option linter.unusedVariables false
set_option linter.unusedSimpArgs false
def goodAt (ls : List ByteArray) (j : Nat) : Prop := letterB (ls.getD j ByteArray.empty) = true ∧ dupAt ls j = false
theorem code_good (ls : List ByteArray) (h6 : ls.length ≤ 6) (h0 : ls.length ≠ 0) (h : ∀ j : Nat, j < ls.length → goodAt ls j) : codeE ls = 0 := by
  have h1 : ls.all letterB = true := by
    rw [List.all_eq_true]
    intro x hx
    obtain ⟨j, hj, rfl⟩ := List.getElem_of_mem hx
    have := (h j hj).1
    simpa [List.getD_eq_getElem?_getD, hj] using this
  have h2 : dupTo ls ls.length = false := by
    unfold dupTo
    rw [List.any_eq_false]
    intro j hj
    rw [(h j (List.mem_range.1 hj)).2]
    simp
  unfold codeE
  rw [if_neg (by omega), if_neg h0, if_neg (by rw [h1]; simp), if_neg (by rw [h2]; simp)]
theorem code_bad (ls : List ByteArray) (h6 : ls.length ≤ 6) (j : Nat) (hj : j < ls.length) (h : ¬ goodAt ls j) : codeE ls = 1 := by
  unfold codeE
  rw [if_neg (by omega), if_neg (by omega)]
  by_cases h1 : ls.all letterB = false
  · rw [if_pos h1]
  · rw [if_neg h1]
    have h1' : ls.all letterB = true := by simpa using h1
    have hl : letterB (ls.getD j ByteArray.empty) = true := by
      rw [List.all_eq_true] at h1'
      have := h1' _ (List.getElem_mem hj)
      simpa [List.getD_eq_getElem?_getD, hj] using this
    have hd : dupAt ls j = true := by
      cases hx : dupAt ls j with
      | true => rfl
      | false => exact absurd ⟨hl, hx⟩ h
    have : dupTo ls ls.length = true := by
      unfold dupTo
      rw [List.any_eq_true]
      exact ⟨j, List.mem_range.2 hj, hd⟩
    rw [if_pos this]
theorem letter_iff (s : ByteArray) : letterB s = true ↔ inR s.size 1 4 = true ∧ ∀ j : Nat, j < s.size → okD (bt s (j : Int)) = true := by
  unfold letterB inR
  rw [← dig_iff]
  simp only [Bool.and_eq_true, decide_eq_true_eq]
  constructor
  · rintro ⟨⟨a, b⟩, c⟩; exact ⟨⟨by omega, b⟩, c⟩
  · rintro ⟨⟨a, b⟩, c⟩; exact ⟨⟨by omega, b⟩, c⟩
theorem dup_iff (ls : List ByteArray) (i : Nat) (hi : i < ls.length) : dupAt ls i = true ↔ ∃ j : Nat, ∃ hj : j < i, (ls[j]'(by omega)).toList = (ls[i]).toList := by
  unfold dupAt containsS
  rw [List.any_eq_true]
  have e : ls.getD i ByteArray.empty = ls[i] := by simp [List.getD_eq_getElem?_getD, hi]
  rw [e]
  constructor
  · rintro ⟨x, hx, h⟩
    obtain ⟨j, hj, rfl⟩ := List.getElem_of_mem hx
    rw [List.length_take] at hj
    refine ⟨j, by omega, ?_⟩
    rw [List.getElem_take] at h
    exact (by simpa using h : ls[i].toList = ls[j].toList).symm
  · rintro ⟨j, hj, h⟩
    refine ⟨ls[j], ?_, by rw [h]; simp⟩
    rw [List.mem_take_iff_getElem]
    exact ⟨j, by omega, rfl⟩
set_option maxRecDepth 100000 in
set_option maxHeartbeats 4000000 in
theorem fault96_any (A : Option Addr) (c : Nat) (ls : List ByteArray) (w : World) (hr : Kd.C Kd.string w A ls.length ls) : Calls Tryz.prog 96 #[.agg #[.slice A ls.length c]] w fun e w' => e = .returned (.int .i64 (codeE ls)) ∧ Below w.heap.size w w' := by
  have hu := Tryz.underlying24
  obtain ⟨V, hV⟩ : ∃ V, V = codeE ls := ⟨_, rfl⟩
  rw [← hV]
  have hb : Below w.heap.size w (w.alloc (.cells #[.slice A ls.length c] 24)) := (Below.refl _ w).alloc (Nat.le_refl _) _
  have HR := Aside0.mk (Kd.C_below hr hb)
  have HB := Aside0.mk hb
  clear hr hb
  by_cases h6 : ls.length ≤ 6
  · have HG := Aside0.mk (fun (h0 : ls.length ≠ 0) (h : ∀ j : Nat, j < ls.length → goodAt ls j) => hV.trans (code_good ls h6 h0 h))
    have HX := Aside0.mk (fun (j : Nat) (hj : j < ls.length) (h : ¬ goodAt ls j) => hV.trans (code_bad ls h6 j hj h))
    have HZ := Aside0.mk (fun (h : ls.length = 0) => hV.trans (show codeE ls = 1 by unfold codeE; rw [if_neg (by omega), if_pos h]))
    clear hV
    have hz : ¬ (ls.length : Int) > 6 := by omega
    go_enter Tryz.func96, Tryz.ntmps96
    go_wp2
    go_loopg [3] ls.length (fun gg v3 wr => ∃ i : Nat, i ≤ ls.length ∧ ls.length - i ≤ gg ∧ v3 = .int .i64 i ∧ Aside0 (∀ j : Nat, j < i → goodAt ls j) ∧ wr = w.alloc (.cells #[.slice A ls.length c] 24))
    case atStart => exact ⟨0, by omega, by omega, by go_num, ⟨fun j hj => by omega⟩, rfl⟩
    case round =>
      obtain ⟨i, hi, hg, rfl, HI, rfl⟩ := hrel
      by_cases hlt : i < ls.length
      · have hltz : (i : Int) < (ls.length : Int) := by omega
        obtain ⟨ax, e1, cx⟩ := Kd.at_string HR.out (i : Int) (by omega) hltz
        cases e1
        rw [Int.toNat_natCast] at cx
        have hS : rdOf ByteArray.empty ls (i : Int) = ls[i] := by simp [rdOf, List.getD_eq_getElem?_getD, hlt]
        have hS2 : ls.getD i ByteArray.empty = ls[i] := by simp [List.getD_eq_getElem?_getD, hlt]
        rw [hS] at cx
        have hgood : inR (ls[i]).size 1 4 = true → (∀ j : Nat, j < (ls[i]).size → okD (bt ls[i] (j : Int)) = true) → (∀ (j : Nat) (hj : j < i), ¬ (ls[j]'(by omega)).toList = (ls[i]).toList) → ∀ j : Nat, j < i + 1 → goodAt ls j := fun h1 h2 h3 j hj => by
          by_cases e : j = i
          · subst e
            refine ⟨by rw [hS2]; exact (letter_iff _).2 ⟨h1, h2⟩, ?_⟩
            cases hd : dupAt ls j with
            | false => rfl
            | true =>
              obtain ⟨k, hk, hx⟩ := (dup_iff ls j hlt).1 hd
              exact absurd hx (h3 k hk)
          · exact HI.out j (by omega)
        have hb1 : inR (ls[i]).size 1 4 = false → V = 1 := fun h => HX.out i hlt (fun hgd => by
          have := ((letter_iff _).1 (hS2 ▸ hgd.1)).1
          rw [h] at this
          cases this)
        have hb2 : ∀ j : Nat, j < (ls[i]).size → okD (bt ls[i] (j : Int)) = false → V = 1 := fun j hj h => HX.out i hlt (fun hgd => by
          have := ((letter_iff _).1 (hS2 ▸ hgd.1)).2 j hj
          rw [h] at this
          cases this)
        have hb3 : ∀ (j : Nat) (hj : j < i), (ls[j]'(by omega)).toList = (ls[i]).toList → V = 1 := fun j hj h => HX.out i hlt (fun hgd => by
          have := (dup_iff ls i hlt).2 ⟨j, hj, h⟩
          rw [hgd.2] at this
          cases this)
        have HGD := Aside0.mk hgood
        have HB1 := Aside0.mk hb1
        have HB2 := Aside0.mk hb2
        have HB3 := Aside0.mk hb3
        clear hgood hb1 hb2 hb3 hS hS2
        generalize ls[i] = S at *
        cases hq : inR S.size 1 4 with
        | false =>
          have HF := Aside0.mk (HB1.out hq)
          have hcall := fun W => in127_any S.size 1 4 W
          rw [hq] at hcall
          have HC := Aside0.mk hcall
          clear hcall hq
          go_wp2_with (go_at_call 127; refine (HC.out _).mono ?_; rintro e w' ⟨rfl, rfl⟩)
          go_ret
          exact ⟨by rw [HF.out]; rfl, HB.out⟩
        | true =>
          have hcall := fun W => in127_any S.size 1 4 W
          rw [hq] at hcall
          have HC := Aside0.mk hcall
          have HQ := Aside0.mk hq
          have hs4 : S.size ≤ 4 := by
            simp only [inR, Bool.and_eq_true, decide_eq_true_eq] at hq
            omega
          clear hcall hq
          go_wp2_with (go_at_call 127; refine (HC.out _).mono ?_; rintro e w' ⟨rfl, rfl⟩)
          go_loopg [5] S.size (fun gg v5 wr => ∃ k : Nat, k ≤ S.size ∧ S.size - k ≤ gg ∧ v5 = .int .i64 k ∧ Aside0 (∀ j : Nat, j < k → okD (bt S (j : Int)) = true) ∧ wr = w.alloc (.cells #[.slice (some ax) ls.length c] 24))
          case atStart => exact ⟨0, by omega, by omega, by go_num, ⟨fun j hj => by omega⟩, rfl⟩
          case round =>
            obtain ⟨k, hk, hg2, rfl, HK, rfl⟩ := hrel
            by_cases hkl : k < S.size
            · have hklz : (k : Int) < (S.size : Int) := by omega
              have hb : ∀ h : k < S.size, ((S[k]'h).toNat : Int) = bt S (k : Int) := fun h => by simp [bt, h]
              have HN2 := Aside0.mk (HB2.out k hkl)
              have HS := Aside0.mk (fun (h : okD (bt S (k : Int)) = true) (j : Nat) (hj : j < k + 1) => show okD (bt S (j : Int)) = true from by
                by_cases e : j = k
                · rw [e]; exact h
                · exact HK.out j (by omega))
              generalize bt S (k : Int) = x at *
              by_cases x46 : x = 46
              · subst x46
                have HY := Aside0.mk (HS.out (by decide))
                go_wp2
                go_roundg (S.size - (k + 1))
                case measure => omega
                case rel => exact ⟨k + 1, by omega, by omega, by go_num, HY, rfl⟩
              · have a1 : (x == 46) = false := by simpa using x46
                have a2 : (x != 46) = true := by simpa using x46
                by_cases x45 : x = 45
                · subst x45
                  have HY := Aside0.mk (HS.out (by decide))
                  go_wp2
                  go_roundg (S.size - (k + 1))
                  case measure => omega
                  case rel => exact ⟨k + 1, by omega, by omega, by go_num, HY, rfl⟩
                · have a3 : (x == 45) = false := by simpa using x45
                  have a4 : (x != 45) = true := by simpa using x45
                  have HF := Aside0.mk (HN2.out (by simp [okD, x46, x45]))
                  go_wp2
                  go_ret
                  exact ⟨by rw [HF.out]; rfl, HB.out⟩
            · have hk2 : k = S.size := by omega
              have HKA := HK
              rw [hk2] at HKA
              have hklz : ¬ (k : Int) < (S.size : Int) := by omega
              clear HK hk2
              go_wp2
              go_loopg [6] i (fun gg v6 wr => ∃ m : Nat, m ≤ i ∧ i - m ≤ gg ∧ v6 = .int .i64 m ∧ Aside0 (∀ (j : Nat) (hj : j < m) (hj2 : j < ls.length), ¬ (ls[j]'hj2).toList = S.toList) ∧ wr = w.alloc (.cells #[.slice (some ax) ls.length c] 24))
              case atStart => exact ⟨0, by omega, by omega, by go_num, ⟨fun j hj => by omega⟩, rfl⟩
              case round =>
                obtain ⟨m, hm, hg3, rfl, HM, rfl⟩ := hrel
                by_cases hml : m < i
                · have hmlz : (m : Int) < (i : Int) := by omega
                  have hmll : m < ls.length := by omega
                  have hmlz2 : (m : Int) < (ls.length : Int) := by omega
                  obtain ⟨ay, e2, cy⟩ := Kd.at_string HR.out (m : Int) (by omega) hmlz2
                  cases e2
                  rw [Int.toNat_natCast] at cy
                  have hT : rdOf ByteArray.empty ls (m : Int) = ls[m] := by simp [rdOf, List.getD_eq_getElem?_getD, hmll]
                  rw [hT] at cy
                  have HE := Aside0.mk (HB3.out m hml)
                  have HN := Aside0.mk (fun (h : ¬ (ls[m]).toList = S.toList) (j : Nat) (hj : j < m + 1) (hj2 : j < ls.length) => show ¬ (ls[j]'hj2).toList = S.toList from by
                    by_cases e : j = m
                    · subst e; exact h
                    · exact HM.out j (by omega) hj2)
                  clear hT
                  generalize ls[m] = T at *
                  by_cases hts : T.toList = S.toList
                  · have HF := Aside0.mk (HE.out hts)
                    have b1 : (T.toList == S.toList) = true := by simpa using hts
                    have b2 := eq_true hts
                    clear hts
                    go_wp2
                    go_ret
                    exact ⟨by rw [HF.out]; rfl, HB.out⟩
                  · have HF := Aside0.mk (HN.out hts)
                    have b1 : (T.toList == S.toList) = false := by simpa using hts
                    have b2 := eq_false hts
                    clear hts
                    go_wp2
                    go_roundg (i - (m + 1))
                    case measure => omega
                    case rel => exact ⟨m + 1, by omega, by omega, by go_num, HF, rfl⟩
                · have hm2 : m = i := by omega
                  have HMA := HM
                  rw [hm2] at HMA
                  have hmlz : ¬ (m : Int) < (i : Int) := by omega
                  have HF := Aside0.mk (HGD.out HQ.out HKA.out (fun j hj => HMA.out j hj (by omega)))
                  clear HM hm2
                  go_wp2
                  go_roundg (ls.length - (i + 1))
                  case measure => omega
                  case rel => exact ⟨i + 1, by omega, by omega, by go_num, HF, rfl⟩
      · have hi2 : i = ls.length := by omega
        subst hi2
        have hltz : ¬ (ls.length : Int) < (ls.length : Int) := by omega
        by_cases h0 : ls.length = 0
        · have HF := Aside0.mk (HZ.out h0)
          have h0z : ((ls.length : Int) == 0) = true := by rw [h0]; rfl
          clear h0
          go_wp2
          go_ret
          exact ⟨by rw [HF.out]; rfl, HB.out⟩
        · have HF := Aside0.mk (HG.out h0 HI.out)
          have h0z : ((ls.length : Int) == 0) = false := by rw [beq_eq_false_iff_ne]; omega
          have h0y : ¬ (ls.length : Int) = 0 := by omega
          clear h0
          go_wp2
          go_ret
          exact ⟨by rw [HF.out]; rfl, HB.out⟩
  · have HV := Aside0.mk (hV.trans (show codeE ls = 3 by unfold codeE; rw [if_pos (by omega)]))
    clear hV
    have hz : (ls.length : Int) > 6 := by omega
    go_enter Tryz.func96, Tryz.ntmps96
    go_wp2
    go_ret
    exact ⟨by rw [HV.out]; rfl, HB.out⟩
end Go.Proofs.YthgfhgjlilmieaaGreat.G
namespace Go.Proofs.YthgfhgjlilmieaaGreat.G
open Go.RowKit Go.Shelf Go.Proofs.YthgfhgjlilmieaaGreatW.PrintWords Go.Proofs.YthgfhgjlilmieaaGreatW.PrintLast Go.Proofs.YthgfhgjlilmieaaGreatW.PrintMore
open Go.Proofs.YthgfhgjlilmieaaGreat.B
set_option linter.unusedVariables false
set_option linter.unusedSimpArgs false
def sgS (l : Lg) (t : List Int) : ByteArray := ⟨(signsL l.ls t).toArray⟩
def readsR (l : Lg) (t : List Int) (read : ByteArray) : Bool := decide (errR (sgS l t) read < 1000) && decide (errR (sgS l t) read ≤ l.errs)
structure TxtOk (l : Lg) (t : List Int) : Prop where
  len : t.length ≤ 5
  inr : ∀ x, x ∈ t → 0 ≤ x ∧ x < l.ls.length
  let_ : ∀ x, x ∈ t → (letterAt l.ls x).size ≤ 4
structure ReadOk (read : ByteArray) : Prop where
  len : read.size ≤ 40
  no33 : ∀ x, x ∈ read.data.toList → x ≠ 33
theorem sgS_size {l : Lg} {t : List Int} (h : TxtOk l t) : (sgS l t).size ≤ 40 := by
  have h1 := sgB_len l.ls t h.let_ t.length (Nat.le_refl _)
  have h2 := h.len
  have e : sgB l.ls t t.length = signsL l.ls t := by unfold sgB signsL; rw [List.take_length]
  rw [e] at h1
  show (signsL l.ls t).toArray.size ≤ 40
  simp
  omega
set_option maxRecDepth 100000 in
set_option maxHeartbeats 4000000 in
theorem reads72_any (a : LV) (l : Lg) (A : Option Addr) (c : Nat) (t : List Int) (n : Nat) (w : World) (hL : LogAt w a l) (hT : Kd.C (Kd.int .i64) w A t.length t) (hc : t.length ≤ c) (hn : n < l.rc.length) (hok : TxtOk l t) (hro : ReadOk (rd_T75 l.rc n).f2) :
    Calls Tryz.prog 72 #[logV a l, .slice A t.length c, .int .i64 n] w fun e w' => e = .returned (.bool (readsR l t (rd_T75 l.rc n).f2)) ∧ Below w.heap.size w w' := by
  have hu := Tryz.underlying29
  have hu2 := Tryz.underlying61
  have hb : Below w.heap.size w (w.alloc (.cells #[.slice a.A0 l.ls.length a.c0, .int .i64 l.errs, .slice a.A2 l.sees.length a.c2, .slice a.A3 l.jn.length a.c3, .slice a.A4 l.rc.length a.c4] 29)) := (Below.refl _ w).alloc (Nat.le_refl _) _
  have hsg : ∀ W, Below w.heap.size w W → Calls Tryz.prog 81 #[.agg #[.slice a.A0 l.ls.length a.c0], .slice A t.length c] W fun e w' => e = .returned (.string (sgS l t)) ∧ Below W.heap.size W w' := fun W hW =>
    signs81_any l.ls a.A0 a.c0 A c t W (Kd.C_below hL.h0 hW) hL.l0 (Kd.C_below hT hW) hc (by have := hok.len; omega) hok.inr hok.let_
  have her : ∀ W, Calls Tryz.prog 105 #[.string (sgS l t), .string (rd_T75 l.rc n).f2] W fun e w' => e = .returned (.tuple #[.int .i64 (errR (sgS l t) (rd_T75 l.rc n).f2), .bool (decide (errR (sgS l t) (rd_T75 l.rc n).f2 < 1000))]) ∧ Below W.heap.size W w' := fun W =>
    errs105_any _ _ W (sgS_size hok) hro.len hro.no33
  obtain ⟨ar, e0, x0, x1, x2⟩ := at_T75 hL.h4 (n : Int) (by omega) (by omega)
  have hlt := World.block_lt_of_cell? w _ x2
  have hnz : (n : Int) < (l.rc.length : Int) := by omega
  have hnz0 : (0 : Int) ≤ (n : Int) := by omega
  have HSG := Aside0.mk hsg
  have HER := Aside0.mk her
  have HB := Aside0.mk hb
  unfold readsR
  obtain ⟨A0, A2, A3, A4, c0, c2, c3, c4⟩ := a
  dsimp only [logV] at *
  cases e0
  rw [Int.toNat_natCast] at x2 hlt
  clear hL hT hok hro hsg her hb x0 x1
  generalize rd_T75 l.rc (n : Int) = r at *
  obtain ⟨r0, r1, read⟩ := r
  dsimp only at *
  generalize sgS l t = sg at *
  generalize errR sg read = E at *
  obtain ⟨V, hV⟩ : ∃ V, V = (decide (E < 1000) && decide (E ≤ l.errs)) := ⟨_, rfl⟩
  rw [← hV]
  have HV := Aside0.mk hV
  clear hV
  generalize decide (E < 1000) = q at *
  cases q with
  | true =>
    go_enter Tryz.func72, Tryz.ntmps72
    go_wp2_with (fail)
    have s0 : (w.alloc (.cells #[.slice A0 l.ls.length c0, .int .i64 l.errs, .slice A2 l.sees.length c2, .slice A3 l.jn.length c3, .slice (some ar) l.rc.length c4] 29)).cell? ⟨w.heap.size, 0, none⟩ = some (.slice A0 l.ls.length c0) := cell_new _ _ _ 0
    have s4 : (w.alloc (.cells #[.slice A0 l.ls.length c0, .int .i64 l.errs, .slice A2 l.sees.length c2, .slice A3 l.jn.length c3, .slice (some ar) l.rc.length c4] 29)).cell? ⟨w.heap.size, 4, none⟩ = some (.slice (some ar) l.rc.length c4) := cell_new _ _ _ 4
    have s1 : (w.alloc (.cells #[.slice A0 l.ls.length c0, .int .i64 l.errs, .slice A2 l.sees.length c2, .slice A3 l.jn.length c3, .slice (some ar) l.rc.length c4] 29)).cell? ⟨w.heap.size, 1, none⟩ = some (.int .i64 l.errs) := cell_new _ _ _ 1
    have s5 := pw_cell_below HB.out x2
    have s6 : w.heap.size < (w.alloc (.cells #[.slice A0 l.ls.length c0, .int .i64 l.errs, .slice A2 l.sees.length c2, .slice A3 l.jn.length c3, .slice (some ar) l.rc.length c4] 29)).heap.size := by simp
    generalize hW : w.alloc (.cells #[.slice A0 l.ls.length c0, .int .i64 l.errs, .slice A2 l.sees.length c2, .slice A3 l.jn.length c3, .slice (some ar) l.rc.length c4] 29) = W at *
    clear hW
    have hAB : Aside0 (Below w.heap.size w W.drew) := ⟨below_drew HB.out⟩
    go_region_held3 (fun w' => w'.cell? ⟨w.heap.size, 0, none⟩ = some (.slice A0 l.ls.length c0) ∧ w'.cell? ⟨w.heap.size, 4, none⟩ = some (.slice (some ar) l.rc.length c4) ∧ w'.cell? ⟨w.heap.size, 1, none⟩ = some (.int .i64 l.errs) ∧ w'.cell? ⟨(ar.add (n * 3)).block, (ar.add (n * 3)).off + 2, none⟩ = some (.string read) ∧ w.heap.size < w'.heap.size ∧ Aside0 (Below w.heap.size w w'))
      (first
        | go_keep
        | (go_split_ands
           refine ⟨?_, ?_, ?_, ?_, ?_, ?_⟩
           · (refine (HB9.out.cell (p := ⟨w.heap.size, 0, none⟩) (by assumption)).trans ?_; assumption)
           · (refine (HB9.out.cell (p := ⟨w.heap.size, 4, none⟩) (by assumption)).trans ?_; assumption)
           · (refine (HB9.out.cell (p := ⟨w.heap.size, 1, none⟩) (by assumption)).trans ?_; assumption)
           · (refine (HB9.out.cell (p := ⟨(ar.add (n * 3)).block, (ar.add (n * 3)).off + 2, none⟩) (Nat.lt_trans hlt (by assumption))).trans ?_; assumption)
           · (have := HB9.out.size; omega)
           · exact ⟨below_next (by assumption : Aside0 (Below w.heap.size w _)).out HB9.out⟩))
      ((first
        | (go_at_call 81; refine (HSG.out _ (by assumption : Aside0 (Below w.heap.size w _)).out).mono ?_; rintro e w7 ⟨rfl, hb9⟩; have HB9 := Aside0.mk hb9; clear hb9)
        | (go_at_call 105; refine (HER.out _).mono ?_; rintro e w7 ⟨rfl, hb9⟩; have HB9 := Aside0.mk hb9; clear hb9)))
    go_wp2
    go_ret
    exact ⟨by rw [HV.out]; simp, by rename_i hh; exact hh.2.2.2.2.2.out⟩
  | false =>
    go_enter Tryz.func72, Tryz.ntmps72
    go_wp2_with (fail)
    have s0 : (w.alloc (.cells #[.slice A0 l.ls.length c0, .int .i64 l.errs, .slice A2 l.sees.length c2, .slice A3 l.jn.length c3, .slice (some ar) l.rc.length c4] 29)).cell? ⟨w.heap.size, 0, none⟩ = some (.slice A0 l.ls.length c0) := cell_new _ _ _ 0
    have s4 : (w.alloc (.cells #[.slice A0 l.ls.length c0, .int .i64 l.errs, .slice A2 l.sees.length c2, .slice A3 l.jn.length c3, .slice (some ar) l.rc.length c4] 29)).cell? ⟨w.heap.size, 4, none⟩ = some (.slice (some ar) l.rc.length c4) := cell_new _ _ _ 4
    have s1 : (w.alloc (.cells #[.slice A0 l.ls.length c0, .int .i64 l.errs, .slice A2 l.sees.length c2, .slice A3 l.jn.length c3, .slice (some ar) l.rc.length c4] 29)).cell? ⟨w.heap.size, 1, none⟩ = some (.int .i64 l.errs) := cell_new _ _ _ 1
    have s5 := pw_cell_below HB.out x2
    have s6 : w.heap.size < (w.alloc (.cells #[.slice A0 l.ls.length c0, .int .i64 l.errs, .slice A2 l.sees.length c2, .slice A3 l.jn.length c3, .slice (some ar) l.rc.length c4] 29)).heap.size := by simp
    generalize hW : w.alloc (.cells #[.slice A0 l.ls.length c0, .int .i64 l.errs, .slice A2 l.sees.length c2, .slice A3 l.jn.length c3, .slice (some ar) l.rc.length c4] 29) = W at *
    clear hW
    have hAB : Aside0 (Below w.heap.size w W.drew) := ⟨below_drew HB.out⟩
    go_region_held3 (fun w' => w'.cell? ⟨w.heap.size, 0, none⟩ = some (.slice A0 l.ls.length c0) ∧ w'.cell? ⟨w.heap.size, 4, none⟩ = some (.slice (some ar) l.rc.length c4) ∧ w'.cell? ⟨w.heap.size, 1, none⟩ = some (.int .i64 l.errs) ∧ w'.cell? ⟨(ar.add (n * 3)).block, (ar.add (n * 3)).off + 2, none⟩ = some (.string read) ∧ w.heap.size < w'.heap.size ∧ Aside0 (Below w.heap.size w w'))
      (first
        | go_keep
        | (go_split_ands
           refine ⟨?_, ?_, ?_, ?_, ?_, ?_⟩
           · (refine (HB9.out.cell (p := ⟨w.heap.size, 0, none⟩) (by assumption)).trans ?_; assumption)
           · (refine (HB9.out.cell (p := ⟨w.heap.size, 4, none⟩) (by assumption)).trans ?_; assumption)
           · (refine (HB9.out.cell (p := ⟨w.heap.size, 1, none⟩) (by assumption)).trans ?_; assumption)
           · (refine (HB9.out.cell (p := ⟨(ar.add (n * 3)).block, (ar.add (n * 3)).off + 2, none⟩) (Nat.lt_trans hlt (by assumption))).trans ?_; assumption)
           · (have := HB9.out.size; omega)
           · exact ⟨below_next (by assumption : Aside0 (Below w.heap.size w _)).out HB9.out⟩))
      ((first
        | (go_at_call 81; refine (HSG.out _ (by assumption : Aside0 (Below w.heap.size w _)).out).mono ?_; rintro e w7 ⟨rfl, hb9⟩; have HB9 := Aside0.mk hb9; clear hb9)
        | (go_at_call 105; refine (HER.out _).mono ?_; rintro e w7 ⟨rfl, hb9⟩; have HB9 := Aside0.mk hb9; clear hb9)))
    go_wp2
    go_ret
    exact ⟨by rw [HV.out]; rfl, by rename_i hh; exact hh.2.2.2.2.2.out⟩
end Go.Proofs.YthgfhgjlilmieaaGreat.G
namespace Go.Proofs.YthgfhgjlilmieaaGreat.G
open Go.RowKit Go.Shelf Go.Proofs.YthgfhgjlilmieaaGreatW.PrintWords Go.Proofs.YthgfhgjlilmieaaGreatW.PrintLast Go.Proofs.YthgfhgjlilmieaaGreatW.PrintMore
open Go.Proofs.YthgfhgjlilmieaaGreat.B
set_option linter.unusedVariables false
set_option linter.unusedSimpArgs false
def hitR (l : Lg) (r : S75) (s : S76) : Bool := (r.f0 == s.f0 && r.f1 == s.f1) && readsR l s.f2 r.f2
set_option maxRecDepth 100000 in
set_option maxHeartbeats 4000000 in
theorem isOwn_any (a : LV) (l : Lg) (n m : Nat) (w : World) (hL : LogAt w a l) (hn : n < l.rc.length) (hm : m < l.jn.length) (hok : TxtOk l (rd_T76 l.jn m).f2) (hro : ReadOk (rd_T75 l.rc n).f2) :
    Calls Tryz.prog 67 #[logV a l, .int .i64 n, .int .i64 m] w fun e w' => e = .returned (.bool (hitR l (rd_T75 l.rc n) (rd_T76 l.jn m))) ∧ Below w.heap.size w w' := by
  have hu := Tryz.underlying29
  have hu2 := Tryz.underlying61
  have hu3 := Tryz.underlying69
  obtain ⟨ar, e0, x0, x1, x2⟩ := at_T75 hL.h4 (n : Int) (by omega) (by omega)
  obtain ⟨aj, A5, c5, e1, y0, y1, y2, l5, g5⟩ := at_T76 hL.h3 (m : Int) (by omega) (by omega)
  have hb : Below w.heap.size w (w.alloc (.cells #[.slice a.A0 l.ls.length a.c0, .int .i64 l.errs, .slice a.A2 l.sees.length a.c2, .slice a.A3 l.jn.length a.c3, .slice a.A4 l.rc.length a.c4] 29)) := (Below.refl _ w).alloc (Nat.le_refl _) _
  have hrd : ∀ W, Below w.heap.size w W → Calls Tryz.prog 72 #[logV a l, .slice A5 (rd_T76 l.jn m).f2.length c5, .int .i64 n] W fun e w' => e = .returned (.bool (readsR l (rd_T76 l.jn m).f2 (rd_T75 l.rc n).f2)) ∧ Below W.heap.size W w' := fun W hW =>
    reads72_any a l A5 c5 _ n W (hL.below hW) (Kd.C_below g5 hW) l5 hn hok hro
  have hlt := World.block_lt_of_cell? w _ x2
  have hltj := World.block_lt_of_cell? w _ y2
  have hnz : (n : Int) < (l.rc.length : Int) := by omega
  have hnz0 : (0 : Int) ≤ (n : Int) := by omega
  have hmz : (m : Int) < (l.jn.length : Int) := by omega
  have hmz0 : (0 : Int) ≤ (m : Int) := by omega
  have HRD := Aside0.mk hrd
  have HB := Aside0.mk hb
  unfold hitR
  obtain ⟨A0, A2, A3, A4, c0, c2, c3, c4⟩ := a
  dsimp only [logV] at *
  cases e0
  cases e1
  rw [Int.toNat_natCast] at x0 x1 x2 y0 y1 y2 hlt hltj
  clear hL hok hro hrd g5
  generalize rd_T75 l.rc (n : Int) = r at *
  generalize rd_T76 l.jn (m : Int) = s at *
  obtain ⟨r0, r1, read⟩ := r
  obtain ⟨s0, s1, t⟩ := s
  dsimp only at *
  replace x0 := pw_cell_below hb x0
  replace x1 := pw_cell_below hb x1
  replace x2 := pw_cell_below hb x2
  replace y0 := pw_cell_below hb y0
  replace y1 := pw_cell_below hb y1
  replace y2 := pw_cell_below hb y2
  have z3 : (w.alloc (.cells #[.slice A0 l.ls.length c0, .int .i64 l.errs, .slice A2 l.sees.length c2, .slice (some aj) l.jn.length c3, .slice (some ar) l.rc.length c4] 29)).cell? ⟨w.heap.size, 3, none⟩ = some (.slice (some aj) l.jn.length c3) := cell_new _ _ _ 3
  have z4 : (w.alloc (.cells #[.slice A0 l.ls.length c0, .int .i64 l.errs, .slice A2 l.sees.length c2, .slice (some aj) l.jn.length c3, .slice (some ar) l.rc.length c4] 29)).cell? ⟨w.heap.size, 4, none⟩ = some (.slice (some ar) l.rc.length c4) := cell_new _ _ _ 4
  have z0 : (w.alloc (.cells #[.slice A0 l.ls.length c0, .int .i64 l.errs, .slice A2 l.sees.length c2, .slice (some aj) l.jn.length c3, .slice (some ar) l.rc.length c4] 29)).cell? ⟨w.heap.size, 0, none⟩ = some (.slice A0 l.ls.length c0) := cell_new _ _ _ 0
  have z1 : (w.alloc (.cells #[.slice A0 l.ls.length c0, .int .i64 l.errs, .slice A2 l.sees.length c2, .slice (some aj) l.jn.length c3, .slice (some ar) l.rc.length c4] 29)).cell? ⟨w.heap.size, 1, none⟩ = some (.int .i64 l.errs) := cell_new _ _ _ 1
  have z2 : (w.alloc (.cells #[.slice A0 l.ls.length c0, .int .i64 l.errs, .slice A2 l.sees.length c2, .slice (some aj) l.jn.length c3, .slice (some ar) l.rc.length c4] 29)).cell? ⟨w.heap.size, 2, none⟩ = some (.slice A2 l.sees.length c2) := cell_new _ _ _ 2
  have HB6 : Aside0 (w.heap.size < (w.alloc (.cells #[.slice A0 l.ls.length c0, .int .i64 l.errs, .slice A2 l.sees.length c2, .slice (some aj) l.jn.length c3, .slice (some ar) l.rc.length c4] 29)).heap.size) := ⟨by simp⟩
  by_cases q0 : r0 = s0
  · by_cases q1 : r1 = s1
    · subst q0
      subst q1
      have e2 : ((r0 == r0 && r1 == r1) && readsR l t read) = readsR l t read := by simp
      obtain ⟨V, hV⟩ : ∃ V, V = ((r0 == r0 && r1 == r1) && readsR l t read) := ⟨_, rfl⟩
      rw [← hV]
      have HV := Aside0.mk (hV.trans e2)
      clear hV e2
      go_enter Tryz.func67, Tryz.ntmps67
      go_wp2_with (fail)
      generalize hW : w.alloc (.cells #[.slice A0 l.ls.length c0, .int .i64 l.errs, .slice A2 l.sees.length c2, .slice (some aj) l.jn.length c3, .slice (some ar) l.rc.length c4] 29) = W at *
      clear hW
      have hNW : w.heap.size < W.heap.size := HB6.out
      have hAW : (ar.add (n * 3)).block < W.heap.size := Nat.lt_trans hlt hNW
      have hJW : (aj.add (m * 3)).block < W.heap.size := Nat.lt_trans hltj hNW
      have x0a := fun o => pw_cell_below ((Below.refl W.heap.size W).alloc (Nat.le_refl _) o) x0
      have x0b := fun o o2 => pw_cell_below (((Below.refl W.heap.size W).alloc (Nat.le_refl _) o).alloc (by simp) o2) x0
      have x1a := fun o => pw_cell_below ((Below.refl W.heap.size W).alloc (Nat.le_refl _) o) x1
      have x1b := fun o o2 => pw_cell_below (((Below.refl W.heap.size W).alloc (Nat.le_refl _) o).alloc (by simp) o2) x1
      have x2a := fun o => pw_cell_below ((Below.refl W.heap.size W).alloc (Nat.le_refl _) o) x2
      have x2b := fun o o2 => pw_cell_below (((Below.refl W.heap.size W).alloc (Nat.le_refl _) o).alloc (by simp) o2) x2
      have y0a := fun o => pw_cell_below ((Below.refl W.heap.size W).alloc (Nat.le_refl _) o) y0
      have y0b := fun o o2 => pw_cell_below (((Below.refl W.heap.size W).alloc (Nat.le_refl _) o).alloc (by simp) o2) y0
      have y1a := fun o => pw_cell_below ((Below.refl W.heap.size W).alloc (Nat.le_refl _) o) y1
      have y1b := fun o o2 => pw_cell_below (((Below.refl W.heap.size W).alloc (Nat.le_refl _) o).alloc (by simp) o2) y1
      have y2a := fun o => pw_cell_below ((Below.refl W.heap.size W).alloc (Nat.le_refl _) o) y2
      have y2b := fun o o2 => pw_cell_below (((Below.refl W.heap.size W).alloc (Nat.le_refl _) o).alloc (by simp) o2) y2
      have z3a := fun o => pw_cell_below ((Below.refl W.heap.size W).alloc (Nat.le_refl _) o) z3
      have z3b := fun o o2 => pw_cell_below (((Below.refl W.heap.size W).alloc (Nat.le_refl _) o).alloc (by simp) o2) z3
      have z4a := fun o => pw_cell_below ((Below.refl W.heap.size W).alloc (Nat.le_refl _) o) z4
      have z4b := fun o o2 => pw_cell_below (((Below.refl W.heap.size W).alloc (Nat.le_refl _) o).alloc (by simp) o2) z4
      have z0a := fun o => pw_cell_below ((Below.refl W.heap.size W).alloc (Nat.le_refl _) o) z0
      have z0b := fun o o2 => pw_cell_below (((Below.refl W.heap.size W).alloc (Nat.le_refl _) o).alloc (by simp) o2) z0
      have z1a := fun o => pw_cell_below ((Below.refl W.heap.size W).alloc (Nat.le_refl _) o) z1
      have z1b := fun o o2 => pw_cell_below (((Below.refl W.heap.size W).alloc (Nat.le_refl _) o).alloc (by simp) o2) z1
      have z2a := fun o => pw_cell_below ((Below.refl W.heap.size W).alloc (Nat.le_refl _) o) z2
      have z2b := fun o o2 => pw_cell_below (((Below.refl W.heap.size W).alloc (Nat.le_refl _) o).alloc (by simp) o2) z2
      have hbo : ∀ o o2, Below w.heap.size w (((W.alloc o).alloc o2).drew) := fun o o2 => below_drew ((HB.out.alloc (by omega) o).alloc (by simp; omega) o2)
      have HBO := Aside0.mk hbo
      clear hbo
      go_region
      all_goals
        go_wp2_with (fail)
        refine (HRD.out _ (HBO.out _ _)).mono ?_
        rintro e w9 ⟨rfl, hb9⟩
        have HB9 := Aside0.mk hb9
        clear hb9
        go_wp2_with (fail)
        go_ret
        exact ⟨by rw [HV.out]; rfl, below_next (HBO.out _ _) HB9.out⟩
    · have e2 : ((r0 == s0 && r1 == s1) && readsR l t read) = false := by simp [q1]
      have q1b : (r1 == s1) = false := by simpa using q1
      subst q0
      obtain ⟨V, hV⟩ : ∃ V, V = ((r0 == r0 && r1 == s1) && readsR l t read) := ⟨_, rfl⟩
      rw [← hV]
      have HV := Aside0.mk (hV.trans e2)
      clear hV e2
      go_enter Tryz.func67, Tryz.ntmps67
      go_wp2_with (fail)
      generalize hW : w.alloc (.cells #[.slice A0 l.ls.length c0, .int .i64 l.errs, .slice A2 l.sees.length c2, .slice (some aj) l.jn.length c3, .slice (some ar) l.rc.length c4] 29) = W at *
      clear hW
      have hNW : w.heap.size < W.heap.size := HB6.out
      have hAW : (ar.add (n * 3)).block < W.heap.size := Nat.lt_trans hlt hNW
      have hJW : (aj.add (m * 3)).block < W.heap.size := Nat.lt_trans hltj hNW
      have x0a := fun o => pw_cell_below ((Below.refl W.heap.size W).alloc (Nat.le_refl _) o) x0
      have x0b := fun o o2 => pw_cell_below (((Below.refl W.heap.size W).alloc (Nat.le_refl _) o).alloc (by simp) o2) x0
      have x1a := fun o => pw_cell_below ((Below.refl W.heap.size W).alloc (Nat.le_refl _) o) x1
      have x1b := fun o o2 => pw_cell_below (((Below.refl W.heap.size W).alloc (Nat.le_refl _) o).alloc (by simp) o2) x1
      have x2a := fun o => pw_cell_below ((Below.refl W.heap.size W).alloc (Nat.le_refl _) o) x2
      have x2b := fun o o2 => pw_cell_below (((Below.refl W.heap.size W).alloc (Nat.le_refl _) o).alloc (by simp) o2) x2
      have y0a := fun o => pw_cell_below ((Below.refl W.heap.size W).alloc (Nat.le_refl _) o) y0
      have y0b := fun o o2 => pw_cell_below (((Below.refl W.heap.size W).alloc (Nat.le_refl _) o).alloc (by simp) o2) y0
      have y1a := fun o => pw_cell_below ((Below.refl W.heap.size W).alloc (Nat.le_refl _) o) y1
      have y1b := fun o o2 => pw_cell_below (((Below.refl W.heap.size W).alloc (Nat.le_refl _) o).alloc (by simp) o2) y1
      have y2a := fun o => pw_cell_below ((Below.refl W.heap.size W).alloc (Nat.le_refl _) o) y2
      have y2b := fun o o2 => pw_cell_below (((Below.refl W.heap.size W).alloc (Nat.le_refl _) o).alloc (by simp) o2) y2
      have z3a := fun o => pw_cell_below ((Below.refl W.heap.size W).alloc (Nat.le_refl _) o) z3
      have z3b := fun o o2 => pw_cell_below (((Below.refl W.heap.size W).alloc (Nat.le_refl _) o).alloc (by simp) o2) z3
      have z4a := fun o => pw_cell_below ((Below.refl W.heap.size W).alloc (Nat.le_refl _) o) z4
      have z4b := fun o o2 => pw_cell_below (((Below.refl W.heap.size W).alloc (Nat.le_refl _) o).alloc (by simp) o2) z4
      have z0a := fun o => pw_cell_below ((Below.refl W.heap.size W).alloc (Nat.le_refl _) o) z0
      have z0b := fun o o2 => pw_cell_below (((Below.refl W.heap.size W).alloc (Nat.le_refl _) o).alloc (by simp) o2) z0
      have z1a := fun o => pw_cell_below ((Below.refl W.heap.size W).alloc (Nat.le_refl _) o) z1
      have z1b := fun o o2 => pw_cell_below (((Below.refl W.heap.size W).alloc (Nat.le_refl _) o).alloc (by simp) o2) z1
      have z2a := fun o => pw_cell_below ((Below.refl W.heap.size W).alloc (Nat.le_refl _) o) z2
      have z2b := fun o o2 => pw_cell_below (((Below.refl W.heap.size W).alloc (Nat.le_refl _) o).alloc (by simp) o2) z2
      have hbo : ∀ o o2, Below w.heap.size w (((W.alloc o).alloc o2).drew) := fun o o2 => below_drew ((HB.out.alloc (by omega) o).alloc (by simp; omega) o2)
      have HBO := Aside0.mk hbo
      clear hbo
      go_region
      all_goals
        go_wp2_with (fail)
        go_ret
        exact ⟨by rw [HV.out]; rfl, HBO.out _ _⟩
  · have e2 : ((r0 == s0 && r1 == s1) && readsR l t read) = false := by simp [q0]
    have q0b : (r0 == s0) = false := by simpa using q0
    obtain ⟨V, hV⟩ : ∃ V, V = ((r0 == s0 && r1 == s1) && readsR l t read) := ⟨_, rfl⟩
    rw [← hV]
    have HV := Aside0.mk (hV.trans e2)
    clear hV e2
    go_enter Tryz.func67, Tryz.ntmps67
    go_wp2_with (fail)
    generalize hW : w.alloc (.cells #[.slice A0 l.ls.length c0, .int .i64 l.errs, .slice A2 l.sees.length c2, .slice (some aj) l.jn.length c3, .slice (some ar) l.rc.length c4] 29) = W at *
    clear hW
    have hNW : w.heap.size < W.heap.size := HB6.out
    have hAW : (ar.add (n * 3)).block < W.heap.size := Nat.lt_trans hlt hNW
    have hJW : (aj.add (m * 3)).block < W.heap.size := Nat.lt_trans hltj hNW
    have x0a := fun o => pw_cell_below ((Below.refl W.heap.size W).alloc (Nat.le_refl _) o) x0
    have x0b := fun o o2 => pw_cell_below (((Below.refl W.heap.size W).alloc (Nat.le_refl _) o).alloc (by simp) o2) x0
    have x1a := fun o => pw_cell_below ((Below.refl W.heap.size W).alloc (Nat.le_refl _) o) x1
    have x1b := fun o o2 => pw_cell_below (((Below.refl W.heap.size W).alloc (Nat.le_refl _) o).alloc (by simp) o2) x1
    have x2a := fun o => pw_cell_below ((Below.refl W.heap.size W).alloc (Nat.le_refl _) o) x2
    have x2b := fun o o2 => pw_cell_below (((Below.refl W.heap.size W).alloc (Nat.le_refl _) o).alloc (by simp) o2) x2
    have y0a := fun o => pw_cell_below ((Below.refl W.heap.size W).alloc (Nat.le_refl _) o) y0
    have y0b := fun o o2 => pw_cell_below (((Below.refl W.heap.size W).alloc (Nat.le_refl _) o).alloc (by simp) o2) y0
    have y1a := fun o => pw_cell_below ((Below.refl W.heap.size W).alloc (Nat.le_refl _) o) y1
    have y1b := fun o o2 => pw_cell_below (((Below.refl W.heap.size W).alloc (Nat.le_refl _) o).alloc (by simp) o2) y1
    have y2a := fun o => pw_cell_below ((Below.refl W.heap.size W).alloc (Nat.le_refl _) o) y2
    have y2b := fun o o2 => pw_cell_below (((Below.refl W.heap.size W).alloc (Nat.le_refl _) o).alloc (by simp) o2) y2
    have z3a := fun o => pw_cell_below ((Below.refl W.heap.size W).alloc (Nat.le_refl _) o) z3
    have z3b := fun o o2 => pw_cell_below (((Below.refl W.heap.size W).alloc (Nat.le_refl _) o).alloc (by simp) o2) z3
    have z4a := fun o => pw_cell_below ((Below.refl W.heap.size W).alloc (Nat.le_refl _) o) z4
    have z4b := fun o o2 => pw_cell_below (((Below.refl W.heap.size W).alloc (Nat.le_refl _) o).alloc (by simp) o2) z4
    have z0a := fun o => pw_cell_below ((Below.refl W.heap.size W).alloc (Nat.le_refl _) o) z0
    have z0b := fun o o2 => pw_cell_below (((Below.refl W.heap.size W).alloc (Nat.le_refl _) o).alloc (by simp) o2) z0
    have z1a := fun o => pw_cell_below ((Below.refl W.heap.size W).alloc (Nat.le_refl _) o) z1
    have z1b := fun o o2 => pw_cell_below (((Below.refl W.heap.size W).alloc (Nat.le_refl _) o).alloc (by simp) o2) z1
    have z2a := fun o => pw_cell_below ((Below.refl W.heap.size W).alloc (Nat.le_refl _) o) z2
    have z2b := fun o o2 => pw_cell_below (((Below.refl W.heap.size W).alloc (Nat.le_refl _) o).alloc (by simp) o2) z2
    have hbo : ∀ o o2, Below w.heap.size w (((W.alloc o).alloc o2).drew) := fun o o2 => below_drew ((HB.out.alloc (by omega) o).alloc (by simp; omega) o2)
    have HBO := Aside0.mk hbo
    clear hbo
    go_region
    all_goals
      go_wp2_with (fail)
      go_ret
      exact ⟨by rw [HV.out]; rfl, HBO.out _ _⟩
end Go.Proofs.YthgfhgjlilmieaaGreat.G
namespace Go.Proofs.YthgfhgjlilmieaaGreat.G
open Go.RowKit Go.Shelf Go.Proofs.YthgfhgjlilmieaaGreatW.PrintWords Go.Proofs.YthgfhgjlilmieaaGreatW.PrintLast Go.Proofs.YthgfhgjlilmieaaGreatW.PrintMore
open Go.Proofs.YthgfhgjlilmieaaGreat.B
set_option linter.unusedVariables false
set_option linter.unusedSimpArgs false
abbrev logD (a : LV) (l : Lg) : Obj := .cells #[.slice a.A0 l.ls.length a.c0, .int .i64 l.errs, .slice a.A2 l.sees.length a.c2, .slice a.A3 l.jn.length a.c3, .slice a.A4 l.rc.length a.c4] 29
def ownK (l : Lg) (r : S75) (k : Nat) : List Int := ((List.range k).filter fun (i : Nat) => hitR l r (rd_T76 l.jn i)).map fun (i : Nat) => (i : Int)
theorem ownK_hit {l : Lg} {r : S75} {k : Nat} (h : hitR l r (rd_T76 l.jn k) = true) : ownK l r (k + 1) = ownK l r k ++ [(k : Int)] := by
  simp [ownK, List.range_succ, h]
theorem ownK_miss {l : Lg} {r : S75} {k : Nat} (h : hitR l r (rd_T76 l.jn k) = false) : ownK l r (k + 1) = ownK l r k := by
  simp [ownK, List.range_succ, h]
theorem ownK_len (l : Lg) (r : S75) (k : Nat) : (ownK l r k).length ≤ k := by
  simp only [ownK, List.length_map]
  exact Nat.le_trans (List.length_filter_le _ _) (by simp)
set_option maxRecDepth 100000 in
set_option maxHeartbeats 4000000 in
theorem own25_any (a : LV) (l : Lg) (n : Nat) (w : World) (hL : LogAt w a l) (hn : n < l.rc.length) (hj : l.jn.length ≤ 8) (hok : ∀ m : Nat, m < l.jn.length → TxtOk l (rd_T76 l.jn m).f2) (hro : ReadOk (rd_T75 l.rc n).f2) :
    Calls Tryz.prog 25 #[logV a l, .int .i64 n] w fun e w' => ∃ v, e = .returned v ∧ Kd.R (Kd.int .i64) 3 w' w.heap.size (fun _ => True) v (ownK l (rd_T75 l.rc n) l.jn.length) ∧ Below w.heap.size w w' := by
  have hu := Tryz.underlying29
  have hb : Below w.heap.size w (w.alloc (logD a l)) := (Below.refl _ w).alloc (Nat.le_refl _) _
  have hio : ∀ (m : Nat) W, m < l.jn.length → Below w.heap.size w W → Calls Tryz.prog 67 #[logV a l, .int .i64 n, .int .i64 m] W fun e w' => e = .returned (.bool (hitR l (rd_T75 l.rc n) (rd_T76 l.jn m))) ∧ Below W.heap.size W w' := fun m W hm hW =>
    isOwn_any a l n m W (hL.below hW) hn hm (hok m hm) hro
  have HIO := Aside0.mk hio
  have HB := Aside0.mk hb
  obtain ⟨A0, A2, A3, A4, c0, c2, c3, c4⟩ := a
  dsimp only [logV] at *
  clear hL hok hro hio hb
  generalize rd_T75 l.rc (n : Int) = r at *
  go_enter Tryz.func25, Tryz.ntmps25
  go_wp2
  go_loopg [5, 6] l.jn.length (fun gg v5 v6 wr => ∃ kk : Nat, kk ≤ l.jn.length ∧ l.jn.length - kk ≤ gg ∧ v6 = .int .i64 kk ∧ Aside0 (Kd.R (Kd.int .i64) 3 wr (w.heap.size + 1) (fun _ => True) v5 (ownK l r kk)) ∧ Aside0 (Below (w.heap.size + 1) (w.alloc (logD ⟨A0, A2, A3, A4, c0, c2, c3, c4⟩ l)) wr))
  case atStart => exact ⟨0, Nat.zero_le _, by omega, rfl, ⟨Kd.R_nil _ _ _ _ _⟩, ⟨Below.refl _ _⟩⟩
  case round =>
    obtain ⟨kk, hkk, hg, rfl, HO, BW⟩ := hrel
    have hBW2 : Below w.heap.size w wr := HB.out.trans (BW.out.mono (by omega))
    have hsz : w.heap.size + 1 ≤ wr.heap.size := by have := BW.out.size; simpa using this
    have cB : ∀ i : Nat, wr.cell? ⟨w.heap.size, i, none⟩ = #[.slice A0 l.ls.length c0, .int .i64 l.errs, .slice A2 l.sees.length c2, .slice A3 l.jn.length c3, .slice A4 l.rc.length c4][i]? := fun i => (BW.out.cell (p := ⟨w.heap.size, i, none⟩) (by simp)).trans (cell_new _ _ _ _)
    have b0 : wr.cell? ⟨w.heap.size, 0, none⟩ = some (.slice A0 l.ls.length c0) := cB 0
    have b1 : wr.cell? ⟨w.heap.size, 1, none⟩ = some (.int .i64 l.errs) := cB 1
    have b2 : wr.cell? ⟨w.heap.size, 2, none⟩ = some (.slice A2 l.sees.length c2) := cB 2
    have b3 : wr.cell? ⟨w.heap.size, 3, none⟩ = some (.slice A3 l.jn.length c3) := cB 3
    have b4 : wr.cell? ⟨w.heap.size, 4, none⟩ = some (.slice A4 l.rc.length c4) := cB 4
    clear cB
    by_cases hlt : kk < l.jn.length
    · have hltz : (kk : Int) < (l.jn.length : Int) := by omega
      have hcall := HIO.out kk wr hlt hBW2
      have hlen := ownK_len l r kk
      have HHIT := Aside0.mk (fun h => ownK_hit (l := l) (r := r) (k := kk) h)
      have HMISS := Aside0.mk (fun h => ownK_miss (l := l) (r := r) (k := kk) h)
      cases q : hitR l r (rd_T76 l.jn kk) with
      | true =>
        rw [q] at hcall
        have HC := Aside0.mk hcall
        have HH := Aside0.mk (HHIT.out q)
        clear hcall q
        go_wp2_with (first
          | (go_at_call 67; refine HC.out.mono ?_; rintro e w9 ⟨rfl, hb9⟩; have HB9 := Aside0.mk hb9; clear hb9)
          | ((with_reducible refine gate_builtin (b := .append) (xs := #[.tmp 18, .tmp 20]) rfl ?_); at_builtin; refine Kd.R_append (Kd.int .i64) (w0 := w.alloc (logD ⟨A0, A2, A3, A4, c0, c2, c3, c4⟩ l)) (w.heap.size + 1) rfl (.tmp 18) (.tmp 20) 25 3 (.int .i64 0) 8 rfl Tryz.underlying25 info3 rfl (by decide) (by omega) u5 (ownK l r kk) (kk : Int) [.int .i64 kk] (fun _ => True) (fun _ => False) rfl rfl ?aP (fun _ hk => hk.elim) ?aF ?aO ?aB ?aS ?aL ?_; (case aP => exact rfl); (case aB => exact BW.out.trans (HB9.out.mono hsz)); (case aF => exact (fun _ _ => trivial)); (case aO => exact Kd.R_below HO.out HB9.out); (case aS => have := HB9.out.size; omega); (case aL => omega); intro v1 w1 ho hb hg hat; rw [← HH.out] at ho; have HO1 := Aside0.mk ho; have HB1 := Aside0.mk hb; clear ho hb hg hat))
        go_roundg (l.jn.length - (kk + 1))
        case measure => omega
        case rel => exact ⟨kk + 1, by omega, by omega, by go_num, HO1, HB1⟩
      | false =>
        rw [q] at hcall
        have HC := Aside0.mk hcall
        have HH := Aside0.mk (HMISS.out q)
        clear hcall q
        go_wp2_with (first
          | (go_at_call 67; refine HC.out.mono ?_; rintro e w9 ⟨rfl, hb9⟩; have HB9 := Aside0.mk hb9; clear hb9))
        have hbn := BW.out.trans (HB9.out.mono hsz)
        go_roundg (l.jn.length - (kk + 1))
        case measure => omega
        case rel => exact ⟨kk + 1, by omega, by omega, by go_num, ⟨by rw [HH.out]; exact Kd.R_below HO.out HB9.out⟩, ⟨hbn⟩⟩
    · have hk : kk = l.jn.length := by omega
      subst hk
      have hltz : ¬ (l.jn.length : Int) < (l.jn.length : Int) := by omega
      go_wp2
      go_ret
      exact ⟨_, rfl, Kd.R_lower HO.out (by omega), hBW2⟩
end Go.Proofs.YthgfhgjlilmieaaGreat.G
namespace Go.Proofs.YthgfhgjlilmieaaGreat.G
open Go.RowKit Go.Shelf Go.Proofs.YthgfhgjlilmieaaGreatW.PrintWords Go.Proofs.YthgfhgjlilmieaaGreatW.PrintLast Go.Proofs.YthgfhgjlilmieaaGreatW.PrintMore
open Go.Proofs.YthgfhgjlilmieaaGreat.B
set_option linter.unusedVariables false
set_option linter.unusedSimpArgs false
theorem foldl_min_le {α : Type} (f : α → Int) : ∀ (l : List α) (v : Int), l.foldl (fun m x => min m (f x)) v ≤ v
  | [], v => by simp
  | a :: t, v => by
    have := foldl_min_le f t (min v (f a))
    simp only [List.foldl_cons]
    omega
theorem foldl_min_mem {α : Type} (f : α → Int) : ∀ (l : List α) (v : Int) (x : α), x ∈ l → l.foldl (fun m x => min m (f x)) v ≤ f x
  | a :: t, v, x, h => by
    simp only [List.foldl_cons]
    rcases List.mem_cons.1 h with rfl | h
    · have := foldl_min_le f t (min v (f x)); omega
    · exact foldl_min_mem f t _ x h
theorem mem_nx (s r : ByteArray) (k : Nat) (hk : k < 6) (hg : goes s r k = true) : (⟨k, hk, hg⟩ : NX s r) ∈ nx s r 6 := by
  unfold nx
  rw [List.mem_filterMap]
  exact ⟨k, List.mem_range.2 hk, by rw [dif_pos ⟨hk, hg⟩]⟩
theorem few_le_step (s r : ByteArray) (k : Nat) (hk : k < 6) (hg : goes s r k = true) : few s r ≤ costK k + few (leftS s k) (leftR s r k) := by
  rw [few_eq]
  exact foldl_min_mem (fun x : NX s r => costK x.1 + few (leftS s x.1) (leftR s r x.1)) _ _ _ (mem_nx s r k hk hg)
theorem few_self : ∀ (n : Nat) (s : ByteArray), s.size = n → few s s = 0
  | 0, s, h => by
    have h1 : few s s ≤ 0 := by
      rw [few_eq, if_pos ⟨h, h⟩]
      exact foldl_min_le _ _ _
    have := (few_bd s s).1
    omega
  | n + 1, s, h => by
    have hp : 0 < s.size := by omega
    have hg : goes s s 0 = true := by
      rw [goes_ne 0 hp]
      exact pre_ok (w := s.extract 0 1) 1 (sz1 hp) rfl (by omega)
    have e1 : leftS s 0 = s.extract 1 s.size := by show s.extract (s.extract 0 1).size s.size = _; rw [sz1 hp]
    have e2 : leftR s s 0 = s.extract 1 s.size := by show s.extract (s.extract 0 1).size s.size = _; rw [sz1 hp]
    have ih := few_self n (s.extract 1 s.size) (by rw [ByteArray.size_extract]; omega)
    have h1 := few_le_step s s 0 (by decide) hg
    rw [e1, e2, ih] at h1
    have := (few_bd s s).1
    have hc : costK 0 = 0 := rfl
    omega
theorem see_in (n : Int) : inR n (-1) 23 = seeB n := by
  unfold inR seeB hourB
  rw [Bool.eq_iff_iff]
  simp only [Bool.and_eq_true, Bool.or_eq_true, decide_eq_true_eq, beq_iff_eq]
  omega
theorem in_inB (n m : Int) : inR n 0 m = inB n m := rfl
def txtB (l : Lg) (t : List Int) : Bool := t.all fun x => inR x 0 ((l.ls.length : Int) - 1)
def sentR (l : Lg) (s : S76) : Bool := inR s.f0 0 23 && inR s.f1 0 ((l.sees.length : Int) - 1) && inR s.f2.length 1 5 && txtB l s.f2
def recR (l : Lg) (r : S75) : Bool := inR r.f0 0 23 && inR r.f1 0 ((l.sees.length : Int) - 1) && sfE r.f2 == 0
theorem sent_eq (l : Lg) (s : S76) (hc : codeE l.ls = 0) : sentR l s = sentB l s := by
  have e : (sendE l.ls s.f2 == 0) = (decide (s.f2.length ≤ 5) && txtB l s.f2) := by
    unfold sendE
    rw [if_neg (by rw [hc]; simp)]
    by_cases h5 : 5 < s.f2.length
    · rw [if_pos h5]
      have : ¬ s.f2.length ≤ 5 := by omega
      simp [this]
    · rw [if_neg h5]
      have h5' : s.f2.length ≤ 5 := by omega
      have e2 : (s.f2.all fun n => inB n ((l.ls.length : Int) - 1)) = txtB l s.f2 := rfl
      rw [e2]
      cases txtB l s.f2 <;> simp [h5']
  unfold sentR sentB atB hourB
  rw [e]
  unfold inR inB
  cases txtB l s.f2 with
  | false => simp
  | true =>
    rw [Bool.eq_iff_iff]
    simp only [Bool.and_eq_true, decide_eq_true_eq, and_true]
    omega
theorem sf_eq (s : ByteArray) : (errsE s s == 0) = (sfE s == 0) := by
  have e : signsE [s, s] = sfE s := by
    unfold signsE sfE
    simp
  unfold errsE
  rw [e]
  by_cases h : sfE s = 0
  · rw [if_neg (by simp [h]), if_neg (by rw [few_self s.size s rfl]; decide), h]
  · rw [if_pos h]
theorem rec_eq (l : Lg) (r : S75) : recR l r = recordB l r := by
  unfold recR recordB atB hourB
  rw [sf_eq]
  rfl
end Go.Proofs.YthgfhgjlilmieaaGreat.G
namespace Go.Proofs.YthgfhgjlilmieaaGreat.G
open Go.RowKit Go.Shelf Go.Proofs.YthgfhgjlilmieaaGreatW.PrintWords Go.Proofs.YthgfhgjlilmieaaGreatW.PrintLast Go.Proofs.YthgfhgjlilmieaaGreatW.PrintMore
open Go.Proofs.YthgfhgjlilmieaaGreat.B
set_option linter.unusedVariables false
set_option linter.unusedSimpArgs false
set_option maxRecDepth 100000 in
set_option maxHeartbeats 4000000 in
theorem isText97_any (l : Lg) (A : Option Addr) (c : Nat) (A1 : Option Addr) (c1 : Nat) (t : List Int) (w : World) (hls : l.ls.length ≤ 6) (hr : Kd.C (Kd.int .i64) w A1 t.length t) :
    Calls Tryz.prog 97 #[.agg #[.slice A l.ls.length c], .slice A1 t.length c1] w fun e w' => e = .returned (.bool (txtB l t)) ∧ Below w.heap.size w w' := by
  have hu := Tryz.underlying24
  obtain ⟨V, hV⟩ : ∃ V, V = txtB l t := ⟨_, rfl⟩
  rw [← hV]
  have hmax : (t.length : Int) ≤ 9223372036854775807 := by have := hr.2.1; omega
  have hb : Below w.heap.size w (w.alloc (.cells #[.slice A l.ls.length c] 24)) := (Below.refl _ w).alloc (Nat.le_refl _) _
  have HR := Aside0.mk hr
  have HB := Aside0.mk hb
  have HT := Aside0.mk (fun (h : ∀ (j : Nat) (hj : j < t.length), inR t[j] 0 ((l.ls.length : Int) - 1) = true) => hV.trans (show txtB l t = true by
    unfold txtB
    rw [List.all_eq_true]
    intro x hx
    obtain ⟨j, hj, rfl⟩ := List.getElem_of_mem hx
    exact h j hj))
  have HF := Aside0.mk (fun (j : Nat) (hj : j < t.length) (h : inR t[j] 0 ((l.ls.length : Int) - 1) = false) => hV.trans (show txtB l t = false by
    cases hx : txtB l t with
    | false => rfl
    | true =>
      unfold txtB at hx
      rw [List.all_eq_true] at hx
      rw [hx _ (List.getElem_mem hj)] at h
      cases h))
  clear hr hb hV
  go_enter Tryz.func97, Tryz.ntmps97
  go_wp2
  go_loopg [5] t.length (fun gg v5 wr => ∃ i : Nat, i ≤ t.length ∧ t.length - i ≤ gg ∧ v5 = .int .i64 i ∧ Aside0 (∀ (j : Nat) (hj : j < i) (hj2 : j < t.length), inR (t[j]'hj2) 0 ((l.ls.length : Int) - 1) = true) ∧ Aside0 (Below (w.heap.size + 1) (w.alloc (.cells #[.slice A l.ls.length c] 24)) wr))
  case atStart => exact ⟨0, by omega, by omega, by go_num, ⟨fun j hj => by omega⟩, ⟨Below.refl _ _⟩⟩
  case round =>
    obtain ⟨i, hi, hg, rfl, HI, BW⟩ := hrel
    have hBW2 : Below w.heap.size w wr := HB.out.trans (BW.out.mono (by omega))
    have b0 : wr.cell? ⟨w.heap.size, 0, none⟩ = some (.slice A l.ls.length c) := (BW.out.cell (p := ⟨w.heap.size, 0, none⟩) (by simp)).trans (cell_new _ _ _ 0)
    by_cases hlt : i < t.length
    · have hltz : (i : Int) < (t.length : Int) := by omega
      obtain ⟨ax, e1, cx⟩ := Kd.at_int (Kd.C_below HR.out hBW2) (i : Int) (by omega) hltz
      cases e1
      have hx : rd t (i : Int) = t[i] := by simp [rd, hlt]
      rw [hx, Int.toNat_natCast] at cx
      have HN := Aside0.mk (HF.out i hlt)
      have HS := Aside0.mk (fun (h : inR t[i] 0 ((l.ls.length : Int) - 1) = true) (j : Nat) (hj : j < i + 1) (hj2 : j < t.length) => show inR (t[j]'hj2) 0 ((l.ls.length : Int) - 1) = true from by
        by_cases e : j = i
        · subst e; exact h
        · exact HI.out j (by omega) hj2)
      have hbn := fun n => BW.out.trans ((belowN wr n).mono (show w.heap.size + 1 ≤ wr.heap.size by have := BW.out.size; simpa using this))
      have HBN := Aside0.mk hbn
      clear hx hbn
      generalize t[i] = x at *
      cases hq : inR x 0 ((l.ls.length : Int) - 1) with
      | true =>
        have hcall := fun W => in127_any x 0 ((l.ls.length : Int) - 1) W
        rw [hq] at hcall
        have HC := Aside0.mk hcall
        have HY := Aside0.mk (HS.out hq)
        clear hcall hq
        have hwr : IntKind.i64.wrap ((l.ls.length : Int) - 1) = (l.ls.length : Int) - 1 := IntWalk.i64_in _ (by omega)
        go_wp2
        go_quiet ((go_at_call 127; exact Calls.quiet_of_same (HC.out _)))
        clear hwr
        go_wp2
        go_roundg (t.length - (i + 1))
        case measure => omega
        case rel => exact ⟨i + 1, by omega, by omega, by go_num, HY, ⟨HBN.out _⟩⟩
      | false =>
        have hcall := fun W => in127_any x 0 ((l.ls.length : Int) - 1) W
        rw [hq] at hcall
        have HC := Aside0.mk hcall
        have HY := Aside0.mk (HN.out hq)
        clear hcall hq
        have hwr : IntKind.i64.wrap ((l.ls.length : Int) - 1) = (l.ls.length : Int) - 1 := IntWalk.i64_in _ (by omega)
        go_wp2
        go_quiet ((go_at_call 127; exact Calls.quiet_of_same (HC.out _)))
        clear hwr
        go_wp2
        go_ret
        exact ⟨by rw [HY.out]; rfl, HB.out.trans ((HBN.out _).mono (by omega))⟩
    · have hi2 : i = t.length := by omega
      have HY := Aside0.mk (HT.out (fun j hj => HI.out j (by omega) hj))
      clear HI
      subst hi2
      have hltz : ¬ (t.length : Int) < (t.length : Int) := by omega
      go_wp2
      go_ret
      exact ⟨by rw [HY.out]; rfl, hBW2⟩
end Go.Proofs.YthgfhgjlilmieaaGreat.G
namespace Go.Proofs.YthgfhgjlilmieaaGreat.G
open Go.RowKit Go.Shelf Go.Proofs.YthgfhgjlilmieaaGreatW.PrintWords Go.Proofs.YthgfhgjlilmieaaGreatW.PrintLast Go.Proofs.YthgfhgjlilmieaaGreatW.PrintMore
open Go.Proofs.YthgfhgjlilmieaaGreat.B
set_option linter.unusedVariables false
set_option linter.unusedSimpArgs false
theorem logE_over {l : Lg} (h : overB l = true) : logE l = 3 := by unfold logE; rw [if_pos h]
theorem logE_code {l : Lg} (h : overB l = false) (hc : codeE l.ls ≠ 0) : logE l = codeE l.ls := by unfold logE; rw [if_neg (by rw [h]; simp), if_pos hc]
theorem logE_bad {l : Lg} (h : overB l = false) (hc : codeE l.ls = 0) (hb : badB l = true) : logE l = 1 := by unfold logE; rw [if_neg (by rw [h]; simp), if_neg (by simp [hc]), if_pos hb]
theorem logE_good {l : Lg} (h : overB l = false) (hc : codeE l.ls = 0) (hb : badB l = false) : logE l = 0 := by unfold logE; rw [if_neg (by rw [h]; simp), if_neg (by simp [hc]), if_neg (by rw [hb]; simp)]
theorem bad_e {l : Lg} (h : inR l.errs 0 3 = false) : badB l = true := by
  rw [in_inB] at h
  simp [badB, h]
theorem bad_z {l : Lg} (h : l.sees.length = 0) : badB l = true := by simp [badB, h]
theorem bad_s {l : Lg} (j : Nat) (hj : j < l.sees.length) (h : seeB l.sees[j] = false) : badB l = true := by
  have : l.sees.all seeB = false := by
    cases hx : l.sees.all seeB with
    | false => rfl
    | true => rw [List.all_eq_true] at hx; rw [hx _ (List.getElem_mem hj)] at h; cases h
  simp [badB, this]
theorem bad_j {l : Lg} (j : Nat) (hj : j < l.jn.length) (h : sentB l l.jn[j] = false) : badB l = true := by
  have : l.jn.all (sentB l) = false := by
    cases hx : l.jn.all (sentB l) with
    | false => rfl
    | true => rw [List.all_eq_true] at hx; rw [hx _ (List.getElem_mem hj)] at h; cases h
  simp [badB, this]
theorem bad_r {l : Lg} (j : Nat) (hj : j < l.rc.length) (h : recordB l l.rc[j] = false) : badB l = true := by
  have : l.rc.all (recordB l) = false := by
    cases hx : l.rc.all (recordB l) with
    | false => rfl
    | true => rw [List.all_eq_true] at hx; rw [hx _ (List.getElem_mem hj)] at h; cases h
  simp [badB, this]
theorem all_get {α : Type} (xs : List α) (p : α → Bool) (h : ∀ (j : Nat) (hj : j < xs.length), p xs[j] = true) : xs.all p = true := by
  rw [List.all_eq_true]
  intro x hx
  obtain ⟨j, hj, rfl⟩ := List.getElem_of_mem hx
  exact h j hj
theorem good_all {l : Lg} (he : inR l.errs 0 3 = true) (hz : l.sees.length ≠ 0) (hs : ∀ (j : Nat) (hj : j < l.sees.length), seeB l.sees[j] = true) (hj : ∀ (j : Nat) (hj : j < l.jn.length), sentB l l.jn[j] = true) (hr : ∀ (j : Nat) (hj : j < l.rc.length), recordB l l.rc[j] = true) : badB l = false := by
  rw [in_inB] at he
  have hz2 : (l.sees.length == 0) = false := by simpa using hz
  simp only [badB, he, hz2, all_get _ _ hs, all_get _ _ hj, all_get _ _ hr]
  rfl
theorem rd76_get (l : Lg) (j : Nat) (hj : j < l.jn.length) : rd_T76 l.jn (j : Int) = l.jn[j] := by simp [rd_T76, List.getD_eq_getElem?_getD, hj]
theorem rd75_get (l : Lg) (j : Nat) (hj : j < l.rc.length) : rd_T75 l.rc (j : Int) = l.rc[j] := by simp [rd_T75, List.getD_eq_getElem?_getD, hj]
theorem snoc_all {p : Nat → Prop} {i : Nat} (h : ∀ j, j < i → p j) (hi : p i) : ∀ j, j < i + 1 → p j := fun j hj => by
  by_cases e : j = i
  · rw [e]; exact hi
  · exact h j (by omega)
set_option maxRecDepth 100000 in
set_option maxHeartbeats 16000000 in
theorem fault66_any (a : LV) (l : Lg) (w : World) (hL : LogAt w a l) : Calls Tryz.prog 66 #[logV a l] w fun e w' => e = .returned (.int .i64 (logE l)) ∧ Below w.heap.size w w' := by
  have hu := Tryz.underlying29
  have hu1 := Tryz.underlying69
  have hu2 := Tryz.underlying61
  have hu3 := Tryz.underlying24
  obtain ⟨V, hV⟩ : ∃ V, V = logE l := ⟨_, rfl⟩
  rw [← hV]
  have hb : Below w.heap.size w (w.alloc (logD a l)) := (Below.refl _ w).alloc (Nat.le_refl _) _
  have hcd := fault96_any a.A0 a.c0 l.ls _ (hL.below hb).h0
  have HL := Aside0.mk hL
  have HB := Aside0.mk hb
  have HCD := Aside0.mk hcd
  have HV := Aside0.mk hV
  clear hcd hb hV hL
  obtain ⟨A0, A2, A3, A4, c0, c2, c3, c4⟩ := a
  dsimp only [logV] at *
  by_cases h1 : 4 < l.sees.length
  · have HW := Aside0.mk (HV.out.trans (logE_over (by simp [overB, h1])))
    have z1 : (l.sees.length : Int) > 4 := by omega
    clear hu1 hu2 hu3
    go_enter Tryz.func66, Tryz.ntmps66
    go_wp2
    go_ret
    exact ⟨by rw [HW.out]; rfl, HB.out⟩
  have z1 : ¬ (l.sees.length : Int) > 4 := by omega
  by_cases h2 : 8 < l.jn.length
  · have HW := Aside0.mk (HV.out.trans (logE_over (by simp [overB, h2])))
    have z2 : (l.jn.length : Int) > 8 := by omega
    clear hu1 hu2 hu3
    go_enter Tryz.func66, Tryz.ntmps66
    go_wp2
    go_ret
    exact ⟨by rw [HW.out]; rfl, HB.out⟩
  have z2 : ¬ (l.jn.length : Int) > 8 := by omega
  by_cases h3 : 6 < l.rc.length
  · have HW := Aside0.mk (HV.out.trans (logE_over (by simp [overB, h3])))
    have z3 : (l.rc.length : Int) > 6 := by omega
    clear hu1 hu2 hu3
    go_enter Tryz.func66, Tryz.ntmps66
    go_wp2
    go_ret
    exact ⟨by rw [HW.out]; rfl, HB.out⟩
  have z3 : ¬ (l.rc.length : Int) > 6 := by omega
  have hov : overB l = false := by simp [overB]; omega
  by_cases h4 : codeE l.ls = 0
  · have h6 : l.ls.length ≤ 6 := by
      unfold codeE at h4
      by_cases hx : 6 < l.ls.length
      · rw [if_pos hx] at h4; cases h4
      · omega
    have VB := Aside0.mk (fun (h : badB l = true) => HV.out.trans (logE_bad hov h4 h))
    have VG := Aside0.mk (fun (h : badB l = false) => HV.out.trans (logE_good hov h4 h))
    have HSE := Aside0.mk (fun s => sent_eq l s h4)
    rw [h4] at HCD
    clear h4 hov h1 h2 h3
    cases q1 : inR l.errs 0 3 with
    | false =>
      have HIN := Aside0.mk (q1 ▸ fun W => in23_any l.errs 0 3 W)
      have HW := Aside0.mk (VB.out (bad_e q1))
      clear q1
      go_enter Tryz.func66, Tryz.ntmps66
      go_wp2_with (fail)
      refine HCD.out.mono ?_
      rintro e w1 ⟨rfl, hb1⟩
      have hN1 : w.heap.size < w1.heap.size := by have := hb1.size; simp at this; omega
      have b0 : w1.cell? ⟨w.heap.size, 0, none⟩ = some (.slice A0 l.ls.length c0) := (hb1.cell (p := ⟨w.heap.size, 0, none⟩) (by simp)).trans (cell_new _ _ _ 0)
      have b1 : w1.cell? ⟨w.heap.size, 1, none⟩ = some (.int .i64 l.errs) := (hb1.cell (p := ⟨w.heap.size, 1, none⟩) (by simp)).trans (cell_new _ _ _ 1)
      have b2 : w1.cell? ⟨w.heap.size, 2, none⟩ = some (.slice A2 l.sees.length c2) := (hb1.cell (p := ⟨w.heap.size, 2, none⟩) (by simp)).trans (cell_new _ _ _ 2)
      have b3 : w1.cell? ⟨w.heap.size, 3, none⟩ = some (.slice A3 l.jn.length c3) := (hb1.cell (p := ⟨w.heap.size, 3, none⟩) (by simp)).trans (cell_new _ _ _ 3)
      have b4 : w1.cell? ⟨w.heap.size, 4, none⟩ = some (.slice A4 l.rc.length c4) := (hb1.cell (p := ⟨w.heap.size, 4, none⟩) (by simp)).trans (cell_new _ _ _ 4)
      have BW := Aside0.mk (below_next HB.out hb1)
      clear hb1
      go_wp2_with (fail)
      refine (HIN.out _).mono ?_
      rintro e w' ⟨rfl, rfl⟩
      go_wp2
      go_ret
      exact ⟨by rw [HW.out]; rfl, BW.out⟩
    | true =>
      have HE1 := Aside0.mk q1
      have HIN := Aside0.mk (q1 ▸ fun W => in23_any l.errs 0 3 W)
      clear q1
      by_cases h5 : l.sees.length = 0
      · have HW := Aside0.mk (VB.out (bad_z h5))
        have z5 : ((l.sees.length : Int) == 0) = true := by rw [h5]; rfl
        clear h5
        go_enter Tryz.func66, Tryz.ntmps66
        go_wp2_with (fail)
        refine HCD.out.mono ?_
        rintro e w1 ⟨rfl, hb1⟩
        have hN1 : w.heap.size < w1.heap.size := by have := hb1.size; simp at this; omega
        have b0 : w1.cell? ⟨w.heap.size, 0, none⟩ = some (.slice A0 l.ls.length c0) := (hb1.cell (p := ⟨w.heap.size, 0, none⟩) (by simp)).trans (cell_new _ _ _ 0)
        have b1 : w1.cell? ⟨w.heap.size, 1, none⟩ = some (.int .i64 l.errs) := (hb1.cell (p := ⟨w.heap.size, 1, none⟩) (by simp)).trans (cell_new _ _ _ 1)
        have b2 : w1.cell? ⟨w.heap.size, 2, none⟩ = some (.slice A2 l.sees.length c2) := (hb1.cell (p := ⟨w.heap.size, 2, none⟩) (by simp)).trans (cell_new _ _ _ 2)
        have b3 : w1.cell? ⟨w.heap.size, 3, none⟩ = some (.slice A3 l.jn.length c3) := (hb1.cell (p := ⟨w.heap.size, 3, none⟩) (by simp)).trans (cell_new _ _ _ 3)
        have b4 : w1.cell? ⟨w.heap.size, 4, none⟩ = some (.slice A4 l.rc.length c4) := (hb1.cell (p := ⟨w.heap.size, 4, none⟩) (by simp)).trans (cell_new _ _ _ 4)
        have BW := Aside0.mk (below_next HB.out hb1)
        clear hb1
        go_wp2_with (fail)
        refine (HIN.out _).mono ?_
        rintro e w' ⟨rfl, rfl⟩
        go_wp2
        go_ret
        exact ⟨by rw [HW.out]; rfl, BW.out⟩
      · have z5 : ((l.sees.length : Int) == 0) = false := by rw [beq_eq_false_iff_ne]; omega
        have z6 : ¬ (l.sees.length : Int) = 0 := by omega
        have H5 := Aside0.mk h5
        clear h5
        go_enter Tryz.func66, Tryz.ntmps66
        go_wp2_with (fail)
        refine HCD.out.mono ?_
        rintro e w1 ⟨rfl, hb1⟩
        have hN1 : w.heap.size < w1.heap.size := by have := hb1.size; simp at this; omega
        have b0 : w1.cell? ⟨w.heap.size, 0, none⟩ = some (.slice A0 l.ls.length c0) := (hb1.cell (p := ⟨w.heap.size, 0, none⟩) (by simp)).trans (cell_new _ _ _ 0)
        have b1 : w1.cell? ⟨w.heap.size, 1, none⟩ = some (.int .i64 l.errs) := (hb1.cell (p := ⟨w.heap.size, 1, none⟩) (by simp)).trans (cell_new _ _ _ 1)
        have b2 : w1.cell? ⟨w.heap.size, 2, none⟩ = some (.slice A2 l.sees.length c2) := (hb1.cell (p := ⟨w.heap.size, 2, none⟩) (by simp)).trans (cell_new _ _ _ 2)
        have b3 : w1.cell? ⟨w.heap.size, 3, none⟩ = some (.slice A3 l.jn.length c3) := (hb1.cell (p := ⟨w.heap.size, 3, none⟩) (by simp)).trans (cell_new _ _ _ 3)
        have b4 : w1.cell? ⟨w.heap.size, 4, none⟩ = some (.slice A4 l.rc.length c4) := (hb1.cell (p := ⟨w.heap.size, 4, none⟩) (by simp)).trans (cell_new _ _ _ 4)
        have BW := Aside0.mk (below_next HB.out hb1)
        clear hb1
        go_wp2_with (fail)
        refine (HIN.out _).mono ?_
        rintro e w' ⟨rfl, rfl⟩
        have B0 := Aside0.mk b0
        have B1 := Aside0.mk b1
        have B2 := Aside0.mk b2
        have B3 := Aside0.mk b3
        have B4 := Aside0.mk b4
        go_wp2
        go_loopg [4] l.sees.length (fun gg v4 wr => ∃ i : Nat, i ≤ l.sees.length ∧ l.sees.length - i ≤ gg ∧ v4 = .int .i64 i ∧ Aside0 (∀ j, j < i → ∀ hj : j < l.sees.length, seeB (l.sees[j]'hj) = true) ∧ w1 = wr)
        case atStart => exact ⟨0, by omega, by omega, by go_num, ⟨fun j hj => by omega⟩, rfl⟩
        case round =>
          obtain ⟨i, hi, hg, rfl, HI, rfl⟩ := hrel
          by_cases hlt : i < l.sees.length
          · have hltz : (i : Int) < (l.sees.length : Int) := by omega
            obtain ⟨ax, e1, cx⟩ := Kd.at_int (Kd.C_below HL.out.h2 BW.out) (i : Int) (by omega) hltz
            cases e1
            rw [rd_nat l.sees i hlt, Int.toNat_natCast] at cx
            cases q2 : seeB l.sees[i] with
            | false =>
              have HW := Aside0.mk (VB.out (bad_s i hlt q2))
              have hin := fun W => in23_any l.sees[i] (-1) 23 W
              rw [see_in, q2] at hin
              have HIN2 := Aside0.mk hin
              clear hin q2
              generalize l.sees[i] = x at *
              go_wp2_with (fail)
              refine (HIN2.out _).mono ?_
              rintro e w' ⟨rfl, rfl⟩
              go_wp2
              go_ret
              exact ⟨by rw [HW.out]; rfl, BW.out⟩
            | true =>
              have HY := Aside0.mk (snoc_all (p := fun j => ∀ hj : j < l.sees.length, seeB (l.sees[j]'hj) = true) HI.out (fun _ => q2))
              have hin := fun W => in23_any l.sees[i] (-1) 23 W
              rw [see_in, q2] at hin
              have HIN2 := Aside0.mk hin
              clear hin q2
              generalize l.sees[i] = x at *
              go_wp2_with (fail)
              refine (HIN2.out _).mono ?_
              rintro e w' ⟨rfl, rfl⟩
              go_wp2
              go_roundg (l.sees.length - (i + 1))
              case measure => omega
              case rel => exact ⟨i + 1, by omega, by omega, by go_num, HY, rfl⟩
          · have hi2 : i = l.sees.length := by omega
            have HSA := HI
            rw [hi2] at HSA
            clear HI
            subst hi2
            have hltz : ¬ (l.sees.length : Int) < (l.sees.length : Int) := by omega
            go_wp2
            go_loopg [5] l.jn.length (fun gg v5 wr => ∃ i : Nat, i ≤ l.jn.length ∧ l.jn.length - i ≤ gg ∧ v5 = .int .i64 i ∧ Aside0 (∀ j, j < i → ∀ hj : j < l.jn.length, sentB l (l.jn[j]'hj) = true) ∧ Aside0 (Below w1.heap.size w1 wr))
            case atStart => exact ⟨0, by omega, by omega, by go_num, ⟨fun j hj => by omega⟩, ⟨Below.refl _ _⟩⟩
            case round =>
              obtain ⟨i, hi, hg, rfl, HI, BR⟩ := hrel
              have BWR := Aside0.mk (below_next BW.out BR.out)
              have hNr : w.heap.size < wr.heap.size := by have := BR.out.size; omega
              replace b0 : wr.cell? ⟨w.heap.size, 0, none⟩ = some (.slice A0 l.ls.length c0) := (BR.out.cell (p := ⟨w.heap.size, 0, none⟩) hN1).trans B0.out
              replace b1 : wr.cell? ⟨w.heap.size, 1, none⟩ = some (.int .i64 l.errs) := (BR.out.cell (p := ⟨w.heap.size, 1, none⟩) hN1).trans B1.out
              replace b2 : wr.cell? ⟨w.heap.size, 2, none⟩ = some (.slice A2 l.sees.length c2) := (BR.out.cell (p := ⟨w.heap.size, 2, none⟩) hN1).trans B2.out
              replace b3 : wr.cell? ⟨w.heap.size, 3, none⟩ = some (.slice A3 l.jn.length c3) := (BR.out.cell (p := ⟨w.heap.size, 3, none⟩) hN1).trans B3.out
              replace b4 : wr.cell? ⟨w.heap.size, 4, none⟩ = some (.slice A4 l.rc.length c4) := (BR.out.cell (p := ⟨w.heap.size, 4, none⟩) hN1).trans B4.out
              have d0 := fun o => alloc_old b0 hNr o
              have d1 := fun o => alloc_old b1 hNr o
              have d2 := fun o => alloc_old b2 hNr o
              have d3 := fun o => alloc_old b3 hNr o
              have d4 := fun o => alloc_old b4 hNr o
              by_cases hlt : i < l.jn.length
              · have hltz : (i : Int) < (l.jn.length : Int) := by omega
                obtain ⟨aj, A5, c5, e1, y0, y1, y2, l5, g5⟩ := at_T76 (HL.out.below BWR.out).h3 (i : Int) (by omega) hltz
                dsimp only at e1
                cases e1
                rw [rd76_get l i hlt] at y0 y1 y2 l5 g5
                rw [Int.toNat_natCast] at y0 y1 y2
                have hbad := fun (h : sentR l l.jn[i] = false) => VB.out (bad_j i hlt (by rw [← HSE.out]; exact h))
                have hgood := fun (h : sentR l l.jn[i] = true) => snoc_all (p := fun j => ∀ hj : j < l.jn.length, sentB l (l.jn[j]'hj) = true) HI.out (fun _ => by rw [← HSE.out]; exact h)
                have HBD := Aside0.mk hbad
                have HGD := Aside0.mk hgood
                clear hbad hgood
                generalize l.jn[i] = s at *
                obtain ⟨s0, s1, tx⟩ := s
                dsimp only at *
                have hba : Below wr.heap.size wr (wr.alloc (.cells #[.int .i64 s0, .int .i64 s1, .slice A5 tx.length c5] 69)) := (Below.refl _ _).alloc (Nat.le_refl _) _
                have hit := isText97_any l A0 c0 A5 c5 tx _ h6 (Kd.C_below g5 hba)
                have HIT := Aside0.mk hit
                have HBA := Aside0.mk (below_next BR.out hba)
                have HBA2 := Aside0.mk (below_next BWR.out hba)
                have txm : (tx.length : Int) ≤ 9223372036854775807 := by have := g5.2.1; omega
                clear hit hba g5
                cases p0 : inR s0 0 23 with
                | false =>
                  have k0 := fun W => in23_any s0 0 23 W
                  rw [p0] at k0
                  have C0 := Aside0.mk k0
                  clear k0
                  have HW := Aside0.mk (HBD.out (by simp [sentR, p0]))
                  clear p0
                  go_wp2_with (fail)
                  refine (C0.out _).mono ?_
                  rintro e w' ⟨rfl, rfl⟩
                  go_wp2
                  go_ret
                  exact ⟨by rw [HW.out]; rfl, HBA2.out⟩
                | true =>
                  have k0 := fun W => in23_any s0 0 23 W
                  rw [p0] at k0
                  have C0 := Aside0.mk k0
                  clear k0
                  have P0 := Aside0.mk p0
                  clear p0
                  cases p1 : inR s1 0 ((l.sees.length : Int) - 1) with
                  | false =>
                    have k1 := fun W => in23_any s1 0 ((l.sees.length : Int) - 1) W
                    rw [p1] at k1
                    have C1 := Aside0.mk k1
                    clear k1
                    have HW := Aside0.mk (HBD.out (by simp [sentR, P0.out, p1]))
                    clear p1
                    go_wp2_with (fail)
                    refine (C0.out _).mono ?_
                    rintro e w' ⟨rfl, rfl⟩
                    go_wp2_with (fail)
                    refine (C1.out _).mono ?_
                    rintro e w' ⟨rfl, rfl⟩
                    go_wp2
                    go_ret
                    exact ⟨by rw [HW.out]; rfl, HBA2.out⟩
                  | true =>
                    have k1 := fun W => in23_any s1 0 ((l.sees.length : Int) - 1) W
                    rw [p1] at k1
                    have C1 := Aside0.mk k1
                    clear k1
                    have P1 := Aside0.mk p1
                    clear p1
                    cases p2 : inR (tx.length : Int) 1 5 with
                    | false =>
                      have k2 := fun W => in23_any (tx.length : Int) 1 5 W
                      rw [p2] at k2
                      have C2 := Aside0.mk k2
                      clear k2
                      have HW := Aside0.mk (HBD.out (by simp [sentR, P0.out, P1.out, p2]))
                      clear p2
                      go_wp2_with (fail)
                      refine (C0.out _).mono ?_
                      rintro e w' ⟨rfl, rfl⟩
                      go_wp2_with (fail)
                      refine (C1.out _).mono ?_
                      rintro e w' ⟨rfl, rfl⟩
                      go_wp2_with (fail)
                      refine (C2.out _).mono ?_
                      rintro e w' ⟨rfl, rfl⟩
                      go_wp2
                      go_ret
                      exact ⟨by rw [HW.out]; rfl, HBA2.out⟩
                    | true =>
                      have k2 := fun W => in23_any (tx.length : Int) 1 5 W
                      rw [p2] at k2
                      have C2 := Aside0.mk k2
                      clear k2
                      have P2 := Aside0.mk p2
                      clear p2
                      cases p3 : txtB l tx with
                      | false =>
                        have C3 := HIT
                        rw [p3] at C3
                        have HW := Aside0.mk (HBD.out (by simp [sentR, P0.out, P1.out, P2.out, p3]))
                        clear p3
                        go_wp2_with (fail)
                        refine (C0.out _).mono ?_
                        rintro e w' ⟨rfl, rfl⟩
                        go_wp2_with (fail)
                        refine (C1.out _).mono ?_
                        rintro e w' ⟨rfl, rfl⟩
                        go_wp2_with (fail)
                        refine (C2.out _).mono ?_
                        rintro e w' ⟨rfl, rfl⟩
                        go_wp2_with (fail)
                        refine C3.out.mono ?_
                        rintro e w9 ⟨rfl, hb9⟩
                        have HB9 := Aside0.mk hb9
                        clear hb9
                        go_wp2
                        go_ret
                        exact ⟨by rw [HW.out]; rfl, below_next HBA2.out HB9.out⟩
                      | true =>
                        have C3 := HIT
                        rw [p3] at C3
                        have HW := Aside0.mk (HGD.out (by simp [sentR, P0.out, P1.out, P2.out, p3]))
                        clear p3
                        go_wp2_with (fail)
                        refine (C0.out _).mono ?_
                        rintro e w' ⟨rfl, rfl⟩
                        go_wp2_with (fail)
                        refine (C1.out _).mono ?_
                        rintro e w' ⟨rfl, rfl⟩
                        go_wp2_with (fail)
                        refine (C2.out _).mono ?_
                        rintro e w' ⟨rfl, rfl⟩
                        go_wp2_with (fail)
                        refine C3.out.mono ?_
                        rintro e w9 ⟨rfl, hb9⟩
                        have HB9 := Aside0.mk hb9
                        clear hb9
                        go_wp2
                        go_roundg (l.jn.length - (i + 1))
                        case measure => omega
                        case rel => exact ⟨i + 1, by omega, by omega, by go_num, HW, ⟨below_next HBA.out HB9.out⟩⟩
              · have hi2 : i = l.jn.length := by omega
                have HJA := HI
                rw [hi2] at HJA
                clear HI
                subst hi2
                have hltz : ¬ (l.jn.length : Int) < (l.jn.length : Int) := by omega
                have HBR1 := BR
                go_wp2
                go_loopg [7] l.rc.length (fun gg v7 wr => ∃ i : Nat, i ≤ l.rc.length ∧ l.rc.length - i ≤ gg ∧ v7 = .int .i64 i ∧ Aside0 (∀ j, j < i → ∀ hj : j < l.rc.length, recordB l (l.rc[j]'hj) = true) ∧ Aside0 (Below w1.heap.size w1 wr))
                case atStart => exact ⟨0, by omega, by omega, by go_num, ⟨fun j hj => by omega⟩, HBR1⟩
                case round =>
                  clear b0 b1 b2 b3 b4 d0 d1 d2 d3 d4 BR BWR hNr HBR1
                  obtain ⟨i, hi, hg, rfl, HI, BR⟩ := hrel
                  have BWR := Aside0.mk (below_next BW.out BR.out)
                  have hNr : w.heap.size < wr.heap.size := by have := BR.out.size; omega
                  replace b0 : wr.cell? ⟨w.heap.size, 0, none⟩ = some (.slice A0 l.ls.length c0) := (BR.out.cell (p := ⟨w.heap.size, 0, none⟩) hN1).trans B0.out
                  replace b1 : wr.cell? ⟨w.heap.size, 1, none⟩ = some (.int .i64 l.errs) := (BR.out.cell (p := ⟨w.heap.size, 1, none⟩) hN1).trans B1.out
                  replace b2 : wr.cell? ⟨w.heap.size, 2, none⟩ = some (.slice A2 l.sees.length c2) := (BR.out.cell (p := ⟨w.heap.size, 2, none⟩) hN1).trans B2.out
                  replace b3 : wr.cell? ⟨w.heap.size, 3, none⟩ = some (.slice A3 l.jn.length c3) := (BR.out.cell (p := ⟨w.heap.size, 3, none⟩) hN1).trans B3.out
                  replace b4 : wr.cell? ⟨w.heap.size, 4, none⟩ = some (.slice A4 l.rc.length c4) := (BR.out.cell (p := ⟨w.heap.size, 4, none⟩) hN1).trans B4.out
                  have d0 := fun o => alloc_old b0 hNr o
                  have d1 := fun o => alloc_old b1 hNr o
                  have d2 := fun o => alloc_old b2 hNr o
                  have d3 := fun o => alloc_old b3 hNr o
                  have d4 := fun o => alloc_old b4 hNr o
                  by_cases hlt : i < l.rc.length
                  · have hltz : (i : Int) < (l.rc.length : Int) := by omega
                    obtain ⟨ar, e1, y0, y1, y2⟩ := at_T75 (HL.out.below BWR.out).h4 (i : Int) (by omega) hltz
                    cases e1
                    rw [rd75_get l i hlt] at y0 y1 y2
                    rw [Int.toNat_natCast] at y0 y1 y2
                    have hbad := fun (h : recR l l.rc[i] = false) => VB.out (bad_r i hlt (by rw [← rec_eq]; exact h))
                    have hgood := fun (h : recR l l.rc[i] = true) => snoc_all (p := fun j => ∀ hj : j < l.rc.length, recordB l (l.rc[j]'hj) = true) HI.out (fun _ => by rw [← rec_eq]; exact h)
                    have HBD := Aside0.mk hbad
                    have HGD := Aside0.mk hgood
                    clear hbad hgood
                    generalize l.rc[i] = s at *
                    obtain ⟨s0, s1, rd_⟩ := s
                    dsimp only at *
                    have hba : Below wr.heap.size wr (wr.alloc (.cells #[.int .i64 s0, .int .i64 s1, .string rd_] 61)) := (Below.refl _ _).alloc (Nat.le_refl _) _
                    have HBA := Aside0.mk (below_next BR.out hba)
                    have HBA2 := Aside0.mk (below_next BWR.out hba)
                    clear hba
                    cases p0 : inR s0 0 23 with
                    | false =>
                      have k0 := fun W => in23_any s0 0 23 W
                      rw [p0] at k0
                      have C0 := Aside0.mk k0
                      clear k0
                      have HW := Aside0.mk (HBD.out (by simp [recR, p0]))
                      clear p0
                      go_wp2_with (fail)
                      refine (C0.out _).mono ?_
                      rintro e w' ⟨rfl, rfl⟩
                      go_wp2
                      go_ret
                      exact ⟨by rw [HW.out]; rfl, HBA2.out⟩
                    | true =>
                      have k0 := fun W => in23_any s0 0 23 W
                      rw [p0] at k0
                      have C0 := Aside0.mk k0
                      clear k0
                      have P0 := Aside0.mk p0
                      clear p0
                      cases p1 : inR s1 0 ((l.sees.length : Int) - 1) with
                      | false =>
                        have k1 := fun W => in23_any s1 0 ((l.sees.length : Int) - 1) W
                        rw [p1] at k1
                        have C1 := Aside0.mk k1
                        clear k1
                        have HW := Aside0.mk (HBD.out (by simp [recR, P0.out, p1]))
                        clear p1
                        go_wp2_with (fail)
                        refine (C0.out _).mono ?_
                        rintro e w' ⟨rfl, rfl⟩
                        go_wp2_with (fail)
                        refine (C1.out _).mono ?_
                        rintro e w' ⟨rfl, rfl⟩
                        go_wp2
                        go_ret
                        exact ⟨by rw [HW.out]; rfl, HBA2.out⟩
                      | true =>
                        have k1 := fun W => in23_any s1 0 ((l.sees.length : Int) - 1) W
                        rw [p1] at k1
                        have C1 := Aside0.mk k1
                        clear k1
                        have P1 := Aside0.mk p1
                        clear p1
                        by_cases p2 : sfE rd_ = 0
                        · have k2 := fun W => signsFault98_any rd_ W
                          rw [p2] at k2
                          have C2 := Aside0.mk k2
                          have HW := Aside0.mk (HGD.out (by simp [recR, P0.out, P1.out, p2]))
                          clear k2 p2
                          go_wp2_with (fail)
                          refine (C0.out _).mono ?_
                          rintro e w' ⟨rfl, rfl⟩
                          go_wp2_with (fail)
                          refine (C1.out _).mono ?_
                          rintro e w' ⟨rfl, rfl⟩
                          go_wp2_with (fail)
                          refine (C2.out _).mono ?_
                          rintro e w' ⟨rfl, rfl⟩
                          go_wp2
                          go_roundg (l.rc.length - (i + 1))
                          case measure => omega
                          case rel => exact ⟨i + 1, by omega, by omega, by go_num, HW, ⟨HBA.out⟩⟩
                        · have C2 := Aside0.mk (fun W => signsFault98_any rd_ W)
                          have HW := Aside0.mk (HBD.out (by simp [recR, P0.out, P1.out, p2]))
                          have p2b : (sfE rd_ != 0) = true := by simpa using p2
                          have p2c := eq_false p2
                          clear p2
                          generalize sfE rd_ = E at *
                          go_wp2_with (fail)
                          refine (C0.out _).mono ?_
                          rintro e w' ⟨rfl, rfl⟩
                          go_wp2_with (fail)
                          refine (C1.out _).mono ?_
                          rintro e w' ⟨rfl, rfl⟩
                          go_wp2_with (fail)
                          refine (C2.out _).mono ?_
                          rintro e w' ⟨rfl, rfl⟩
                          go_wp2
                          go_ret
                          exact ⟨by rw [HW.out]; rfl, HBA2.out⟩
                  · have hi2 : i = l.rc.length := by omega
                    have HW := Aside0.mk (VG.out (good_all HE1.out H5.out (fun j hj => HSA.out j hj hj) (fun j hj => HJA.out j hj hj) (fun j hj => HI.out j (by omega) hj)))
                    clear HI
                    subst hi2
                    have hltz : ¬ (l.rc.length : Int) < (l.rc.length : Int) := by omega
                    go_wp2
                    go_ret
                    exact ⟨by rw [HW.out]; rfl, BWR.out⟩
  · have HW := Aside0.mk (HV.out.trans (logE_code hov h4))
    have z4 : (codeE l.ls != 0) = true := by simpa using h4
    have z4b := eq_false h4
    clear h4 hov h1 h2 h3
    generalize codeE l.ls = E at *
    go_enter Tryz.func66, Tryz.ntmps66
    go_wp2_with (fail)
    refine HCD.out.mono ?_
    rintro e w1 ⟨rfl, hb1⟩
    have BW := Aside0.mk (below_next HB.out hb1)
    clear hb1
    go_wp2
    go_ret
    exact ⟨by rw [HW.out]; rfl, BW.out⟩
end Go.Proofs.YthgfhgjlilmieaaGreat.G
namespace Go.Proofs.YthgfhgjlilmieaaGreat.G
open Go.RowKit Go.Shelf Go.Proofs.YthgfhgjlilmieaaGreatW.PrintWords Go.Proofs.YthgfhgjlilmieaaGreatW.PrintLast Go.Proofs.YthgfhgjlilmieaaGreatW.PrintMore
open Go.Proofs.YthgfhgjlilmieaaGreat.B
set_option linter.unusedVariables false
set_option linter.unusedSimpArgs false
def SomeB (Q : Bool → Prop) (w : World) (e : Ending) (w' : World) : Prop := ∃ b, e = .returned (.bool b) ∧ Q b ∧ Below w.heap.size w w'
def Q53 (n : Nat) (b : Bool) : Prop := b = true → n ≤ 9
set_option maxRecDepth 100000 in
set_option maxHeartbeats 4000000 in
theorem thin53_any (A : Option Addr) (c : Nat) (ls : List ByteArray) (w : World) (hr : Kd.C Kd.string w A ls.length ls) : Calls Tryz.prog 53 #[.agg #[.slice A ls.length c], .string ⟨#[]⟩] w (SomeB (Q53 ls.length) w) := by
  have hu := Tryz.underlying24
  have hmax : (ls.length : Int) ≤ 9223372036854775807 := by have := hr.2.1; omega
  have hb : Below w.heap.size w (w.alloc (.cells #[.slice A ls.length c] 24)) := (Below.refl _ w).alloc (Nat.le_refl _) _
  have HR := Aside0.mk (Kd.C_below hr hb)
  have HB := Aside0.mk hb
  clear hr hb
  go_enter Tryz.func53, Tryz.ntmps53
  go_wp2
  go_loopg [5] ls.length (fun gg v5 wr => ∃ i : Nat, i ≤ ls.length ∧ i ≤ 10 ∧ ls.length - i ≤ gg ∧ v5 = .int .i64 i ∧ wr = w.alloc (.cells #[.slice A ls.length c] 24))
  case atStart => exact ⟨0, by omega, by omega, by omega, by go_num, rfl⟩
  case round =>
    obtain ⟨i, hi, hi10, hg, rfl, rfl⟩ := hrel
    have hfin : ∀ b : Bool, b = decide (ls.length ≤ 9) → SomeB (Q53 ls.length) w (.returned (.bool b)) (w.alloc (.cells #[.slice A ls.length c] 24)) := fun b hb => ⟨b, rfl, fun h => by rw [hb] at h; exact of_decide_eq_true h, HB.out⟩
    have HFIN := Aside0.mk hfin
    clear hfin
    by_cases h9 : ls.length ≤ 9
    · have h9z : (ls.length : Int) ≤ 9 := by omega
      by_cases hlt : i < ls.length
      · have hltz : (i : Int) < (ls.length : Int) := by omega
        have h10z : (i : Int) < 10 := by omega
        obtain ⟨ax, e1, cx⟩ := Kd.at_string HR.out (i : Int) (by omega) hltz
        cases e1
        rw [Int.toNat_natCast] at cx
        generalize rdOf ByteArray.empty ls (i : Int) = S at *
        by_cases hs : S.size ≤ 9
        · have hsz : ¬ (S.size : Int) > 9 := by omega
          go_wp2
          go_roundg (ls.length - (i + 1))
          case measure => omega
          case rel => exact ⟨i + 1, by omega, by omega, by omega, by go_num, rfl⟩
        · have hsz : (S.size : Int) > 9 := by omega
          go_wp2
          go_ret
          exact ⟨false, rfl, (fun h => by cases h), HB.out⟩
      · have hi2 : i = ls.length := by omega
        subst hi2
        have hltz : ¬ (ls.length : Int) < (ls.length : Int) := by omega
        go_wp2
        go_ret
        exact HFIN.out true (by simp [h9])
    · have h9z : ¬ (ls.length : Int) ≤ 9 := by omega
      by_cases hlt : i < 10
      · have hltn : i < ls.length := by omega
        have hltz : (i : Int) < (ls.length : Int) := by omega
        have h10z : (i : Int) < 10 := by omega
        obtain ⟨ax, e1, cx⟩ := Kd.at_string HR.out (i : Int) (by omega) hltz
        cases e1
        rw [Int.toNat_natCast] at cx
        generalize rdOf ByteArray.empty ls (i : Int) = S at *
        by_cases hs : S.size ≤ 9
        · have hsz : ¬ (S.size : Int) > 9 := by omega
          go_wp2
          go_roundg (ls.length - (i + 1))
          case measure => omega
          case rel => exact ⟨i + 1, by omega, by omega, by omega, by go_num, rfl⟩
        · have hsz : (S.size : Int) > 9 := by omega
          go_wp2
          go_ret
          exact ⟨false, rfl, (fun h => by cases h), HB.out⟩
      · have hi2 : i = 10 := by omega
        subst hi2
        have h10z : ¬ ((10 : Nat) : Int) < 10 := by omega
        by_cases h10 : ls.length ≤ 10
        · have hltz : ¬ ((10 : Nat) : Int) < (ls.length : Int) := by omega
          go_wp2
          go_ret
          exact HFIN.out false (by simp [h9])
        · have hltz : ((10 : Nat) : Int) < (ls.length : Int) := by omega
          go_wp2
          go_ret
          exact HFIN.out false (by simp [h9])
structure ThinOk (l : Lg) : Prop where
  ls : l.ls.length ≤ 9
  sees : l.sees.length ≤ 7
  jn : l.jn.length ≤ 11
  rc : l.rc.length ≤ 9
  tx : ∀ (j : Nat) (hj : j < l.jn.length), (l.jn[j]).f2.length ≤ 9
def Q17 (l : Lg) (b : Bool) : Prop := b = true → ThinOk l
theorem fault22_any (a : LV) (l : Lg) (w : World) (hL : LogAt w a l) : Calls Tryz.prog 22 #[logV a l] w fun e w' => e = .returned (.int .i64 (logE l)) ∧ Below w.heap.size w w' := by
  have hu := Tryz.underlying29
  have hb : Below w.heap.size w (w.alloc (logD a l)) := (Below.refl _ w).alloc (Nat.le_refl _) _
  have hf := fault66_any a l _ (hL.below hb)
  have HF := Aside0.mk hf
  have HB := Aside0.mk hb
  obtain ⟨A0, A2, A3, A4, c0, c2, c3, c4⟩ := a
  dsimp only [logV] at *
  clear hL hb hf
  generalize logE l = E at *
  go_enter Tryz.func22, Tryz.ntmps22
  go_wp2_with (fail)
  refine HF.out.mono ?_
  rintro e w1 ⟨rfl, hb1⟩
  have BW := Aside0.mk (below_next HB.out hb1)
  clear hb1
  go_wp2
  go_ret
  exact ⟨rfl, BW.out⟩
set_option maxRecDepth 100000 in
set_option maxHeartbeats 4000000 in
theorem thin17_any (a : LV) (l : Lg) (w : World) (hL : LogAt w a l) : Calls Tryz.prog 17 #[logV a l] w (SomeB (Q17 l) w) := by
  have hu := Tryz.underlying29
  have hu1 := Tryz.underlying69
  have hu2 := Tryz.underlying61
  have hu3 := Tryz.underlying24
  have hb : Below w.heap.size w (w.alloc (logD a l)) := (Below.refl _ w).alloc (Nat.le_refl _) _
  have h0 := thin53_any a.A0 a.c0 l.ls _ (hL.below hb).h0
  have H0 := Aside0.mk h0
  have HL := Aside0.mk hL
  have HB := Aside0.mk hb
  obtain ⟨A0, A2, A3, A4, c0, c2, c3, c4⟩ := a
  dsimp only [logV] at *
  clear hL hb h0
  by_cases q1 : l.sees.length ≤ 7
  · have q1z : ¬ (l.sees.length : Int) > 7 := by omega
    by_cases q2 : l.jn.length ≤ 11
    · have q2z : ¬ (l.jn.length : Int) > 11 := by omega
      by_cases q3 : l.rc.length ≤ 9
      · have q3z : ¬ (l.rc.length : Int) > 9 := by omega
        go_enter Tryz.func17, Tryz.ntmps17
        go_wp2_with (fail)
        refine H0.out.mono ?_
        rintro e w1 ⟨b, rfl, hq, hb1⟩
        have BW := Aside0.mk (below_next HB.out hb1)
        have b0 : w1.cell? ⟨w.heap.size, 2, none⟩ = some (.slice A2 l.sees.length c2) := (hb1.cell (p := ⟨w.heap.size, 2, none⟩) (by simp)).trans (cell_new _ _ _ 2)
        have b3 : w1.cell? ⟨w.heap.size, 3, none⟩ = some (.slice A3 l.jn.length c3) := (hb1.cell (p := ⟨w.heap.size, 3, none⟩) (by simp)).trans (cell_new _ _ _ 3)
        have b4 : w1.cell? ⟨w.heap.size, 4, none⟩ = some (.slice A4 l.rc.length c4) := (hb1.cell (p := ⟨w.heap.size, 4, none⟩) (by simp)).trans (cell_new _ _ _ 4)
        have HQ := Aside0.mk hq
        clear hq hb1
        cases b with
        | false =>
          go_wp2
          go_ret
          exact ⟨false, rfl, (fun h => by cases h), BW.out⟩
        | true =>
          have HLS := Aside0.mk (HQ.out rfl)
          go_wp2
          go_loopg [3] l.jn.length (fun gg v3 wr => ∃ i : Nat, i ≤ l.jn.length ∧ l.jn.length - i ≤ gg ∧ v3 = .int .i64 i ∧ Aside0 (∀ j, j < i → ∀ hj : j < l.jn.length, (l.jn[j]'hj).f2.length ≤ 9) ∧ w1 = wr)
          case atStart => exact ⟨0, by omega, by omega, by go_num, ⟨fun j hj => by omega⟩, rfl⟩
          case round =>
            obtain ⟨i, hi, hg, rfl, HI, rfl⟩ := hrel
            by_cases hlt : i < l.jn.length
            · have hltz : (i : Int) < (l.jn.length : Int) := by omega
              obtain ⟨aj, A5, c5, e1, y0, y1, y2, l5, g5⟩ := at_T76 (HL.out.below BW.out).h3 (i : Int) (by omega) hltz
              dsimp only at e1
              cases e1
              rw [rd76_get l i hlt] at y0 y1 y2 l5 g5
              rw [Int.toNat_natCast] at y0 y1 y2
              have hmx : ((l.jn[i]).f2.length : Int) ≤ 9223372036854775807 := by have := g5.2.1; omega
              have HN := Aside0.mk (fun (h : (l.jn[i]).f2.length ≤ 9) => snoc_all (p := fun j => ∀ hj : j < l.jn.length, (l.jn[j]'hj).f2.length ≤ 9) HI.out (fun _ => h))
              clear g5
              generalize l.jn[i] = s at *
              obtain ⟨s0, s1, tx⟩ := s
              dsimp only at *
              by_cases ht : tx.length ≤ 9
              · have htz : ¬ (tx.length : Int) > 9 := by omega
                have HY := Aside0.mk (HN.out ht)
                go_wp2
                go_roundg (l.jn.length - (i + 1))
                case measure => omega
                case rel => exact ⟨i + 1, by omega, by omega, by go_num, HY, rfl⟩
              · have htz : (tx.length : Int) > 9 := by omega
                go_wp2
                go_ret
                exact ⟨false, rfl, (fun h => by cases h), BW.out⟩
            · have hi2 : i = l.jn.length := by omega
              have HJA := HI
              rw [hi2] at HJA
              clear HI
              subst hi2
              have hltz : ¬ (l.jn.length : Int) < (l.jn.length : Int) := by omega
              go_wp2
              go_loopg [4] l.rc.length (fun gg v4 wr => ∃ i : Nat, i ≤ l.rc.length ∧ l.rc.length - i ≤ gg ∧ v4 = .int .i64 i ∧ w1 = wr)
              case atStart => exact ⟨0, by omega, by omega, by go_num, rfl⟩
              case round =>
                obtain ⟨i, hi, hg, rfl, rfl⟩ := hrel
                by_cases hlt : i < l.rc.length
                · have hltz : (i : Int) < (l.rc.length : Int) := by omega
                  obtain ⟨ar, e1, y0, y1, y2⟩ := at_T75 (HL.out.below BW.out).h4 (i : Int) (by omega) hltz
                  cases e1
                  rw [rd75_get l i hlt] at y0 y1 y2
                  rw [Int.toNat_natCast] at y0 y1 y2
                  generalize l.rc[i] = s at *
                  obtain ⟨s0, s1, rd_⟩ := s
                  dsimp only at *
                  by_cases ht : rd_.size ≤ 60
                  · have htz : ¬ (rd_.size : Int) > 60 := by omega
                    go_wp2
                    go_roundg (l.rc.length - (i + 1))
                    case measure => omega
                    case rel => exact ⟨i + 1, by omega, by omega, by go_num, rfl⟩
                  · have htz : (rd_.size : Int) > 60 := by omega
                    go_wp2
                    go_ret
                    exact ⟨false, rfl, (fun h => by cases h), BW.out⟩
                · have hi2 : i = l.rc.length := by omega
                  subst hi2
                  have hltz : ¬ (l.rc.length : Int) < (l.rc.length : Int) := by omega
                  go_wp2
                  go_ret
                  exact ⟨true, rfl, (fun _ => ⟨HLS.out, q1, q2, q3, fun j hj => HJA.out j hj hj⟩), BW.out⟩
      · have q3z : (l.rc.length : Int) > 9 := by omega
        go_enter Tryz.func17, Tryz.ntmps17
        go_wp2_with (fail)
        refine H0.out.mono ?_
        rintro e w1 ⟨b, rfl, hq, hb1⟩
        have BW := Aside0.mk (below_next HB.out hb1)
        have b2 : w1.cell? ⟨w.heap.size, 2, none⟩ = some (.slice A2 l.sees.length c2) := (hb1.cell (p := ⟨w.heap.size, 2, none⟩) (by simp)).trans (cell_new _ _ _ 2)
        have b3 : w1.cell? ⟨w.heap.size, 3, none⟩ = some (.slice A3 l.jn.length c3) := (hb1.cell (p := ⟨w.heap.size, 3, none⟩) (by simp)).trans (cell_new _ _ _ 3)
        have b4 : w1.cell? ⟨w.heap.size, 4, none⟩ = some (.slice A4 l.rc.length c4) := (hb1.cell (p := ⟨w.heap.size, 4, none⟩) (by simp)).trans (cell_new _ _ _ 4)
        clear hq hb1
        cases b with
        | false =>
          go_wp2
          go_ret
          exact ⟨false, rfl, (fun h => by cases h), BW.out⟩
        | true =>
          go_wp2
          all_goals
            go_ret
            exact ⟨false, rfl, (fun h => by cases h), BW.out⟩
    · have q2z : (l.jn.length : Int) > 11 := by omega
      go_enter Tryz.func17, Tryz.ntmps17
      go_wp2_with (fail)
      refine H0.out.mono ?_
      rintro e w1 ⟨b, rfl, hq, hb1⟩
      have BW := Aside0.mk (below_next HB.out hb1)
      have b2 : w1.cell? ⟨w.heap.size, 2, none⟩ = some (.slice A2 l.sees.length c2) := (hb1.cell (p := ⟨w.heap.size, 2, none⟩) (by simp)).trans (cell_new _ _ _ 2)
      have b3 : w1.cell? ⟨w.heap.size, 3, none⟩ = some (.slice A3 l.jn.length c3) := (hb1.cell (p := ⟨w.heap.size, 3, none⟩) (by simp)).trans (cell_new _ _ _ 3)
      have b4 : w1.cell? ⟨w.heap.size, 4, none⟩ = some (.slice A4 l.rc.length c4) := (hb1.cell (p := ⟨w.heap.size, 4, none⟩) (by simp)).trans (cell_new _ _ _ 4)
      clear hq hb1
      cases b with
      | false =>
        go_wp2
        go_ret
        exact ⟨false, rfl, (fun h => by cases h), BW.out⟩
      | true =>
        go_wp2
        all_goals
          go_ret
          exact ⟨false, rfl, (fun h => by cases h), BW.out⟩
  · have q1z : (l.sees.length : Int) > 7 := by omega
    go_enter Tryz.func17, Tryz.ntmps17
    go_wp2_with (fail)
    refine H0.out.mono ?_
    rintro e w1 ⟨b, rfl, hq, hb1⟩
    have BW := Aside0.mk (below_next HB.out hb1)
    have b2 : w1.cell? ⟨w.heap.size, 2, none⟩ = some (.slice A2 l.sees.length c2) := (hb1.cell (p := ⟨w.heap.size, 2, none⟩) (by simp)).trans (cell_new _ _ _ 2)
    have b3 : w1.cell? ⟨w.heap.size, 3, none⟩ = some (.slice A3 l.jn.length c3) := (hb1.cell (p := ⟨w.heap.size, 3, none⟩) (by simp)).trans (cell_new _ _ _ 3)
    have b4 : w1.cell? ⟨w.heap.size, 4, none⟩ = some (.slice A4 l.rc.length c4) := (hb1.cell (p := ⟨w.heap.size, 4, none⟩) (by simp)).trans (cell_new _ _ _ 4)
    clear hq hb1
    cases b with
    | false =>
      go_wp2
      go_ret
      exact ⟨false, rfl, (fun h => by cases h), BW.out⟩
    | true =>
      go_wp2
      all_goals
        go_ret
        exact ⟨false, rfl, (fun h => by cases h), BW.out⟩
end Go.Proofs.YthgfhgjlilmieaaGreat.G
