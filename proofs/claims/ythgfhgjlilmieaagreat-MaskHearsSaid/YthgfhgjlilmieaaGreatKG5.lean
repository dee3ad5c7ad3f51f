/- texts of this claim, merged by a program of this session out of its own texts and the print's words -/
import Derived.ChangeSame
import Derived.ChangeSlices
import Derived.Deep.DeepCutAuto
import Derived.Deep.Fields
import Derived.Deep.Slices
import Derived.Lib.SmallJoins
import Derived.SizedLaws
import Derived.SliceStrings
import Derived.Test.YthgfhgjlilmieaaGreatKG0
import Derived.Test.YthgfhgjlilmieaaGreatKG1
import Derived.Test.YthgfhgjlilmieaaGreatKG2
import Derived.Test.YthgfhgjlilmieaaGreatKG3
import Derived.Test.YthgfhgjlilmieaaGreatKG4
namespace Go.Proofs.YthgfhgjlilmieaaGreat.B
open Go.RowKit Go.Proofs.YthgfhgjlilmieaaGreatW.PrintWords Go.Proofs.YthgfhgjlilmieaaGreatW.PrintLast Go.Proofs.YthgfhgjlilmieaaGreatW.PrintMore
attribute [local go_sem] max2_int min2_int max_two min_two max_three min_three max_four min_four
set_option linter.unusedVariables false
set_option linter.unusedSimpArgs false
def r6CanSend.l0 : Nat → List Int → Int → Int → List ByteArray → Int → List Int → List (S69) → List (S61) → Option (Bool)
 | 0, _, _, _, _, _, _, _, _ => none
 | k + 1, x1, x2, x7, x316000, x316001, x316002, x316003, x316004 => if x7 < (x316003.length : Int) then (if 0 ≤ x7 then (if 0 ≤ ((rd_T69 x316003 x7).f1) then (if ((rd_T69 x316003 x7).f1) < (x316002.length : Int) then (if (rd x316002 ((rd_T69 x316003 x7).f1)) ≥ 0 then (if (rd x316002 ((rd_T69 x316003 x7).f1)) ≤ ((rd_T69 x316003 x7).f0) then (if ((rd_T69 x316003 x7).f0) < x2 then ((r6IsPart.f k x1 ((rd_T69 x316003 x7).f2)).bind fun t319 => (if t319 = true then (some true) else (r6CanSend.l0 k x1 x2 (wrap64 (x7 + 1)) x316000 x316001 x316002 x316003 x316004))) else (r6CanSend.l0 k x1 x2 (wrap64 (x7 + 1)) x316000 x316001 x316002 x316003 x316004)) else (r6CanSend.l0 k x1 x2 (wrap64 (x7 + 1)) x316000 x316001 x316002 x316003 x316004)) else (r6CanSend.l0 k x1 x2 (wrap64 (x7 + 1)) x316000 x316001 x316002 x316003 x316004)) else (none)) else (none)) else (none)) else (some false)
def r6CanSend.f (k : Nat) (l0_0 : List ByteArray) (a0_1 : Int) (l0_2 : List Int) (l0_3 : List (S69)) (l0_4 : List (S61)) (l1 : List Int) (a2 : Int) : Option (Bool) := r6CanSend.l0 k l1 a2 0 l0_0 a0_1 l0_2 l0_3 l0_4
set_option maxHeartbeats 8000000 in
set_option maxRecDepth 100000 in
theorem r6CanSend.calls (k : Nat) (A0_0 : Option Addr) (c0_0 : Nat) (l0_0 : List ByteArray) (a0_1 : Int) (A0_2 : Option Addr) (c0_2 : Nat) (l0_2 : List Int) (A0_3 : Option Addr) (c0_3 : Nat) (l0_3 : List (S69)) (A0_4 : Option Addr) (c0_4 : Nat) (l0_4 : List (S61)) (A1 : Option Addr) (c1 : Nat) (l1 : List Int) (a2 : Int) (r : Bool) (w : World) (hr0_0 : Kd.C Kd.string w A0_0 l0_0.length l0_0) (hc0_0 : l0_0.length ≤ c0_0) (hr0_2 : Kd.C (Kd.int .i64) w A0_2 l0_2.length l0_2) (hc0_2 : l0_2.length ≤ c0_2) (hr0_3 : Kd.C k69 w A0_3 l0_3.length l0_3) (hc0_3 : l0_3.length ≤ c0_3) (hr0_4 : Kd.C k61 w A0_4 l0_4.length l0_4) (hc0_4 : l0_4.length ≤ c0_4) (hr1 : Kd.C (Kd.int .i64) w A1 l1.length l1) (hc1 : l1.length ≤ c1) (h : r6CanSend.f k l0_0 a0_1 l0_2 l0_3 l0_4 l1 a2 = some r) :
 Calls Tryz.prog 70 #[.agg #[.slice A0_0 l0_0.length c0_0, .int .i64 a0_1, .slice A0_2 l0_2.length c0_2, .slice A0_3 l0_3.length c0_3, .slice A0_4 l0_4.length c0_4], .slice A1 l1.length c1, .int .i64 a2] w fun e w' => e = .returned (.bool r) ∧ Below w.heap.size w w' := by
 have hu29 := Tryz.underlying29
 have hu69 := Tryz.underlying69
 have HR0_0 := Am hr0_0
 have HC0_0 := Am hc0_0
 clear hr0_0 hc0_0
 have HR0_2 := Am hr0_2
 have HC0_2 := Am hc0_2
 clear hr0_2 hc0_2
 have HR0_3 := Am hr0_3
 have HC0_3 := Am hc0_3
 clear hr0_3 hc0_3
 have HR0_4 := Am hr0_4
 have HC0_4 := Am hc0_4
 clear hr0_4 hc0_4
 have HR1 := Am hr1
 have HC1 := Am hc1
 clear hr1 hc1
 have HB := Am (Below.refl w.heap.size w)
 have H : (r6CanSend.l0 k l1 a2 0 l0_0 a0_1 l0_2 l0_3 l0_4) = some r := h
 clear h
 have H' := Am H
 clear H
 go_enter Tryz.func70, Tryz.ntmps70
 go_wp2_with (first | ((with_reducible refine gate_dst (N := 3) rfl ?_); refine box_event ?hg (N := 3) ?hd (cs := #[.slice A0_0 l0_0.length c0_0, .int .i64 a0_1, .slice A0_2 l0_2.length c0_2, .slice A0_3 l0_3.length c0_3, .slice A0_4 l0_4.length c0_4]) (t := 29) ?hr ?_; (case hd => rfl); (case hg => rfl); (case hr => first | (go_simp; done) | (go_simp; rfl)); intro gb315 hg w4 hbox hb; have n0_ := Am (pT_ (by repeat (first | (with_reducible first | exact HB.out | apply pA_ | apply pN_ | apply pD_) | exact HB.out)) hb); have n1_ := Am (hbox); have n2_ := Am ((by rw [hg]; exact (pZ_ (by repeat (first | (with_reducible first | exact HB.out | apply pA_ | apply pN_ | apply pD_) | exact HB.out))) : w.heap.size ≤ gb315)); have n3_ := Am ((by rw [hg]; exact (pZ_ (by repeat (first | (with_reducible first | exact HB.out | apply pA_ | apply pN_ | apply pD_) | exact HB.out))) : w.heap.size ≤ gb315)); clear HB; have HB := n0_; have BK315 := n1_; have GW315 := n2_; have GE315 := n3_; clear n0_ n1_ n2_ n3_; clear hb hbox hg))
 go_loopg [7] k (fun kq v7 w' => ∃ (x7_1 : Int), v7 = .int .i64 x7_1 ∧ Aside0 (r6CanSend.l0 kq l1 a2 x7_1 l0_0 a0_1 l0_2 l0_3 l0_4 = some r) ∧ Aside0 (kq ≤ k) ∧ Aside0 (w'.heap[gb315]? = some (.cells #[(.slice A0_0 l0_0.length c0_0), .int .i64 a0_1, (.slice A0_2 l0_2.length c0_2), (.slice A0_3 l0_3.length c0_3), (.slice A0_4 l0_4.length c0_4)] 29 (0, 0))) ∧ Aside0 (Below w.heap.size w w'))
 case atStart => exact ⟨(0), (by first | rfl | (simp; done) | (simp [*]; done)), H', ⟨Nat.le_refl _⟩, ⟨by (with_reducible repeat (first | refine bN_ ?_ _ | refine bD_ ?_ | refine bA_ ?_ _)); exact BK315.out⟩, ⟨by repeat (first | (with_reducible first | exact HB.out | apply pA_ | apply pN_ | apply pD_ | refine pS_ ?_ GE315.out) | exact HB.out)⟩⟩
 case round =>
  clear H'
  try clear c1
  try clear p2
  obtain ⟨x7_1, rfl, HA, HK1, BK315, HB⟩ := hrel
  cases gk with
  | zero => exact absurd HA.out (by simp [r6CanSend.l0])
  | succ k1 =>
   have H := HA.out
   clear HA
   simp only [r6CanSend.l0] at H
   by_cases c5 : x7_1 < (l0_3.length : Int)
   ·rw [if_pos c5] at H
    have c5b0 : decide (x7_1 < (l0_3.length : Int)) = true := decide_eq_true c5
    clear c5
    by_cases c6 : 0 ≤ x7_1
    ·rw [if_pos c6] at H
     have c6b0 : decide (0 ≤ x7_1) = true := decide_eq_true c6
     clear c6
     by_cases c7 : 0 ≤ ((rd_T69 l0_3 x7_1).f1)
     ·rw [if_pos c7] at H
      have c7b0 : decide (0 ≤ ((rd_T69 l0_3 x7_1).f1)) = true := decide_eq_true c7
      clear c7
      by_cases c8 : ((rd_T69 l0_3 x7_1).f1) < (l0_2.length : Int)
      ·rw [if_pos c8] at H
       have c8b0 : decide (((rd_T69 l0_3 x7_1).f1) < (l0_2.length : Int)) = true := decide_eq_true c8
       clear c8
       by_cases c9 : (rd l0_2 ((rd_T69 l0_3 x7_1).f1)) ≥ 0
       ·rw [if_pos c9] at H
        have c9b0 : decide (0 ≤ (rd l0_2 ((rd_T69 l0_3 x7_1).f1))) = true := decide_eq_true c9
        clear c9
        by_cases c10 : (rd l0_2 ((rd_T69 l0_3 x7_1).f1)) ≤ ((rd_T69 l0_3 x7_1).f0)
        ·rw [if_pos c10] at H
         have c10b0 : decide ((rd l0_2 ((rd_T69 l0_3 x7_1).f1)) ≤ ((rd_T69 l0_3 x7_1).f0)) = true := decide_eq_true c10
         clear c10
         by_cases c11 : ((rd_T69 l0_3 x7_1).f0) < a2
         ·rw [if_pos c11] at H
          have c11b0 : decide (((rd_T69 l0_3 x7_1).f0) < a2) = true := decide_eq_true c11
          clear c11
          replace H := Option.bind_eq_some_iff.mp H
          obtain ⟨t319, A120, H⟩ := H
          replace H : (if t319 = true then (some true) else (r6CanSend.l0 k1 l1 a2 (wrap64 (x7_1 + 1)) l0_0 a0_1 l0_2 l0_3 l0_4)) = some r := H
          have A12 := Am A120
          clear A120
          by_cases c13 : t319 = true
          ·subst c13
           have H1 : (some true) = some r := by rw [if_pos rfl] at H; exact H
           clear H
           have H := H1
           clear H1
           obtain rfl := Option.some.inj H
           have hcz14_0 : wr.cell? ⟨gb315, 0, none⟩ = some (.slice A0_0 l0_0.length c0_0) := (bC_ BK315.out 0).trans rfl
           have hcz14_1 : wr.cell? ⟨gb315, 1, none⟩ = some (.int .i64 a0_1) := (bC_ BK315.out 1).trans rfl
           have hcz14_2 : wr.cell? ⟨gb315, 2, none⟩ = some (.slice A0_2 l0_2.length c0_2) := (bC_ BK315.out 2).trans rfl
           have hcz14_3 : wr.cell? ⟨gb315, 3, none⟩ = some (.slice A0_3 l0_3.length c0_3) := (bC_ BK315.out 3).trans rfl
           have hcz14_4 : wr.cell? ⟨gb315, 4, none⟩ = some (.slice A0_4 l0_4.length c0_4) := (bC_ BK315.out 4).trans rfl
           have hfz14_0 := bF_ BK315.out 0
           have hfz14_1 := bF_ BK315.out 1
           have hfz14_2 := bF_ BK315.out 2
           have hfz14_3 := bF_ BK315.out 3
           have hfz14_4 := bF_ BK315.out 4
           have p316 : 0 ≤ (x7_1 : Int) := of_decide_eq_true (by first | (with_reducible assumption) | assumption)
           have q316 : x7_1 < (l0_3.length : Int) := of_decide_eq_true (by first | (with_reducible assumption) | assumption)
           obtain ⟨ad316, A316_2, c316_2, e316, hx316_0, hx316_1, hx316_2, hl316_2, hi316_2⟩ := at_T69 HR0_3.out x7_1 p316 q316
           cases e316
           replace hx316_0 := (HB.out.cell (World.block_lt_of_cell? w _ hx316_0)).trans hx316_0
           replace hx316_1 := (HB.out.cell (World.block_lt_of_cell? w _ hx316_1)).trans hx316_1
           replace hx316_2 := (HB.out.cell (World.block_lt_of_cell? w _ hx316_2)).trans hx316_2
           have HR316_2 := Am hi316_2
           have HC316_2 := Am hl316_2
           clear hi316_2 hl316_2
           replace p316 := eq_true p316
           replace q316 := eq_true q316
           go_wp2_with (first | ((with_reducible refine gate_dst (N := 8) rfl ?_); refine box_event ?hg (N := 8) ?hd (cs := #[.int .i64 0, .int .i64 0, .slice none 0 0]) (t := 69) ?hr ?_; (case hd => rfl); (case hg => rfl); (case hr => first | (go_simp; done) | (go_simp; rfl)); intro gb317 hg w15 hbox hb; have n0_ := Am (blk_below (g := gb315) (o := .cells #[.slice A0_0 l0_0.length c0_0, .int .i64 a0_1, .slice A0_2 l0_2.length c0_2, .slice (some ad316) l0_3.length c0_3, .slice A0_4 l0_4.length c0_4] 29 (0, 0)) (by (with_reducible repeat (first | refine bN_ ?_ _ | refine bD_ ?_ | refine bA_ ?_ _)); exact BK315.out) hb); have n1_ := Am (pT_ (by repeat (first | (with_reducible first | exact HB.out | apply pA_ | apply pN_ | apply pD_ | refine pS_ ?_ GE315.out) | exact HB.out)) hb); have n2_ := Am (hbox); have n3_ := Am ((by rw [hg]; exact (pZ_ (by repeat (first | (with_reducible first | exact HB.out | apply pA_ | apply pN_ | apply pD_ | refine pS_ ?_ GE315.out) | exact HB.out))) : w.heap.size ≤ gb317)); have n4_ := Am ((by rw [hg]; exact (pZ_ (by repeat (first | (with_reducible first | exact HB.out | apply pA_ | apply pN_ | apply pD_ | refine pS_ ?_ GE315.out) | exact HB.out))) : w.heap.size ≤ gb317)); have n5_ := Am ((by rw [hg]; exact Nat.ne_of_lt (blk_lt (g := gb315) (o := .cells #[.slice A0_0 l0_0.length c0_0, .int .i64 a0_1, .slice A0_2 l0_2.length c0_2, .slice (some ad316) l0_3.length c0_3, .slice A0_4 l0_4.length c0_4] 29 (0, 0)) (by (with_reducible repeat (first | refine bN_ ?_ _ | refine bD_ ?_ | refine bA_ ?_ _)); exact BK315.out)) : gb315 ≠ gb317)); have n6_ := Am ((by rw [hg]; exact Nat.ne_of_gt (blk_lt (g := gb315) (o := .cells #[.slice A0_0 l0_0.length c0_0, .int .i64 a0_1, .slice A0_2 l0_2.length c0_2, .slice (some ad316) l0_3.length c0_3, .slice A0_4 l0_4.length c0_4] 29 (0, 0)) (by (with_reducible repeat (first | refine bN_ ?_ _ | refine bD_ ?_ | refine bA_ ?_ _)); exact BK315.out)) : gb317 ≠ gb315)); clear BK315; clear HB; have BK315 := n0_; have HB := n1_; have BK317 := n2_; have GW317 := n3_; have GE317 := n4_; have NB315_317 := n5_; have NB317_315 := n6_; clear n0_ n1_ n2_ n3_ n4_ n5_ n6_; clear hb hbox hg; have hnb16 := NB317_315.out; have hnc16 := NB315_317.out; have hcz17_0 : w15.cell? ⟨gb317, 0, none⟩ = some (.int .i64 0) := (bC_ BK317.out 0).trans rfl; have hcz17_1 : w15.cell? ⟨gb317, 1, none⟩ = some (.int .i64 0) := (bC_ BK317.out 1).trans rfl; have hcz17_2 : w15.cell? ⟨gb317, 2, none⟩ = some (.slice none 0 0) := (bC_ BK317.out 2).trans rfl; have hfz17_0 := bF_ BK317.out 0; have hfz17_1 := bF_ BK317.out 1; have hfz17_2 := bF_ BK317.out 2; have hcz18_0 : w15.cell? ⟨gb315, 0, none⟩ = some (.slice A0_0 l0_0.length c0_0) := (bC_ BK315.out 0).trans rfl; have hcz18_1 : w15.cell? ⟨gb315, 1, none⟩ = some (.int .i64 a0_1) := (bC_ BK315.out 1).trans rfl; have hcz18_2 : w15.cell? ⟨gb315, 2, none⟩ = some (.slice A0_2 l0_2.length c0_2) := (bC_ BK315.out 2).trans rfl; have hcz18_3 : w15.cell? ⟨gb315, 3, none⟩ = some (.slice (some ad316) l0_3.length c0_3) := (bC_ BK315.out 3).trans rfl; have hcz18_4 : w15.cell? ⟨gb315, 4, none⟩ = some (.slice A0_4 l0_4.length c0_4) := (bC_ BK315.out 4).trans rfl; have hfz18_0 := bF_ BK315.out 0; have hfz18_1 := bF_ BK315.out 1; have hfz18_2 := bF_ BK315.out 2; have hfz18_3 := bF_ BK315.out 3; have hfz18_4 := bF_ BK315.out 4; have p318 : 0 ≤ (((rd_T69 l0_3 x7_1).f1) : Int) := of_decide_eq_true (by first | (with_reducible assumption) | assumption); have q318 : ((rd_T69 l0_3 x7_1).f1) < (l0_2.length : Int) := of_decide_eq_true (by first | (with_reducible assumption) | assumption); obtain ⟨ad318, e318, hx318_0⟩ := Kd.at_int HR0_2.out ((rd_T69 l0_3 x7_1).f1) p318 q318; cases e318; have hn318_0 : ad318.block ≠ gb317 := Nat.ne_of_lt (Nat.lt_of_lt_of_le (by have := World.block_lt_of_cell? _ _ hx318_0; first | rwa [add_block] at this | exact this) GW317.out); have hn318_1 : ad318.block ≠ gb317 := Nat.ne_of_lt (Nat.lt_of_lt_of_le (by have := World.block_lt_of_cell? _ _ hx318_0; first | rwa [add_block] at this | exact this) GW317.out); have hn318_2 : ad318.block ≠ gb317 := Nat.ne_of_lt (Nat.lt_of_lt_of_le (by have := World.block_lt_of_cell? _ _ hx318_0; first | rwa [add_block] at this | exact this) GW317.out); replace hx318_0 := (HB.out.cell (World.block_lt_of_cell? w _ hx318_0)).trans hx318_0; replace hx318_0 := (cell_far (p := ⟨gb317, 0, none⟩) (by first | (rw [add_block]; exact hn318_0) | (show (Addr.add _ _).block ≠ _; rw [add_block]; exact hn318_0) | exact hn318_0) (.int .i64 ((rd_T69 l0_3 x7_1).f0))).trans hx318_0; replace hx318_0 := (cell_far (p := ⟨gb317, 1, none⟩) (by first | (rw [add_block]; exact hn318_1) | (show (Addr.add _ _).block ≠ _; rw [add_block]; exact hn318_1) | exact hn318_1) (.int .i64 ((rd_T69 l0_3 x7_1).f1))).trans hx318_0; replace hx318_0 := (cell_far (p := ⟨gb317, 2, none⟩) (by first | (rw [add_block]; exact hn318_2) | (show (Addr.add _ _).block ≠ _; rw [add_block]; exact hn318_2) | exact hn318_2) (.slice A316_2 ((rd_T69 l0_3 x7_1).f2).length c316_2)).trans hx318_0; clear hn318_0; clear hn318_1; clear hn318_2; replace p318 := eq_true p318; replace q318 := eq_true q318) | (go_at_call 44; (with_reducible refine (r6IsPart.calls k1 _ _ l1 _ _ ((rd_T69 l0_3 x7_1).f2) true _ ?side1 ?side2 ?side3 ?side4 A12.out).mono ?_); (case side1 => exact Kd.C_below HR1.out (by repeat (first | (with_reducible first | exact HB.out | apply pA_ | apply pN_ | apply pD_ | refine pS_ ?_ GE315.out | refine pS_ ?_ GE317.out) | exact HB.out))); (case side2 => exact HC1.out); (case side3 => exact Kd.C_below HR316_2.out (by repeat (first | (with_reducible first | exact HB.out | apply pA_ | apply pN_ | apply pD_ | refine pS_ ?_ GE315.out | refine pS_ ?_ GE317.out) | exact HB.out))); (case side4 => exact HC316_2.out); rintro e w' ⟨rfl, ⟨nd, rfl⟩⟩))
           go_ret
           exact ⟨by first | rfl | (simp [errW_none, errW_some] <;> rfl) | (simp [*, errW_none, errW_some] <;> rfl), by repeat (first | (with_reducible first | exact HB.out | apply pA_ | apply pN_ | apply pD_ | refine pS_ ?_ GE315.out | refine pS_ ?_ GE317.out) | exact HB.out)⟩
          ·replace c13 := Bool.eq_false_iff.mpr c13
           subst c13
           have H1 : (r6CanSend.l0 k1 l1 a2 (wrap64 (x7_1 + 1)) l0_0 a0_1 l0_2 l0_3 l0_4) = some r := by rw [if_neg (show ¬ (false = true) by decide)] at H; exact H
           clear H
           have H := H1
           clear H1
           have H' := Am H
           clear H
           have hcz19_0 : wr.cell? ⟨gb315, 0, none⟩ = some (.slice A0_0 l0_0.length c0_0) := (bC_ BK315.out 0).trans rfl
           have hcz19_1 : wr.cell? ⟨gb315, 1, none⟩ = some (.int .i64 a0_1) := (bC_ BK315.out 1).trans rfl
           have hcz19_2 : wr.cell? ⟨gb315, 2, none⟩ = some (.slice A0_2 l0_2.length c0_2) := (bC_ BK315.out 2).trans rfl
           have hcz19_3 : wr.cell? ⟨gb315, 3, none⟩ = some (.slice A0_3 l0_3.length c0_3) := (bC_ BK315.out 3).trans rfl
           have hcz19_4 : wr.cell? ⟨gb315, 4, none⟩ = some (.slice A0_4 l0_4.length c0_4) := (bC_ BK315.out 4).trans rfl
           have hfz19_0 := bF_ BK315.out 0
           have hfz19_1 := bF_ BK315.out 1
           have hfz19_2 := bF_ BK315.out 2
           have hfz19_3 := bF_ BK315.out 3
           have hfz19_4 := bF_ BK315.out 4
           have p316 : 0 ≤ (x7_1 : Int) := of_decide_eq_true (by first | (with_reducible assumption) | assumption)
           have q316 : x7_1 < (l0_3.length : Int) := of_decide_eq_true (by first | (with_reducible assumption) | assumption)
           obtain ⟨ad316, A316_2, c316_2, e316, hx316_0, hx316_1, hx316_2, hl316_2, hi316_2⟩ := at_T69 HR0_3.out x7_1 p316 q316
           cases e316
           replace hx316_0 := (HB.out.cell (World.block_lt_of_cell? w _ hx316_0)).trans hx316_0
           replace hx316_1 := (HB.out.cell (World.block_lt_of_cell? w _ hx316_1)).trans hx316_1
           replace hx316_2 := (HB.out.cell (World.block_lt_of_cell? w _ hx316_2)).trans hx316_2
           have HR316_2 := Am hi316_2
           have HC316_2 := Am hl316_2
           clear hi316_2 hl316_2
           replace p316 := eq_true p316
           replace q316 := eq_true q316
           go_wp2_with (first | ((with_reducible refine gate_dst (N := 8) rfl ?_); refine box_event ?hg (N := 8) ?hd (cs := #[.int .i64 0, .int .i64 0, .slice none 0 0]) (t := 69) ?hr ?_; (case hd => rfl); (case hg => rfl); (case hr => first | (go_simp; done) | (go_simp; rfl)); intro gb317 hg w20 hbox hb; have n0_ := Am (blk_below (g := gb315) (o := .cells #[.slice A0_0 l0_0.length c0_0, .int .i64 a0_1, .slice A0_2 l0_2.length c0_2, .slice (some ad316) l0_3.length c0_3, .slice A0_4 l0_4.length c0_4] 29 (0, 0)) (by (with_reducible repeat (first | refine bN_ ?_ _ | refine bD_ ?_ | refine bA_ ?_ _)); exact BK315.out) hb); have n1_ := Am (pT_ (by repeat (first | (with_reducible first | exact HB.out | apply pA_ | apply pN_ | apply pD_ | refine pS_ ?_ GE315.out) | exact HB.out)) hb); have n2_ := Am (hbox); have n3_ := Am ((by rw [hg]; exact (pZ_ (by repeat (first | (with_reducible first | exact HB.out | apply pA_ | apply pN_ | apply pD_ | refine pS_ ?_ GE315.out) | exact HB.out))) : w.heap.size ≤ gb317)); have n4_ := Am ((by rw [hg]; exact (pZ_ (by repeat (first | (with_reducible first | exact HB.out | apply pA_ | apply pN_ | apply pD_ | refine pS_ ?_ GE315.out) | exact HB.out))) : w.heap.size ≤ gb317)); have n5_ := Am ((by rw [hg]; exact Nat.ne_of_lt (blk_lt (g := gb315) (o := .cells #[.slice A0_0 l0_0.length c0_0, .int .i64 a0_1, .slice A0_2 l0_2.length c0_2, .slice (some ad316) l0_3.length c0_3, .slice A0_4 l0_4.length c0_4] 29 (0, 0)) (by (with_reducible repeat (first | refine bN_ ?_ _ | refine bD_ ?_ | refine bA_ ?_ _)); exact BK315.out)) : gb315 ≠ gb317)); have n6_ := Am ((by rw [hg]; exact Nat.ne_of_gt (blk_lt (g := gb315) (o := .cells #[.slice A0_0 l0_0.length c0_0, .int .i64 a0_1, .slice A0_2 l0_2.length c0_2, .slice (some ad316) l0_3.length c0_3, .slice A0_4 l0_4.length c0_4] 29 (0, 0)) (by (with_reducible repeat (first | refine bN_ ?_ _ | refine bD_ ?_ | refine bA_ ?_ _)); exact BK315.out)) : gb317 ≠ gb315)); clear BK315; clear HB; have BK315 := n0_; have HB := n1_; have BK317 := n2_; have GW317 := n3_; have GE317 := n4_; have NB315_317 := n5_; have NB317_315 := n6_; clear n0_ n1_ n2_ n3_ n4_ n5_ n6_; clear hb hbox hg; have hnb21 := NB317_315.out; have hnc21 := NB315_317.out; have hcz22_0 : w20.cell? ⟨gb317, 0, none⟩ = some (.int .i64 0) := (bC_ BK317.out 0).trans rfl; have hcz22_1 : w20.cell? ⟨gb317, 1, none⟩ = some (.int .i64 0) := (bC_ BK317.out 1).trans rfl; have hcz22_2 : w20.cell? ⟨gb317, 2, none⟩ = some (.slice none 0 0) := (bC_ BK317.out 2).trans rfl; have hfz22_0 := bF_ BK317.out 0; have hfz22_1 := bF_ BK317.out 1; have hfz22_2 := bF_ BK317.out 2; have hcz23_0 : w20.cell? ⟨gb315, 0, none⟩ = some (.slice A0_0 l0_0.length c0_0) := (bC_ BK315.out 0).trans rfl; have hcz23_1 : w20.cell? ⟨gb315, 1, none⟩ = some (.int .i64 a0_1) := (bC_ BK315.out 1).trans rfl; have hcz23_2 : w20.cell? ⟨gb315, 2, none⟩ = some (.slice A0_2 l0_2.length c0_2) := (bC_ BK315.out 2).trans rfl; have hcz23_3 : w20.cell? ⟨gb315, 3, none⟩ = some (.slice (some ad316) l0_3.length c0_3) := (bC_ BK315.out 3).trans rfl; have hcz23_4 : w20.cell? ⟨gb315, 4, none⟩ = some (.slice A0_4 l0_4.length c0_4) := (bC_ BK315.out 4).trans rfl; have hfz23_0 := bF_ BK315.out 0; have hfz23_1 := bF_ BK315.out 1; have hfz23_2 := bF_ BK315.out 2; have hfz23_3 := bF_ BK315.out 3; have hfz23_4 := bF_ BK315.out 4; have p318 : 0 ≤ (((rd_T69 l0_3 x7_1).f1) : Int) := of_decide_eq_true (by first | (with_reducible assumption) | assumption); have q318 : ((rd_T69 l0_3 x7_1).f1) < (l0_2.length : Int) := of_decide_eq_true (by first | (with_reducible assumption) | assumption); obtain ⟨ad318, e318, hx318_0⟩ := Kd.at_int HR0_2.out ((rd_T69 l0_3 x7_1).f1) p318 q318; cases e318; have hn318_0 : ad318.block ≠ gb317 := Nat.ne_of_lt (Nat.lt_of_lt_of_le (by have := World.block_lt_of_cell? _ _ hx318_0; first | rwa [add_block] at this | exact this) GW317.out); have hn318_1 : ad318.block ≠ gb317 := Nat.ne_of_lt (Nat.lt_of_lt_of_le (by have := World.block_lt_of_cell? _ _ hx318_0; first | rwa [add_block] at this | exact this) GW317.out); have hn318_2 : ad318.block ≠ gb317 := Nat.ne_of_lt (Nat.lt_of_lt_of_le (by have := World.block_lt_of_cell? _ _ hx318_0; first | rwa [add_block] at this | exact this) GW317.out); replace hx318_0 := (HB.out.cell (World.block_lt_of_cell? w _ hx318_0)).trans hx318_0; replace hx318_0 := (cell_far (p := ⟨gb317, 0, none⟩) (by first | (rw [add_block]; exact hn318_0) | (show (Addr.add _ _).block ≠ _; rw [add_block]; exact hn318_0) | exact hn318_0) (.int .i64 ((rd_T69 l0_3 x7_1).f0))).trans hx318_0; replace hx318_0 := (cell_far (p := ⟨gb317, 1, none⟩) (by first | (rw [add_block]; exact hn318_1) | (show (Addr.add _ _).block ≠ _; rw [add_block]; exact hn318_1) | exact hn318_1) (.int .i64 ((rd_T69 l0_3 x7_1).f1))).trans hx318_0; replace hx318_0 := (cell_far (p := ⟨gb317, 2, none⟩) (by first | (rw [add_block]; exact hn318_2) | (show (Addr.add _ _).block ≠ _; rw [add_block]; exact hn318_2) | exact hn318_2) (.slice A316_2 ((rd_T69 l0_3 x7_1).f2).length c316_2)).trans hx318_0; clear hn318_0; clear hn318_1; clear hn318_2; replace p318 := eq_true p318; replace q318 := eq_true q318) | (go_at_call 44; (with_reducible refine (r6IsPart.calls k1 _ _ l1 _ _ ((rd_T69 l0_3 x7_1).f2) false _ ?side1 ?side2 ?side3 ?side4 A12.out).mono ?_); (case side1 => exact Kd.C_below HR1.out (by repeat (first | (with_reducible first | exact HB.out | apply pA_ | apply pN_ | apply pD_ | refine pS_ ?_ GE315.out | refine pS_ ?_ GE317.out) | exact HB.out))); (case side2 => exact HC1.out); (case side3 => exact Kd.C_below HR316_2.out (by repeat (first | (with_reducible first | exact HB.out | apply pA_ | apply pN_ | apply pD_ | refine pS_ ?_ GE315.out | refine pS_ ?_ GE317.out) | exact HB.out))); (case side4 => exact HC316_2.out); rintro e w' ⟨rfl, ⟨nd, rfl⟩⟩))
           go_roundg k1
           case measure => have := HK1.out; omega
           case rel => exact ⟨(wrap64 (x7_1 + 1)), (by first | rfl | (simp; done) | (simp [*]; done)), H', ⟨by have := HK1.out; omega⟩, ⟨by (with_reducible repeat (first | refine bN_ ?_ _ | refine bD_ ?_ | refine bA_ ?_ _)); refine blk_far ?_ NB315_317.out _; (with_reducible repeat (first | refine bN_ ?_ _ | refine bD_ ?_ | refine bA_ ?_ _)); refine blk_far ?_ NB315_317.out _; (with_reducible repeat (first | refine bN_ ?_ _ | refine bD_ ?_ | refine bA_ ?_ _)); refine blk_far ?_ NB315_317.out _; (with_reducible repeat (first | refine bN_ ?_ _ | refine bD_ ?_ | refine bA_ ?_ _)); exact BK315.out⟩, ⟨by repeat (first | (with_reducible first | exact HB.out | apply pA_ | apply pN_ | apply pD_ | refine pS_ ?_ GE315.out | refine pS_ ?_ GE317.out) | exact HB.out)⟩⟩
         ·rw [if_neg c11] at H
          have c11b0 : decide (((rd_T69 l0_3 x7_1).f0) < a2) = false := decide_eq_false c11
          clear c11
          have H' := Am H
          clear H
          have hcz24_0 : wr.cell? ⟨gb315, 0, none⟩ = some (.slice A0_0 l0_0.length c0_0) := (bC_ BK315.out 0).trans rfl
          have hcz24_1 : wr.cell? ⟨gb315, 1, none⟩ = some (.int .i64 a0_1) := (bC_ BK315.out 1).trans rfl
          have hcz24_2 : wr.cell? ⟨gb315, 2, none⟩ = some (.slice A0_2 l0_2.length c0_2) := (bC_ BK315.out 2).trans rfl
          have hcz24_3 : wr.cell? ⟨gb315, 3, none⟩ = some (.slice A0_3 l0_3.length c0_3) := (bC_ BK315.out 3).trans rfl
          have hcz24_4 : wr.cell? ⟨gb315, 4, none⟩ = some (.slice A0_4 l0_4.length c0_4) := (bC_ BK315.out 4).trans rfl
          have hfz24_0 := bF_ BK315.out 0
          have hfz24_1 := bF_ BK315.out 1
          have hfz24_2 := bF_ BK315.out 2
          have hfz24_3 := bF_ BK315.out 3
          have hfz24_4 := bF_ BK315.out 4
          have p316 : 0 ≤ (x7_1 : Int) := of_decide_eq_true (by first | (with_reducible assumption) | assumption)
          have q316 : x7_1 < (l0_3.length : Int) := of_decide_eq_true (by first | (with_reducible assumption) | assumption)
          obtain ⟨ad316, A316_2, c316_2, e316, hx316_0, hx316_1, hx316_2, hl316_2, hi316_2⟩ := at_T69 HR0_3.out x7_1 p316 q316
          cases e316
          replace hx316_0 := (HB.out.cell (World.block_lt_of_cell? w _ hx316_0)).trans hx316_0
          replace hx316_1 := (HB.out.cell (World.block_lt_of_cell? w _ hx316_1)).trans hx316_1
          replace hx316_2 := (HB.out.cell (World.block_lt_of_cell? w _ hx316_2)).trans hx316_2
          have HR316_2 := Am hi316_2
          have HC316_2 := Am hl316_2
          clear hi316_2 hl316_2
          replace p316 := eq_true p316
          replace q316 := eq_true q316
          go_wp2_with (first | ((with_reducible refine gate_dst (N := 8) rfl ?_); refine box_event ?hg (N := 8) ?hd (cs := #[.int .i64 0, .int .i64 0, .slice none 0 0]) (t := 69) ?hr ?_; (case hd => rfl); (case hg => rfl); (case hr => first | (go_simp; done) | (go_simp; rfl)); intro gb317 hg w25 hbox hb; have n0_ := Am (blk_below (g := gb315) (o := .cells #[.slice A0_0 l0_0.length c0_0, .int .i64 a0_1, .slice A0_2 l0_2.length c0_2, .slice (some ad316) l0_3.length c0_3, .slice A0_4 l0_4.length c0_4] 29 (0, 0)) (by (with_reducible repeat (first | refine bN_ ?_ _ | refine bD_ ?_ | refine bA_ ?_ _)); exact BK315.out) hb); have n1_ := Am (pT_ (by repeat (first | (with_reducible first | exact HB.out | apply pA_ | apply pN_ | apply pD_ | refine pS_ ?_ GE315.out) | exact HB.out)) hb); have n2_ := Am (hbox); have n3_ := Am ((by rw [hg]; exact (pZ_ (by repeat (first | (with_reducible first | exact HB.out | apply pA_ | apply pN_ | apply pD_ | refine pS_ ?_ GE315.out) | exact HB.out))) : w.heap.size ≤ gb317)); have n4_ := Am ((by rw [hg]; exact (pZ_ (by repeat (first | (with_reducible first | exact HB.out | apply pA_ | apply pN_ | apply pD_ | refine pS_ ?_ GE315.out) | exact HB.out))) : w.heap.size ≤ gb317)); have n5_ := Am ((by rw [hg]; exact Nat.ne_of_lt (blk_lt (g := gb315) (o := .cells #[.slice A0_0 l0_0.length c0_0, .int .i64 a0_1, .slice A0_2 l0_2.length c0_2, .slice (some ad316) l0_3.length c0_3, .slice A0_4 l0_4.length c0_4] 29 (0, 0)) (by (with_reducible repeat (first | refine bN_ ?_ _ | refine bD_ ?_ | refine bA_ ?_ _)); exact BK315.out)) : gb315 ≠ gb317)); have n6_ := Am ((by rw [hg]; exact Nat.ne_of_gt (blk_lt (g := gb315) (o := .cells #[.slice A0_0 l0_0.length c0_0, .int .i64 a0_1, .slice A0_2 l0_2.length c0_2, .slice (some ad316) l0_3.length c0_3, .slice A0_4 l0_4.length c0_4] 29 (0, 0)) (by (with_reducible repeat (first | refine bN_ ?_ _ | refine bD_ ?_ | refine bA_ ?_ _)); exact BK315.out)) : gb317 ≠ gb315)); clear BK315; clear HB; have BK315 := n0_; have HB := n1_; have BK317 := n2_; have GW317 := n3_; have GE317 := n4_; have NB315_317 := n5_; have NB317_315 := n6_; clear n0_ n1_ n2_ n3_ n4_ n5_ n6_; clear hb hbox hg; have hnb26 := NB317_315.out; have hnc26 := NB315_317.out; have hcz27_0 : w25.cell? ⟨gb317, 0, none⟩ = some (.int .i64 0) := (bC_ BK317.out 0).trans rfl; have hcz27_1 : w25.cell? ⟨gb317, 1, none⟩ = some (.int .i64 0) := (bC_ BK317.out 1).trans rfl; have hcz27_2 : w25.cell? ⟨gb317, 2, none⟩ = some (.slice none 0 0) := (bC_ BK317.out 2).trans rfl; have hfz27_0 := bF_ BK317.out 0; have hfz27_1 := bF_ BK317.out 1; have hfz27_2 := bF_ BK317.out 2; have hcz28_0 : w25.cell? ⟨gb315, 0, none⟩ = some (.slice A0_0 l0_0.length c0_0) := (bC_ BK315.out 0).trans rfl; have hcz28_1 : w25.cell? ⟨gb315, 1, none⟩ = some (.int .i64 a0_1) := (bC_ BK315.out 1).trans rfl; have hcz28_2 : w25.cell? ⟨gb315, 2, none⟩ = some (.slice A0_2 l0_2.length c0_2) := (bC_ BK315.out 2).trans rfl; have hcz28_3 : w25.cell? ⟨gb315, 3, none⟩ = some (.slice (some ad316) l0_3.length c0_3) := (bC_ BK315.out 3).trans rfl; have hcz28_4 : w25.cell? ⟨gb315, 4, none⟩ = some (.slice A0_4 l0_4.length c0_4) := (bC_ BK315.out 4).trans rfl; have hfz28_0 := bF_ BK315.out 0; have hfz28_1 := bF_ BK315.out 1; have hfz28_2 := bF_ BK315.out 2; have hfz28_3 := bF_ BK315.out 3; have hfz28_4 := bF_ BK315.out 4; have p318 : 0 ≤ (((rd_T69 l0_3 x7_1).f1) : Int) := of_decide_eq_true (by first | (with_reducible assumption) | assumption); have q318 : ((rd_T69 l0_3 x7_1).f1) < (l0_2.length : Int) := of_decide_eq_true (by first | (with_reducible assumption) | assumption); obtain ⟨ad318, e318, hx318_0⟩ := Kd.at_int HR0_2.out ((rd_T69 l0_3 x7_1).f1) p318 q318; cases e318; have hn318_0 : ad318.block ≠ gb317 := Nat.ne_of_lt (Nat.lt_of_lt_of_le (by have := World.block_lt_of_cell? _ _ hx318_0; first | rwa [add_block] at this | exact this) GW317.out); have hn318_1 : ad318.block ≠ gb317 := Nat.ne_of_lt (Nat.lt_of_lt_of_le (by have := World.block_lt_of_cell? _ _ hx318_0; first | rwa [add_block] at this | exact this) GW317.out); have hn318_2 : ad318.block ≠ gb317 := Nat.ne_of_lt (Nat.lt_of_lt_of_le (by have := World.block_lt_of_cell? _ _ hx318_0; first | rwa [add_block] at this | exact this) GW317.out); replace hx318_0 := (HB.out.cell (World.block_lt_of_cell? w _ hx318_0)).trans hx318_0; replace hx318_0 := (cell_far (p := ⟨gb317, 0, none⟩) (by first | (rw [add_block]; exact hn318_0) | (show (Addr.add _ _).block ≠ _; rw [add_block]; exact hn318_0) | exact hn318_0) (.int .i64 ((rd_T69 l0_3 x7_1).f0))).trans hx318_0; replace hx318_0 := (cell_far (p := ⟨gb317, 1, none⟩) (by first | (rw [add_block]; exact hn318_1) | (show (Addr.add _ _).block ≠ _; rw [add_block]; exact hn318_1) | exact hn318_1) (.int .i64 ((rd_T69 l0_3 x7_1).f1))).trans hx318_0; replace hx318_0 := (cell_far (p := ⟨gb317, 2, none⟩) (by first | (rw [add_block]; exact hn318_2) | (show (Addr.add _ _).block ≠ _; rw [add_block]; exact hn318_2) | exact hn318_2) (.slice A316_2 ((rd_T69 l0_3 x7_1).f2).length c316_2)).trans hx318_0; clear hn318_0; clear hn318_1; clear hn318_2; replace p318 := eq_true p318; replace q318 := eq_true q318))
          go_roundg k1
          case measure => have := HK1.out; omega
          case rel => exact ⟨(wrap64 (x7_1 + 1)), (by first | rfl | (simp; done) | (simp [*]; done)), H', ⟨by have := HK1.out; omega⟩, ⟨by (with_reducible repeat (first | refine bN_ ?_ _ | refine bD_ ?_ | refine bA_ ?_ _)); refine blk_far ?_ NB315_317.out _; (with_reducible repeat (first | refine bN_ ?_ _ | refine bD_ ?_ | refine bA_ ?_ _)); refine blk_far ?_ NB315_317.out _; (with_reducible repeat (first | refine bN_ ?_ _ | refine bD_ ?_ | refine bA_ ?_ _)); refine blk_far ?_ NB315_317.out _; (with_reducible repeat (first | refine bN_ ?_ _ | refine bD_ ?_ | refine bA_ ?_ _)); exact BK315.out⟩, ⟨by repeat (first | (with_reducible first | exact HB.out | apply pA_ | apply pN_ | apply pD_ | refine pS_ ?_ GE315.out | refine pS_ ?_ GE317.out) | exact HB.out)⟩⟩
        ·rw [if_neg c10] at H
         have c10b0 : decide ((rd l0_2 ((rd_T69 l0_3 x7_1).f1)) ≤ ((rd_T69 l0_3 x7_1).f0)) = false := decide_eq_false c10
         clear c10
         have H' := Am H
         clear H
         have hcz29_0 : wr.cell? ⟨gb315, 0, none⟩ = some (.slice A0_0 l0_0.length c0_0) := (bC_ BK315.out 0).trans rfl
         have hcz29_1 : wr.cell? ⟨gb315, 1, none⟩ = some (.int .i64 a0_1) := (bC_ BK315.out 1).trans rfl
         have hcz29_2 : wr.cell? ⟨gb315, 2, none⟩ = some (.slice A0_2 l0_2.length c0_2) := (bC_ BK315.out 2).trans rfl
         have hcz29_3 : wr.cell? ⟨gb315, 3, none⟩ = some (.slice A0_3 l0_3.length c0_3) := (bC_ BK315.out 3).trans rfl
         have hcz29_4 : wr.cell? ⟨gb315, 4, none⟩ = some (.slice A0_4 l0_4.length c0_4) := (bC_ BK315.out 4).trans rfl
         have hfz29_0 := bF_ BK315.out 0
         have hfz29_1 := bF_ BK315.out 1
         have hfz29_2 := bF_ BK315.out 2
         have hfz29_3 := bF_ BK315.out 3
         have hfz29_4 := bF_ BK315.out 4
         have p316 : 0 ≤ (x7_1 : Int) := of_decide_eq_true (by first | (with_reducible assumption) | assumption)
         have q316 : x7_1 < (l0_3.length : Int) := of_decide_eq_true (by first | (with_reducible assumption) | assumption)
         obtain ⟨ad316, A316_2, c316_2, e316, hx316_0, hx316_1, hx316_2, hl316_2, hi316_2⟩ := at_T69 HR0_3.out x7_1 p316 q316
         cases e316
         replace hx316_0 := (HB.out.cell (World.block_lt_of_cell? w _ hx316_0)).trans hx316_0
         replace hx316_1 := (HB.out.cell (World.block_lt_of_cell? w _ hx316_1)).trans hx316_1
         replace hx316_2 := (HB.out.cell (World.block_lt_of_cell? w _ hx316_2)).trans hx316_2
         have HR316_2 := Am hi316_2
         have HC316_2 := Am hl316_2
         clear hi316_2 hl316_2
         replace p316 := eq_true p316
         replace q316 := eq_true q316
         go_wp2_with (first | ((with_reducible refine gate_dst (N := 8) rfl ?_); refine box_event ?hg (N := 8) ?hd (cs := #[.int .i64 0, .int .i64 0, .slice none 0 0]) (t := 69) ?hr ?_; (case hd => rfl); (case hg => rfl); (case hr => first | (go_simp; done) | (go_simp; rfl)); intro gb317 hg w30 hbox hb; have n0_ := Am (blk_below (g := gb315) (o := .cells #[.slice A0_0 l0_0.length c0_0, .int .i64 a0_1, .slice A0_2 l0_2.length c0_2, .slice (some ad316) l0_3.length c0_3, .slice A0_4 l0_4.length c0_4] 29 (0, 0)) (by (with_reducible repeat (first | refine bN_ ?_ _ | refine bD_ ?_ | refine bA_ ?_ _)); exact BK315.out) hb); have n1_ := Am (pT_ (by repeat (first | (with_reducible first | exact HB.out | apply pA_ | apply pN_ | apply pD_ | refine pS_ ?_ GE315.out) | exact HB.out)) hb); have n2_ := Am (hbox); have n3_ := Am ((by rw [hg]; exact (pZ_ (by repeat (first | (with_reducible first | exact HB.out | apply pA_ | apply pN_ | apply pD_ | refine pS_ ?_ GE315.out) | exact HB.out))) : w.heap.size ≤ gb317)); have n4_ := Am ((by rw [hg]; exact (pZ_ (by repeat (first | (with_reducible first | exact HB.out | apply pA_ | apply pN_ | apply pD_ | refine pS_ ?_ GE315.out) | exact HB.out))) : w.heap.size ≤ gb317)); have n5_ := Am ((by rw [hg]; exact Nat.ne_of_lt (blk_lt (g := gb315) (o := .cells #[.slice A0_0 l0_0.length c0_0, .int .i64 a0_1, .slice A0_2 l0_2.length c0_2, .slice (some ad316) l0_3.length c0_3, .slice A0_4 l0_4.length c0_4] 29 (0, 0)) (by (with_reducible repeat (first | refine bN_ ?_ _ | refine bD_ ?_ | refine bA_ ?_ _)); exact BK315.out)) : gb315 ≠ gb317)); have n6_ := Am ((by rw [hg]; exact Nat.ne_of_gt (blk_lt (g := gb315) (o := .cells #[.slice A0_0 l0_0.length c0_0, .int .i64 a0_1, .slice A0_2 l0_2.length c0_2, .slice (some ad316) l0_3.length c0_3, .slice A0_4 l0_4.length c0_4] 29 (0, 0)) (by (with_reducible repeat (first | refine bN_ ?_ _ | refine bD_ ?_ | refine bA_ ?_ _)); exact BK315.out)) : gb317 ≠ gb315)); clear BK315; clear HB; have BK315 := n0_; have HB := n1_; have BK317 := n2_; have GW317 := n3_; have GE317 := n4_; have NB315_317 := n5_; have NB317_315 := n6_; clear n0_ n1_ n2_ n3_ n4_ n5_ n6_; clear hb hbox hg; have hnb31 := NB317_315.out; have hnc31 := NB315_317.out; have hcz32_0 : w30.cell? ⟨gb317, 0, none⟩ = some (.int .i64 0) := (bC_ BK317.out 0).trans rfl; have hcz32_1 : w30.cell? ⟨gb317, 1, none⟩ = some (.int .i64 0) := (bC_ BK317.out 1).trans rfl; have hcz32_2 : w30.cell? ⟨gb317, 2, none⟩ = some (.slice none 0 0) := (bC_ BK317.out 2).trans rfl; have hfz32_0 := bF_ BK317.out 0; have hfz32_1 := bF_ BK317.out 1; have hfz32_2 := bF_ BK317.out 2; have hcz33_0 : w30.cell? ⟨gb315, 0, none⟩ = some (.slice A0_0 l0_0.length c0_0) := (bC_ BK315.out 0).trans rfl; have hcz33_1 : w30.cell? ⟨gb315, 1, none⟩ = some (.int .i64 a0_1) := (bC_ BK315.out 1).trans rfl; have hcz33_2 : w30.cell? ⟨gb315, 2, none⟩ = some (.slice A0_2 l0_2.length c0_2) := (bC_ BK315.out 2).trans rfl; have hcz33_3 : w30.cell? ⟨gb315, 3, none⟩ = some (.slice (some ad316) l0_3.length c0_3) := (bC_ BK315.out 3).trans rfl; have hcz33_4 : w30.cell? ⟨gb315, 4, none⟩ = some (.slice A0_4 l0_4.length c0_4) := (bC_ BK315.out 4).trans rfl; have hfz33_0 := bF_ BK315.out 0; have hfz33_1 := bF_ BK315.out 1; have hfz33_2 := bF_ BK315.out 2; have hfz33_3 := bF_ BK315.out 3; have hfz33_4 := bF_ BK315.out 4; have p318 : 0 ≤ (((rd_T69 l0_3 x7_1).f1) : Int) := of_decide_eq_true (by first | (with_reducible assumption) | assumption); have q318 : ((rd_T69 l0_3 x7_1).f1) < (l0_2.length : Int) := of_decide_eq_true (by first | (with_reducible assumption) | assumption); obtain ⟨ad318, e318, hx318_0⟩ := Kd.at_int HR0_2.out ((rd_T69 l0_3 x7_1).f1) p318 q318; cases e318; have hn318_0 : ad318.block ≠ gb317 := Nat.ne_of_lt (Nat.lt_of_lt_of_le (by have := World.block_lt_of_cell? _ _ hx318_0; first | rwa [add_block] at this | exact this) GW317.out); have hn318_1 : ad318.block ≠ gb317 := Nat.ne_of_lt (Nat.lt_of_lt_of_le (by have := World.block_lt_of_cell? _ _ hx318_0; first | rwa [add_block] at this | exact this) GW317.out); have hn318_2 : ad318.block ≠ gb317 := Nat.ne_of_lt (Nat.lt_of_lt_of_le (by have := World.block_lt_of_cell? _ _ hx318_0; first | rwa [add_block] at this | exact this) GW317.out); replace hx318_0 := (HB.out.cell (World.block_lt_of_cell? w _ hx318_0)).trans hx318_0; replace hx318_0 := (cell_far (p := ⟨gb317, 0, none⟩) (by first | (rw [add_block]; exact hn318_0) | (show (Addr.add _ _).block ≠ _; rw [add_block]; exact hn318_0) | exact hn318_0) (.int .i64 ((rd_T69 l0_3 x7_1).f0))).trans hx318_0; replace hx318_0 := (cell_far (p := ⟨gb317, 1, none⟩) (by first | (rw [add_block]; exact hn318_1) | (show (Addr.add _ _).block ≠ _; rw [add_block]; exact hn318_1) | exact hn318_1) (.int .i64 ((rd_T69 l0_3 x7_1).f1))).trans hx318_0; replace hx318_0 := (cell_far (p := ⟨gb317, 2, none⟩) (by first | (rw [add_block]; exact hn318_2) | (show (Addr.add _ _).block ≠ _; rw [add_block]; exact hn318_2) | exact hn318_2) (.slice A316_2 ((rd_T69 l0_3 x7_1).f2).length c316_2)).trans hx318_0; clear hn318_0; clear hn318_1; clear hn318_2; replace p318 := eq_true p318; replace q318 := eq_true q318))
         go_roundg k1
         case measure => have := HK1.out; omega
         case rel => exact ⟨(wrap64 (x7_1 + 1)), (by first | rfl | (simp; done) | (simp [*]; done)), H', ⟨by have := HK1.out; omega⟩, ⟨by (with_reducible repeat (first | refine bN_ ?_ _ | refine bD_ ?_ | refine bA_ ?_ _)); refine blk_far ?_ NB315_317.out _; (with_reducible repeat (first | refine bN_ ?_ _ | refine bD_ ?_ | refine bA_ ?_ _)); refine blk_far ?_ NB315_317.out _; (with_reducible repeat (first | refine bN_ ?_ _ | refine bD_ ?_ | refine bA_ ?_ _)); refine blk_far ?_ NB315_317.out _; (with_reducible repeat (first | refine bN_ ?_ _ | refine bD_ ?_ | refine bA_ ?_ _)); exact BK315.out⟩, ⟨by repeat (first | (with_reducible first | exact HB.out | apply pA_ | apply pN_ | apply pD_ | refine pS_ ?_ GE315.out | refine pS_ ?_ GE317.out) | exact HB.out)⟩⟩
       ·rw [if_neg c9] at H
        have c9b0 : decide (0 ≤ (rd l0_2 ((rd_T69 l0_3 x7_1).f1))) = false := decide_eq_false c9
        clear c9
        have H' := Am H
        clear H
        have hcz34_0 : wr.cell? ⟨gb315, 0, none⟩ = some (.slice A0_0 l0_0.length c0_0) := (bC_ BK315.out 0).trans rfl
        have hcz34_1 : wr.cell? ⟨gb315, 1, none⟩ = some (.int .i64 a0_1) := (bC_ BK315.out 1).trans rfl
        have hcz34_2 : wr.cell? ⟨gb315, 2, none⟩ = some (.slice A0_2 l0_2.length c0_2) := (bC_ BK315.out 2).trans rfl
        have hcz34_3 : wr.cell? ⟨gb315, 3, none⟩ = some (.slice A0_3 l0_3.length c0_3) := (bC_ BK315.out 3).trans rfl
        have hcz34_4 : wr.cell? ⟨gb315, 4, none⟩ = some (.slice A0_4 l0_4.length c0_4) := (bC_ BK315.out 4).trans rfl
        have hfz34_0 := bF_ BK315.out 0
        have hfz34_1 := bF_ BK315.out 1
        have hfz34_2 := bF_ BK315.out 2
        have hfz34_3 := bF_ BK315.out 3
        have hfz34_4 := bF_ BK315.out 4
        have p316 : 0 ≤ (x7_1 : Int) := of_decide_eq_true (by first | (with_reducible assumption) | assumption)
        have q316 : x7_1 < (l0_3.length : Int) := of_decide_eq_true (by first | (with_reducible assumption) | assumption)
        obtain ⟨ad316, A316_2, c316_2, e316, hx316_0, hx316_1, hx316_2, hl316_2, hi316_2⟩ := at_T69 HR0_3.out x7_1 p316 q316
        cases e316
        replace hx316_0 := (HB.out.cell (World.block_lt_of_cell? w _ hx316_0)).trans hx316_0
        replace hx316_1 := (HB.out.cell (World.block_lt_of_cell? w _ hx316_1)).trans hx316_1
        replace hx316_2 := (HB.out.cell (World.block_lt_of_cell? w _ hx316_2)).trans hx316_2
        have HR316_2 := Am hi316_2
        have HC316_2 := Am hl316_2
        clear hi316_2 hl316_2
        replace p316 := eq_true p316
        replace q316 := eq_true q316
        go_wp2_with (first | ((with_reducible refine gate_dst (N := 8) rfl ?_); refine box_event ?hg (N := 8) ?hd (cs := #[.int .i64 0, .int .i64 0, .slice none 0 0]) (t := 69) ?hr ?_; (case hd => rfl); (case hg => rfl); (case hr => first | (go_simp; done) | (go_simp; rfl)); intro gb317 hg w35 hbox hb; have n0_ := Am (blk_below (g := gb315) (o := .cells #[.slice A0_0 l0_0.length c0_0, .int .i64 a0_1, .slice A0_2 l0_2.length c0_2, .slice (some ad316) l0_3.length c0_3, .slice A0_4 l0_4.length c0_4] 29 (0, 0)) (by (with_reducible repeat (first | refine bN_ ?_ _ | refine bD_ ?_ | refine bA_ ?_ _)); exact BK315.out) hb); have n1_ := Am (pT_ (by repeat (first | (with_reducible first | exact HB.out | apply pA_ | apply pN_ | apply pD_ | refine pS_ ?_ GE315.out) | exact HB.out)) hb); have n2_ := Am (hbox); have n3_ := Am ((by rw [hg]; exact (pZ_ (by repeat (first | (with_reducible first | exact HB.out | apply pA_ | apply pN_ | apply pD_ | refine pS_ ?_ GE315.out) | exact HB.out))) : w.heap.size ≤ gb317)); have n4_ := Am ((by rw [hg]; exact (pZ_ (by repeat (first | (with_reducible first | exact HB.out | apply pA_ | apply pN_ | apply pD_ | refine pS_ ?_ GE315.out) | exact HB.out))) : w.heap.size ≤ gb317)); have n5_ := Am ((by rw [hg]; exact Nat.ne_of_lt (blk_lt (g := gb315) (o := .cells #[.slice A0_0 l0_0.length c0_0, .int .i64 a0_1, .slice A0_2 l0_2.length c0_2, .slice (some ad316) l0_3.length c0_3, .slice A0_4 l0_4.length c0_4] 29 (0, 0)) (by (with_reducible repeat (first | refine bN_ ?_ _ | refine bD_ ?_ | refine bA_ ?_ _)); exact BK315.out)) : gb315 ≠ gb317)); have n6_ := Am ((by rw [hg]; exact Nat.ne_of_gt (blk_lt (g := gb315) (o := .cells #[.slice A0_0 l0_0.length c0_0, .int .i64 a0_1, .slice A0_2 l0_2.length c0_2, .slice (some ad316) l0_3.length c0_3, .slice A0_4 l0_4.length c0_4] 29 (0, 0)) (by (with_reducible repeat (first | refine bN_ ?_ _ | refine bD_ ?_ | refine bA_ ?_ _)); exact BK315.out)) : gb317 ≠ gb315)); clear BK315; clear HB; have BK315 := n0_; have HB := n1_; have BK317 := n2_; have GW317 := n3_; have GE317 := n4_; have NB315_317 := n5_; have NB317_315 := n6_; clear n0_ n1_ n2_ n3_ n4_ n5_ n6_; clear hb hbox hg; have hnb36 := NB317_315.out; have hnc36 := NB315_317.out; have hcz37_0 : w35.cell? ⟨gb317, 0, none⟩ = some (.int .i64 0) := (bC_ BK317.out 0).trans rfl; have hcz37_1 : w35.cell? ⟨gb317, 1, none⟩ = some (.int .i64 0) := (bC_ BK317.out 1).trans rfl; have hcz37_2 : w35.cell? ⟨gb317, 2, none⟩ = some (.slice none 0 0) := (bC_ BK317.out 2).trans rfl; have hfz37_0 := bF_ BK317.out 0; have hfz37_1 := bF_ BK317.out 1; have hfz37_2 := bF_ BK317.out 2; have hcz38_0 : w35.cell? ⟨gb315, 0, none⟩ = some (.slice A0_0 l0_0.length c0_0) := (bC_ BK315.out 0).trans rfl; have hcz38_1 : w35.cell? ⟨gb315, 1, none⟩ = some (.int .i64 a0_1) := (bC_ BK315.out 1).trans rfl; have hcz38_2 : w35.cell? ⟨gb315, 2, none⟩ = some (.slice A0_2 l0_2.length c0_2) := (bC_ BK315.out 2).trans rfl; have hcz38_3 : w35.cell? ⟨gb315, 3, none⟩ = some (.slice (some ad316) l0_3.length c0_3) := (bC_ BK315.out 3).trans rfl; have hcz38_4 : w35.cell? ⟨gb315, 4, none⟩ = some (.slice A0_4 l0_4.length c0_4) := (bC_ BK315.out 4).trans rfl; have hfz38_0 := bF_ BK315.out 0; have hfz38_1 := bF_ BK315.out 1; have hfz38_2 := bF_ BK315.out 2; have hfz38_3 := bF_ BK315.out 3; have hfz38_4 := bF_ BK315.out 4; have p318 : 0 ≤ (((rd_T69 l0_3 x7_1).f1) : Int) := of_decide_eq_true (by first | (with_reducible assumption) | assumption); have q318 : ((rd_T69 l0_3 x7_1).f1) < (l0_2.length : Int) := of_decide_eq_true (by first | (with_reducible assumption) | assumption); obtain ⟨ad318, e318, hx318_0⟩ := Kd.at_int HR0_2.out ((rd_T69 l0_3 x7_1).f1) p318 q318; cases e318; have hn318_0 : ad318.block ≠ gb317 := Nat.ne_of_lt (Nat.lt_of_lt_of_le (by have := World.block_lt_of_cell? _ _ hx318_0; first | rwa [add_block] at this | exact this) GW317.out); have hn318_1 : ad318.block ≠ gb317 := Nat.ne_of_lt (Nat.lt_of_lt_of_le (by have := World.block_lt_of_cell? _ _ hx318_0; first | rwa [add_block] at this | exact this) GW317.out); have hn318_2 : ad318.block ≠ gb317 := Nat.ne_of_lt (Nat.lt_of_lt_of_le (by have := World.block_lt_of_cell? _ _ hx318_0; first | rwa [add_block] at this | exact this) GW317.out); replace hx318_0 := (HB.out.cell (World.block_lt_of_cell? w _ hx318_0)).trans hx318_0; replace hx318_0 := (cell_far (p := ⟨gb317, 0, none⟩) (by first | (rw [add_block]; exact hn318_0) | (show (Addr.add _ _).block ≠ _; rw [add_block]; exact hn318_0) | exact hn318_0) (.int .i64 ((rd_T69 l0_3 x7_1).f0))).trans hx318_0; replace hx318_0 := (cell_far (p := ⟨gb317, 1, none⟩) (by first | (rw [add_block]; exact hn318_1) | (show (Addr.add _ _).block ≠ _; rw [add_block]; exact hn318_1) | exact hn318_1) (.int .i64 ((rd_T69 l0_3 x7_1).f1))).trans hx318_0; replace hx318_0 := (cell_far (p := ⟨gb317, 2, none⟩) (by first | (rw [add_block]; exact hn318_2) | (show (Addr.add _ _).block ≠ _; rw [add_block]; exact hn318_2) | exact hn318_2) (.slice A316_2 ((rd_T69 l0_3 x7_1).f2).length c316_2)).trans hx318_0; clear hn318_0; clear hn318_1; clear hn318_2; replace p318 := eq_true p318; replace q318 := eq_true q318))
        go_roundg k1
        case measure => have := HK1.out; omega
        case rel => exact ⟨(wrap64 (x7_1 + 1)), (by first | rfl | (simp; done) | (simp [*]; done)), H', ⟨by have := HK1.out; omega⟩, ⟨by (with_reducible repeat (first | refine bN_ ?_ _ | refine bD_ ?_ | refine bA_ ?_ _)); refine blk_far ?_ NB315_317.out _; (with_reducible repeat (first | refine bN_ ?_ _ | refine bD_ ?_ | refine bA_ ?_ _)); refine blk_far ?_ NB315_317.out _; (with_reducible repeat (first | refine bN_ ?_ _ | refine bD_ ?_ | refine bA_ ?_ _)); refine blk_far ?_ NB315_317.out _; (with_reducible repeat (first | refine bN_ ?_ _ | refine bD_ ?_ | refine bA_ ?_ _)); exact BK315.out⟩, ⟨by repeat (first | (with_reducible first | exact HB.out | apply pA_ | apply pN_ | apply pD_ | refine pS_ ?_ GE315.out | refine pS_ ?_ GE317.out) | exact HB.out)⟩⟩
      ·rw [if_neg c8] at H
       exact absurd H (by simp)
     ·rw [if_neg c7] at H
      exact absurd H (by simp)
    ·rw [if_neg c6] at H
     exact absurd H (by simp)
   ·rw [if_neg c5] at H
    have c5b0 : decide (x7_1 < (l0_3.length : Int)) = false := decide_eq_false c5
    clear c5
    obtain rfl := Option.some.inj H
    have hcz39_0 : wr.cell? ⟨gb315, 0, none⟩ = some (.slice A0_0 l0_0.length c0_0) := (bC_ BK315.out 0).trans rfl
    have hcz39_1 : wr.cell? ⟨gb315, 1, none⟩ = some (.int .i64 a0_1) := (bC_ BK315.out 1).trans rfl
    have hcz39_2 : wr.cell? ⟨gb315, 2, none⟩ = some (.slice A0_2 l0_2.length c0_2) := (bC_ BK315.out 2).trans rfl
    have hcz39_3 : wr.cell? ⟨gb315, 3, none⟩ = some (.slice A0_3 l0_3.length c0_3) := (bC_ BK315.out 3).trans rfl
    have hcz39_4 : wr.cell? ⟨gb315, 4, none⟩ = some (.slice A0_4 l0_4.length c0_4) := (bC_ BK315.out 4).trans rfl
    have hfz39_0 := bF_ BK315.out 0
    have hfz39_1 := bF_ BK315.out 1
    have hfz39_2 := bF_ BK315.out 2
    have hfz39_3 := bF_ BK315.out 3
    have hfz39_4 := bF_ BK315.out 4
    go_wp2
    go_ret
    exact ⟨by first | rfl | (simp [errW_none, errW_some] <;> rfl) | (simp [*, errW_none, errW_some] <;> rfl), by repeat (first | (with_reducible first | exact HB.out | apply pA_ | apply pN_ | apply pD_ | refine pS_ ?_ GE315.out) | exact HB.out)⟩
def r6Put.l0 : Nat → List (List Int) → List Int → List (List Int) → Bool → Int → Option ((List (List Int)))
 | 0, _, _, _, _, _ => none
 | k + 1, x0, x1, x5, x6, x7 => if x7 < (x0.length : Int) then (if 0 ≤ x7 then ((r2Same.f k (rd_L2 x0 x7) x1).bind fun t328 => (if t328 = true then (some x0) else (if x6 = true then (if x5.length < 5864062014805 then (r6Put.l0 k x0 x1 (x5 ++ [rd_L2 x0 x7]) x6 (wrap64 (x7 + 1))) else (none)) else ((r6Before.f k x1 (rd_L2 x0 x7)).bind fun t334 => (if t334 = true then (if x5.length < 5864062014805 then ((some (x5 ++ [x1] : List (List Int))).bind fun y335 => (if y335.length < 5864062014805 then (r6Put.l0 k x0 x1 (y335 ++ [rd_L2 x0 x7]) true (wrap64 (x7 + 1))) else (none))) else (none)) else (if x5.length < 5864062014805 then (r6Put.l0 k x0 x1 (x5 ++ [rd_L2 x0 x7]) x6 (wrap64 (x7 + 1))) else (none))))))) else (none)) else (if x6 = true then (some x5) else (if x5.length < 5864062014805 then (some (x5 ++ [x1])) else (none)))
def r6Put.f (k : Nat) (l0 : List (List Int)) (l1 : List Int) : Option ((List (List Int))) := r6Put.l0 k l0 l1 ([] : List (List Int)) false 0
set_option maxHeartbeats 8000000 in
set_option maxRecDepth 100000 in
theorem r6Put.calls (k : Nat) (P0_ : Nat → Prop) (A0 : Option Addr) (c0 : Nat) (l0 : List (List Int)) (P1_ : Nat → Prop) (A1 : Option Addr) (c1 : Nat) (l1 : List Int) (r : List (List Int)) (w : World) (hs0 : Kd.V (Kd.slice 3 (Kd.int .i64)) 25 w w.heap.size (fun k_ => P0_ k_) (.slice A0 l0.length c0) l0) (hs1 : Kd.V (Kd.int .i64) 3 w w.heap.size (fun k_ => P1_ k_) (.slice A1 l1.length c1) l1) (h : r6Put.f k l0 l1 = some r) :
  Calls Tryz.prog 71 #[.slice A0 l0.length c0, .slice A1 l1.length c1] w fun e w' => ∃ v0_ : Value, e = .returned (v0_) ∧ Kd.V (Kd.slice 3 (Kd.int .i64)) 25 w' w.heap.size (fun k_ => ((P0_ k_ ∨ P1_ k_) ∨ w.heap.size ≤ k_)) v0_ r ∧ Below w.heap.size w w' := by
 have HO0 := Am (show Kd.V (Kd.slice 3 (Kd.int .i64)) 25 w w.heap.size (fun k_ => ((P0_ k_ ∨ P1_ k_) ∨ w.heap.size ≤ k_)) (.slice A0 l0.length c0) l0 from Kd.V_mono hs0 (fun k_ hk => .inl (.inl hk)))
 have HO1 := Am (show Kd.V (Kd.int .i64) 3 w w.heap.size (fun k_ => ((P0_ k_ ∨ P1_ k_) ∨ w.heap.size ≤ k_)) (.slice A1 l1.length c1) l1 from Kd.V_mono hs1 (fun k_ hk => .inl (.inr hk)))
 have HB := Am (Below.refl w.heap.size w)
 have H : (r6Put.l0 k l0 l1 ([] : List (List Int)) false 0) = some r := h
 clear h
 have H' := Am H
 clear H
 go_enter Tryz.func71, Tryz.ntmps71
 go_wp2
 go_loopg [5, 6, 7] k (fun kq v5 v6 v7 w' => ∃ (x5_1 : List (List Int)) (x6_1 : Bool) (x7_1 : Int), v6 = .bool x6_1 ∧ v7 = .int .i64 x7_1 ∧ Aside0 (r6Put.l0 kq l0 l1 x5_1 x6_1 x7_1 = some r) ∧ Aside0 (kq ≤ k) ∧ Aside0 (Kd.V (Kd.slice 3 (Kd.int .i64)) 25 w' w.heap.size (fun k_ => ((P0_ k_ ∨ P1_ k_) ∨ w.heap.size ≤ k_) ∧ some k_ ≠ (v5 : Value).ownBlock) (.slice A0 l0.length c0) l0) ∧ Aside0 (Kd.V (Kd.int .i64) 3 w' w.heap.size (fun k_ => ((P0_ k_ ∨ P1_ k_) ∨ w.heap.size ≤ k_) ∧ some k_ ≠ (v5 : Value).ownBlock) (.slice A1 l1.length c1) l1) ∧ Aside0 (Kd.N (Kd.slice 3 (Kd.int .i64)) 25 w' w.heap.size (fun k_ => ((P0_ k_ ∨ P1_ k_) ∨ w.heap.size ≤ k_)) v5 x5_1) ∧ Aside0 (Below w.heap.size w w'))
 case atStart => exact ⟨(([] : List (List Int))), (false), (0), (by first | rfl | (simp; done) | (simp [*]; done)), (by first | rfl | (simp; done) | (simp [*]; done)), H', ⟨Nat.le_refl _⟩, ⟨by (with_reducible repeat (first | apply Kd.V_alloc | apply Kd.V_drewN | apply Kd.V_drew)); exact Kd.V_mono HO0.out (fun _ hk => ⟨hk, (by simp [Value.ownBlock])⟩)⟩, ⟨by (with_reducible repeat (first | apply Kd.V_alloc | apply Kd.V_drewN | apply Kd.V_drew)); exact Kd.V_mono HO1.out (fun _ hk => ⟨hk, (by simp [Value.ownBlock])⟩)⟩, ⟨by first | exact Kd.S_nil _ _ _ _ _ | exact Kd.N_nil _ _ _ _ _ | exact Kd.V_nil _ _ _ _ _ | exact Kd.Q_nil _ _ _ _ _ | exact Kd.R_nil _ _ _ _ _⟩, ⟨by repeat (first | (with_reducible first | exact HB.out | apply pA_ | apply pN_ | apply pD_) | exact HB.out)⟩⟩
 case round =>
  clear H'
  try clear c1
  try clear p2
  obtain ⟨x5_1, x6_1, x7_1, rfl, rfl, HA, HK1, HO_0, HO_1, HO_5, HB⟩ := hrel
  cases gk with
  | zero => exact absurd HA.out (by simp [r6Put.l0])
  | succ k1 =>
   have H := HA.out
   clear HA
   simp only [r6Put.l0] at H
   by_cases c3 : x7_1 < (l0.length : Int)
   ·rw [if_pos c3] at H
    have c3b0 : decide (x7_1 < (l0.length : Int)) = true := decide_eq_true c3
    clear c3
    by_cases c4 : 0 ≤ x7_1
    ·rw [if_pos c4] at H
     have c4b0 : decide (0 ≤ x7_1) = true := decide_eq_true c4
     clear c4
     replace H := Option.bind_eq_some_iff.mp H
     obtain ⟨t328, A50, H⟩ := H
     replace H : (if t328 = true then (some l0) else (if x6_1 = true then (if x5_1.length < 5864062014805 then (r6Put.l0 k1 l0 l1 (x5_1 ++ [rd_L2 l0 x7_1]) x6_1 (wrap64 (x7_1 + 1))) else (none)) else ((r6Before.f k1 l1 (rd_L2 l0 x7_1)).bind fun t334 => (if t334 = true then (if x5_1.length < 5864062014805 then ((some (x5_1 ++ [l1] : List (List Int))).bind fun y335 => (if y335.length < 5864062014805 then (r6Put.l0 k1 l0 l1 (y335 ++ [rd_L2 l0 x7_1]) true (wrap64 (x7_1 + 1))) else (none))) else (none)) else (if x5_1.length < 5864062014805 then (r6Put.l0 k1 l0 l1 (x5_1 ++ [rd_L2 l0 x7_1]) x6_1 (wrap64 (x7_1 + 1))) else (none)))))) = some r := H
     have A5 := Am A50
     clear A50
     by_cases c6 : t328 = true
     ·subst c6
      have H1 : (some l0) = some r := by rw [if_pos rfl] at H; exact H
      clear H
      have H := H1
      clear H1
      obtain rfl := Option.some.inj H
      have p327 : 0 ≤ (x7_1 : Int) := of_decide_eq_true (by first | (with_reducible assumption) | assumption)
      have q327 : x7_1 < (l0.length : Int) := of_decide_eq_true (by first | (with_reducible assumption) | assumption)
      obtain ⟨ad327, A327_0, c327_0, e327, hx327_0, hl327_0, hi327_0⟩ := at_L2 (Kd.V_reads' HO_0.out).2.2 x7_1 p327 q327
      cases e327
      obtain ⟨ce327, hce327, hMe327, hcc327⟩ := Kd.V_get HO_0.out [] x7_1 p327 (by first | exact q327 | exact of_decide_eq_true (by first | (with_reducible assumption) | assumption) | (have e_ := (Kd.V_reads' HO_0.out).1; omega))
      obtain ⟨ua327_0, uc327_0, rfl, ul327_0, ge327_0⟩ := Kd.FK_slice_open hMe327
      have hv327_0 := hcc327 0 _ rfl
      rw [Nat.add_zero, show ((Kd.slice 3 (Kd.int .i64))).sz = 1 from rfl, Nat.mul_one] at hv327_0
      replace hv327_0 := Option.some.inj (hv327_0.symm.trans hx327_0)
      injection hv327_0 with hva_ hvn_ hvc_
      rw [hva_] at ge327_0
      rw [hvc_] at ul327_0
      have HL327_0 := Am (show Kd.V (Kd.int .i64) 3 _ w.heap.size _ _ (rd_L2 l0 x7_1) from Kd.V_mk ul327_0 ge327_0)
      clear hva_ hvn_ hvc_ ge327_0 ul327_0
      clear hcc327 hce327
      have HR327_0 := Am hi327_0
      have HC327_0 := Am hl327_0
      clear hi327_0 hl327_0
      replace p327 := eq_true p327
      replace q327 := eq_true q327
      go_wp2_with (first | ((with_reducible refine gate_callee (f := 24) rfl ?_); refine goesL_ (some 19) rfl rfl Tryz.func24 (by kernel_rfl) rfl #[.slice A327_0 (rd_L2 l0 x7_1).length c327_0, .slice A1 l1.length c1] rfl (by (try simp only [List.map_toArray, List.map_cons, List.map_nil]); first | done | rfl | (simp only [List.length_drop, List.length_take]; rfl)) ?_; (with_reducible refine (r2Same.calls k1 _ _ (rd_L2 l0 x7_1) _ _ l1 true _ ?side1 ?side2 ?side3 ?side4 A5.out).mono ?_); (case side1 => repeat (first | exact (by repeat (first | (with_reducible exact HR327_0.out) | (with_reducible refine Kd.C_alloc ?_ _) | (with_reducible refine Kd.C_drewN ?_ _) | (with_reducible refine Kd.C_drew ?_) | exact HR327_0.out)) | (with_reducible refine Kd.C_alloc ?_ _) | (with_reducible refine Kd.C_drewN ?_ _) | (with_reducible refine Kd.C_drew ?_))); (case side2 => exact HC327_0.out); (case side3 => repeat (first | exact (Kd.V_reads' HO_1.out).2.2 | (with_reducible refine Kd.C_alloc ?_ _) | (with_reducible refine Kd.C_drewN ?_ _) | (with_reducible refine Kd.C_drew ?_))); (case side4 => exact (Kd.V_reads' HO_1.out).2.1); rintro e w' ⟨rfl, ⟨nd, rfl⟩⟩; refine ⟨_, rfl, ?_⟩))
      go_ret
      exact ⟨_, by first | rfl | (simp [errW_none, errW_some] <;> rfl) | (simp [*, errW_none, errW_some] <;> rfl), by (with_reducible repeat (first | apply Kd.V_alloc | apply Kd.V_drewN | apply Kd.V_drew)); exact Kd.V_mono HO_0.out (fun _ hk => hk.1), by repeat (first | (with_reducible first | exact HB.out | apply pA_ | apply pN_ | apply pD_) | exact HB.out)⟩
     ·replace c6 := Bool.eq_false_iff.mpr c6
      subst c6
      have H1 : (if x6_1 = true then (if x5_1.length < 5864062014805 then (r6Put.l0 k1 l0 l1 (x5_1 ++ [rd_L2 l0 x7_1]) x6_1 (wrap64 (x7_1 + 1))) else (none)) else ((r6Before.f k1 l1 (rd_L2 l0 x7_1)).bind fun t334 => (if t334 = true then (if x5_1.length < 5864062014805 then ((some (x5_1 ++ [l1] : List (List Int))).bind fun y335 => (if y335.length < 5864062014805 then (r6Put.l0 k1 l0 l1 (y335 ++ [rd_L2 l0 x7_1]) true (wrap64 (x7_1 + 1))) else (none))) else (none)) else (if x5_1.length < 5864062014805 then (r6Put.l0 k1 l0 l1 (x5_1 ++ [rd_L2 l0 x7_1]) x6_1 (wrap64 (x7_1 + 1))) else (none))))) = some r := by rw [if_neg (show ¬ (false = true) by decide)] at H; exact H
      clear H
      have H := H1
      clear H1
      by_cases c7 : x6_1 = true
      ·subst c7
       have H1 : (if x5_1.length < 5864062014805 then (r6Put.l0 k1 l0 l1 (x5_1 ++ [rd_L2 l0 x7_1]) true (wrap64 (x7_1 + 1))) else (none)) = some r := by rw [if_pos rfl] at H; exact H
       clear H
       have H := H1
       clear H1
       by_cases c8 : x5_1.length < 5864062014805
       ·rw [if_pos c8] at H
        have LMc8 := Am c8
        clear c8
        obtain ⟨y330, hy330⟩ : ∃ y_ : List (List Int), y_ = (x5_1 ++ [rd_L2 l0 x7_1]) := ⟨_, rfl⟩
        replace H : (r6Put.l0 k1 l0 l1 y330 true (wrap64 (x7_1 + 1))) = some r := by first | (rw [hy330]; with_reducible exact H) | (have H2_ := (Option.bind_some _ _).symm.trans H; rw [hy330]; with_reducible exact H2_) | (have H2_ := (Option.bind_some _ _).symm.trans H; with_reducible exact H2_) | with_reducible exact H | (rw [hy330]; exact H) | exact H
        have Ny330 := Am hy330
        clear hy330
        have H' := Am H
        clear H
        have p327 : 0 ≤ (x7_1 : Int) := of_decide_eq_true (by first | (with_reducible assumption) | assumption)
        have q327 : x7_1 < (l0.length : Int) := of_decide_eq_true (by first | (with_reducible assumption) | assumption)
        obtain ⟨ad327, A327_0, c327_0, e327, hx327_0, hl327_0, hi327_0⟩ := at_L2 (Kd.V_reads' HO_0.out).2.2 x7_1 p327 q327
        cases e327
        obtain ⟨ce327, hce327, hMe327, hcc327⟩ := Kd.V_get HO_0.out [] x7_1 p327 (by first | exact q327 | exact of_decide_eq_true (by first | (with_reducible assumption) | assumption) | (have e_ := (Kd.V_reads' HO_0.out).1; omega))
        obtain ⟨ua327_0, uc327_0, rfl, ul327_0, ge327_0⟩ := Kd.FK_slice_open hMe327
        have hv327_0 := hcc327 0 _ rfl
        rw [Nat.add_zero, show ((Kd.slice 3 (Kd.int .i64))).sz = 1 from rfl, Nat.mul_one] at hv327_0
        replace hv327_0 := Option.some.inj (hv327_0.symm.trans hx327_0)
        injection hv327_0 with hva_ hvn_ hvc_
        rw [hva_] at ge327_0
        rw [hvc_] at ul327_0
        have HL327_0 := Am (show Kd.V (Kd.int .i64) 3 _ w.heap.size _ _ (rd_L2 l0 x7_1) from Kd.V_mk ul327_0 ge327_0)
        clear hva_ hvn_ hvc_ ge327_0 ul327_0
        clear hcc327 hce327
        have HR327_0 := Am hi327_0
        have HC327_0 := Am hl327_0
        clear hi327_0 hl327_0
        replace p327 := eq_true p327
        replace q327 := eq_true q327
        go_wp2_with (first | ((with_reducible refine gate_callee (f := 24) rfl ?_); refine goesL_ (some 19) rfl rfl Tryz.func24 (by kernel_rfl) rfl #[.slice A327_0 (rd_L2 l0 x7_1).length c327_0, .slice A1 l1.length c1] rfl (by (try simp only [List.map_toArray, List.map_cons, List.map_nil]); first | done | rfl | (simp only [List.length_drop, List.length_take]; rfl)) ?_; (with_reducible refine (r2Same.calls k1 _ _ (rd_L2 l0 x7_1) _ _ l1 false _ ?side1 ?side2 ?side3 ?side4 A5.out).mono ?_); (case side1 => repeat (first | exact (by repeat (first | (with_reducible exact HR327_0.out) | (with_reducible refine Kd.C_alloc ?_ _) | (with_reducible refine Kd.C_drewN ?_ _) | (with_reducible refine Kd.C_drew ?_) | exact HR327_0.out)) | (with_reducible refine Kd.C_alloc ?_ _) | (with_reducible refine Kd.C_drewN ?_ _) | (with_reducible refine Kd.C_drew ?_))); (case side2 => exact HC327_0.out); (case side3 => repeat (first | exact (Kd.V_reads' HO_1.out).2.2 | (with_reducible refine Kd.C_alloc ?_ _) | (with_reducible refine Kd.C_drewN ?_ _) | (with_reducible refine Kd.C_drew ?_))); (case side4 => exact (Kd.V_reads' HO_1.out).2.1); rintro e w' ⟨rfl, ⟨nd, rfl⟩⟩; refine ⟨_, rfl, ?_⟩; have p329 : 0 ≤ (x7_1 : Int) := of_decide_eq_true (by first | (with_reducible assumption) | assumption); have q329 : x7_1 < (l0.length : Int) := of_decide_eq_true (by first | (with_reducible assumption) | assumption); obtain ⟨ad329, A329_0, c329_0, e329, hx329_0, hl329_0, hi329_0⟩ := at_L2 (Kd.V_reads' HO_0.out).2.2 x7_1 p329 q329; obtain rfl : ad327 = ad329 := (by injection e329); obtain ⟨ce329, hce329, hMe329, hcc329⟩ := Kd.V_get HO_0.out [] x7_1 p329 (by first | exact q329 | exact of_decide_eq_true (by first | (with_reducible assumption) | assumption) | (have e_ := (Kd.V_reads' HO_0.out).1; omega)); obtain ⟨ua329_0, uc329_0, rfl, ul329_0, ge329_0⟩ := Kd.FK_slice_open hMe329; have hv329_0 := hcc329 0 _ rfl; rw [Nat.add_zero, show ((Kd.slice 3 (Kd.int .i64))).sz = 1 from rfl, Nat.mul_one] at hv329_0; replace hv329_0 := Option.some.inj (hv329_0.symm.trans hx329_0); injection hv329_0 with hva_ hvn_ hvc_; rw [hva_] at ge329_0; rw [hvc_] at ul329_0; have HL329_0 := Am (show Kd.V (Kd.int .i64) 3 _ w.heap.size _ _ (rd_L2 l0 x7_1) from Kd.V_mk ul329_0 ge329_0); clear hva_ hvn_ hvc_ ge329_0 ul329_0; clear hcc329 hce329; have HR329_0 := Am hi329_0; have HC329_0 := Am hl329_0; clear hi329_0 hl329_0; replace p329 := eq_true p329; replace q329 := eq_true q329; have ea_ := Option.some.inj (hx327_0.symm.trans hx329_0); injection ea_ with ea_ en_ ec_; subst ea_; subst ec_; clear en_) | ((with_reducible refine gate_builtin (b := .append) (xs := #[.tmp 35, .tmp 40]) rfl ?_); at_builtin; refine Kd.N_append (Kd.slice 3 (Kd.int .i64)) (w0 := w) w.heap.size rfl (.tmp 35) (.tmp 40) 47 25 (.slice none 0 0) 24 rfl Tryz.underlying47 info25 rfl (by decide) (by omega) u5 x5_1 (rd_L2 l0 x7_1) [.slice A327_0 (rd_L2 l0 x7_1).length c327_0] (fun k_ => ((P0_ k_ ∨ P1_ k_) ∨ w.heap.size ≤ k_)) (fun k_ => ((fun k_ => ((P0_ k_ ∨ P1_ k_) ∨ w.heap.size ≤ k_))) k_ ∧ some k_ ≠ (u5 : Value).ownBlock) rfl rfl ?aP (fun _ hk => hk) ?aF ?aO ?aB ?aS ?aL ?_; (case aP => exact (Kd.FK_slice_mk (Kd.V_reads' (Kd.V_mono (ok' := (fun k_ => ((fun k_ => ((P0_ k_ ∨ P1_ k_) ∨ w.heap.size ≤ k_))) k_ ∧ some k_ ≠ (u5 : Value).ownBlock)) (HL329_0.out) (fun k_ hk => ⟨hk.1, hk.2⟩))).2.1 (Kd.V_F (by (with_reducible repeat (first | apply Kd.V_alloc | apply Kd.V_drewN | apply Kd.V_drew)); exact Kd.V_mono (ok' := (fun k_ => ((fun k_ => ((P0_ k_ ∨ P1_ k_) ∨ w.heap.size ≤ k_))) k_ ∧ some k_ ≠ (u5 : Value).ownBlock)) (HL329_0.out) (fun k_ hk => ⟨hk.1, hk.2⟩))))); (case aB => exact (by repeat (first | (with_reducible first | exact HB.out | apply pA_ | apply pN_ | apply pD_) | exact HB.out))); (case aF => exact (fun k_ hk => (.inr (Nat.le_trans (pZ_ (by repeat (first | (with_reducible first | exact HB.out | apply pA_ | apply pN_ | apply pD_) | exact HB.out))) hk)))); (case aO => exact (by (with_reducible repeat (first | apply Kd.N_alloc | apply Kd.N_drewN | apply Kd.N_drew)); exact HO_5.out)); (case aS => exact (pZ_ (by repeat (first | (with_reducible first | exact HB.out | apply pA_ | apply pN_ | apply pD_) | exact HB.out)))); (case aL => have := LMc8.out; omega); intro v331 w9 ho hb hg hat; rw [← Ny330.out] at ho; have n0_ := Am (Kd.V_afterv (ok := (fun k_ => ((P0_ k_ ∨ P1_ k_) ∨ w.heap.size ≤ k_))) (by (with_reducible repeat (first | apply Kd.V_alloc | apply Kd.V_drewN | apply Kd.V_drew)); exact HO_0.out) hg hat); have n1_ := Am (Kd.V_afterv (ok := (fun k_ => ((P0_ k_ ∨ P1_ k_) ∨ w.heap.size ≤ k_))) (by (with_reducible repeat (first | apply Kd.V_alloc | apply Kd.V_drewN | apply Kd.V_drew)); exact HO_1.out) hg hat); have n2_ := Am (Kd.V_afterv (ok := (fun k_ => ((P0_ k_ ∨ P1_ k_) ∨ w.heap.size ≤ k_))) (by (with_reducible repeat (first | apply Kd.V_alloc | apply Kd.V_drewN | apply Kd.V_drew)); exact HL327_0.out) hg hat); have n3_ := Am (Kd.V_afterv (ok := (fun k_ => ((P0_ k_ ∨ P1_ k_) ∨ w.heap.size ≤ k_))) (by (with_reducible repeat (first | apply Kd.V_alloc | apply Kd.V_drewN | apply Kd.V_drew)); exact HL329_0.out) hg hat); have n4_ := Am (hb); have n5_ := Am (ho); clear HO_0; clear HO_1; clear HL327_0; clear HL329_0; clear HB; clear HO_5; have HO_0 := n0_; have HO_1 := n1_; have HL327_0 := n2_; have HL329_0 := n3_; have HB := n4_; have HO332 := n5_; clear n0_ n1_ n2_ n3_ n4_ n5_; clear ho hb hg hat))
        go_roundg k1
        case measure => have := HK1.out; omega
        case rel => exact ⟨(y330), (true), (wrap64 (x7_1 + 1)), (by first | rfl | (simp; done) | (simp [*]; done)), (by first | rfl | (simp; done) | (simp [*]; done)), H', ⟨by have := HK1.out; omega⟩, ⟨by (with_reducible repeat (first | apply Kd.V_alloc | apply Kd.V_drewN | apply Kd.V_drew)); exact HO_0.out⟩, ⟨by (with_reducible repeat (first | apply Kd.V_alloc | apply Kd.V_drewN | apply Kd.V_drew)); exact HO_1.out⟩, ⟨by (with_reducible repeat (first | apply Kd.N_alloc | apply Kd.N_drewN | apply Kd.N_drew)); exact HO332.out⟩, ⟨by repeat (first | (with_reducible first | exact HB.out | apply pA_ | apply pN_ | apply pD_) | exact HB.out)⟩⟩
       ·rw [if_neg c8] at H
        exact absurd H (by simp)
      ·replace c7 := Bool.eq_false_iff.mpr c7
       subst c7
       have H1 : ((r6Before.f k1 l1 (rd_L2 l0 x7_1)).bind fun t334 => (if t334 = true then (if x5_1.length < 5864062014805 then ((some (x5_1 ++ [l1] : List (List Int))).bind fun y335 => (if y335.length < 5864062014805 then (r6Put.l0 k1 l0 l1 (y335 ++ [rd_L2 l0 x7_1]) true (wrap64 (x7_1 + 1))) else (none))) else (none)) else (if x5_1.length < 5864062014805 then (r6Put.l0 k1 l0 l1 (x5_1 ++ [rd_L2 l0 x7_1]) false (wrap64 (x7_1 + 1))) else (none)))) = some r := by rw [if_neg (show ¬ (false = true) by decide)] at H; exact H
       clear H
       have H := H1
       clear H1
       replace H := Option.bind_eq_some_iff.mp H
       obtain ⟨t334, A100, H⟩ := H
       replace H : (if t334 = true then (if x5_1.length < 5864062014805 then ((some (x5_1 ++ [l1] : List (List Int))).bind fun y335 => (if y335.length < 5864062014805 then (r6Put.l0 k1 l0 l1 (y335 ++ [rd_L2 l0 x7_1]) true (wrap64 (x7_1 + 1))) else (none))) else (none)) else (if x5_1.length < 5864062014805 then (r6Put.l0 k1 l0 l1 (x5_1 ++ [rd_L2 l0 x7_1]) false (wrap64 (x7_1 + 1))) else (none))) = some r := H
       have A10 := Am A100
       clear A100
       by_cases c11 : t334 = true
       ·subst c11
        have H1 : (if x5_1.length < 5864062014805 then ((some (x5_1 ++ [l1] : List (List Int))).bind fun y335 => (if y335.length < 5864062014805 then (r6Put.l0 k1 l0 l1 (y335 ++ [rd_L2 l0 x7_1]) true (wrap64 (x7_1 + 1))) else (none))) else (none)) = some r := by rw [if_pos rfl] at H; exact H
        clear H
        have H := H1
        clear H1
        by_cases c12 : x5_1.length < 5864062014805
        ·rw [if_pos c12] at H
         have LMc12 := Am c12
         clear c12
         obtain ⟨y335, hy335⟩ : ∃ y_ : List (List Int), y_ = (x5_1 ++ [l1]) := ⟨_, rfl⟩
         replace H : (if y335.length < 5864062014805 then (r6Put.l0 k1 l0 l1 (y335 ++ [rd_L2 l0 x7_1]) true (wrap64 (x7_1 + 1))) else (none)) = some r := by first | (rw [hy335]; with_reducible exact H) | (have H2_ := (Option.bind_some _ _).symm.trans H; rw [hy335]; with_reducible exact H2_) | (have H2_ := (Option.bind_some _ _).symm.trans H; with_reducible exact H2_) | with_reducible exact H | (rw [hy335]; exact H) | exact H
         have Ny335 := Am hy335
         clear hy335
         by_cases c13 : y335.length < 5864062014805
         ·rw [if_pos c13] at H
          have LMc13 := Am c13
          clear c13
          obtain ⟨y339, hy339⟩ : ∃ y_ : List (List Int), y_ = (y335 ++ [rd_L2 l0 x7_1]) := ⟨_, rfl⟩
          replace H : (r6Put.l0 k1 l0 l1 y339 true (wrap64 (x7_1 + 1))) = some r := by first | (rw [hy339]; with_reducible exact H) | (have H2_ := (Option.bind_some _ _).symm.trans H; rw [hy339]; with_reducible exact H2_) | (have H2_ := (Option.bind_some _ _).symm.trans H; with_reducible exact H2_) | with_reducible exact H | (rw [hy339]; exact H) | exact H
          have Ny339 := Am hy339
          clear hy339
          have H' := Am H
          clear H
          have p327 : 0 ≤ (x7_1 : Int) := of_decide_eq_true (by first | (with_reducible assumption) | assumption)
          have q327 : x7_1 < (l0.length : Int) := of_decide_eq_true (by first | (with_reducible assumption) | assumption)
          obtain ⟨ad327, A327_0, c327_0, e327, hx327_0, hl327_0, hi327_0⟩ := at_L2 (Kd.V_reads' HO_0.out).2.2 x7_1 p327 q327
          cases e327
          obtain ⟨ce327, hce327, hMe327, hcc327⟩ := Kd.V_get HO_0.out [] x7_1 p327 (by first | exact q327 | exact of_decide_eq_true (by first | (with_reducible assumption) | assumption) | (have e_ := (Kd.V_reads' HO_0.out).1; omega))
          obtain ⟨ua327_0, uc327_0, rfl, ul327_0, ge327_0⟩ := Kd.FK_slice_open hMe327
          have hv327_0 := hcc327 0 _ rfl
          rw [Nat.add_zero, show ((Kd.slice 3 (Kd.int .i64))).sz = 1 from rfl, Nat.mul_one] at hv327_0
          replace hv327_0 := Option.some.inj (hv327_0.symm.trans hx327_0)
          injection hv327_0 with hva_ hvn_ hvc_
          rw [hva_] at ge327_0
          rw [hvc_] at ul327_0
          have HL327_0 := Am (show Kd.V (Kd.int .i64) 3 _ w.heap.size _ _ (rd_L2 l0 x7_1) from Kd.V_mk ul327_0 ge327_0)
          clear hva_ hvn_ hvc_ ge327_0 ul327_0
          clear hcc327 hce327
          have HR327_0 := Am hi327_0
          have HC327_0 := Am hl327_0
          clear hi327_0 hl327_0
          replace p327 := eq_true p327
          replace q327 := eq_true q327
          go_wp2_with (first | ((with_reducible refine gate_callee (f := 24) rfl ?_); refine goesL_ (some 19) rfl rfl Tryz.func24 (by kernel_rfl) rfl #[.slice A327_0 (rd_L2 l0 x7_1).length c327_0, .slice A1 l1.length c1] rfl (by (try simp only [List.map_toArray, List.map_cons, List.map_nil]); first | done | rfl | (simp only [List.length_drop, List.length_take]; rfl)) ?_; (with_reducible refine (r2Same.calls k1 _ _ (rd_L2 l0 x7_1) _ _ l1 false _ ?side1 ?side2 ?side3 ?side4 A5.out).mono ?_); (case side1 => repeat (first | exact (by repeat (first | (with_reducible exact HR327_0.out) | (with_reducible refine Kd.C_alloc ?_ _) | (with_reducible refine Kd.C_drewN ?_ _) | (with_reducible refine Kd.C_drew ?_) | exact HR327_0.out)) | (with_reducible refine Kd.C_alloc ?_ _) | (with_reducible refine Kd.C_drewN ?_ _) | (with_reducible refine Kd.C_drew ?_))); (case side2 => exact HC327_0.out); (case side3 => repeat (first | exact (Kd.V_reads' HO_1.out).2.2 | (with_reducible refine Kd.C_alloc ?_ _) | (with_reducible refine Kd.C_drewN ?_ _) | (with_reducible refine Kd.C_drew ?_))); (case side4 => exact (Kd.V_reads' HO_1.out).2.1); rintro e w' ⟨rfl, ⟨nd, rfl⟩⟩; refine ⟨_, rfl, ?_⟩; have p333 : 0 ≤ (x7_1 : Int) := of_decide_eq_true (by first | (with_reducible assumption) | assumption); have q333 : x7_1 < (l0.length : Int) := of_decide_eq_true (by first | (with_reducible assumption) | assumption); obtain ⟨ad333, A333_0, c333_0, e333, hx333_0, hl333_0, hi333_0⟩ := at_L2 (Kd.V_reads' HO_0.out).2.2 x7_1 p333 q333; obtain rfl : ad327 = ad333 := (by injection e333); obtain ⟨ce333, hce333, hMe333, hcc333⟩ := Kd.V_get HO_0.out [] x7_1 p333 (by first | exact q333 | exact of_decide_eq_true (by first | (with_reducible assumption) | assumption) | (have e_ := (Kd.V_reads' HO_0.out).1; omega)); obtain ⟨ua333_0, uc333_0, rfl, ul333_0, ge333_0⟩ := Kd.FK_slice_open hMe333; have hv333_0 := hcc333 0 _ rfl; rw [Nat.add_zero, show ((Kd.slice 3 (Kd.int .i64))).sz = 1 from rfl, Nat.mul_one] at hv333_0; replace hv333_0 := Option.some.inj (hv333_0.symm.trans hx333_0); injection hv333_0 with hva_ hvn_ hvc_; rw [hva_] at ge333_0; rw [hvc_] at ul333_0; have HL333_0 := Am (show Kd.V (Kd.int .i64) 3 _ w.heap.size _ _ (rd_L2 l0 x7_1) from Kd.V_mk ul333_0 ge333_0); clear hva_ hvn_ hvc_ ge333_0 ul333_0; clear hcc333 hce333; have HR333_0 := Am hi333_0; have HC333_0 := Am hl333_0; clear hi333_0 hl333_0; replace p333 := eq_true p333; replace q333 := eq_true q333; have ea_ := Option.some.inj (hx327_0.symm.trans hx333_0); injection ea_ with ea_ en_ ec_; subst ea_; subst ec_; clear en_) | (go_at_call 52; (with_reducible refine (r6Before.calls k1 _ _ l1 _ _ (rd_L2 l0 x7_1) true _ ?side1 ?side2 ?side3 ?side4 A10.out).mono ?_); (case side1 => repeat (first | exact (Kd.V_reads' HO_1.out).2.2 | (with_reducible refine Kd.C_alloc ?_ _) | (with_reducible refine Kd.C_drewN ?_ _) | (with_reducible refine Kd.C_drew ?_))); (case side2 => exact (Kd.V_reads' HO_1.out).2.1); (case side3 => repeat (first | exact (by repeat (first | (with_reducible exact HR333_0.out) | (with_reducible refine Kd.C_alloc ?_ _) | (with_reducible refine Kd.C_drewN ?_ _) | (with_reducible refine Kd.C_drew ?_) | exact HR333_0.out)) | (with_reducible refine Kd.C_alloc ?_ _) | (with_reducible refine Kd.C_drewN ?_ _) | (with_reducible refine Kd.C_drew ?_))); (case side4 => exact HC333_0.out); rintro e w' ⟨rfl, ⟨nd, rfl⟩⟩) | ((with_reducible refine gate_builtin (b := .append) (xs := #[.tmp 31, .tmp 33]) rfl ?_); at_builtin; refine Kd.N_append (Kd.slice 3 (Kd.int .i64)) (w0 := w) w.heap.size rfl (.tmp 31) (.tmp 33) 47 25 (.slice none 0 0) 24 rfl Tryz.underlying47 info25 rfl (by decide) (by omega) u5 x5_1 l1 [.slice A1 l1.length c1] (fun k_ => ((P0_ k_ ∨ P1_ k_) ∨ w.heap.size ≤ k_)) (fun k_ => ((fun k_ => ((P0_ k_ ∨ P1_ k_) ∨ w.heap.size ≤ k_))) k_ ∧ some k_ ≠ (u5 : Value).ownBlock) rfl rfl ?aP (fun _ hk => hk) ?aF ?aO ?aB ?aS ?aL ?_; (case aP => exact (Kd.FK_slice_mk (Kd.V_reads' (Kd.V_mono (ok' := (fun k_ => ((fun k_ => ((P0_ k_ ∨ P1_ k_) ∨ w.heap.size ≤ k_))) k_ ∧ some k_ ≠ (u5 : Value).ownBlock)) (HO_1.out) (fun k_ hk => ⟨hk.1, hk.2⟩))).2.1 (Kd.V_F (by (with_reducible repeat (first | apply Kd.V_alloc | apply Kd.V_drewN | apply Kd.V_drew)); exact Kd.V_mono (ok' := (fun k_ => ((fun k_ => ((P0_ k_ ∨ P1_ k_) ∨ w.heap.size ≤ k_))) k_ ∧ some k_ ≠ (u5 : Value).ownBlock)) (HO_1.out) (fun k_ hk => ⟨hk.1, hk.2⟩))))); (case aB => exact (by repeat (first | (with_reducible first | exact HB.out | apply pA_ | apply pN_ | apply pD_) | exact HB.out))); (case aF => exact (fun k_ hk => (.inr (Nat.le_trans (pZ_ (by repeat (first | (with_reducible first | exact HB.out | apply pA_ | apply pN_ | apply pD_) | exact HB.out))) hk)))); (case aO => exact (by (with_reducible repeat (first | apply Kd.N_alloc | apply Kd.N_drewN | apply Kd.N_drew)); exact HO_5.out)); (case aS => exact (pZ_ (by repeat (first | (with_reducible first | exact HB.out | apply pA_ | apply pN_ | apply pD_) | exact HB.out)))); (case aL => have := LMc12.out; omega); intro v336 w14 ho hb hg hat; rw [← Ny335.out] at ho; have n0_ := Am (Kd.V_afterv (ok := (fun k_ => ((P0_ k_ ∨ P1_ k_) ∨ w.heap.size ≤ k_))) (by (with_reducible repeat (first | apply Kd.V_alloc | apply Kd.V_drewN | apply Kd.V_drew)); exact HO_0.out) hg hat); have n1_ := Am (Kd.V_afterv (ok := (fun k_ => ((P0_ k_ ∨ P1_ k_) ∨ w.heap.size ≤ k_))) (by (with_reducible repeat (first | apply Kd.V_alloc | apply Kd.V_drewN | apply Kd.V_drew)); exact HO_1.out) hg hat); have n2_ := Am (Kd.V_afterv (ok := (fun k_ => ((P0_ k_ ∨ P1_ k_) ∨ w.heap.size ≤ k_))) (by (with_reducible repeat (first | apply Kd.V_alloc | apply Kd.V_drewN | apply Kd.V_drew)); exact HL327_0.out) hg hat); have n3_ := Am (Kd.V_afterv (ok := (fun k_ => ((P0_ k_ ∨ P1_ k_) ∨ w.heap.size ≤ k_))) (by (with_reducible repeat (first | apply Kd.V_alloc | apply Kd.V_drewN | apply Kd.V_drew)); exact HL333_0.out) hg hat); have n4_ := Am (hb); have n5_ := Am (ho); clear HO_0; clear HO_1; clear HL327_0; clear HL333_0; clear HB; clear HO_5; have HO_0 := n0_; have HO_1 := n1_; have HL327_0 := n2_; have HL333_0 := n3_; have HB := n4_; have HO337 := n5_; clear n0_ n1_ n2_ n3_ n4_ n5_; clear ho hb hg hat; have p338 : 0 ≤ (x7_1 : Int) := of_decide_eq_true (by first | (with_reducible assumption) | assumption); have q338 : x7_1 < (l0.length : Int) := of_decide_eq_true (by first | (with_reducible assumption) | assumption); obtain ⟨ad338, A338_0, c338_0, e338, hx338_0, hl338_0, hi338_0⟩ := at_L2 (Kd.V_reads' HO_0.out).2.2 x7_1 p338 q338; obtain rfl : ad327 = ad338 := (by injection e338); obtain ⟨ce338, hce338, hMe338, hcc338⟩ := Kd.V_get HO_0.out [] x7_1 p338 (by first | exact q338 | exact of_decide_eq_true (by first | (with_reducible assumption) | assumption) | (have e_ := (Kd.V_reads' HO_0.out).1; omega)); obtain ⟨ua338_0, uc338_0, rfl, ul338_0, ge338_0⟩ := Kd.FK_slice_open hMe338; have hv338_0 := hcc338 0 _ rfl; rw [Nat.add_zero, show ((Kd.slice 3 (Kd.int .i64))).sz = 1 from rfl, Nat.mul_one] at hv338_0; replace hv338_0 := Option.some.inj (hv338_0.symm.trans hx338_0); injection hv338_0 with hva_ hvn_ hvc_; rw [hva_] at ge338_0; rw [hvc_] at ul338_0; have HL338_0 := Am (show Kd.V (Kd.int .i64) 3 _ w.heap.size _ _ (rd_L2 l0 x7_1) from Kd.V_mk ul338_0 ge338_0); clear hva_ hvn_ hvc_ ge338_0 ul338_0; clear hcc338 hce338; have HR338_0 := Am hi338_0; have HC338_0 := Am hl338_0; clear hi338_0 hl338_0; replace p338 := eq_true p338; replace q338 := eq_true q338) | ((with_reducible refine gate_builtin (b := .append) (xs := #[.tmp 35, .tmp 40]) rfl ?_); at_builtin; refine Kd.N_append (Kd.slice 3 (Kd.int .i64)) (w0 := w) w.heap.size rfl (.tmp 35) (.tmp 40) 47 25 (.slice none 0 0) 24 rfl Tryz.underlying47 info25 rfl (by decide) (by omega) v336 y335 (rd_L2 l0 x7_1) [.slice A338_0 (rd_L2 l0 x7_1).length c338_0] (fun k_ => ((P0_ k_ ∨ P1_ k_) ∨ w.heap.size ≤ k_)) (fun k_ => ((fun k_ => ((P0_ k_ ∨ P1_ k_) ∨ w.heap.size ≤ k_))) k_ ∧ some k_ ≠ (v336 : Value).ownBlock) rfl rfl ?aP (fun _ hk => hk) ?aF ?aO ?aB ?aS ?aL ?_; (case aP => exact (Kd.FK_slice_mk (Kd.V_reads' (Kd.V_mono (ok' := (fun k_ => ((fun k_ => ((P0_ k_ ∨ P1_ k_) ∨ w.heap.size ≤ k_))) k_ ∧ some k_ ≠ (v336 : Value).ownBlock)) (HL338_0.out) (fun k_ hk => ⟨hk.1, hk.2⟩))).2.1 (Kd.V_F (by (with_reducible repeat (first | apply Kd.V_alloc | apply Kd.V_drewN | apply Kd.V_drew)); exact Kd.V_mono (ok' := (fun k_ => ((fun k_ => ((P0_ k_ ∨ P1_ k_) ∨ w.heap.size ≤ k_))) k_ ∧ some k_ ≠ (v336 : Value).ownBlock)) (HL338_0.out) (fun k_ hk => ⟨hk.1, hk.2⟩))))); (case aB => exact (by repeat (first | (with_reducible first | exact HB.out | apply pA_ | apply pN_ | apply pD_) | exact HB.out))); (case aF => exact (fun k_ hk => (.inr (Nat.le_trans (pZ_ (by repeat (first | (with_reducible first | exact HB.out | apply pA_ | apply pN_ | apply pD_) | exact HB.out))) hk)))); (case aO => exact (by (with_reducible repeat (first | apply Kd.N_alloc | apply Kd.N_drewN | apply Kd.N_drew)); exact HO337.out)); (case aS => exact (pZ_ (by repeat (first | (with_reducible first | exact HB.out | apply pA_ | apply pN_ | apply pD_) | exact HB.out)))); (case aL => have := LMc13.out; omega); intro v340 w15 ho hb hg hat; rw [← Ny339.out] at ho; have n0_ := Am (Kd.V_afterv (ok := (fun k_ => ((P0_ k_ ∨ P1_ k_) ∨ w.heap.size ≤ k_))) (by (with_reducible repeat (first | apply Kd.V_alloc | apply Kd.V_drewN | apply Kd.V_drew)); exact HO_0.out) hg hat); have n1_ := Am (Kd.V_afterv (ok := (fun k_ => ((P0_ k_ ∨ P1_ k_) ∨ w.heap.size ≤ k_))) (by (with_reducible repeat (first | apply Kd.V_alloc | apply Kd.V_drewN | apply Kd.V_drew)); exact HO_1.out) hg hat); have n2_ := Am (Kd.V_afterv (ok := (fun k_ => ((P0_ k_ ∨ P1_ k_) ∨ w.heap.size ≤ k_))) (by (with_reducible repeat (first | apply Kd.V_alloc | apply Kd.V_drewN | apply Kd.V_drew)); exact HL327_0.out) hg hat); have n3_ := Am (Kd.V_afterv (ok := (fun k_ => ((P0_ k_ ∨ P1_ k_) ∨ w.heap.size ≤ k_))) (by (with_reducible repeat (first | apply Kd.V_alloc | apply Kd.V_drewN | apply Kd.V_drew)); exact HL333_0.out) hg hat); have n4_ := Am (Kd.V_afterv (ok := (fun k_ => ((P0_ k_ ∨ P1_ k_) ∨ w.heap.size ≤ k_))) (by (with_reducible repeat (first | apply Kd.V_alloc | apply Kd.V_drewN | apply Kd.V_drew)); exact HL338_0.out) hg hat); have n5_ := Am (hb); have n6_ := Am (ho); clear HO_0; clear HO_1; clear HL327_0; clear HL333_0; clear HL338_0; clear HB; clear HO337; have HO_0 := n0_; have HO_1 := n1_; have HL327_0 := n2_; have HL333_0 := n3_; have HL338_0 := n4_; have HB := n5_; have HO341 := n6_; clear n0_ n1_ n2_ n3_ n4_ n5_ n6_; clear ho hb hg hat))
          go_roundg k1
          case measure => have := HK1.out; omega
          case rel => exact ⟨(y339), (true), (wrap64 (x7_1 + 1)), (by first | rfl | (simp; done) | (simp [*]; done)), (by first | rfl | (simp; done) | (simp [*]; done)), H', ⟨by have := HK1.out; omega⟩, ⟨by (with_reducible repeat (first | apply Kd.V_alloc | apply Kd.V_drewN | apply Kd.V_drew)); exact HO_0.out⟩, ⟨by (with_reducible repeat (first | apply Kd.V_alloc | apply Kd.V_drewN | apply Kd.V_drew)); exact HO_1.out⟩, ⟨by (with_reducible repeat (first | apply Kd.N_alloc | apply Kd.N_drewN | apply Kd.N_drew)); exact HO341.out⟩, ⟨by repeat (first | (with_reducible first | exact HB.out | apply pA_ | apply pN_ | apply pD_) | exact HB.out)⟩⟩
         ·rw [if_neg c13] at H
          exact absurd H (by simp)
        ·rw [if_neg c12] at H
         exact absurd H (by simp)
       ·replace c11 := Bool.eq_false_iff.mpr c11
        subst c11
        have H1 : (if x5_1.length < 5864062014805 then (r6Put.l0 k1 l0 l1 (x5_1 ++ [rd_L2 l0 x7_1]) false (wrap64 (x7_1 + 1))) else (none)) = some r := by rw [if_neg (show ¬ (false = true) by decide)] at H; exact H
        clear H
        have H := H1
        clear H1
        by_cases c16 : x5_1.length < 5864062014805
        ·rw [if_pos c16] at H
         have LMc16 := Am c16
         clear c16
         obtain ⟨y343, hy343⟩ : ∃ y_ : List (List Int), y_ = (x5_1 ++ [rd_L2 l0 x7_1]) := ⟨_, rfl⟩
         replace H : (r6Put.l0 k1 l0 l1 y343 false (wrap64 (x7_1 + 1))) = some r := by first | (rw [hy343]; with_reducible exact H) | (have H2_ := (Option.bind_some _ _).symm.trans H; rw [hy343]; with_reducible exact H2_) | (have H2_ := (Option.bind_some _ _).symm.trans H; with_reducible exact H2_) | with_reducible exact H | (rw [hy343]; exact H) | exact H
         have Ny343 := Am hy343
         clear hy343
         have H' := Am H
         clear H
         have p327 : 0 ≤ (x7_1 : Int) := of_decide_eq_true (by first | (with_reducible assumption) | assumption)
         have q327 : x7_1 < (l0.length : Int) := of_decide_eq_true (by first | (with_reducible assumption) | assumption)
         obtain ⟨ad327, A327_0, c327_0, e327, hx327_0, hl327_0, hi327_0⟩ := at_L2 (Kd.V_reads' HO_0.out).2.2 x7_1 p327 q327
         cases e327
         obtain ⟨ce327, hce327, hMe327, hcc327⟩ := Kd.V_get HO_0.out [] x7_1 p327 (by first | exact q327 | exact of_decide_eq_true (by first | (with_reducible assumption) | assumption) | (have e_ := (Kd.V_reads' HO_0.out).1; omega))
         obtain ⟨ua327_0, uc327_0, rfl, ul327_0, ge327_0⟩ := Kd.FK_slice_open hMe327
         have hv327_0 := hcc327 0 _ rfl
         rw [Nat.add_zero, show ((Kd.slice 3 (Kd.int .i64))).sz = 1 from rfl, Nat.mul_one] at hv327_0
         replace hv327_0 := Option.some.inj (hv327_0.symm.trans hx327_0)
         injection hv327_0 with hva_ hvn_ hvc_
         rw [hva_] at ge327_0
         rw [hvc_] at ul327_0
         have HL327_0 := Am (show Kd.V (Kd.int .i64) 3 _ w.heap.size _ _ (rd_L2 l0 x7_1) from Kd.V_mk ul327_0 ge327_0)
         clear hva_ hvn_ hvc_ ge327_0 ul327_0
         clear hcc327 hce327
         have HR327_0 := Am hi327_0
         have HC327_0 := Am hl327_0
         clear hi327_0 hl327_0
         replace p327 := eq_true p327
         replace q327 := eq_true q327
         go_wp2_with (first | ((with_reducible refine gate_callee (f := 24) rfl ?_); refine goesL_ (some 19) rfl rfl Tryz.func24 (by kernel_rfl) rfl #[.slice A327_0 (rd_L2 l0 x7_1).length c327_0, .slice A1 l1.length c1] rfl (by (try simp only [List.map_toArray, List.map_cons, List.map_nil]); first | done | rfl | (simp only [List.length_drop, List.length_take]; rfl)) ?_; (with_reducible refine (r2Same.calls k1 _ _ (rd_L2 l0 x7_1) _ _ l1 false _ ?side1 ?side2 ?side3 ?side4 A5.out).mono ?_); (case side1 => repeat (first | exact (by repeat (first | (with_reducible exact HR327_0.out) | (with_reducible refine Kd.C_alloc ?_ _) | (with_reducible refine Kd.C_drewN ?_ _) | (with_reducible refine Kd.C_drew ?_) | exact HR327_0.out)) | (with_reducible refine Kd.C_alloc ?_ _) | (with_reducible refine Kd.C_drewN ?_ _) | (with_reducible refine Kd.C_drew ?_))); (case side2 => exact HC327_0.out); (case side3 => repeat (first | exact (Kd.V_reads' HO_1.out).2.2 | (with_reducible refine Kd.C_alloc ?_ _) | (with_reducible refine Kd.C_drewN ?_ _) | (with_reducible refine Kd.C_drew ?_))); (case side4 => exact (Kd.V_reads' HO_1.out).2.1); rintro e w' ⟨rfl, ⟨nd, rfl⟩⟩; refine ⟨_, rfl, ?_⟩; have p333 : 0 ≤ (x7_1 : Int) := of_decide_eq_true (by first | (with_reducible assumption) | assumption); have q333 : x7_1 < (l0.length : Int) := of_decide_eq_true (by first | (with_reducible assumption) | assumption); obtain ⟨ad333, A333_0, c333_0, e333, hx333_0, hl333_0, hi333_0⟩ := at_L2 (Kd.V_reads' HO_0.out).2.2 x7_1 p333 q333; obtain rfl : ad327 = ad333 := (by injection e333); obtain ⟨ce333, hce333, hMe333, hcc333⟩ := Kd.V_get HO_0.out [] x7_1 p333 (by first | exact q333 | exact of_decide_eq_true (by first | (with_reducible assumption) | assumption) | (have e_ := (Kd.V_reads' HO_0.out).1; omega)); obtain ⟨ua333_0, uc333_0, rfl, ul333_0, ge333_0⟩ := Kd.FK_slice_open hMe333; have hv333_0 := hcc333 0 _ rfl; rw [Nat.add_zero, show ((Kd.slice 3 (Kd.int .i64))).sz = 1 from rfl, Nat.mul_one] at hv333_0; replace hv333_0 := Option.some.inj (hv333_0.symm.trans hx333_0); injection hv333_0 with hva_ hvn_ hvc_; rw [hva_] at ge333_0; rw [hvc_] at ul333_0; have HL333_0 := Am (show Kd.V (Kd.int .i64) 3 _ w.heap.size _ _ (rd_L2 l0 x7_1) from Kd.V_mk ul333_0 ge333_0); clear hva_ hvn_ hvc_ ge333_0 ul333_0; clear hcc333 hce333; have HR333_0 := Am hi333_0; have HC333_0 := Am hl333_0; clear hi333_0 hl333_0; replace p333 := eq_true p333; replace q333 := eq_true q333; have ea_ := Option.some.inj (hx327_0.symm.trans hx333_0); injection ea_ with ea_ en_ ec_; subst ea_; subst ec_; clear en_) | (go_at_call 52; (with_reducible refine (r6Before.calls k1 _ _ l1 _ _ (rd_L2 l0 x7_1) false _ ?side1 ?side2 ?side3 ?side4 A10.out).mono ?_); (case side1 => repeat (first | exact (Kd.V_reads' HO_1.out).2.2 | (with_reducible refine Kd.C_alloc ?_ _) | (with_reducible refine Kd.C_drewN ?_ _) | (with_reducible refine Kd.C_drew ?_))); (case side2 => exact (Kd.V_reads' HO_1.out).2.1); (case side3 => repeat (first | exact (by repeat (first | (with_reducible exact HR333_0.out) | (with_reducible refine Kd.C_alloc ?_ _) | (with_reducible refine Kd.C_drewN ?_ _) | (with_reducible refine Kd.C_drew ?_) | exact HR333_0.out)) | (with_reducible refine Kd.C_alloc ?_ _) | (with_reducible refine Kd.C_drewN ?_ _) | (with_reducible refine Kd.C_drew ?_))); (case side4 => exact HC333_0.out); rintro e w' ⟨rfl, ⟨nd, rfl⟩⟩; have p342 : 0 ≤ (x7_1 : Int) := of_decide_eq_true (by first | (with_reducible assumption) | assumption); have q342 : x7_1 < (l0.length : Int) := of_decide_eq_true (by first | (with_reducible assumption) | assumption); obtain ⟨ad342, A342_0, c342_0, e342, hx342_0, hl342_0, hi342_0⟩ := at_L2 (Kd.V_reads' HO_0.out).2.2 x7_1 p342 q342; obtain rfl : ad327 = ad342 := (by injection e342); obtain ⟨ce342, hce342, hMe342, hcc342⟩ := Kd.V_get HO_0.out [] x7_1 p342 (by first | exact q342 | exact of_decide_eq_true (by first | (with_reducible assumption) | assumption) | (have e_ := (Kd.V_reads' HO_0.out).1; omega)); obtain ⟨ua342_0, uc342_0, rfl, ul342_0, ge342_0⟩ := Kd.FK_slice_open hMe342; have hv342_0 := hcc342 0 _ rfl; rw [Nat.add_zero, show ((Kd.slice 3 (Kd.int .i64))).sz = 1 from rfl, Nat.mul_one] at hv342_0; replace hv342_0 := Option.some.inj (hv342_0.symm.trans hx342_0); injection hv342_0 with hva_ hvn_ hvc_; rw [hva_] at ge342_0; rw [hvc_] at ul342_0; have HL342_0 := Am (show Kd.V (Kd.int .i64) 3 _ w.heap.size _ _ (rd_L2 l0 x7_1) from Kd.V_mk ul342_0 ge342_0); clear hva_ hvn_ hvc_ ge342_0 ul342_0; clear hcc342 hce342; have HR342_0 := Am hi342_0; have HC342_0 := Am hl342_0; clear hi342_0 hl342_0; replace p342 := eq_true p342; replace q342 := eq_true q342; have ea_ := Option.some.inj (hx327_0.symm.trans hx342_0); injection ea_ with ea_ en_ ec_; subst ea_; subst ec_; clear en_) | ((with_reducible refine gate_builtin (b := .append) (xs := #[.tmp 35, .tmp 40]) rfl ?_); at_builtin; refine Kd.N_append (Kd.slice 3 (Kd.int .i64)) (w0 := w) w.heap.size rfl (.tmp 35) (.tmp 40) 47 25 (.slice none 0 0) 24 rfl Tryz.underlying47 info25 rfl (by decide) (by omega) u5 x5_1 (rd_L2 l0 x7_1) [.slice A327_0 (rd_L2 l0 x7_1).length c327_0] (fun k_ => ((P0_ k_ ∨ P1_ k_) ∨ w.heap.size ≤ k_)) (fun k_ => ((fun k_ => ((P0_ k_ ∨ P1_ k_) ∨ w.heap.size ≤ k_))) k_ ∧ some k_ ≠ (u5 : Value).ownBlock) rfl rfl ?aP (fun _ hk => hk) ?aF ?aO ?aB ?aS ?aL ?_; (case aP => exact (Kd.FK_slice_mk (Kd.V_reads' (Kd.V_mono (ok' := (fun k_ => ((fun k_ => ((P0_ k_ ∨ P1_ k_) ∨ w.heap.size ≤ k_))) k_ ∧ some k_ ≠ (u5 : Value).ownBlock)) (HL342_0.out) (fun k_ hk => ⟨hk.1, hk.2⟩))).2.1 (Kd.V_F (by (with_reducible repeat (first | apply Kd.V_alloc | apply Kd.V_drewN | apply Kd.V_drew)); exact Kd.V_mono (ok' := (fun k_ => ((fun k_ => ((P0_ k_ ∨ P1_ k_) ∨ w.heap.size ≤ k_))) k_ ∧ some k_ ≠ (u5 : Value).ownBlock)) (HL342_0.out) (fun k_ hk => ⟨hk.1, hk.2⟩))))); (case aB => exact (by repeat (first | (with_reducible first | exact HB.out | apply pA_ | apply pN_ | apply pD_) | exact HB.out))); (case aF => exact (fun k_ hk => (.inr (Nat.le_trans (pZ_ (by repeat (first | (with_reducible first | exact HB.out | apply pA_ | apply pN_ | apply pD_) | exact HB.out))) hk)))); (case aO => exact (by (with_reducible repeat (first | apply Kd.N_alloc | apply Kd.N_drewN | apply Kd.N_drew)); exact HO_5.out)); (case aS => exact (pZ_ (by repeat (first | (with_reducible first | exact HB.out | apply pA_ | apply pN_ | apply pD_) | exact HB.out)))); (case aL => have := LMc16.out; omega); intro v344 w17 ho hb hg hat; rw [← Ny343.out] at ho; have n0_ := Am (Kd.V_afterv (ok := (fun k_ => ((P0_ k_ ∨ P1_ k_) ∨ w.heap.size ≤ k_))) (by (with_reducible repeat (first | apply Kd.V_alloc | apply Kd.V_drewN | apply Kd.V_drew)); exact HO_0.out) hg hat); have n1_ := Am (Kd.V_afterv (ok := (fun k_ => ((P0_ k_ ∨ P1_ k_) ∨ w.heap.size ≤ k_))) (by (with_reducible repeat (first | apply Kd.V_alloc | apply Kd.V_drewN | apply Kd.V_drew)); exact HO_1.out) hg hat); have n2_ := Am (Kd.V_afterv (ok := (fun k_ => ((P0_ k_ ∨ P1_ k_) ∨ w.heap.size ≤ k_))) (by (with_reducible repeat (first | apply Kd.V_alloc | apply Kd.V_drewN | apply Kd.V_drew)); exact HL327_0.out) hg hat); have n3_ := Am (Kd.V_afterv (ok := (fun k_ => ((P0_ k_ ∨ P1_ k_) ∨ w.heap.size ≤ k_))) (by (with_reducible repeat (first | apply Kd.V_alloc | apply Kd.V_drewN | apply Kd.V_drew)); exact HL333_0.out) hg hat); have n4_ := Am (Kd.V_afterv (ok := (fun k_ => ((P0_ k_ ∨ P1_ k_) ∨ w.heap.size ≤ k_))) (by (with_reducible repeat (first | apply Kd.V_alloc | apply Kd.V_drewN | apply Kd.V_drew)); exact HL342_0.out) hg hat); have n5_ := Am (hb); have n6_ := Am (ho); clear HO_0; clear HO_1; clear HL327_0; clear HL333_0; clear HL342_0; clear HB; clear HO_5; have HO_0 := n0_; have HO_1 := n1_; have HL327_0 := n2_; have HL333_0 := n3_; have HL342_0 := n4_; have HB := n5_; have HO345 := n6_; clear n0_ n1_ n2_ n3_ n4_ n5_ n6_; clear ho hb hg hat))
         go_roundg k1
         case measure => have := HK1.out; omega
         case rel => exact ⟨(y343), (false), (wrap64 (x7_1 + 1)), (by first | rfl | (simp; done) | (simp [*]; done)), (by first | rfl | (simp; done) | (simp [*]; done)), H', ⟨by have := HK1.out; omega⟩, ⟨by (with_reducible repeat (first | apply Kd.V_alloc | apply Kd.V_drewN | apply Kd.V_drew)); exact HO_0.out⟩, ⟨by (with_reducible repeat (first | apply Kd.V_alloc | apply Kd.V_drewN | apply Kd.V_drew)); exact HO_1.out⟩, ⟨by (with_reducible repeat (first | apply Kd.N_alloc | apply Kd.N_drewN | apply Kd.N_drew)); exact HO345.out⟩, ⟨by repeat (first | (with_reducible first | exact HB.out | apply pA_ | apply pN_ | apply pD_) | exact HB.out)⟩⟩
        ·rw [if_neg c16] at H
         exact absurd H (by simp)
    ·rw [if_neg c4] at H
     exact absurd H (by simp)
   ·rw [if_neg c3] at H
    have c3b0 : decide (x7_1 < (l0.length : Int)) = false := decide_eq_false c3
    clear c3
    by_cases c18 : x6_1 = true
    ·subst c18
     have H1 : (some x5_1) = some r := by rw [if_pos rfl] at H; exact H
     clear H
     have H := H1
     clear H1
     obtain rfl := Option.some.inj H
     go_wp2
     go_ret
     exact ⟨_, by first | rfl | (simp [errW_none, errW_some] <;> rfl) | (simp [*, errW_none, errW_some] <;> rfl), Kd.N_V (by (with_reducible repeat (first | apply Kd.N_alloc | apply Kd.N_drewN | apply Kd.N_drew)); exact HO_5.out), by repeat (first | (with_reducible first | exact HB.out | apply pA_ | apply pN_ | apply pD_) | exact HB.out)⟩
    ·replace c18 := Bool.eq_false_iff.mpr c18
     subst c18
     have H1 : (if x5_1.length < 5864062014805 then (some (x5_1 ++ [l1])) else (none)) = some r := by rw [if_neg (show ¬ (false = true) by decide)] at H; exact H
     clear H
     have H := H1
     clear H1
     by_cases c19 : x5_1.length < 5864062014805
     ·rw [if_pos c19] at H
      have LMc19 := Am c19
      clear c19
      obtain ⟨y324, hy324⟩ : ∃ y_ : List (List Int), y_ = (x5_1 ++ [l1]) := ⟨_, rfl⟩
      replace H : (some y324) = some r := by first | (rw [hy324]; with_reducible exact H) | (have H2_ := (Option.bind_some _ _).symm.trans H; rw [hy324]; with_reducible exact H2_) | (have H2_ := (Option.bind_some _ _).symm.trans H; with_reducible exact H2_) | with_reducible exact H | (rw [hy324]; exact H) | exact H
      have Ny324 := Am hy324
      clear hy324
      obtain rfl := Option.some.inj H
      go_wp2_with (first | ((with_reducible refine gate_builtin (b := .append) (xs := #[.tmp 44, .tmp 46]) rfl ?_); at_builtin; refine Kd.N_append (Kd.slice 3 (Kd.int .i64)) (w0 := w) w.heap.size rfl (.tmp 44) (.tmp 46) 47 25 (.slice none 0 0) 24 rfl Tryz.underlying47 info25 rfl (by decide) (by omega) u5 x5_1 l1 [.slice A1 l1.length c1] (fun k_ => ((P0_ k_ ∨ P1_ k_) ∨ w.heap.size ≤ k_)) (fun k_ => ((fun k_ => ((P0_ k_ ∨ P1_ k_) ∨ w.heap.size ≤ k_))) k_ ∧ some k_ ≠ (u5 : Value).ownBlock) rfl rfl ?aP (fun _ hk => hk) ?aF ?aO ?aB ?aS ?aL ?_; (case aP => exact (Kd.FK_slice_mk (Kd.V_reads' (Kd.V_mono (ok' := (fun k_ => ((fun k_ => ((P0_ k_ ∨ P1_ k_) ∨ w.heap.size ≤ k_))) k_ ∧ some k_ ≠ (u5 : Value).ownBlock)) (HO_1.out) (fun k_ hk => ⟨hk.1, hk.2⟩))).2.1 (Kd.V_F (by (with_reducible repeat (first | apply Kd.V_alloc | apply Kd.V_drewN | apply Kd.V_drew)); exact Kd.V_mono (ok' := (fun k_ => ((fun k_ => ((P0_ k_ ∨ P1_ k_) ∨ w.heap.size ≤ k_))) k_ ∧ some k_ ≠ (u5 : Value).ownBlock)) (HO_1.out) (fun k_ hk => ⟨hk.1, hk.2⟩))))); (case aB => exact (by repeat (first | (with_reducible first | exact HB.out | apply pA_ | apply pN_ | apply pD_) | exact HB.out))); (case aF => exact (fun k_ hk => (.inr (Nat.le_trans (pZ_ (by repeat (first | (with_reducible first | exact HB.out | apply pA_ | apply pN_ | apply pD_) | exact HB.out))) hk)))); (case aO => exact (by (with_reducible repeat (first | apply Kd.N_alloc | apply Kd.N_drewN | apply Kd.N_drew)); exact HO_5.out)); (case aS => exact (pZ_ (by repeat (first | (with_reducible first | exact HB.out | apply pA_ | apply pN_ | apply pD_) | exact HB.out)))); (case aL => have := LMc19.out; omega); intro v325 w20 ho hb hg hat; rw [← Ny324.out] at ho; have n0_ := Am (Kd.V_afterv (ok := (fun k_ => ((P0_ k_ ∨ P1_ k_) ∨ w.heap.size ≤ k_))) (by (with_reducible repeat (first | apply Kd.V_alloc | apply Kd.V_drewN | apply Kd.V_drew)); exact HO_0.out) hg hat); have n1_ := Am (Kd.V_afterv (ok := (fun k_ => ((P0_ k_ ∨ P1_ k_) ∨ w.heap.size ≤ k_))) (by (with_reducible repeat (first | apply Kd.V_alloc | apply Kd.V_drewN | apply Kd.V_drew)); exact HO_1.out) hg hat); have n2_ := Am (hb); have n3_ := Am (ho); clear HO_0; clear HO_1; clear HB; clear HO_5; have HO_0 := n0_; have HO_1 := n1_; have HB := n2_; have HO326 := n3_; clear n0_ n1_ n2_ n3_; clear ho hb hg hat))
      go_ret
      exact ⟨_, by first | rfl | (simp [errW_none, errW_some] <;> rfl) | (simp [*, errW_none, errW_some] <;> rfl), Kd.N_V (by (with_reducible repeat (first | apply Kd.N_alloc | apply Kd.N_drewN | apply Kd.N_drew)); exact HO326.out), by repeat (first | (with_reducible first | exact HB.out | apply pA_ | apply pN_ | apply pD_) | exact HB.out)⟩
     ·rw [if_neg c19] at H
      exact absurd H (by simp)
mutual
def r6Heard.l0 : Nat → Int → List (List Int) → Int → List ByteArray → Int → List Int → List (S69) → List (S61) → Option ((List (List Int)))
 | 0, _, _, _, _, _, _, _, _ => none
 | k + 1, x1, x5, x6, x347000, x347001, x347002, x347003, x347004 => if x6 ≤ 5 then (r6Heard.l1 k x1 x5 x6 ([] : List (List Int)) 0 x347000 x347001 x347002 x347003 x347004) else (some x5)
def r6Heard.l1 : Nat → Int → List (List Int) → Int → List (List Int) → Int → List ByteArray → Int → List Int → List (S69) → List (S61) → Option ((List (List Int)))
 | 0, _, _, _, _, _, _, _, _, _, _ => none
 | k + 1, x1, x5, x6, x7, x8, x347000, x347001, x347002, x347003, x347004 => if x8 < (x347003.length : Int) then (r6Heard.l2 k x1 x5 x6 x7 x8 0 x347000 x347001 x347002 x347003 x347004) else (if x5.length + x7.length < 5864062014805 then (r6Heard.l0 k x1 (x5 ++ x7) (wrap64 (x6 + 1)) x347000 x347001 x347002 x347003 x347004) else (none))
def r6Heard.l2 : Nat → Int → List (List Int) → Int → List (List Int) → Int → Int → List ByteArray → Int → List Int → List (S69) → List (S61) → Option ((List (List Int)))
 | 0, _, _, _, _, _, _, _, _, _, _, _ => none
 | k + 1, x1, x5, x6, x7, x8, x9, x347000, x347001, x347002, x347003, x347004 => if 0 ≤ x8 then (if x8 < (x347003.length : Int) then (if (wrap64 (x9 + x6)) ≤ (((rd_T69 x347003 x8).f2).length : Int) then (if 0 ≤ x9 then (if x9 ≤ (wrap64 (x9 + x6)) then ((some ((((rd_T69 x347003 x8).f2).take ((wrap64 (x9 + x6)) : Int).toNat).drop (x9 : Int).toNat : List Int)).bind fun y352 => ((r6CanSend.f k x347000 x347001 x347002 x347003 x347004 y352 x1).bind fun t357 => (if t357 = true then ((r6Put.f k x7 y352).bind fun t358 => (r6Heard.l2 k x1 x5 x6 t358 x8 (wrap64 (x9 + 1)) x347000 x347001 x347002 x347003 x347004)) else (r6Heard.l2 k x1 x5 x6 x7 x8 (wrap64 (x9 + 1)) x347000 x347001 x347002 x347003 x347004)))) else (none)) else (none)) else (r6Heard.l1 k x1 x5 x6 x7 (wrap64 (x8 + 1)) x347000 x347001 x347002 x347003 x347004)) else (none)) else (none)
end
def r6Heard.f (k : Nat) (l0_0 : List ByteArray) (a0_1 : Int) (l0_2 : List Int) (l0_3 : List (S69)) (l0_4 : List (S61)) (a1 : Int) : Option ((List (List Int))) := r6Heard.l0 k a1 ([] : List (List Int)) 1 l0_0 a0_1 l0_2 l0_3 l0_4
set_option maxHeartbeats 8000000 in
set_option maxRecDepth 100000 in
theorem r6Heard.calls (k : Nat) (A0_0 : Option Addr) (c0_0 : Nat) (l0_0 : List ByteArray) (a0_1 : Int) (A0_2 : Option Addr) (c0_2 : Nat) (l0_2 : List Int) (P0_3_ : Nat → Prop) (A0_3 : Option Addr) (c0_3 : Nat) (l0_3 : List (S69)) (A0_4 : Option Addr) (c0_4 : Nat) (l0_4 : List (S61)) (a1 : Int) (r : List (List Int)) (w : World) (hr0_0 : Kd.C Kd.string w A0_0 l0_0.length l0_0) (hc0_0 : l0_0.length ≤ c0_0) (hr0_2 : Kd.C (Kd.int .i64) w A0_2 l0_2.length l0_2) (hc0_2 : l0_2.length ≤ c0_2) (hs0_3 : Kd.V k69 69 w w.heap.size (fun k_ => P0_3_ k_) (.slice A0_3 l0_3.length c0_3) l0_3) (hr0_4 : Kd.C k61 w A0_4 l0_4.length l0_4) (hc0_4 : l0_4.length ≤ c0_4) (h : r6Heard.f k l0_0 a0_1 l0_2 l0_3 l0_4 a1 = some r) :
  Calls Tryz.prog 29 #[.agg #[.slice A0_0 l0_0.length c0_0, .int .i64 a0_1, .slice A0_2 l0_2.length c0_2, .slice A0_3 l0_3.length c0_3, .slice A0_4 l0_4.length c0_4], .int .i64 a1] w fun e w' => ∃ v0_ : Value, e = .returned (v0_) ∧ Kd.N (Kd.slice 3 (Kd.int .i64)) 25 w' w.heap.size (fun k_ => (P0_3_ k_ ∨ w.heap.size ≤ k_)) v0_ r ∧ Below w.heap.size w w' := by
 have hu29 := Tryz.underlying29
 have HR0_0 := Am hr0_0
 have HC0_0 := Am hc0_0
 clear hr0_0 hc0_0
 have HR0_2 := Am hr0_2
 have HC0_2 := Am hc0_2
 clear hr0_2 hc0_2
 have HO0_3 := Am (show Kd.V k69 69 w w.heap.size (fun k_ => (P0_3_ k_ ∨ w.heap.size ≤ k_)) (.slice A0_3 l0_3.length c0_3) l0_3 from Kd.V_mono hs0_3 (fun k_ hk => .inl hk))
 have HR0_4 := Am hr0_4
 have HC0_4 := Am hc0_4
 clear hr0_4 hc0_4
 have HB := Am (Below.refl w.heap.size w)
 have H : (r6Heard.l0 k a1 ([] : List (List Int)) 1 l0_0 a0_1 l0_2 l0_3 l0_4) = some r := h
 clear h
 have H' := Am H
 clear H
 go_enter Tryz.func29, Tryz.ntmps29
 go_wp2_with (first | ((with_reducible refine gate_dst (N := 2) rfl ?_); refine box_event ?hg (N := 2) ?hd (cs := #[.slice A0_0 l0_0.length c0_0, .int .i64 a0_1, .slice A0_2 l0_2.length c0_2, .slice A0_3 l0_3.length c0_3, .slice A0_4 l0_4.length c0_4]) (t := 29) ?hr ?_; (case hd => rfl); (case hg => rfl); (case hr => first | (go_simp; done) | (go_simp; rfl)); intro gb346 hg w3 hbox hb; have n0_ := Am (Kd.V_below (Kd.V_elderB (by (with_reducible repeat (first | apply Kd.V_alloc | apply Kd.V_drewN | apply Kd.V_drew)); exact HO0_3.out) gb346 (Nat.le_of_eq hg.symm)) hb); have n1_ := Am (pT_ (by repeat (first | (with_reducible first | exact HB.out | apply pA_ | apply pN_ | apply pD_) | exact HB.out)) hb); have n2_ := Am (hbox); have n3_ := Am ((by rw [hg]; exact (pZ_ (by repeat (first | (with_reducible first | exact HB.out | apply pA_ | apply pN_ | apply pD_) | exact HB.out))) : w.heap.size ≤ gb346)); have n4_ := Am ((by rw [hg]; exact (pZ_ (by repeat (first | (with_reducible first | exact HB.out | apply pA_ | apply pN_ | apply pD_) | exact HB.out))) : w.heap.size ≤ gb346)); clear HO0_3; clear HB; have HO0_3 := n0_; have HB := n1_; have BK346 := n2_; have GW346 := n3_; have GE346 := n4_; clear n0_ n1_ n2_ n3_ n4_; clear hb hbox hg))
 go_loopg [5, 6] k (fun kq v5 v6 w' => ∃ (x5_1 : List (List Int)) (x6_1 : Int), v6 = .int .i64 x6_1 ∧ Aside0 (r6Heard.l0 kq a1 x5_1 x6_1 l0_0 a0_1 l0_2 l0_3 l0_4 = some r) ∧ Aside0 (kq ≤ k) ∧ Aside0 (Kd.N (Kd.slice 3 (Kd.int .i64)) 25 w' w.heap.size (fun k_ => (P0_3_ k_ ∨ w.heap.size ≤ k_) ∧ k_ ≠ gb346) v5 x5_1) ∧ Aside0 (Kd.V k69 69 w' w.heap.size (fun k_ => (P0_3_ k_ ∨ w.heap.size ≤ k_) ∧ some k_ ≠ (v5 : Value).ownBlock ∧ k_ ≠ gb346) (.slice A0_3 l0_3.length c0_3) l0_3) ∧ Aside0 (w'.heap[gb346]? = some (.cells #[(.slice A0_0 l0_0.length c0_0), .int .i64 a0_1, (.slice A0_2 l0_2.length c0_2), (.slice A0_3 l0_3.length c0_3), (.slice A0_4 l0_4.length c0_4)] 29 (0, 0))) ∧ Aside0 (Below w.heap.size w w'))
 case atStart => exact ⟨(([] : List (List Int))), (1), (by first | rfl | (simp; done) | (simp [*]; done)), H', ⟨Nat.le_refl _⟩, ⟨by first | exact Kd.S_nil _ _ _ _ _ | exact Kd.N_nil _ _ _ _ _ | exact Kd.V_nil _ _ _ _ _ | exact Kd.Q_nil _ _ _ _ _ | exact Kd.R_nil _ _ _ _ _⟩, ⟨by (with_reducible repeat (first | apply Kd.V_alloc | apply Kd.V_drewN | apply Kd.V_drew)); exact Kd.V_mono HO0_3.out (fun _ hk => ⟨hk.1, ⟨(by simp [Value.ownBlock]), hk.2⟩⟩)⟩, ⟨by (with_reducible repeat (first | refine bN_ ?_ _ | refine bD_ ?_ | refine bA_ ?_ _)); exact BK346.out⟩, ⟨by repeat (first | (with_reducible first | exact HB.out | apply pA_ | apply pN_ | apply pD_ | refine pS_ ?_ GE346.out) | exact HB.out)⟩⟩
 case round =>
  clear H'
  try clear c2
  try clear p2
  obtain ⟨x5_1, x6_1, rfl, HA, HK1, HO_5, HO_347003, BK346, HB⟩ := hrel
  cases gk with
  | zero => exact absurd HA.out (by simp [r6Heard.l0])
  | succ k1 =>
   have H := HA.out
   clear HA
   simp only [r6Heard.l0] at H
   by_cases c4 : x6_1 ≤ 5
   ·rw [if_pos c4] at H
    have c4b0 : decide (x6_1 ≤ 5) = true := decide_eq_true c4
    clear c4
    have H' := Am H
    clear H
    go_wp2
    go_loopg [7, 8] k1 (fun kq v7 v8 w' => ∃ (x7_2 : List (List Int)) (x8_2 : Int), v8 = .int .i64 x8_2 ∧ Aside0 (r6Heard.l1 kq a1 x5_1 x6_1 x7_2 x8_2 l0_0 a0_1 l0_2 l0_3 l0_4 = some r) ∧ Aside0 (kq ≤ k1) ∧ Aside0 (Kd.N (Kd.slice 3 (Kd.int .i64)) 25 w' w.heap.size (fun k_ => (P0_3_ k_ ∨ w.heap.size ≤ k_) ∧ k_ ≠ gb346) u5 x5_1) ∧ Aside0 (Kd.V (Kd.slice 3 (Kd.int .i64)) 25 w' w.heap.size (fun k_ => (P0_3_ k_ ∨ w.heap.size ≤ k_) ∧ some k_ ≠ (u5 : Value).ownBlock ∧ k_ ≠ gb346) v7 x7_2) ∧ Aside0 (Kd.V k69 69 w' w.heap.size (fun k_ => (P0_3_ k_ ∨ w.heap.size ≤ k_) ∧ some k_ ≠ (u5 : Value).ownBlock ∧ k_ ≠ gb346) (.slice A0_3 l0_3.length c0_3) l0_3) ∧ Aside0 (w'.heap[gb346]? = some (.cells #[(.slice A0_0 l0_0.length c0_0), .int .i64 a0_1, (.slice A0_2 l0_2.length c0_2), (.slice A0_3 l0_3.length c0_3), (.slice A0_4 l0_4.length c0_4)] 29 (0, 0))) ∧ Aside0 (Below w.heap.size w w'))
    case atStart => exact ⟨(([] : List (List Int))), (0), (by first | rfl | (simp; done) | (simp [*]; done)), H', ⟨Nat.le_refl _⟩, ⟨by (with_reducible repeat (first | apply Kd.N_alloc | apply Kd.N_drewN | apply Kd.N_drew)); exact HO_5.out⟩, ⟨Kd.V_nil _ _ _ _ _⟩, ⟨by (with_reducible repeat (first | apply Kd.V_alloc | apply Kd.V_drewN | apply Kd.V_drew)); exact HO_347003.out⟩, ⟨by (with_reducible repeat (first | refine bN_ ?_ _ | refine bD_ ?_ | refine bA_ ?_ _)); exact BK346.out⟩, ⟨by repeat (first | (with_reducible first | exact HB.out | apply pA_ | apply pN_ | apply pD_ | refine pS_ ?_ GE346.out) | exact HB.out)⟩⟩
    case round =>
     clear H'
     try clear c2
     try clear p2
     try clear c4
     try clear c4b0
     try clear p2
     obtain ⟨x7_2, x8_2, rfl, HA, HK2, HO_5, HO_7, HO_347003, BK346, HB⟩ := hrel
     cases gk with
     | zero => exact absurd HA.out (by simp [r6Heard.l1])
     | succ k2 =>
      have H := HA.out
      clear HA
      simp only [r6Heard.l1] at H
      by_cases c5 : x8_2 < (l0_3.length : Int)
      ·rw [if_pos c5] at H
       have c5b0 : decide (x8_2 < (l0_3.length : Int)) = true := decide_eq_true c5
       clear c5
       have H' := Am H
       clear H
       have hcz6_0 : wr.cell? ⟨gb346, 0, none⟩ = some (.slice A0_0 l0_0.length c0_0) := (bC_ BK346.out 0).trans rfl
       have hcz6_1 : wr.cell? ⟨gb346, 1, none⟩ = some (.int .i64 a0_1) := (bC_ BK346.out 1).trans rfl
       have hcz6_2 : wr.cell? ⟨gb346, 2, none⟩ = some (.slice A0_2 l0_2.length c0_2) := (bC_ BK346.out 2).trans rfl
       have hcz6_3 : wr.cell? ⟨gb346, 3, none⟩ = some (.slice A0_3 l0_3.length c0_3) := (bC_ BK346.out 3).trans rfl
       have hcz6_4 : wr.cell? ⟨gb346, 4, none⟩ = some (.slice A0_4 l0_4.length c0_4) := (bC_ BK346.out 4).trans rfl
       have hfz6_0 := bF_ BK346.out 0
       have hfz6_1 := bF_ BK346.out 1
       have hfz6_2 := bF_ BK346.out 2
       have hfz6_3 := bF_ BK346.out 3
       have hfz6_4 := bF_ BK346.out 4
       go_wp2
       go_loopg [7, 9] k2 (fun kq v7 v9 w' => ∃ (x7_3 : List (List Int)) (x9_3 : Int), v9 = .int .i64 x9_3 ∧ Aside0 (r6Heard.l2 kq a1 x5_1 x6_1 x7_3 x8_2 x9_3 l0_0 a0_1 l0_2 l0_3 l0_4 = some r) ∧ Aside0 (kq ≤ k2) ∧ Aside0 (Kd.N (Kd.slice 3 (Kd.int .i64)) 25 w' w.heap.size (fun k_ => (P0_3_ k_ ∨ w.heap.size ≤ k_) ∧ k_ ≠ gb346) u5 x5_1) ∧ Aside0 (Kd.V (Kd.slice 3 (Kd.int .i64)) 25 w' w.heap.size (fun k_ => (P0_3_ k_ ∨ w.heap.size ≤ k_) ∧ some k_ ≠ (u5 : Value).ownBlock ∧ k_ ≠ gb346) v7 x7_3) ∧ Aside0 (Kd.V k69 69 w' w.heap.size (fun k_ => (P0_3_ k_ ∨ w.heap.size ≤ k_) ∧ some k_ ≠ (u5 : Value).ownBlock ∧ k_ ≠ gb346) (.slice A0_3 l0_3.length c0_3) l0_3) ∧ Aside0 (w'.heap[gb346]? = some (.cells #[(.slice A0_0 l0_0.length c0_0), .int .i64 a0_1, (.slice A0_2 l0_2.length c0_2), (.slice A0_3 l0_3.length c0_3), (.slice A0_4 l0_4.length c0_4)] 29 (0, 0))) ∧ Aside0 (Below w.heap.size w w'))
       case atStart => exact ⟨(x7_2), (0), (by first | rfl | (simp; done) | (simp [*]; done)), H', ⟨Nat.le_refl _⟩, ⟨by (with_reducible repeat (first | apply Kd.N_alloc | apply Kd.N_drewN | apply Kd.N_drew)); exact HO_5.out⟩, ⟨by (with_reducible repeat (first | apply Kd.V_alloc | apply Kd.V_drewN | apply Kd.V_drew)); exact HO_7.out⟩, ⟨by (with_reducible repeat (first | apply Kd.V_alloc | apply Kd.V_drewN | apply Kd.V_drew)); exact HO_347003.out⟩, ⟨by (with_reducible repeat (first | refine bN_ ?_ _ | refine bD_ ?_ | refine bA_ ?_ _)); exact BK346.out⟩, ⟨by repeat (first | (with_reducible first | exact HB.out | apply pA_ | apply pN_ | apply pD_ | refine pS_ ?_ GE346.out) | exact HB.out)⟩⟩
       case round =>
        clear H'
        try clear c2
        try clear p2
        try clear c4
        try clear c4b0
        try clear c5
        try clear c5b0
        try clear hcz6_0
        try clear hcz6_1
        try clear hcz6_2
        try clear hcz6_3
        try clear hcz6_4
        try clear hfz6_0
        try clear hfz6_1
        try clear hfz6_2
        try clear hfz6_3
        try clear hfz6_4
        try clear p2
        obtain ⟨x7_3, x9_3, rfl, HA, HK3, HO_5, HO_7, HO_347003, BK346, HB⟩ := hrel
        cases gk with
        | zero => exact absurd HA.out (by simp [r6Heard.l2])
        | succ k3 =>
         have H := HA.out
         clear HA
         simp only [r6Heard.l2] at H
         by_cases c7 : 0 ≤ x8_2
         ·rw [if_pos c7] at H
          have c7b0 : decide (0 ≤ x8_2) = true := decide_eq_true c7
          clear c7
          by_cases c8 : x8_2 < (l0_3.length : Int)
          ·rw [if_pos c8] at H
           have c8b0 : decide (x8_2 < (l0_3.length : Int)) = true := decide_eq_true c8
           clear c8
           by_cases c9 : (wrap64 (x9_3 + x6_1)) ≤ (((rd_T69 l0_3 x8_2).f2).length : Int)
           ·rw [if_pos c9] at H
            have c9b0 : decide ((wrap64 (x9_3 + x6_1)) ≤ (((rd_T69 l0_3 x8_2).f2).length : Int)) = true := decide_eq_true c9
            clear c9
            by_cases c10 : 0 ≤ x9_3
            ·rw [if_pos c10] at H
             have c10b0 := eq_true c10
             have c10b1 : decide (0 ≤ x9_3) = true := decide_eq_true c10
             clear c10
             by_cases c11 : x9_3 ≤ (wrap64 (x9_3 + x6_1))
             ·rw [if_pos c11] at H
              have c11b0 := eq_true c11
              have c11b1 : decide (x9_3 ≤ (wrap64 (x9_3 + x6_1))) = true := decide_eq_true c11
              have c12b0 := eq_true (of_decide_eq_true (by first | (with_reducible assumption) | assumption) : (wrap64 (x9_3 + x6_1)) ≤ (((rd_T69 l0_3 x8_2).f2).length : Int))
              obtain ⟨y352, hy352⟩ : ∃ y_ : List Int, y_ = ((((rd_T69 l0_3 x8_2).f2).take ((wrap64 (x9_3 + x6_1)) : Int).toNat).drop (x9_3 : Int).toNat) := ⟨_, rfl⟩
              replace H : ((r6CanSend.f k3 l0_0 a0_1 l0_2 l0_3 l0_4 y352 a1).bind fun t357 => (if t357 = true then ((r6Put.f k3 x7_3 y352).bind fun t358 => (r6Heard.l2 k3 a1 x5_1 x6_1 t358 x8_2 (wrap64 (x9_3 + 1)) l0_0 a0_1 l0_2 l0_3 l0_4)) else (r6Heard.l2 k3 a1 x5_1 x6_1 x7_3 x8_2 (wrap64 (x9_3 + 1)) l0_0 a0_1 l0_2 l0_3 l0_4))) = some r := by first | (rw [hy352]; with_reducible exact H) | (have H2_ := (Option.bind_some _ _).symm.trans H; rw [hy352]; with_reducible exact H2_) | (have H2_ := (Option.bind_some _ _).symm.trans H; with_reducible exact H2_) | with_reducible exact H | (rw [hy352]; exact H) | exact H
              have Ny352 := Am hy352
              clear hy352
              replace H := Option.bind_eq_some_iff.mp H
              obtain ⟨t357, A130, H⟩ := H
              replace H : (if t357 = true then ((r6Put.f k3 x7_3 y352).bind fun t358 => (r6Heard.l2 k3 a1 x5_1 x6_1 t358 x8_2 (wrap64 (x9_3 + 1)) l0_0 a0_1 l0_2 l0_3 l0_4)) else (r6Heard.l2 k3 a1 x5_1 x6_1 x7_3 x8_2 (wrap64 (x9_3 + 1)) l0_0 a0_1 l0_2 l0_3 l0_4)) = some r := H
              have A13 := Am A130
              clear A130
              by_cases c14 : t357 = true
              ·subst c14
               have H1 : ((r6Put.f k3 x7_3 y352).bind fun t358 => (r6Heard.l2 k3 a1 x5_1 x6_1 t358 x8_2 (wrap64 (x9_3 + 1)) l0_0 a0_1 l0_2 l0_3 l0_4)) = some r := by rw [if_pos rfl] at H; exact H
               clear H
               have H := H1
               clear H1
               replace H := Option.bind_eq_some_iff.mp H
               obtain ⟨t358, A150, H⟩ := H
               replace H : (r6Heard.l2 k3 a1 x5_1 x6_1 t358 x8_2 (wrap64 (x9_3 + 1)) l0_0 a0_1 l0_2 l0_3 l0_4) = some r := H
               have A15 := Am A150
               clear A150
               have H' := Am H
               clear H
               have hcz16_0 : wr.cell? ⟨gb346, 0, none⟩ = some (.slice A0_0 l0_0.length c0_0) := (bC_ BK346.out 0).trans rfl
               have hcz16_1 : wr.cell? ⟨gb346, 1, none⟩ = some (.int .i64 a0_1) := (bC_ BK346.out 1).trans rfl
               have hcz16_2 : wr.cell? ⟨gb346, 2, none⟩ = some (.slice A0_2 l0_2.length c0_2) := (bC_ BK346.out 2).trans rfl
               have hcz16_3 : wr.cell? ⟨gb346, 3, none⟩ = some (.slice A0_3 l0_3.length c0_3) := (bC_ BK346.out 3).trans rfl
               have hcz16_4 : wr.cell? ⟨gb346, 4, none⟩ = some (.slice A0_4 l0_4.length c0_4) := (bC_ BK346.out 4).trans rfl
               have hfz16_0 := bF_ BK346.out 0
               have hfz16_1 := bF_ BK346.out 1
               have hfz16_2 := bF_ BK346.out 2
               have hfz16_3 := bF_ BK346.out 3
               have hfz16_4 := bF_ BK346.out 4
               have p350 : 0 ≤ (x8_2 : Int) := of_decide_eq_true (by first | (with_reducible assumption) | assumption)
               have q350 : x8_2 < (l0_3.length : Int) := of_decide_eq_true (by first | (with_reducible assumption) | assumption)
               obtain ⟨ad350, A350_2, c350_2, e350, hx350_0, hx350_1, hx350_2, hl350_2, hi350_2⟩ := at_T69 (Kd.V_reads' HO_347003.out).2.2 x8_2 p350 q350
               cases e350
               obtain ⟨ce350, hce350, hMe350, hcc350⟩ := Kd.V_get HO_347003.out z69 x8_2 p350 (by first | exact q350 | exact of_decide_eq_true (by first | (with_reducible assumption) | assumption) | (have e_ := (Kd.V_reads' HO_347003.out).1; omega))
               obtain ⟨ua350_2, uc350_2, rfl, ul350_2, ge350_2⟩ := k69_openF hMe350
               have hv350_2 := hcc350 2 _ rfl
               rw [add_field _ _ 2 (by omega)] at hv350_2
               replace hv350_2 := Option.some.inj (hv350_2.symm.trans hx350_2)
               injection hv350_2 with hva_ hvn_ hvc_
               rw [hva_] at ge350_2
               rw [hvc_] at ul350_2
               have HL350_2 := Am (show Kd.V (Kd.int .i64) 3 _ w.heap.size _ _ ((rd_T69 l0_3 x8_2).f2) from Kd.V_mk ul350_2 ge350_2)
               clear hva_ hvn_ hvc_ ge350_2 ul350_2
               clear hcc350 hce350
               have HR350_2 := Am hi350_2
               have HC350_2 := Am hl350_2
               clear hi350_2 hl350_2
               replace p350 := eq_true p350
               replace q350 := eq_true q350
               have p351 : 0 ≤ (x8_2 : Int) := of_decide_eq_true (by first | (with_reducible assumption) | assumption)
               have q351 : x8_2 < (l0_3.length : Int) := of_decide_eq_true (by first | (with_reducible assumption) | assumption)
               obtain ⟨ad351, A351_2, c351_2, e351, hx351_0, hx351_1, hx351_2, hl351_2, hi351_2⟩ := at_T69 (Kd.V_reads' HO_347003.out).2.2 x8_2 p351 q351
               obtain rfl : ad350 = ad351 := (by injection e351)
               obtain ⟨ce351, hce351, hMe351, hcc351⟩ := Kd.V_get HO_347003.out z69 x8_2 p351 (by first | exact q351 | exact of_decide_eq_true (by first | (with_reducible assumption) | assumption) | (have e_ := (Kd.V_reads' HO_347003.out).1; omega))
               obtain ⟨ua351_2, uc351_2, rfl, ul351_2, ge351_2⟩ := k69_openF hMe351
               have hv351_2 := hcc351 2 _ rfl
               rw [add_field _ _ 2 (by omega)] at hv351_2
               replace hv351_2 := Option.some.inj (hv351_2.symm.trans hx351_2)
               injection hv351_2 with hva_ hvn_ hvc_
               rw [hva_] at ge351_2
               rw [hvc_] at ul351_2
               have HL351_2 := Am (show Kd.V (Kd.int .i64) 3 _ w.heap.size _ _ ((rd_T69 l0_3 x8_2).f2) from Kd.V_mk ul351_2 ge351_2)
               clear hva_ hvn_ hvc_ ge351_2 ul351_2
               clear hcc351 hce351
               have HR351_2 := Am hi351_2
               have HC351_2 := Am hl351_2
               clear hi351_2 hl351_2
               replace p351 := eq_true p351
               replace q351 := eq_true q351
               have ea_ := Option.some.inj (hx350_2.symm.trans hx351_2)
               injection ea_ with ea_ en_ ec_
               subst ea_
               subst ec_
               clear en_
               have q17 : ((wrap64 (x9_3 + x6_1)) : Int) ≤ ((((rd_T69 l0_3 x8_2).f2).length : Int) : Int) := of_decide_eq_true (by first | (with_reducible assumption) | assumption)
               obtain ⟨i017, hi017, _, hsz17, _⟩ := info_parts info3
               have hroom17 : ((rd_T69 l0_3 x8_2).f2).length ≤ c350_2 := HC351_2.out
               have hC17 : Kd.F (Kd.int .i64) _ _ A350_2 ((rd_T69 l0_3 x8_2).f2).length ((rd_T69 l0_3 x8_2).f2) := (Kd.V_at (base := w.heap.size) HL351_2.out).2.2
               have ql17 : (x9_3 : Int) ≤ ((wrap64 (x9_3 + x6_1)) : Int) := of_decide_eq_true (by first | (with_reducible assumption) | assumption)
               have q017 : (0 : Int) ≤ (x9_3 : Int) := of_decide_eq_true (by first | (with_reducible assumption) | assumption)
               have hcut17 := cut_mid (P := Tryz.prog) 25 3 .i64 .i64 Tryz.underlying25 hi017 1 hsz17 A350_2 ((rd_T69 l0_3 x8_2).f2).length c350_2 x9_3 (wrap64 (x9_3 + x6_1)) q017 ql17 q17 hroom17
               have hr17 := Kd.F_mid (lo := (x9_3 : Int).toNat) (hi := ((wrap64 (x9_3 + x6_1)) : Int).toNat) (c := c350_2) hC17 (by omega) (by omega) hroom17
               obtain ⟨A17, hA17⟩ : ∃ A1, A1 = (if c350_2 = (x9_3 : Int).toNat then A350_2 else (A350_2 : Option Addr).map (·.add ((x9_3 : Int).toNat * 1))) := ⟨_, rfl⟩
               obtain ⟨c17, hc17⟩ : ∃ c1, c1 = c350_2 - (x9_3 : Int).toNat := ⟨_, rfl⟩
               have hy17 : y352.length = ((wrap64 (x9_3 + x6_1)) : Int).toNat - (x9_3 : Int).toNat := (by rw [Ny352.out, List.length_drop, List.length_take] <;> omega)
               rw [show (((rd_T69 l0_3 x8_2).f2).take ((wrap64 (x9_3 + x6_1)) : Int).toNat).drop (x9_3 : Int).toNat = y352 from Ny352.out.symm] at hr17
               replace hr17 : Kd.F (Kd.int .i64) _ _ A17 y352.length y352 := (by rw [hA17]; exact hr17)
               rw [← hy17, ← hA17, ← hc17] at hcut17
               have HO356 := Am (show Kd.V (Kd.int .i64) 3 _ w.heap.size _ (.slice A17 y352.length c17) y352 from Kd.V_mk (by rw [hy17, hc17]; exact Nat.sub_le_sub_right (Nat.le_trans (by omega) hroom17) _) hr17)
               have HC356 := Am (show y352.length ≤ c17 from by rw [hy17, hc17]; exact Nat.sub_le_sub_right (Nat.le_trans (by omega) hroom17) _)
               clear hr17 hC17 hroom17 hi017 hsz17 hc17
               have KY17 := Am hy17
               have KA17 := Am hA17
               clear hy17 hA17
               replace q17 := eq_true q17
               go_wp2_with (first | ((with_reducible refine gate_callee (f := 70) rfl ?_); refine goesL_ (some 49) rfl rfl Tryz.func70 (by kernel_rfl) rfl #[.agg #[.slice A0_0 l0_0.length c0_0, .int .i64 a0_1, .slice A0_2 l0_2.length c0_2, .slice (some ad350) l0_3.length c0_3, .slice A0_4 l0_4.length c0_4], .slice A17 y352.length c17, .int .i64 a1] rfl (by (try simp only [List.map_toArray, List.map_cons, List.map_nil]); first | done | rfl | (simp only [List.length_drop, List.length_take]; rfl)) ?_; (with_reducible refine (r6CanSend.calls k3 _ _ l0_0 a0_1 _ _ l0_2 _ _ l0_3 _ _ l0_4 _ _ y352 a1 true _ ?side1 ?side2 ?side3 ?side4 ?side5 ?side6 ?side7 ?side8 ?side9 ?side10 A13.out).mono ?_); (case side1 => repeat (first | exact (Kd.C_below HR0_0.out HB.out) | (with_reducible refine Kd.C_alloc ?_ _) | (with_reducible refine Kd.C_drewN ?_ _) | (with_reducible refine Kd.C_drew ?_))); (case side2 => exact HC0_0.out); (case side3 => repeat (first | exact (Kd.C_below HR0_2.out HB.out) | (with_reducible refine Kd.C_alloc ?_ _) | (with_reducible refine Kd.C_drewN ?_ _) | (with_reducible refine Kd.C_drew ?_))); (case side4 => exact HC0_2.out); (case side5 => repeat (first | exact (Kd.V_reads' HO_347003.out).2.2 | (with_reducible refine Kd.C_alloc ?_ _) | (with_reducible refine Kd.C_drewN ?_ _) | (with_reducible refine Kd.C_drew ?_))); (case side6 => exact (Kd.V_reads' HO_347003.out).2.1); (case side7 => repeat (first | exact (Kd.C_below HR0_4.out HB.out) | (with_reducible refine Kd.C_alloc ?_ _) | (with_reducible refine Kd.C_drewN ?_ _) | (with_reducible refine Kd.C_drew ?_))); (case side8 => exact HC0_4.out); (case side9 => repeat (first | exact (Kd.V_reads' HO356.out).2.2 | (with_reducible refine Kd.C_alloc ?_ _) | (with_reducible refine Kd.C_drewN ?_ _) | (with_reducible refine Kd.C_drew ?_))); (case side10 => exact (Kd.V_reads' HO356.out).2.1); rintro e w18 ⟨rfl, hb⟩; refine ⟨_, rfl, ?_⟩; have n0_ := Am (Kd.N_below (by (with_reducible repeat (first | apply Kd.N_alloc | apply Kd.N_drewN | apply Kd.N_drew)); exact HO_5.out) hb); have n1_ := Am (Kd.V_below (by (with_reducible repeat (first | apply Kd.V_alloc | apply Kd.V_drewN | apply Kd.V_drew)); exact HO_7.out) hb); have n2_ := Am (Kd.V_below (by (with_reducible repeat (first | apply Kd.V_alloc | apply Kd.V_drewN | apply Kd.V_drew)); exact HO_347003.out) hb); have n3_ := Am (Kd.V_below (by (with_reducible repeat (first | apply Kd.V_alloc | apply Kd.V_drewN | apply Kd.V_drew)); exact HL350_2.out) hb); have n4_ := Am (Kd.V_below (by (with_reducible repeat (first | apply Kd.V_alloc | apply Kd.V_drewN | apply Kd.V_drew)); exact HL351_2.out) hb); have n5_ := Am (Kd.V_below (by (with_reducible repeat (first | apply Kd.V_alloc | apply Kd.V_drewN | apply Kd.V_drew)); exact HO356.out) hb); have n6_ := Am (blk_below (g := gb346) (o := .cells #[.slice A0_0 l0_0.length c0_0, .int .i64 a0_1, .slice A0_2 l0_2.length c0_2, .slice (some ad350) l0_3.length c0_3, .slice A0_4 l0_4.length c0_4] 29 (0, 0)) (by (with_reducible repeat (first | refine bN_ ?_ _ | refine bD_ ?_ | refine bA_ ?_ _)); exact BK346.out) hb); have n7_ := Am (Kd.C_below (by repeat (first | (with_reducible exact HR350_2.out) | (with_reducible refine Kd.C_alloc ?_ _) | (with_reducible refine Kd.C_drewN ?_ _) | (with_reducible refine Kd.C_drew ?_) | exact HR350_2.out)) hb); have n8_ := Am (Kd.C_below (by repeat (first | (with_reducible exact HR351_2.out) | (with_reducible refine Kd.C_alloc ?_ _) | (with_reducible refine Kd.C_drewN ?_ _) | (with_reducible refine Kd.C_drew ?_) | exact HR351_2.out)) hb); have n9_ := Am (pT_ (by repeat (first | (with_reducible first | exact HB.out | apply pA_ | apply pN_ | apply pD_ | refine pS_ ?_ GE346.out) | exact HB.out)) hb); clear HO_5; clear HO_7; clear HO_347003; clear HL350_2; clear HL351_2; clear HO356; clear BK346; clear HR350_2; clear HR351_2; clear HB; have HO_5 := n0_; have HO_7 := n1_; have HO_347003 := n2_; have HL350_2 := n3_; have HL351_2 := n4_; have HO356 := n5_; have BK346 := n6_; have HR350_2 := n7_; have HR351_2 := n8_; have HB := n9_; clear n0_ n1_ n2_ n3_ n4_ n5_ n6_ n7_ n8_ n9_; (try clear hb); (try clear hb2); (try clear hk); (try clear hi); obtain ⟨Ao19, co19, eo19⟩ := Kd.V_slice HO_7.out; subst eo19) | ((with_reducible refine gate_callee (f := 71) rfl ?_); refine goesL_ (some 52) rfl rfl Tryz.func71 (by kernel_rfl) rfl #[.slice Ao19 x7_3.length co19, .slice A17 y352.length c17] rfl (by (try simp only [List.map_toArray, List.map_cons, List.map_nil]); first | done | rfl | (simp only [List.length_drop, List.length_take]; rfl)) ?_; (with_reducible refine (r6Put.calls k3 (fun k_ => ((P0_3_ k_ ∨ w.heap.size ≤ k_) ∧ (some k_ ≠ (u5 : Value).ownBlock ∧ k_ ≠ gb346))) _ _ x7_3 (fun k_ => ((P0_3_ k_ ∨ w.heap.size ≤ k_) ∧ (some k_ ≠ (u5 : Value).ownBlock ∧ k_ ≠ gb346))) _ _ y352 t358 _ ?side1 ?side2 A15.out).mono ?_); (case side1 => exact HO_7.out); (case side2 => exact HO356.out); rintro e w20 ⟨v359, rfl, ho0, hb⟩; refine ⟨_, rfl, ?_⟩; have n0_ := Am (Kd.N_below (by (with_reducible repeat (first | apply Kd.N_alloc | apply Kd.N_drewN | apply Kd.N_drew)); exact HO_5.out) hb); have n1_ := Am (Kd.V_below (by (with_reducible repeat (first | apply Kd.V_alloc | apply Kd.V_drewN | apply Kd.V_drew)); exact HO_7.out) hb); have n2_ := Am (Kd.V_below (by (with_reducible repeat (first | apply Kd.V_alloc | apply Kd.V_drewN | apply Kd.V_drew)); exact HO_347003.out) hb); have n3_ := Am (Kd.V_below (by (with_reducible repeat (first | apply Kd.V_alloc | apply Kd.V_drewN | apply Kd.V_drew)); exact HL350_2.out) hb); have n4_ := Am (Kd.V_below (by (with_reducible repeat (first | apply Kd.V_alloc | apply Kd.V_drewN | apply Kd.V_drew)); exact HL351_2.out) hb); have n5_ := Am (Kd.V_below (by (with_reducible repeat (first | apply Kd.V_alloc | apply Kd.V_drewN | apply Kd.V_drew)); exact HO356.out) hb); have n6_ := Am (Kd.V_lower (Kd.V_mono (ok' := fun k_ => (P0_3_ k_ ∨ w.heap.size ≤ k_) ∧ some k_ ≠ (u5 : Value).ownBlock ∧ k_ ≠ gb346) ho0 (fun k_ hk_ => ⟨Or.elim hk_ (fun hs_ => Or.elim hs_ (fun hs_ => hs_.1) (fun hs_ => hs_.1)) (fun hn_ => (.inr (Nat.le_trans (pZ_ (by repeat (first | (with_reducible first | exact HB.out | apply pA_ | apply pN_ | apply pD_ | refine pS_ ?_ GE346.out) | exact HB.out))) hn_))), Or.elim hk_ (fun hs_ => Or.elim hs_ (fun hs_ => hs_.2.1) (fun hs_ => hs_.2.1)) (fun hn_ => (Kd.fresh' (Kd.N_lt (by (with_reducible repeat (first | apply Kd.N_alloc | apply Kd.N_drewN | apply Kd.N_drew)); exact HO_5.out)) k_ hn_)), Or.elim hk_ (fun hs_ => Or.elim hs_ (fun hs_ => hs_.2.2) (fun hs_ => hs_.2.2)) (fun hn_ => (Kd.freshB (g := gb346) (o := .cells #[.slice A0_0 l0_0.length c0_0, .int .i64 a0_1, .slice A0_2 l0_2.length c0_2, .slice (some ad350) l0_3.length c0_3, .slice A0_4 l0_4.length c0_4] 29 (0, 0)) (by (with_reducible repeat (first | refine bN_ ?_ _ | refine bD_ ?_ | refine bA_ ?_ _)); exact BK346.out) k_ hn_))⟩)) (pZ_ (by repeat (first | (with_reducible first | exact HB.out | apply pA_ | apply pN_ | apply pD_ | refine pS_ ?_ GE346.out) | exact HB.out)))); have n7_ := Am (blk_below (g := gb346) (o := .cells #[.slice A0_0 l0_0.length c0_0, .int .i64 a0_1, .slice A0_2 l0_2.length c0_2, .slice (some ad350) l0_3.length c0_3, .slice A0_4 l0_4.length c0_4] 29 (0, 0)) (by (with_reducible repeat (first | refine bN_ ?_ _ | refine bD_ ?_ | refine bA_ ?_ _)); exact BK346.out) hb); have n8_ := Am (Kd.C_below (by repeat (first | (with_reducible exact HR350_2.out) | (with_reducible refine Kd.C_alloc ?_ _) | (with_reducible refine Kd.C_drewN ?_ _) | (with_reducible refine Kd.C_drew ?_) | exact HR350_2.out)) hb); have n9_ := Am (Kd.C_below (by repeat (first | (with_reducible exact HR351_2.out) | (with_reducible refine Kd.C_alloc ?_ _) | (with_reducible refine Kd.C_drewN ?_ _) | (with_reducible refine Kd.C_drew ?_) | exact HR351_2.out)) hb); have n10_ := Am (pT_ (by repeat (first | (with_reducible first | exact HB.out | apply pA_ | apply pN_ | apply pD_ | refine pS_ ?_ GE346.out) | exact HB.out)) hb); clear HO_5; clear HO_7; clear HO_347003; clear HL350_2; clear HL351_2; clear HO356; clear BK346; clear HR350_2; clear HR351_2; clear HB; have HO_5 := n0_; have HO_7 := n1_; have HO_347003 := n2_; have HL350_2 := n3_; have HL351_2 := n4_; have HO356 := n5_; have HO360 := n6_; have BK346 := n7_; have HR350_2 := n8_; have HR351_2 := n9_; have HB := n10_; clear n0_ n1_ n2_ n3_ n4_ n5_ n6_ n7_ n8_ n9_ n10_; (try clear hb); (try clear hb2); (try clear hk); (try clear hi); (try clear ho0)))
               go_roundg k3
               case measure => have := HK1.out; have := HK2.out; have := HK3.out; omega
               case rel => exact ⟨(t358), (wrap64 (x9_3 + 1)), (by first | rfl | (simp; done) | (simp [*]; done)), H', ⟨by have := HK1.out; have := HK2.out; have := HK3.out; omega⟩, ⟨by (with_reducible repeat (first | apply Kd.N_alloc | apply Kd.N_drewN | apply Kd.N_drew)); exact HO_5.out⟩, ⟨by (with_reducible repeat (first | apply Kd.V_alloc | apply Kd.V_drewN | apply Kd.V_drew)); exact HO360.out⟩, ⟨by (with_reducible repeat (first | apply Kd.V_alloc | apply Kd.V_drewN | apply Kd.V_drew)); exact HO_347003.out⟩, ⟨by (with_reducible repeat (first | refine bN_ ?_ _ | refine bD_ ?_ | refine bA_ ?_ _)); exact BK346.out⟩, ⟨by repeat (first | (with_reducible first | exact HB.out | apply pA_ | apply pN_ | apply pD_ | refine pS_ ?_ GE346.out) | exact HB.out)⟩⟩
              ·replace c14 := Bool.eq_false_iff.mpr c14
               subst c14
               have H1 : (r6Heard.l2 k3 a1 x5_1 x6_1 x7_3 x8_2 (wrap64 (x9_3 + 1)) l0_0 a0_1 l0_2 l0_3 l0_4) = some r := by rw [if_neg (show ¬ (false = true) by decide)] at H; exact H
               clear H
               have H := H1
               clear H1
               have H' := Am H
               clear H
               have hcz21_0 : wr.cell? ⟨gb346, 0, none⟩ = some (.slice A0_0 l0_0.length c0_0) := (bC_ BK346.out 0).trans rfl
               have hcz21_1 : wr.cell? ⟨gb346, 1, none⟩ = some (.int .i64 a0_1) := (bC_ BK346.out 1).trans rfl
               have hcz21_2 : wr.cell? ⟨gb346, 2, none⟩ = some (.slice A0_2 l0_2.length c0_2) := (bC_ BK346.out 2).trans rfl
               have hcz21_3 : wr.cell? ⟨gb346, 3, none⟩ = some (.slice A0_3 l0_3.length c0_3) := (bC_ BK346.out 3).trans rfl
               have hcz21_4 : wr.cell? ⟨gb346, 4, none⟩ = some (.slice A0_4 l0_4.length c0_4) := (bC_ BK346.out 4).trans rfl
               have hfz21_0 := bF_ BK346.out 0
               have hfz21_1 := bF_ BK346.out 1
               have hfz21_2 := bF_ BK346.out 2
               have hfz21_3 := bF_ BK346.out 3
               have hfz21_4 := bF_ BK346.out 4
               have p350 : 0 ≤ (x8_2 : Int) := of_decide_eq_true (by first | (with_reducible assumption) | assumption)
               have q350 : x8_2 < (l0_3.length : Int) := of_decide_eq_true (by first | (with_reducible assumption) | assumption)
               obtain ⟨ad350, A350_2, c350_2, e350, hx350_0, hx350_1, hx350_2, hl350_2, hi350_2⟩ := at_T69 (Kd.V_reads' HO_347003.out).2.2 x8_2 p350 q350
               cases e350
               obtain ⟨ce350, hce350, hMe350, hcc350⟩ := Kd.V_get HO_347003.out z69 x8_2 p350 (by first | exact q350 | exact of_decide_eq_true (by first | (with_reducible assumption) | assumption) | (have e_ := (Kd.V_reads' HO_347003.out).1; omega))
               obtain ⟨ua350_2, uc350_2, rfl, ul350_2, ge350_2⟩ := k69_openF hMe350
               have hv350_2 := hcc350 2 _ rfl
               rw [add_field _ _ 2 (by omega)] at hv350_2
               replace hv350_2 := Option.some.inj (hv350_2.symm.trans hx350_2)
               injection hv350_2 with hva_ hvn_ hvc_
               rw [hva_] at ge350_2
               rw [hvc_] at ul350_2
               have HL350_2 := Am (show Kd.V (Kd.int .i64) 3 _ w.heap.size _ _ ((rd_T69 l0_3 x8_2).f2) from Kd.V_mk ul350_2 ge350_2)
               clear hva_ hvn_ hvc_ ge350_2 ul350_2
               clear hcc350 hce350
               have HR350_2 := Am hi350_2
               have HC350_2 := Am hl350_2
               clear hi350_2 hl350_2
               replace p350 := eq_true p350
               replace q350 := eq_true q350
               have p351 : 0 ≤ (x8_2 : Int) := of_decide_eq_true (by first | (with_reducible assumption) | assumption)
               have q351 : x8_2 < (l0_3.length : Int) := of_decide_eq_true (by first | (with_reducible assumption) | assumption)
               obtain ⟨ad351, A351_2, c351_2, e351, hx351_0, hx351_1, hx351_2, hl351_2, hi351_2⟩ := at_T69 (Kd.V_reads' HO_347003.out).2.2 x8_2 p351 q351
               obtain rfl : ad350 = ad351 := (by injection e351)
               obtain ⟨ce351, hce351, hMe351, hcc351⟩ := Kd.V_get HO_347003.out z69 x8_2 p351 (by first | exact q351 | exact of_decide_eq_true (by first | (with_reducible assumption) | assumption) | (have e_ := (Kd.V_reads' HO_347003.out).1; omega))
               obtain ⟨ua351_2, uc351_2, rfl, ul351_2, ge351_2⟩ := k69_openF hMe351
               have hv351_2 := hcc351 2 _ rfl
               rw [add_field _ _ 2 (by omega)] at hv351_2
               replace hv351_2 := Option.some.inj (hv351_2.symm.trans hx351_2)
               injection hv351_2 with hva_ hvn_ hvc_
               rw [hva_] at ge351_2
               rw [hvc_] at ul351_2
               have HL351_2 := Am (show Kd.V (Kd.int .i64) 3 _ w.heap.size _ _ ((rd_T69 l0_3 x8_2).f2) from Kd.V_mk ul351_2 ge351_2)
               clear hva_ hvn_ hvc_ ge351_2 ul351_2
               clear hcc351 hce351
               have HR351_2 := Am hi351_2
               have HC351_2 := Am hl351_2
               clear hi351_2 hl351_2
               replace p351 := eq_true p351
               replace q351 := eq_true q351
               have ea_ := Option.some.inj (hx350_2.symm.trans hx351_2)
               injection ea_ with ea_ en_ ec_
               subst ea_
               subst ec_
               clear en_
               have q22 : ((wrap64 (x9_3 + x6_1)) : Int) ≤ ((((rd_T69 l0_3 x8_2).f2).length : Int) : Int) := of_decide_eq_true (by first | (with_reducible assumption) | assumption)
               obtain ⟨i022, hi022, _, hsz22, _⟩ := info_parts info3
               have hroom22 : ((rd_T69 l0_3 x8_2).f2).length ≤ c350_2 := HC351_2.out
               have hC22 : Kd.F (Kd.int .i64) _ _ A350_2 ((rd_T69 l0_3 x8_2).f2).length ((rd_T69 l0_3 x8_2).f2) := (Kd.V_at (base := w.heap.size) HL351_2.out).2.2
               have ql22 : (x9_3 : Int) ≤ ((wrap64 (x9_3 + x6_1)) : Int) := of_decide_eq_true (by first | (with_reducible assumption) | assumption)
               have q022 : (0 : Int) ≤ (x9_3 : Int) := of_decide_eq_true (by first | (with_reducible assumption) | assumption)
               have hcut22 := cut_mid (P := Tryz.prog) 25 3 .i64 .i64 Tryz.underlying25 hi022 1 hsz22 A350_2 ((rd_T69 l0_3 x8_2).f2).length c350_2 x9_3 (wrap64 (x9_3 + x6_1)) q022 ql22 q22 hroom22
               have hr22 := Kd.F_mid (lo := (x9_3 : Int).toNat) (hi := ((wrap64 (x9_3 + x6_1)) : Int).toNat) (c := c350_2) hC22 (by omega) (by omega) hroom22
               obtain ⟨A22, hA22⟩ : ∃ A1, A1 = (if c350_2 = (x9_3 : Int).toNat then A350_2 else (A350_2 : Option Addr).map (·.add ((x9_3 : Int).toNat * 1))) := ⟨_, rfl⟩
               obtain ⟨c22, hc22⟩ : ∃ c1, c1 = c350_2 - (x9_3 : Int).toNat := ⟨_, rfl⟩
               have hy22 : y352.length = ((wrap64 (x9_3 + x6_1)) : Int).toNat - (x9_3 : Int).toNat := (by rw [Ny352.out, List.length_drop, List.length_take] <;> omega)
               rw [show (((rd_T69 l0_3 x8_2).f2).take ((wrap64 (x9_3 + x6_1)) : Int).toNat).drop (x9_3 : Int).toNat = y352 from Ny352.out.symm] at hr22
               replace hr22 : Kd.F (Kd.int .i64) _ _ A22 y352.length y352 := (by rw [hA22]; exact hr22)
               rw [← hy22, ← hA22, ← hc22] at hcut22
               have HO356 := Am (show Kd.V (Kd.int .i64) 3 _ w.heap.size _ (.slice A22 y352.length c22) y352 from Kd.V_mk (by rw [hy22, hc22]; exact Nat.sub_le_sub_right (Nat.le_trans (by omega) hroom22) _) hr22)
               have HC356 := Am (show y352.length ≤ c22 from by rw [hy22, hc22]; exact Nat.sub_le_sub_right (Nat.le_trans (by omega) hroom22) _)
               clear hr22 hC22 hroom22 hi022 hsz22 hc22
               have KY22 := Am hy22
               have KA22 := Am hA22
               clear hy22 hA22
               replace q22 := eq_true q22
               go_wp2_with (first | ((with_reducible refine gate_callee (f := 70) rfl ?_); refine goesL_ (some 49) rfl rfl Tryz.func70 (by kernel_rfl) rfl #[.agg #[.slice A0_0 l0_0.length c0_0, .int .i64 a0_1, .slice A0_2 l0_2.length c0_2, .slice (some ad350) l0_3.length c0_3, .slice A0_4 l0_4.length c0_4], .slice A22 y352.length c22, .int .i64 a1] rfl (by (try simp only [List.map_toArray, List.map_cons, List.map_nil]); first | done | rfl | (simp only [List.length_drop, List.length_take]; rfl)) ?_; (with_reducible refine (r6CanSend.calls k3 _ _ l0_0 a0_1 _ _ l0_2 _ _ l0_3 _ _ l0_4 _ _ y352 a1 false _ ?side1 ?side2 ?side3 ?side4 ?side5 ?side6 ?side7 ?side8 ?side9 ?side10 A13.out).mono ?_); (case side1 => repeat (first | exact (Kd.C_below HR0_0.out HB.out) | (with_reducible refine Kd.C_alloc ?_ _) | (with_reducible refine Kd.C_drewN ?_ _) | (with_reducible refine Kd.C_drew ?_))); (case side2 => exact HC0_0.out); (case side3 => repeat (first | exact (Kd.C_below HR0_2.out HB.out) | (with_reducible refine Kd.C_alloc ?_ _) | (with_reducible refine Kd.C_drewN ?_ _) | (with_reducible refine Kd.C_drew ?_))); (case side4 => exact HC0_2.out); (case side5 => repeat (first | exact (Kd.V_reads' HO_347003.out).2.2 | (with_reducible refine Kd.C_alloc ?_ _) | (with_reducible refine Kd.C_drewN ?_ _) | (with_reducible refine Kd.C_drew ?_))); (case side6 => exact (Kd.V_reads' HO_347003.out).2.1); (case side7 => repeat (first | exact (Kd.C_below HR0_4.out HB.out) | (with_reducible refine Kd.C_alloc ?_ _) | (with_reducible refine Kd.C_drewN ?_ _) | (with_reducible refine Kd.C_drew ?_))); (case side8 => exact HC0_4.out); (case side9 => repeat (first | exact (Kd.V_reads' HO356.out).2.2 | (with_reducible refine Kd.C_alloc ?_ _) | (with_reducible refine Kd.C_drewN ?_ _) | (with_reducible refine Kd.C_drew ?_))); (case side10 => exact (Kd.V_reads' HO356.out).2.1); rintro e w23 ⟨rfl, hb⟩; refine ⟨_, rfl, ?_⟩; have n0_ := Am (Kd.N_below (by (with_reducible repeat (first | apply Kd.N_alloc | apply Kd.N_drewN | apply Kd.N_drew)); exact HO_5.out) hb); have n1_ := Am (Kd.V_below (by (with_reducible repeat (first | apply Kd.V_alloc | apply Kd.V_drewN | apply Kd.V_drew)); exact HO_7.out) hb); have n2_ := Am (Kd.V_below (by (with_reducible repeat (first | apply Kd.V_alloc | apply Kd.V_drewN | apply Kd.V_drew)); exact HO_347003.out) hb); have n3_ := Am (Kd.V_below (by (with_reducible repeat (first | apply Kd.V_alloc | apply Kd.V_drewN | apply Kd.V_drew)); exact HL350_2.out) hb); have n4_ := Am (Kd.V_below (by (with_reducible repeat (first | apply Kd.V_alloc | apply Kd.V_drewN | apply Kd.V_drew)); exact HL351_2.out) hb); have n5_ := Am (Kd.V_below (by (with_reducible repeat (first | apply Kd.V_alloc | apply Kd.V_drewN | apply Kd.V_drew)); exact HO356.out) hb); have n6_ := Am (blk_below (g := gb346) (o := .cells #[.slice A0_0 l0_0.length c0_0, .int .i64 a0_1, .slice A0_2 l0_2.length c0_2, .slice (some ad350) l0_3.length c0_3, .slice A0_4 l0_4.length c0_4] 29 (0, 0)) (by (with_reducible repeat (first | refine bN_ ?_ _ | refine bD_ ?_ | refine bA_ ?_ _)); exact BK346.out) hb); have n7_ := Am (Kd.C_below (by repeat (first | (with_reducible exact HR350_2.out) | (with_reducible refine Kd.C_alloc ?_ _) | (with_reducible refine Kd.C_drewN ?_ _) | (with_reducible refine Kd.C_drew ?_) | exact HR350_2.out)) hb); have n8_ := Am (Kd.C_below (by repeat (first | (with_reducible exact HR351_2.out) | (with_reducible refine Kd.C_alloc ?_ _) | (with_reducible refine Kd.C_drewN ?_ _) | (with_reducible refine Kd.C_drew ?_) | exact HR351_2.out)) hb); have n9_ := Am (pT_ (by repeat (first | (with_reducible first | exact HB.out | apply pA_ | apply pN_ | apply pD_ | refine pS_ ?_ GE346.out) | exact HB.out)) hb); clear HO_5; clear HO_7; clear HO_347003; clear HL350_2; clear HL351_2; clear HO356; clear BK346; clear HR350_2; clear HR351_2; clear HB; have HO_5 := n0_; have HO_7 := n1_; have HO_347003 := n2_; have HL350_2 := n3_; have HL351_2 := n4_; have HO356 := n5_; have BK346 := n6_; have HR350_2 := n7_; have HR351_2 := n8_; have HB := n9_; clear n0_ n1_ n2_ n3_ n4_ n5_ n6_ n7_ n8_ n9_; (try clear hb); (try clear hb2); (try clear hk); (try clear hi)))
               go_roundg k3
               case measure => have := HK1.out; have := HK2.out; have := HK3.out; omega
               case rel => exact ⟨(x7_3), (wrap64 (x9_3 + 1)), (by first | rfl | (simp; done) | (simp [*]; done)), H', ⟨by have := HK1.out; have := HK2.out; have := HK3.out; omega⟩, ⟨by (with_reducible repeat (first | apply Kd.N_alloc | apply Kd.N_drewN | apply Kd.N_drew)); exact HO_5.out⟩, ⟨by (with_reducible repeat (first | apply Kd.V_alloc | apply Kd.V_drewN | apply Kd.V_drew)); exact HO_7.out⟩, ⟨by (with_reducible repeat (first | apply Kd.V_alloc | apply Kd.V_drewN | apply Kd.V_drew)); exact HO_347003.out⟩, ⟨by (with_reducible repeat (first | refine bN_ ?_ _ | refine bD_ ?_ | refine bA_ ?_ _)); exact BK346.out⟩, ⟨by repeat (first | (with_reducible first | exact HB.out | apply pA_ | apply pN_ | apply pD_ | refine pS_ ?_ GE346.out) | exact HB.out)⟩⟩
             ·rw [if_neg c11] at H
              exact absurd H (by simp)
            ·rw [if_neg c10] at H
             exact absurd H (by simp)
           ·rw [if_neg c9] at H
            have c9b0 : decide ((wrap64 (x9_3 + x6_1)) ≤ (((rd_T69 l0_3 x8_2).f2).length : Int)) = false := decide_eq_false c9
            clear c9
            have H' := Am H
            clear H
            have hcz24_0 : wr.cell? ⟨gb346, 0, none⟩ = some (.slice A0_0 l0_0.length c0_0) := (bC_ BK346.out 0).trans rfl
            have hcz24_1 : wr.cell? ⟨gb346, 1, none⟩ = some (.int .i64 a0_1) := (bC_ BK346.out 1).trans rfl
            have hcz24_2 : wr.cell? ⟨gb346, 2, none⟩ = some (.slice A0_2 l0_2.length c0_2) := (bC_ BK346.out 2).trans rfl
            have hcz24_3 : wr.cell? ⟨gb346, 3, none⟩ = some (.slice A0_3 l0_3.length c0_3) := (bC_ BK346.out 3).trans rfl
            have hcz24_4 : wr.cell? ⟨gb346, 4, none⟩ = some (.slice A0_4 l0_4.length c0_4) := (bC_ BK346.out 4).trans rfl
            have hfz24_0 := bF_ BK346.out 0
            have hfz24_1 := bF_ BK346.out 1
            have hfz24_2 := bF_ BK346.out 2
            have hfz24_3 := bF_ BK346.out 3
            have hfz24_4 := bF_ BK346.out 4
            have p350 : 0 ≤ (x8_2 : Int) := of_decide_eq_true (by first | (with_reducible assumption) | assumption)
            have q350 : x8_2 < (l0_3.length : Int) := of_decide_eq_true (by first | (with_reducible assumption) | assumption)
            obtain ⟨ad350, A350_2, c350_2, e350, hx350_0, hx350_1, hx350_2, hl350_2, hi350_2⟩ := at_T69 (Kd.V_reads' HO_347003.out).2.2 x8_2 p350 q350
            cases e350
            obtain ⟨ce350, hce350, hMe350, hcc350⟩ := Kd.V_get HO_347003.out z69 x8_2 p350 (by first | exact q350 | exact of_decide_eq_true (by first | (with_reducible assumption) | assumption) | (have e_ := (Kd.V_reads' HO_347003.out).1; omega))
            obtain ⟨ua350_2, uc350_2, rfl, ul350_2, ge350_2⟩ := k69_openF hMe350
            have hv350_2 := hcc350 2 _ rfl
            rw [add_field _ _ 2 (by omega)] at hv350_2
            replace hv350_2 := Option.some.inj (hv350_2.symm.trans hx350_2)
            injection hv350_2 with hva_ hvn_ hvc_
            rw [hva_] at ge350_2
            rw [hvc_] at ul350_2
            have HL350_2 := Am (show Kd.V (Kd.int .i64) 3 _ w.heap.size _ _ ((rd_T69 l0_3 x8_2).f2) from Kd.V_mk ul350_2 ge350_2)
            clear hva_ hvn_ hvc_ ge350_2 ul350_2
            clear hcc350 hce350
            have HR350_2 := Am hi350_2
            have HC350_2 := Am hl350_2
            clear hi350_2 hl350_2
            replace p350 := eq_true p350
            replace q350 := eq_true q350
            go_wp2
            go_roundg k3
            case measure => have := HK1.out; have := HK2.out; have := HK3.out; omega
            case rel => exact ⟨(x7_3), (wrap64 (x8_2 + 1)), (by first | rfl | (simp; done) | (simp [*]; done)), H', ⟨by have := HK1.out; have := HK2.out; have := HK3.out; omega⟩, ⟨by (with_reducible repeat (first | apply Kd.N_alloc | apply Kd.N_drewN | apply Kd.N_drew)); exact HO_5.out⟩, ⟨by (with_reducible repeat (first | apply Kd.V_alloc | apply Kd.V_drewN | apply Kd.V_drew)); exact HO_7.out⟩, ⟨by (with_reducible repeat (first | apply Kd.V_alloc | apply Kd.V_drewN | apply Kd.V_drew)); exact HO_347003.out⟩, ⟨by (with_reducible repeat (first | refine bN_ ?_ _ | refine bD_ ?_ | refine bA_ ?_ _)); exact BK346.out⟩, ⟨by repeat (first | (with_reducible first | exact HB.out | apply pA_ | apply pN_ | apply pD_ | refine pS_ ?_ GE346.out) | exact HB.out)⟩⟩
          ·rw [if_neg c8] at H
           exact absurd H (by simp)
         ·rw [if_neg c7] at H
          exact absurd H (by simp)
      ·rw [if_neg c5] at H
       have c5b0 : decide (x8_2 < (l0_3.length : Int)) = false := decide_eq_false c5
       clear c5
       by_cases c25 : x5_1.length + x7_2.length < 5864062014805
       ·rw [if_pos c25] at H
        have LMc25 := Am c25
        clear c25
        obtain ⟨y347, hy347⟩ : ∃ y_ : List (List Int), y_ = (x5_1 ++ x7_2) := ⟨_, rfl⟩
        replace H : (r6Heard.l0 k2 a1 y347 (wrap64 (x6_1 + 1)) l0_0 a0_1 l0_2 l0_3 l0_4) = some r := by first | (rw [hy347]; with_reducible exact H) | (have H2_ := (Option.bind_some _ _).symm.trans H; rw [hy347]; with_reducible exact H2_) | (have H2_ := (Option.bind_some _ _).symm.trans H; with_reducible exact H2_) | with_reducible exact H | (rw [hy347]; exact H) | exact H
        have Ny347 := Am hy347
        clear hy347
        have H' := Am H
        clear H
        have hcz26_0 : wr.cell? ⟨gb346, 0, none⟩ = some (.slice A0_0 l0_0.length c0_0) := (bC_ BK346.out 0).trans rfl
        have hcz26_1 : wr.cell? ⟨gb346, 1, none⟩ = some (.int .i64 a0_1) := (bC_ BK346.out 1).trans rfl
        have hcz26_2 : wr.cell? ⟨gb346, 2, none⟩ = some (.slice A0_2 l0_2.length c0_2) := (bC_ BK346.out 2).trans rfl
        have hcz26_3 : wr.cell? ⟨gb346, 3, none⟩ = some (.slice A0_3 l0_3.length c0_3) := (bC_ BK346.out 3).trans rfl
        have hcz26_4 : wr.cell? ⟨gb346, 4, none⟩ = some (.slice A0_4 l0_4.length c0_4) := (bC_ BK346.out 4).trans rfl
        have hfz26_0 := bF_ BK346.out 0
        have hfz26_1 := bF_ BK346.out 1
        have hfz26_2 := bF_ BK346.out 2
        have hfz26_3 := bF_ BK346.out 3
        have hfz26_4 := bF_ BK346.out 4
        obtain ⟨Ao28, co28, eo28⟩ := Kd.V_slice HO_7.out
        subst eo28
        go_wp2_with (first | ((with_reducible refine gate_builtin (b := .append) (xs := #[.tmp 53, .tmp 54]) rfl ?_); at_builtin; refine Kd.N_append_rows (Kd.slice 3 (Kd.int .i64)) (w0 := w) w.heap.size rfl (.tmp 53) (.tmp 54) 47 25 (.slice none 0 0) 24 rfl Tryz.underlying47 info25 rfl (by decide) (by omega) u5 x5_1 x7_2 _ _ _ (fun k_ => (P0_3_ k_ ∨ w.heap.size ≤ k_) ∧ k_ ≠ gb346) (fun k_ => ((fun k_ => (P0_3_ k_ ∨ w.heap.size ≤ k_) ∧ k_ ≠ gb346)) k_ ∧ some k_ ≠ (u5 : Value).ownBlock) rfl rfl ?aO ?aR (fun _ hk => hk) ?aF ?aB ?aS ?aL ?_; (case aR => exact (by skip; exact Kd.V_F (by (with_reducible repeat (first | apply Kd.V_alloc | apply Kd.V_drewN | apply Kd.V_drew)); exact Kd.V_mono (ok' := (fun k_ => ((fun k_ => (P0_3_ k_ ∨ w.heap.size ≤ k_) ∧ k_ ≠ gb346)) k_ ∧ some k_ ≠ (u5 : Value).ownBlock)) (HO_7.out) (fun k_ hk => ⟨⟨hk.1, hk.2.2⟩, hk.2.1⟩)))); (case aB => exact (by repeat (first | (with_reducible first | exact HB.out | apply pA_ | apply pN_ | apply pD_ | refine pS_ ?_ GE346.out) | exact HB.out))); (case aF => exact (fun k_ hk => ⟨(.inr (Nat.le_trans (pZ_ (by repeat (first | (with_reducible first | exact HB.out | apply pA_ | apply pN_ | apply pD_ | refine pS_ ?_ GE346.out) | exact HB.out))) hk)), Kd.freshB (g := gb346) (o := .cells #[.slice A0_0 l0_0.length c0_0, .int .i64 a0_1, .slice A0_2 l0_2.length c0_2, .slice A0_3 l0_3.length c0_3, .slice A0_4 l0_4.length c0_4] 29 (0, 0)) (by (with_reducible repeat (first | refine bN_ ?_ _ | refine bD_ ?_ | refine bA_ ?_ _)); exact BK346.out) k_ hk⟩)); (case aO => exact (by (with_reducible repeat (first | apply Kd.N_alloc | apply Kd.N_drewN | apply Kd.N_drew)); exact HO_5.out)); (case aS => exact (pZ_ (by repeat (first | (with_reducible first | exact HB.out | apply pA_ | apply pN_ | apply pD_ | refine pS_ ?_ GE346.out) | exact HB.out)))); (case aL => have := LMc25.out; omega); intro v348 w27 ho hb hg hat; rw [← Ny347.out] at ho; have n0_ := Am (Kd.V_afterv (ok := (fun k_ => (P0_3_ k_ ∨ w.heap.size ≤ k_) ∧ k_ ≠ gb346)) (by (with_reducible repeat (first | apply Kd.V_alloc | apply Kd.V_drewN | apply Kd.V_drew)); exact Kd.V_mono HO_7.out (fun _ hk => ⟨⟨hk.1, hk.2.2⟩, hk.2.1⟩)) hg hat); have n1_ := Am (Kd.V_afterv (ok := (fun k_ => (P0_3_ k_ ∨ w.heap.size ≤ k_) ∧ k_ ≠ gb346)) (by (with_reducible repeat (first | apply Kd.V_alloc | apply Kd.V_drewN | apply Kd.V_drew)); exact Kd.V_mono HO_347003.out (fun _ hk => ⟨⟨hk.1, hk.2.2⟩, hk.2.1⟩)) hg hat); have n2_ := Am (blk_grown (g := gb346) (o := .cells #[.slice A0_0 l0_0.length c0_0, .int .i64 a0_1, .slice A0_2 l0_2.length c0_2, .slice A0_3 l0_3.length c0_3, .slice A0_4 l0_4.length c0_4] 29 (0, 0)) (by (with_reducible repeat (first | refine bN_ ?_ _ | refine bD_ ?_ | refine bA_ ?_ _)); exact BK346.out) hg (Kd.N_ne HO_5.out BK346.out (by decide))); have n3_ := Am (hb); have n4_ := Am (ho); clear HO_7; clear HO_347003; clear BK346; clear HB; clear HO_5; have HO_7 := n0_; have HO_347003 := n1_; have BK346 := n2_; have HB := n3_; have HO349 := n4_; clear n0_ n1_ n2_ n3_ n4_; clear ho hb hg hat))
        go_roundg k2
        case measure => have := HK1.out; have := HK2.out; omega
        case rel => exact ⟨(y347), (wrap64 (x6_1 + 1)), (by first | rfl | (simp; done) | (simp [*]; done)), H', ⟨by have := HK1.out; have := HK2.out; omega⟩, ⟨by (with_reducible repeat (first | apply Kd.N_alloc | apply Kd.N_drewN | apply Kd.N_drew)); exact HO349.out⟩, ⟨by (with_reducible repeat (first | apply Kd.V_alloc | apply Kd.V_drewN | apply Kd.V_drew)); exact Kd.V_mono HO_347003.out (fun _ hk => ⟨hk.1.1, ⟨hk.2, hk.1.2⟩⟩)⟩, ⟨by (with_reducible repeat (first | refine bN_ ?_ _ | refine bD_ ?_ | refine bA_ ?_ _)); exact BK346.out⟩, ⟨by repeat (first | (with_reducible first | exact HB.out | apply pA_ | apply pN_ | apply pD_ | refine pS_ ?_ GE346.out) | exact HB.out)⟩⟩
       ·rw [if_neg c25] at H
        exact absurd H (by simp)
   ·rw [if_neg c4] at H
    have c4b0 : decide (x6_1 ≤ 5) = false := decide_eq_false c4
    clear c4
    obtain rfl := Option.some.inj H
    go_wp2
    go_ret
    exact ⟨_, by first | rfl | (simp [errW_none, errW_some] <;> rfl) | (simp [*, errW_none, errW_some] <;> rfl), by (with_reducible repeat (first | apply Kd.N_alloc | apply Kd.N_drewN | apply Kd.N_drew)); exact Kd.N_mono HO_5.out (fun _ hk => hk.1), by repeat (first | (with_reducible first | exact HB.out | apply pA_ | apply pN_ | apply pD_ | refine pS_ ?_ GE346.out) | exact HB.out)⟩
def r6Masked.l0 : Nat → Int → List (List Int) → Int → List ByteArray → Int → List Int → List (S69) → List (S61) → Option (List Int × Bool)
 | 0, _, _, _, _, _, _, _, _ => none
 | k + 1, x1, x6, x7, x362000, x362001, x362002, x362003, x362004 => if x7 < (x6.length : Int) then (if 0 ≤ x7 then ((r6Reads.f k x362000 x362001 x362002 x362003 x362004 (rd_L2 x6 x7) x1).bind fun t367 => (if t367 = true then (some (rd_L2 x6 x7, true)) else (r6Masked.l0 k x1 x6 (wrap64 (x7 + 1)) x362000 x362001 x362002 x362003 x362004))) else (none)) else (some (([] : List Int), false))
def r6Masked.f (k : Nat) (l0_0 : List ByteArray) (a0_1 : Int) (l0_2 : List Int) (l0_3 : List (S69)) (l0_4 : List (S61)) (a1 : Int) : Option (List Int × Bool) := if 0 ≤ a1 then (if a1 < (l0_4.length : Int) then ((r6Heard.f k l0_0 a0_1 l0_2 l0_3 l0_4 ((rd_T61 l0_4 a1).f0)).bind fun t363 => (r6Masked.l0 k a1 t363 0 l0_0 a0_1 l0_2 l0_3 l0_4)) else (none)) else (none)
def r6Masked.T1 : Bool × List (List Nat × List Nat) := (true, [([], []), ([], []), ([1], [1]), ([], []), ([2, 3], [2, 3]), ([4], [4]), ([5], [5]), ([0, 6], [0, 6]), ([7, 7, 0, 1, 2, 3, 4, 5, 6, 7], [7])])
def r6Masked.B1 : List Nat := [0, 0, 2, 0, 14, 30, 62, 127, 255]
theorem r6Masked.tab1 : rtab .any (opsOf Tryz.f30 1) = r6Masked.T1 := by kernel_rfl
theorem r6Masked.bits1 : waitsOk r6Masked.T1.2 r6Masked.B1 = true := by kernel_rfl
set_option maxHeartbeats 8000000 in
set_option maxRecDepth 100000 in
theorem r6Masked.calls (k : Nat) (A0_0 : Option Addr) (c0_0 : Nat) (l0_0 : List ByteArray) (a0_1 : Int) (A0_2 : Option Addr) (c0_2 : Nat) (l0_2 : List Int) (P0_3_ : Nat → Prop) (A0_3 : Option Addr) (c0_3 : Nat) (l0_3 : List (S69)) (A0_4 : Option Addr) (c0_4 : Nat) (l0_4 : List (S61)) (a1 : Int) (r1 : List Int) (r2 : Bool) (w : World) (hr0_0 : Kd.C Kd.string w A0_0 l0_0.length l0_0) (hc0_0 : l0_0.length ≤ c0_0) (hr0_2 : Kd.C (Kd.int .i64) w A0_2 l0_2.length l0_2) (hc0_2 : l0_2.length ≤ c0_2) (hs0_3 : Kd.V k69 69 w w.heap.size (fun k_ => P0_3_ k_) (.slice A0_3 l0_3.length c0_3) l0_3) (hr0_4 : Kd.C k61 w A0_4 l0_4.length l0_4) (hc0_4 : l0_4.length ≤ c0_4) (h : r6Masked.f k l0_0 a0_1 l0_2 l0_3 l0_4 a1 = some (r1, r2)) :
  Calls Tryz.prog 30 #[.agg #[.slice A0_0 l0_0.length c0_0, .int .i64 a0_1, .slice A0_2 l0_2.length c0_2, .slice A0_3 l0_3.length c0_3, .slice A0_4 l0_4.length c0_4], .int .i64 a1] w fun e w' => ∃ v0_ : Value, e = .returned (.tuple #[v0_, .bool r2]) ∧ Kd.V (Kd.int .i64) 3 w' w.heap.size (fun k_ => (P0_3_ k_ ∨ w.heap.size ≤ k_)) v0_ r1 ∧ Below w.heap.size w w' := by
 have hu29 := Tryz.underlying29
 have HR0_0 := Am hr0_0
 have HC0_0 := Am hc0_0
 clear hr0_0 hc0_0
 have HR0_2 := Am hr0_2
 have HC0_2 := Am hc0_2
 clear hr0_2 hc0_2
 have HO0_3 := Am (show Kd.V k69 69 w w.heap.size (fun k_ => (P0_3_ k_ ∨ w.heap.size ≤ k_)) (.slice A0_3 l0_3.length c0_3) l0_3 from Kd.V_mono hs0_3 (fun k_ hk => .inl hk))
 have HR0_4 := Am hr0_4
 have HC0_4 := Am hc0_4
 clear hr0_4 hc0_4
 have HB := Am (Below.refl w.heap.size w)
 have H : (if 0 ≤ a1 then (if a1 < (l0_4.length : Int) then ((r6Heard.f k l0_0 a0_1 l0_2 l0_3 l0_4 ((rd_T61 l0_4 a1).f0)).bind fun t363 => (r6Masked.l0 k a1 t363 0 l0_0 a0_1 l0_2 l0_3 l0_4)) else (none)) else (none)) = some (r1, r2) := h
 clear h
 by_cases c3 : 0 ≤ a1
 ·rw [if_pos c3] at H
  have c3b0 : decide (0 ≤ a1) = true := decide_eq_true c3
  clear c3
  by_cases c4 : a1 < (l0_4.length : Int)
  ·rw [if_pos c4] at H
   have c4b0 : decide (a1 < (l0_4.length : Int)) = true := decide_eq_true c4
   clear c4
   replace H := Option.bind_eq_some_iff.mp H
   obtain ⟨t363, A50, H⟩ := H
   replace H : (r6Masked.l0 k a1 t363 0 l0_0 a0_1 l0_2 l0_3 l0_4) = some (r1, r2) := H
   have A5 := Am A50
   clear A50
   have H' := Am H
   clear H
   go_enter Tryz.func30, Tryz.ntmps30
   try go_wp2_with (first | ((with_reducible refine gate_dst (N := 2) rfl ?_); refine box_event ?hg (N := 2) ?hd (cs := #[.slice A0_0 l0_0.length c0_0, .int .i64 a0_1, .slice A0_2 l0_2.length c0_2, .slice A0_3 l0_3.length c0_3, .slice A0_4 l0_4.length c0_4]) (t := 29) ?hr ?_; (case hd => rfl); (case hg => rfl); (case hr => first | (go_simp; done) | (go_simp; rfl)); intro gb361 hg w6 hbox hb; have n0_ := Am (Kd.V_below (Kd.V_elderB (by (with_reducible repeat (first | apply Kd.V_alloc | apply Kd.V_drewN | apply Kd.V_drew)); exact HO0_3.out) gb361 (Nat.le_of_eq hg.symm)) hb); have n1_ := Am (pT_ (by repeat (first | (with_reducible first | exact HB.out | apply pA_ | apply pN_ | apply pD_) | exact HB.out)) hb); have n2_ := Am (hbox); have n3_ := Am ((by rw [hg]; exact (pZ_ (by repeat (first | (with_reducible first | exact HB.out | apply pA_ | apply pN_ | apply pD_) | exact HB.out))) : w.heap.size ≤ gb361)); have n4_ := Am ((by rw [hg]; exact (pZ_ (by repeat (first | (with_reducible first | exact HB.out | apply pA_ | apply pN_ | apply pD_) | exact HB.out))) : w.heap.size ≤ gb361)); clear HO0_3; clear HB; have HO0_3 := n0_; have HB := n1_; have BK361 := n2_; have GW361 := n3_; have GE361 := n4_; clear n0_ n1_ n2_ n3_ n4_; clear hb hbox hg))
   have n0_ := Am (Kd.V_drew HO0_3.out)
   have n1_ := Am (bD_ BK361.out)
   have n2_ := Am (pD_ HB.out)
   clear HO0_3
   clear BK361
   clear HB
   have HO0_3 := n0_
   have BK361 := n1_
   have HB := n2_
   clear n0_ n1_ n2_
   have p362 : 0 ≤ (a1 : Int) := of_decide_eq_true (by first | (with_reducible assumption) | assumption)
   have q362 : a1 < (l0_4.length : Int) := of_decide_eq_true (by first | (with_reducible assumption) | assumption)
   obtain ⟨ad362, e362, hx362_0, hx362_1, hx362_2⟩ := at_T61 HR0_4.out a1 p362 q362
   have hw362_2 := hx362_2
   have hw362_1 := hx362_1
   have hw362_0 := hx362_0
   cases e362
   replace hx362_0 := (HB.out.cell (World.block_lt_of_cell? w _ hx362_0)).trans hx362_0
   replace hx362_1 := (HB.out.cell (World.block_lt_of_cell? w _ hx362_1)).trans hx362_1
   replace hx362_2 := (HB.out.cell (World.block_lt_of_cell? w _ hx362_2)).trans hx362_2
   replace p362 := eq_true p362
   replace q362 := eq_true q362
   refine start_ (n := 9) (S := fun w' => w'.cell? ⟨gb361, 0, none⟩ = some (.slice A0_0 l0_0.length c0_0) ∧ w'.cell? ⟨gb361, 1, none⟩ = some (.int .i64 a0_1) ∧ w'.cell? ⟨gb361, 2, none⟩ = some (.slice A0_2 l0_2.length c0_2) ∧ w'.cell? ⟨gb361, 3, none⟩ = some (.slice A0_3 l0_3.length c0_3) ∧ w'.cell? ⟨gb361, 4, none⟩ = some (.slice (some ad362) l0_4.length c0_4) ∧ w'.cell? (ad362.add ((a1).toNat * 3)) = some (.int .i64 ((rd_T61 l0_4 a1).f0)) ∧ w'.cell? ⟨(ad362.add ((a1).toNat * 3)).block, (ad362.add ((a1).toNat * 3)).off + 1, none⟩ = some (.int .i64 ((rd_T61 l0_4 a1).f1)) ∧ w'.cell? ⟨(ad362.add ((a1).toNat * 3)).block, (ad362.add ((a1).toNat * 3)).off + 2, none⟩ = some (.string ((rd_T61 l0_4 a1).f2))) (ds := []) #[false, false, false, false, false, false, false, false, false] (by kernel_rfl) rfl rfl ⟨(bC_ BK361.out 0).trans rfl, (bC_ BK361.out 1).trans rfl, (bC_ BK361.out 2).trans rfl, (bC_ BK361.out 3).trans rfl, (bC_ BK361.out 4).trans rfl, ((HB.out.cell (World.block_lt_of_cell? w _ hw362_0)).trans hw362_0), ((HB.out.cell (World.block_lt_of_cell? w _ hw362_1)).trans hw362_1), ((HB.out.cell (World.block_lt_of_cell? w _ hw362_2)).trans hw362_2)⟩ (fun hHeld => ?_); refine with_tabW r6Masked.tab1 r6Masked.bits1 (fun HT_ HW_ => ?_)
   generalize w6.drew = w7 at HO0_3 BK361 HB hx362_0 hx362_1 hx362_2 hHeld ⊢
   refine pure_ (i := 1) (N := some 9) (v := ?_) (a' := ?_) #[false, true, false, false, false, false, false, false, false] rfl rfl (any_of HT_.out (by kernel_rfl)) (fun _ _ _ h => h) (Or.inl ⟨by rfl, ?_⟩) ?_ ?_
   rotate_left
   ·intro w'
    go_simp
    with_reducible rfl
   rotate_left
   ·simp only [Act.put, List.setIfInBounds_toArray, List.set_cons_zero, List.set_cons_succ, i64_w, i32_w]
    rfl
   refine pure_ (i := 3) (N := some 11) (v := ?_) (a' := ?_) #[false, true, false, true, false, false, false, false, false] rfl rfl (any_of HT_.out (by kernel_rfl)) (fun _ _ _ h => h) (Or.inl ⟨by rfl, ?_⟩) ?_ ?_
   rotate_left
   ·intro w'
    go_simp
    with_reducible rfl
   rotate_left
   ·simp only [Act.put, List.setIfInBounds_toArray, List.set_cons_zero, List.set_cons_succ, i64_w, i32_w]
    rfl
   refine take_ (i := 0) (N := some 8) (v := ?_) (a' := ?_) #[true, true, false, true, false, false, false, false, false] rfl rfl (take_ofW HT_.out HW_.out (by kernel_rfl)) (fun _ _ _ h => h) (Or.inl ⟨by rfl, ?_⟩) hHeld ?_ ?_
   rotate_left
   ·rintro w' ⟨s0, s1, s2, s3, s4, s5, s6, s7⟩
    go_simp
    with_reducible rfl
   rotate_left
   ·simp only [Act.put, List.setIfInBounds_toArray, List.set_cons_zero, List.set_cons_succ, i64_w, i32_w]
    rfl
   refine take_ (i := 2) (N := some 10) (v := ?_) (a' := ?_) #[true, true, true, true, false, false, false, false, false] rfl rfl (take_ofW HT_.out HW_.out (by kernel_rfl)) (fun _ _ _ h => h) (Or.inl ⟨by rfl, ?_⟩) hHeld ?_ ?_
   rotate_left
   ·rintro w' ⟨s0, s1, s2, s3, s4, s5, s6, s7⟩
    go_simp
    with_reducible rfl
   rotate_left
   ·simp only [Act.put, List.setIfInBounds_toArray, List.set_cons_zero, List.set_cons_succ, i64_w, i32_w]
    rfl
   refine pure_ (i := 4) (N := some 12) (v := ?_) (a' := ?_) #[true, true, true, true, true, false, false, false, false] rfl rfl (any_of HT_.out (by kernel_rfl)) (fun _ _ _ h => h) (Or.inl ⟨by rfl, ?_⟩) ?_ ?_
   rotate_left
   ·intro w'
    go_simp
    with_reducible rfl
   rotate_left
   ·simp only [Act.put, List.setIfInBounds_toArray, List.set_cons_zero, List.set_cons_succ, i64_w, i32_w]
    rfl
   refine pure_ (i := 5) (N := some 13) (v := ?_) (a' := ?_) #[true, true, true, true, true, true, false, false, false] rfl rfl (any_of HT_.out (by kernel_rfl)) (fun _ _ _ h => h) (Or.inl ⟨by rfl, ?_⟩) ?_ ?_
   rotate_left
   ·intro w'
    go_simp
    with_reducible rfl
   rotate_left
   ·simp only [Act.put, List.setIfInBounds_toArray, List.set_cons_zero, List.set_cons_succ, i64_w, i32_w]
    rfl
   refine take_ (i := 6) (N := some 14) (v := ?_) (a' := ?_) #[true, true, true, true, true, true, true, false, false] rfl rfl (take_ofW HT_.out HW_.out (by kernel_rfl)) (fun _ _ _ h => h) (Or.inl ⟨by rfl, ?_⟩) hHeld ?_ ?_
   rotate_left
   ·rintro w' ⟨s0, s1, s2, s3, s4, s5, s6, s7⟩
    go_simp
    with_reducible rfl
   rotate_left
   ·simp only [Act.put, List.setIfInBounds_toArray, List.set_cons_zero, List.set_cons_succ, i64_w, i32_w]
    rfl
   refine one_ (i := 7) (N := some 15) #[true, true, true, true, true, true, true, true, false] rfl rfl (one_of HT_.out (by kernel_rfl)) (by decide) (fun K hK => ?_)
   refine goes_ Tryz.func29 (by kernel_rfl) rfl #[.agg #[.slice A0_0 l0_0.length c0_0, .int .i64 a0_1, .slice A0_2 l0_2.length c0_2, .slice A0_3 l0_3.length c0_3, .slice (some ad362) l0_4.length c0_4], .int .i64 ((rd_T61 l0_4 a1).f0)] (by rfl) rfl rfl (by (try simp only [List.map_toArray, List.map_cons, List.map_nil]); first | done | rfl | (simp only [List.length_drop, List.length_take]; rfl)) ?_
   with_reducible refine (r6Heard.calls k _ _ l0_0 a0_1 _ _ l0_2 (fun k_ => ((P0_3_ k_ ∨ w.heap.size ≤ k_) ∧ k_ ≠ gb361)) _ _ l0_3 _ _ l0_4 ((rd_T61 l0_4 a1).f0) t363 _ ?side1 ?side2 ?side3 ?side4 ?side5 ?side6 ?side7 A5.out).mono ?_
   (case side1 => repeat (first | exact (Kd.C_below HR0_0.out HB.out) | (with_reducible refine Kd.C_alloc ?_ _) | (with_reducible refine Kd.C_drewN ?_ _) | (with_reducible refine Kd.C_drew ?_)))
   (case side2 => exact HC0_0.out)
   (case side3 => repeat (first | exact (Kd.C_below HR0_2.out HB.out) | (with_reducible refine Kd.C_alloc ?_ _) | (with_reducible refine Kd.C_drewN ?_ _) | (with_reducible refine Kd.C_drew ?_)))
   (case side4 => exact HC0_2.out)
   (case side5 => exact HO0_3.out)
   (case side6 => repeat (first | exact (Kd.C_below HR0_4.out HB.out) | (with_reducible refine Kd.C_alloc ?_ _) | (with_reducible refine Kd.C_drewN ?_ _) | (with_reducible refine Kd.C_drew ?_)))
   (case side7 => exact HC0_4.out)
   rintro e w8 ⟨v364, rfl, ho0, hb⟩
   refine ⟨_, rfl, ?_⟩
   have n0_ := Am (Kd.V_elder' (by (with_reducible repeat (first | apply Kd.V_alloc | apply Kd.V_drewN | apply Kd.V_drew)); exact HO0_3.out) (Kd.N_base ho0) hb)
   have n1_ := Am (Kd.N_lower (Kd.N_mono (ok' := fun k_ => (P0_3_ k_ ∨ w.heap.size ≤ k_) ∧ k_ ≠ gb361) ho0 (fun k_ hk_ => ⟨Or.elim hk_ (fun hs_ => hs_.1) (fun hn_ => (.inr (Nat.le_trans (pZ_ (by repeat (first | (with_reducible first | exact HB.out | apply pA_ | apply pN_ | apply pD_ | refine pS_ ?_ GE361.out) | exact HB.out))) hn_))), Or.elim hk_ (fun hs_ => hs_.2) (fun hn_ => (Kd.freshB (g := gb361) (o := .cells #[.slice A0_0 l0_0.length c0_0, .int .i64 a0_1, .slice A0_2 l0_2.length c0_2, .slice A0_3 l0_3.length c0_3, .slice (some ad362) l0_4.length c0_4] 29 (0, 0)) (by (with_reducible repeat (first | refine bN_ ?_ _ | refine bD_ ?_ | refine bA_ ?_ _)); exact BK361.out) k_ hn_))⟩)) (pZ_ (by repeat (first | (with_reducible first | exact HB.out | apply pA_ | apply pN_ | apply pD_ | refine pS_ ?_ GE361.out) | exact HB.out))))
   have n2_ := Am (blk_below (g := gb361) (o := .cells #[.slice A0_0 l0_0.length c0_0, .int .i64 a0_1, .slice A0_2 l0_2.length c0_2, .slice A0_3 l0_3.length c0_3, .slice (some ad362) l0_4.length c0_4] 29 (0, 0)) (by (with_reducible repeat (first | refine bN_ ?_ _ | refine bD_ ?_ | refine bA_ ?_ _)); exact BK361.out) hb)
   have n3_ := Am (pT_ (by repeat (first | (with_reducible first | exact HB.out | apply pA_ | apply pN_ | apply pD_ | refine pS_ ?_ GE361.out) | exact HB.out)) hb)
   clear HO0_3
   clear BK361
   clear HB
   have HO0_3 := n0_
   have HO365 := n1_
   have BK361 := n2_
   have HB := n3_
   clear n0_ n1_ n2_ n3_
   (try clear hb)
   (try clear hb2)
   (try clear hk)
   (try clear hi)
   (try clear ho0)
   refine hK.out _ _ ⟨(bC_ BK361.out 0).trans rfl, (bC_ BK361.out 1).trans rfl, (bC_ BK361.out 2).trans rfl, (bC_ BK361.out 3).trans rfl, (bC_ BK361.out 4).trans rfl, ((HB.out.cell (World.block_lt_of_cell? w _ hw362_0)).trans hw362_0), ((HB.out.cell (World.block_lt_of_cell? w _ hw362_1)).trans hw362_1), ((HB.out.cell (World.block_lt_of_cell? w _ hw362_2)).trans hw362_2)⟩ (fun hHeld => ?_)
   clear hK K
   refine norm_ (a' := ?_) ?_ ?_
   rotate_left
   ·show Act.put _ (some 15) _ = _
    simp only [Act.put, List.setIfInBounds_toArray, List.set_cons_zero, List.set_cons_succ, i64_w, i32_w]
    rfl
   refine pure_ (i := 8) (N := some 6) (v := ?_) (a' := ?_) #[true, true, true, true, true, true, true, true, true] rfl rfl (any_of HT_.out (by kernel_rfl)) (fun _ _ _ h => h) (Or.inl ⟨by rfl, ?_⟩) ?_ ?_
   rotate_left
   ·intro w'
    go_simp
    with_reducible rfl
   rotate_left
   ·simp only [Act.put, List.setIfInBounds_toArray, List.set_cons_zero, List.set_cons_succ, i64_w, i32_w]
    rfl
   refine done_ (done_of HT_.out (by kernel_rfl)) ?_
   try go_wp2
   go_loopg [7] k (fun kq v7 w' => ∃ (x7_1 : Int), v7 = .int .i64 x7_1 ∧ Aside0 (r6Masked.l0 kq a1 t363 x7_1 l0_0 a0_1 l0_2 l0_3 l0_4 = some (r1, r2)) ∧ Aside0 (kq ≤ k) ∧ Aside0 (Kd.N (Kd.slice 3 (Kd.int .i64)) 25 w' w.heap.size (fun k_ => (P0_3_ k_ ∨ w.heap.size ≤ k_) ∧ k_ ≠ gb361) v364 t363) ∧ Aside0 (Kd.V k69 69 w' w.heap.size (fun k_ => (P0_3_ k_ ∨ w.heap.size ≤ k_) ∧ some k_ ≠ (v364 : Value).ownBlock ∧ k_ ≠ gb361) (.slice A0_3 l0_3.length c0_3) l0_3) ∧ Aside0 (w'.heap[gb361]? = some (.cells #[(.slice A0_0 l0_0.length c0_0), .int .i64 a0_1, (.slice A0_2 l0_2.length c0_2), (.slice A0_3 l0_3.length c0_3), (.slice (some ad362) l0_4.length c0_4)] 29 (0, 0))) ∧ Aside0 (Below w.heap.size w w'))
   case atStart => exact ⟨(0), (by first | rfl | (simp; done) | (simp [*]; done)), H', ⟨Nat.le_refl _⟩, ⟨by (with_reducible repeat (first | apply Kd.N_alloc | apply Kd.N_drewN | apply Kd.N_drew)); exact HO365.out⟩, ⟨by (with_reducible repeat (first | apply Kd.V_alloc | apply Kd.V_drewN | apply Kd.V_drew)); exact Kd.V_mono HO0_3.out (fun _ hk => ⟨hk.1.1, ⟨hk.2, hk.1.2⟩⟩)⟩, ⟨by (with_reducible repeat (first | refine bN_ ?_ _ | refine bD_ ?_ | refine bA_ ?_ _)); exact BK361.out⟩, ⟨by repeat (first | (with_reducible first | exact HB.out | apply pA_ | apply pN_ | apply pD_ | refine pS_ ?_ GE361.out) | exact HB.out)⟩⟩
   case round =>
    clear H'
    try clear c2
    try clear p2
    try clear c3
    try clear c3b0
    try clear p3
    try clear q3
    try clear hx3
    try clear c4
    try clear c4b0
    try clear hx362_0
    try clear hx362_1
    try clear hx362_2
    try clear p362
    try clear q362
    obtain ⟨x7_1, rfl, HA, HK1, HO_6, HO_362003, BK361, HB⟩ := hrel
    cases gk with
    | zero => exact absurd HA.out (by simp [r6Masked.l0])
    | succ k1 =>
     have H := HA.out
     clear HA
     simp only [r6Masked.l0] at H
     by_cases c9 : x7_1 < (t363.length : Int)
     ·rw [if_pos c9] at H
      have c9b0 : decide (x7_1 < (t363.length : Int)) = true := decide_eq_true c9
      clear c9
      by_cases c10 : 0 ≤ x7_1
      ·rw [if_pos c10] at H
       have c10b0 : decide (0 ≤ x7_1) = true := decide_eq_true c10
       clear c10
       replace H := Option.bind_eq_some_iff.mp H
       obtain ⟨t367, A110, H⟩ := H
       replace H : (if t367 = true then (some (rd_L2 t363 x7_1, true)) else (r6Masked.l0 k1 a1 t363 (wrap64 (x7_1 + 1)) l0_0 a0_1 l0_2 l0_3 l0_4)) = some (r1, r2) := H
       have A11 := Am A110
       clear A110
       by_cases c12 : t367 = true
       ·subst c12
        have H1 : (some (rd_L2 t363 x7_1, true)) = some (r1, r2) := by rw [if_pos rfl] at H; exact H
        clear H
        have H := H1
        clear H1
        simp only [Option.some.injEq, Prod.mk.injEq] at H
        obtain ⟨rfl, rfl⟩ := H
        obtain ⟨Ao13, co13, eo13⟩ := Kd.N_slice HO_6.out
        subst eo13
        try go_wp2
        have n0_ := Am (Kd.N_drew HO_6.out)
        have n1_ := Am (Kd.V_drew HO_362003.out)
        have n2_ := Am (bD_ BK361.out)
        have n3_ := Am (pD_ HB.out)
        clear HO_6
        clear HO_362003
        clear BK361
        clear HB
        have HO_6 := n0_
        have HO_362003 := n1_
        have BK361 := n2_
        have HB := n3_
        clear n0_ n1_ n2_ n3_
        have p366 : 0 ≤ (x7_1 : Int) := of_decide_eq_true (by first | (with_reducible assumption) | assumption)
        have q366 : x7_1 < (t363.length : Int) := of_decide_eq_true (by first | (with_reducible assumption) | assumption)
        obtain ⟨ad366, A366_0, c366_0, e366, hx366_0, hl366_0, hi366_0⟩ := at_L2 (Kd.N_reads' HO_6.out).2.2 x7_1 p366 q366
        cases e366
        obtain ⟨ce366, hce366, hMe366, hcc366⟩ := Kd.N_get HO_6.out [] x7_1 p366 (by first | exact q366 | exact of_decide_eq_true (by first | (with_reducible assumption) | assumption) | (have e_ := (Kd.N_reads' HO_6.out).1; omega))
        obtain ⟨ua366_0, uc366_0, rfl, ul366_0, ge366_0⟩ := Kd.FK_slice_open hMe366
        have hv366_0 := hcc366 0 _ rfl
        rw [Nat.add_zero, show ((Kd.slice 3 (Kd.int .i64))).sz = 1 from rfl, Nat.mul_one] at hv366_0
        replace hv366_0 := Option.some.inj (hv366_0.symm.trans hx366_0)
        injection hv366_0 with hva_ hvn_ hvc_
        rw [hva_] at ge366_0
        rw [hvc_] at ul366_0
        have HL366_0 := Am (show Kd.V (Kd.int .i64) 3 _ w.heap.size _ _ (rd_L2 t363 x7_1) from Kd.V_mk ul366_0 ge366_0)
        clear hva_ hvn_ hvc_ ge366_0 ul366_0
        clear hcc366 hce366
        have HR366_0 := Am hi366_0
        have HC366_0 := Am hl366_0
        clear hi366_0 hl366_0
        replace p366 := eq_true p366
        replace q366 := eq_true q366
        refine start_ (n := 7) (S := fun w' => w'.cell? ⟨gb361, 0, none⟩ = some (.slice A0_0 l0_0.length c0_0) ∧ w'.cell? ⟨gb361, 1, none⟩ = some (.int .i64 a0_1) ∧ w'.cell? ⟨gb361, 2, none⟩ = some (.slice A0_2 l0_2.length c0_2) ∧ w'.cell? ⟨gb361, 3, none⟩ = some (.slice A0_3 l0_3.length c0_3) ∧ w'.cell? ⟨gb361, 4, none⟩ = some (.slice (some ad362) l0_4.length c0_4) ∧ w'.cell? (ad366.add (x7_1).toNat) = some (.slice A366_0 (rd_L2 t363 x7_1).length c366_0)) (ds := []) #[false, false, false, false, false, false, false] (by kernel_rfl) rfl rfl ⟨(bC_ BK361.out 0).trans rfl, (bC_ BK361.out 1).trans rfl, (bC_ BK361.out 2).trans rfl, (bC_ BK361.out 3).trans rfl, (bC_ BK361.out 4).trans rfl, hx366_0⟩ (fun hHeld => ?_)
        generalize wr.drew = w14 at HO_6 HO_362003 BK361 HB HL366_0 HR366_0 hx366_0 hHeld ⊢
        refine pure_ (i := 1) (N := some 23) (v := ?_) (a' := ?_) #[false, true, false, false, false, false, false] rfl rfl (by kernel_rfl) (fun _ _ _ h => h) (Or.inl ⟨by rfl, ?_⟩) ?_ ?_
        rotate_left
        ·intro w'
         go_simp
         with_reducible rfl
        rotate_left
        ·simp only [Act.put, List.setIfInBounds_toArray, List.set_cons_zero, List.set_cons_succ, i64_w, i32_w]
         rfl
        refine pure_ (i := 2) (N := some 24) (v := ?_) (a' := ?_) #[false, true, true, false, false, false, false] rfl rfl (by kernel_rfl) (fun _ _ _ h => h) (Or.inl ⟨by rfl, ?_⟩) ?_ ?_
        rotate_left
        ·intro w'
         go_simp
         with_reducible rfl
        rotate_left
        ·simp only [Act.put, List.setIfInBounds_toArray, List.set_cons_zero, List.set_cons_succ, i64_w, i32_w]
         rfl
        refine pure_ (i := 3) (N := some 25) (v := ?_) (a' := ?_) #[false, true, true, true, false, false, false] rfl rfl (by kernel_rfl) (fun _ _ _ h => h) (Or.inl ⟨by rfl, ?_⟩) ?_ ?_
        rotate_left
        ·intro w'
         go_simp
         with_reducible rfl
        rotate_left
        ·simp only [Act.put, List.setIfInBounds_toArray, List.set_cons_zero, List.set_cons_succ, i64_w, i32_w]
         rfl
        refine pure_ (i := 5) (N := some 27) (v := ?_) (a' := ?_) #[false, true, true, true, false, true, false] rfl rfl (by kernel_rfl) (fun _ _ _ h => h) (Or.inl ⟨by rfl, ?_⟩) ?_ ?_
        rotate_left
        ·intro w'
         go_simp
         with_reducible rfl
        rotate_left
        ·simp only [Act.put, List.setIfInBounds_toArray, List.set_cons_zero, List.set_cons_succ, i64_w, i32_w]
         rfl
        refine take_ (i := 0) (N := some 22) (v := ?_) (a' := ?_) #[true, true, true, true, false, true, false] rfl rfl (by kernel_rfl) (fun _ _ _ h => h) (Or.inl ⟨by rfl, ?_⟩) hHeld ?_ ?_
        rotate_left
        ·rintro w' ⟨s0, s1, s2, s3, s4, s5⟩
         go_simp
         with_reducible rfl
        rotate_left
        ·simp only [Act.put, List.setIfInBounds_toArray, List.set_cons_zero, List.set_cons_succ, i64_w, i32_w]
         rfl
        refine take_ (i := 4) (N := some 26) (v := ?_) (a' := ?_) #[true, true, true, true, true, true, false] rfl rfl (by kernel_rfl) (fun _ _ _ h => h) (Or.inl ⟨by rfl, ?_⟩) hHeld ?_ ?_
        rotate_left
        ·rintro w' ⟨s0, s1, s2, s3, s4, s5⟩
         go_simp
         with_reducible rfl
        rotate_left
        ·simp only [Act.put, List.setIfInBounds_toArray, List.set_cons_zero, List.set_cons_succ, i64_w, i32_w]
         rfl
        refine one_ (i := 6) (N := some 28) #[true, true, true, true, true, true, true] rfl rfl (by kernel_rfl) (by decide) (fun K hK => ?_)
        refine goes_ Tryz.func72 (by kernel_rfl) rfl #[.agg #[.slice A0_0 l0_0.length c0_0, .int .i64 a0_1, .slice A0_2 l0_2.length c0_2, .slice A0_3 l0_3.length c0_3, .slice (some ad362) l0_4.length c0_4], .slice A366_0 (rd_L2 t363 x7_1).length c366_0, .int .i64 a1] (by rfl) rfl rfl (by (try simp only [List.map_toArray, List.map_cons, List.map_nil]); first | done | rfl | (simp only [List.length_drop, List.length_take]; rfl)) ?_
        with_reducible refine (r6Reads.calls k1 _ _ l0_0 a0_1 _ _ l0_2 _ _ l0_3 _ _ l0_4 _ _ (rd_L2 t363 x7_1) a1 true _ ?side1 ?side2 ?side3 ?side4 ?side5 ?side6 ?side7 ?side8 ?side9 ?side10 A11.out).mono ?_
        (case side1 => repeat (first | exact (Kd.C_below HR0_0.out HB.out) | (with_reducible refine Kd.C_alloc ?_ _) | (with_reducible refine Kd.C_drewN ?_ _) | (with_reducible refine Kd.C_drew ?_)))
        (case side2 => exact HC0_0.out)
        (case side3 => repeat (first | exact (Kd.C_below HR0_2.out HB.out) | (with_reducible refine Kd.C_alloc ?_ _) | (with_reducible refine Kd.C_drewN ?_ _) | (with_reducible refine Kd.C_drew ?_)))
        (case side4 => exact HC0_2.out)
        (case side5 => repeat (first | exact (Kd.V_reads' HO_362003.out).2.2 | (with_reducible refine Kd.C_alloc ?_ _) | (with_reducible refine Kd.C_drewN ?_ _) | (with_reducible refine Kd.C_drew ?_)))
        (case side6 => exact (Kd.V_reads' HO_362003.out).2.1)
        (case side7 => repeat (first | exact (Kd.C_below HR0_4.out HB.out) | (with_reducible refine Kd.C_alloc ?_ _) | (with_reducible refine Kd.C_drewN ?_ _) | (with_reducible refine Kd.C_drew ?_)))
        (case side8 => exact HC0_4.out)
        (case side9 => repeat (first | exact (by repeat (first | (with_reducible exact HR366_0.out) | (with_reducible refine Kd.C_alloc ?_ _) | (with_reducible refine Kd.C_drewN ?_ _) | (with_reducible refine Kd.C_drew ?_) | exact HR366_0.out)) | (with_reducible refine Kd.C_alloc ?_ _) | (with_reducible refine Kd.C_drewN ?_ _) | (with_reducible refine Kd.C_drew ?_)))
        (case side10 => exact HC366_0.out)
        rintro e w15 ⟨rfl, hb⟩
        have HS5_ := (hb.cell (World.block_lt_of_cell? _ _ (hHeld.2.2.2.2.2))).trans (hHeld.2.2.2.2.2)
        refine ⟨_, rfl, ?_⟩
        have n0_ := Am (Kd.N_below (by (with_reducible repeat (first | apply Kd.N_alloc | apply Kd.N_drewN | apply Kd.N_drew)); exact HO_6.out) hb)
        have n1_ := Am (Kd.V_below (by (with_reducible repeat (first | apply Kd.V_alloc | apply Kd.V_drewN | apply Kd.V_drew)); exact HO_362003.out) hb)
        have n2_ := Am (Kd.V_below (by (with_reducible repeat (first | apply Kd.V_alloc | apply Kd.V_drewN | apply Kd.V_drew)); exact HL366_0.out) hb)
        have n3_ := Am (blk_below (g := gb361) (o := .cells #[.slice A0_0 l0_0.length c0_0, .int .i64 a0_1, .slice A0_2 l0_2.length c0_2, .slice A0_3 l0_3.length c0_3, .slice (some ad362) l0_4.length c0_4] 29 (0, 0)) (by (with_reducible repeat (first | refine bN_ ?_ _ | refine bD_ ?_ | refine bA_ ?_ _)); exact BK361.out) hb)
        have n4_ := Am (Kd.C_below (by repeat (first | (with_reducible exact HR366_0.out) | (with_reducible refine Kd.C_alloc ?_ _) | (with_reducible refine Kd.C_drewN ?_ _) | (with_reducible refine Kd.C_drew ?_) | exact HR366_0.out)) hb)
        have n5_ := Am (pT_ (by repeat (first | (with_reducible first | exact HB.out | apply pA_ | apply pN_ | apply pD_ | refine pS_ ?_ GE361.out) | exact HB.out)) hb)
        clear HO_6
        clear HO_362003
        clear HL366_0
        clear BK361
        clear HR366_0
        clear HB
        have HO_6 := n0_
        have HO_362003 := n1_
        have HL366_0 := n2_
        have BK361 := n3_
        have HR366_0 := n4_
        have HB := n5_
        clear n0_ n1_ n2_ n3_ n4_ n5_
        (try clear hb)
        (try clear hb2)
        (try clear hk)
        (try clear hi)
        refine hK.out _ _ ⟨(bC_ BK361.out 0).trans rfl, (bC_ BK361.out 1).trans rfl, (bC_ BK361.out 2).trans rfl, (bC_ BK361.out 3).trans rfl, (bC_ BK361.out 4).trans rfl, HS5_⟩ (fun hHeld => ?_)
        clear hK K
        refine norm_ (a' := ?_) ?_ ?_
        rotate_left
        ·show Act.put _ (some 28) _ = _
         simp only [Act.put, List.setIfInBounds_toArray, List.set_cons_zero, List.set_cons_succ, i64_w, i32_w]
         rfl
        refine done_ (by kernel_rfl) ?_
        have p368 : 0 ≤ (x7_1 : Int) := of_decide_eq_true (by first | (with_reducible assumption) | assumption)
        have q368 : x7_1 < (t363.length : Int) := of_decide_eq_true (by first | (with_reducible assumption) | assumption)
        obtain ⟨ad368, A368_0, c368_0, e368, hx368_0, hl368_0, hi368_0⟩ := at_L2 (Kd.N_reads' HO_6.out).2.2 x7_1 p368 q368
        obtain rfl : ad366 = ad368 := (by injection e368)
        obtain ⟨ce368, hce368, hMe368, hcc368⟩ := Kd.N_get HO_6.out [] x7_1 p368 (by first | exact q368 | exact of_decide_eq_true (by first | (with_reducible assumption) | assumption) | (have e_ := (Kd.N_reads' HO_6.out).1; omega))
        obtain ⟨ua368_0, uc368_0, rfl, ul368_0, ge368_0⟩ := Kd.FK_slice_open hMe368
        have hv368_0 := hcc368 0 _ rfl
        rw [Nat.add_zero, show ((Kd.slice 3 (Kd.int .i64))).sz = 1 from rfl, Nat.mul_one] at hv368_0
        replace hv368_0 := Option.some.inj (hv368_0.symm.trans hx368_0)
        injection hv368_0 with hva_ hvn_ hvc_
        rw [hva_] at ge368_0
        rw [hvc_] at ul368_0
        have HL368_0 := Am (show Kd.V (Kd.int .i64) 3 _ w.heap.size _ _ (rd_L2 t363 x7_1) from Kd.V_mk ul368_0 ge368_0)
        clear hva_ hvn_ hvc_ ge368_0 ul368_0
        clear hcc368 hce368
        have HR368_0 := Am hi368_0
        have HC368_0 := Am hl368_0
        clear hi368_0 hl368_0
        replace p368 := eq_true p368
        replace q368 := eq_true q368
        try go_wp2
        go_ret2
        exact ⟨_, by first | rfl | (simp [errW_none, errW_some] <;> rfl) | (simp [*, errW_none, errW_some] <;> rfl), by (with_reducible repeat (first | apply Kd.V_alloc | apply Kd.V_drewN | apply Kd.V_drew)); exact Kd.V_mono HL366_0.out (fun _ hk => hk.1.1), by repeat (first | (with_reducible first | exact HB.out | apply pA_ | apply pN_ | apply pD_ | refine pS_ ?_ GE361.out) | exact HB.out)⟩
       ·replace c12 := Bool.eq_false_iff.mpr c12
        subst c12
        have H1 : (r6Masked.l0 k1 a1 t363 (wrap64 (x7_1 + 1)) l0_0 a0_1 l0_2 l0_3 l0_4) = some (r1, r2) := by rw [if_neg (show ¬ (false = true) by decide)] at H; exact H
        clear H
        have H := H1
        clear H1
        have H' := Am H
        clear H
        obtain ⟨Ao16, co16, eo16⟩ := Kd.N_slice HO_6.out
        subst eo16
        try go_wp2
        have n0_ := Am (Kd.N_drew HO_6.out)
        have n1_ := Am (Kd.V_drew HO_362003.out)
        have n2_ := Am (bD_ BK361.out)
        have n3_ := Am (pD_ HB.out)
        clear HO_6
        clear HO_362003
        clear BK361
        clear HB
        have HO_6 := n0_
        have HO_362003 := n1_
        have BK361 := n2_
        have HB := n3_
        clear n0_ n1_ n2_ n3_
        have p366 : 0 ≤ (x7_1 : Int) := of_decide_eq_true (by first | (with_reducible assumption) | assumption)
        have q366 : x7_1 < (t363.length : Int) := of_decide_eq_true (by first | (with_reducible assumption) | assumption)
        obtain ⟨ad366, A366_0, c366_0, e366, hx366_0, hl366_0, hi366_0⟩ := at_L2 (Kd.N_reads' HO_6.out).2.2 x7_1 p366 q366
        cases e366
        obtain ⟨ce366, hce366, hMe366, hcc366⟩ := Kd.N_get HO_6.out [] x7_1 p366 (by first | exact q366 | exact of_decide_eq_true (by first | (with_reducible assumption) | assumption) | (have e_ := (Kd.N_reads' HO_6.out).1; omega))
        obtain ⟨ua366_0, uc366_0, rfl, ul366_0, ge366_0⟩ := Kd.FK_slice_open hMe366
        have hv366_0 := hcc366 0 _ rfl
        rw [Nat.add_zero, show ((Kd.slice 3 (Kd.int .i64))).sz = 1 from rfl, Nat.mul_one] at hv366_0
        replace hv366_0 := Option.some.inj (hv366_0.symm.trans hx366_0)
        injection hv366_0 with hva_ hvn_ hvc_
        rw [hva_] at ge366_0
        rw [hvc_] at ul366_0
        have HL366_0 := Am (show Kd.V (Kd.int .i64) 3 _ w.heap.size _ _ (rd_L2 t363 x7_1) from Kd.V_mk ul366_0 ge366_0)
        clear hva_ hvn_ hvc_ ge366_0 ul366_0
        clear hcc366 hce366
        have HR366_0 := Am hi366_0
        have HC366_0 := Am hl366_0
        clear hi366_0 hl366_0
        replace p366 := eq_true p366
        replace q366 := eq_true q366
        refine start_ (n := 7) (S := fun w' => w'.cell? ⟨gb361, 0, none⟩ = some (.slice A0_0 l0_0.length c0_0) ∧ w'.cell? ⟨gb361, 1, none⟩ = some (.int .i64 a0_1) ∧ w'.cell? ⟨gb361, 2, none⟩ = some (.slice A0_2 l0_2.length c0_2) ∧ w'.cell? ⟨gb361, 3, none⟩ = some (.slice A0_3 l0_3.length c0_3) ∧ w'.cell? ⟨gb361, 4, none⟩ = some (.slice (some ad362) l0_4.length c0_4) ∧ w'.cell? (ad366.add (x7_1).toNat) = some (.slice A366_0 (rd_L2 t363 x7_1).length c366_0)) (ds := []) #[false, false, false, false, false, false, false] (by kernel_rfl) rfl rfl ⟨(bC_ BK361.out 0).trans rfl, (bC_ BK361.out 1).trans rfl, (bC_ BK361.out 2).trans rfl, (bC_ BK361.out 3).trans rfl, (bC_ BK361.out 4).trans rfl, hx366_0⟩ (fun hHeld => ?_)
        generalize wr.drew = w17 at HO_6 HO_362003 BK361 HB HL366_0 HR366_0 hx366_0 hHeld ⊢
        refine pure_ (i := 1) (N := some 23) (v := ?_) (a' := ?_) #[false, true, false, false, false, false, false] rfl rfl (by kernel_rfl) (fun _ _ _ h => h) (Or.inl ⟨by rfl, ?_⟩) ?_ ?_
        rotate_left
        ·intro w'
         go_simp
         with_reducible rfl
        rotate_left
        ·simp only [Act.put, List.setIfInBounds_toArray, List.set_cons_zero, List.set_cons_succ, i64_w, i32_w]
         rfl
        refine pure_ (i := 2) (N := some 24) (v := ?_) (a' := ?_) #[false, true, true, false, false, false, false] rfl rfl (by kernel_rfl) (fun _ _ _ h => h) (Or.inl ⟨by rfl, ?_⟩) ?_ ?_
        rotate_left
        ·intro w'
         go_simp
         with_reducible rfl
        rotate_left
        ·simp only [Act.put, List.setIfInBounds_toArray, List.set_cons_zero, List.set_cons_succ, i64_w, i32_w]
         rfl
        refine pure_ (i := 3) (N := some 25) (v := ?_) (a' := ?_) #[false, true, true, true, false, false, false] rfl rfl (by kernel_rfl) (fun _ _ _ h => h) (Or.inl ⟨by rfl, ?_⟩) ?_ ?_
        rotate_left
        ·intro w'
         go_simp
         with_reducible rfl
        rotate_left
        ·simp only [Act.put, List.setIfInBounds_toArray, List.set_cons_zero, List.set_cons_succ, i64_w, i32_w]
         rfl
        refine pure_ (i := 5) (N := some 27) (v := ?_) (a' := ?_) #[false, true, true, true, false, true, false] rfl rfl (by kernel_rfl) (fun _ _ _ h => h) (Or.inl ⟨by rfl, ?_⟩) ?_ ?_
        rotate_left
        ·intro w'
         go_simp
         with_reducible rfl
        rotate_left
        ·simp only [Act.put, List.setIfInBounds_toArray, List.set_cons_zero, List.set_cons_succ, i64_w, i32_w]
         rfl
        refine take_ (i := 0) (N := some 22) (v := ?_) (a' := ?_) #[true, true, true, true, false, true, false] rfl rfl (by kernel_rfl) (fun _ _ _ h => h) (Or.inl ⟨by rfl, ?_⟩) hHeld ?_ ?_
        rotate_left
        ·rintro w' ⟨s0, s1, s2, s3, s4, s5⟩
         go_simp
         with_reducible rfl
        rotate_left
        ·simp only [Act.put, List.setIfInBounds_toArray, List.set_cons_zero, List.set_cons_succ, i64_w, i32_w]
         rfl
        refine take_ (i := 4) (N := some 26) (v := ?_) (a' := ?_) #[true, true, true, true, true, true, false] rfl rfl (by kernel_rfl) (fun _ _ _ h => h) (Or.inl ⟨by rfl, ?_⟩) hHeld ?_ ?_
        rotate_left
        ·rintro w' ⟨s0, s1, s2, s3, s4, s5⟩
         go_simp
         with_reducible rfl
        rotate_left
        ·simp only [Act.put, List.setIfInBounds_toArray, List.set_cons_zero, List.set_cons_succ, i64_w, i32_w]
         rfl
        refine one_ (i := 6) (N := some 28) #[true, true, true, true, true, true, true] rfl rfl (by kernel_rfl) (by decide) (fun K hK => ?_)
        refine goes_ Tryz.func72 (by kernel_rfl) rfl #[.agg #[.slice A0_0 l0_0.length c0_0, .int .i64 a0_1, .slice A0_2 l0_2.length c0_2, .slice A0_3 l0_3.length c0_3, .slice (some ad362) l0_4.length c0_4], .slice A366_0 (rd_L2 t363 x7_1).length c366_0, .int .i64 a1] (by rfl) rfl rfl (by (try simp only [List.map_toArray, List.map_cons, List.map_nil]); first | done | rfl | (simp only [List.length_drop, List.length_take]; rfl)) ?_
        with_reducible refine (r6Reads.calls k1 _ _ l0_0 a0_1 _ _ l0_2 _ _ l0_3 _ _ l0_4 _ _ (rd_L2 t363 x7_1) a1 false _ ?side1 ?side2 ?side3 ?side4 ?side5 ?side6 ?side7 ?side8 ?side9 ?side10 A11.out).mono ?_
        (case side1 => repeat (first | exact (Kd.C_below HR0_0.out HB.out) | (with_reducible refine Kd.C_alloc ?_ _) | (with_reducible refine Kd.C_drewN ?_ _) | (with_reducible refine Kd.C_drew ?_)))
        (case side2 => exact HC0_0.out)
        (case side3 => repeat (first | exact (Kd.C_below HR0_2.out HB.out) | (with_reducible refine Kd.C_alloc ?_ _) | (with_reducible refine Kd.C_drewN ?_ _) | (with_reducible refine Kd.C_drew ?_)))
        (case side4 => exact HC0_2.out)
        (case side5 => repeat (first | exact (Kd.V_reads' HO_362003.out).2.2 | (with_reducible refine Kd.C_alloc ?_ _) | (with_reducible refine Kd.C_drewN ?_ _) | (with_reducible refine Kd.C_drew ?_)))
        (case side6 => exact (Kd.V_reads' HO_362003.out).2.1)
        (case side7 => repeat (first | exact (Kd.C_below HR0_4.out HB.out) | (with_reducible refine Kd.C_alloc ?_ _) | (with_reducible refine Kd.C_drewN ?_ _) | (with_reducible refine Kd.C_drew ?_)))
        (case side8 => exact HC0_4.out)
        (case side9 => repeat (first | exact (by repeat (first | (with_reducible exact HR366_0.out) | (with_reducible refine Kd.C_alloc ?_ _) | (with_reducible refine Kd.C_drewN ?_ _) | (with_reducible refine Kd.C_drew ?_) | exact HR366_0.out)) | (with_reducible refine Kd.C_alloc ?_ _) | (with_reducible refine Kd.C_drewN ?_ _) | (with_reducible refine Kd.C_drew ?_)))
        (case side10 => exact HC366_0.out)
        rintro e w18 ⟨rfl, hb⟩
        have HS5_ := (hb.cell (World.block_lt_of_cell? _ _ (hHeld.2.2.2.2.2))).trans (hHeld.2.2.2.2.2)
        refine ⟨_, rfl, ?_⟩
        have n0_ := Am (Kd.N_below (by (with_reducible repeat (first | apply Kd.N_alloc | apply Kd.N_drewN | apply Kd.N_drew)); exact HO_6.out) hb)
        have n1_ := Am (Kd.V_below (by (with_reducible repeat (first | apply Kd.V_alloc | apply Kd.V_drewN | apply Kd.V_drew)); exact HO_362003.out) hb)
        have n2_ := Am (Kd.V_below (by (with_reducible repeat (first | apply Kd.V_alloc | apply Kd.V_drewN | apply Kd.V_drew)); exact HL366_0.out) hb)
        have n3_ := Am (blk_below (g := gb361) (o := .cells #[.slice A0_0 l0_0.length c0_0, .int .i64 a0_1, .slice A0_2 l0_2.length c0_2, .slice A0_3 l0_3.length c0_3, .slice (some ad362) l0_4.length c0_4] 29 (0, 0)) (by (with_reducible repeat (first | refine bN_ ?_ _ | refine bD_ ?_ | refine bA_ ?_ _)); exact BK361.out) hb)
        have n4_ := Am (Kd.C_below (by repeat (first | (with_reducible exact HR366_0.out) | (with_reducible refine Kd.C_alloc ?_ _) | (with_reducible refine Kd.C_drewN ?_ _) | (with_reducible refine Kd.C_drew ?_) | exact HR366_0.out)) hb)
        have n5_ := Am (pT_ (by repeat (first | (with_reducible first | exact HB.out | apply pA_ | apply pN_ | apply pD_ | refine pS_ ?_ GE361.out) | exact HB.out)) hb)
        clear HO_6
        clear HO_362003
        clear HL366_0
        clear BK361
        clear HR366_0
        clear HB
        have HO_6 := n0_
        have HO_362003 := n1_
        have HL366_0 := n2_
        have BK361 := n3_
        have HR366_0 := n4_
        have HB := n5_
        clear n0_ n1_ n2_ n3_ n4_ n5_
        (try clear hb)
        (try clear hb2)
        (try clear hk)
        (try clear hi)
        refine hK.out _ _ ⟨(bC_ BK361.out 0).trans rfl, (bC_ BK361.out 1).trans rfl, (bC_ BK361.out 2).trans rfl, (bC_ BK361.out 3).trans rfl, (bC_ BK361.out 4).trans rfl, HS5_⟩ (fun hHeld => ?_)
        clear hK K
        refine norm_ (a' := ?_) ?_ ?_
        rotate_left
        ·show Act.put _ (some 28) _ = _
         simp only [Act.put, List.setIfInBounds_toArray, List.set_cons_zero, List.set_cons_succ, i64_w, i32_w]
         rfl
        refine done_ (by kernel_rfl) ?_
        try go_wp2
        go_roundg k1
        case measure => have := HK1.out; omega
        case rel => exact ⟨(wrap64 (x7_1 + 1)), (by first | rfl | (simp; done) | (simp [*]; done)), H', ⟨by have := HK1.out; omega⟩, ⟨by (with_reducible repeat (first | apply Kd.N_alloc | apply Kd.N_drewN | apply Kd.N_drew)); exact HO_6.out⟩, ⟨by (with_reducible repeat (first | apply Kd.V_alloc | apply Kd.V_drewN | apply Kd.V_drew)); exact HO_362003.out⟩, ⟨by (with_reducible repeat (first | refine bN_ ?_ _ | refine bD_ ?_ | refine bA_ ?_ _)); exact BK361.out⟩, ⟨by repeat (first | (with_reducible first | exact HB.out | apply pA_ | apply pN_ | apply pD_ | refine pS_ ?_ GE361.out) | exact HB.out)⟩⟩
      ·rw [if_neg c10] at H
       exact absurd H (by simp)
     ·rw [if_neg c9] at H
      have c9b0 : decide (x7_1 < (t363.length : Int)) = false := decide_eq_false c9
      clear c9
      simp only [Option.some.injEq, Prod.mk.injEq] at H
      obtain ⟨rfl, rfl⟩ := H
      obtain ⟨Ao19, co19, eo19⟩ := Kd.N_slice HO_6.out
      subst eo19
      go_wp2
      go_ret2
      exact ⟨_, by first | rfl | (simp [errW_none, errW_some] <;> rfl) | (simp [*, errW_none, errW_some] <;> rfl), Kd.V_nil _ _ _ _ _, by repeat (first | (with_reducible first | exact HB.out | apply pA_ | apply pN_ | apply pD_ | refine pS_ ?_ GE361.out) | exact HB.out)⟩
  ·rw [if_neg c4] at H
   exact absurd H (by simp)
 ·rw [if_neg c3] at H
  exact absurd H (by simp)
end Go.Proofs.YthgfhgjlilmieaaGreat.B
namespace Go.Proofs.YthgfhgjlilmieaaGreat.G
open Go.RowKit Go.Shelf Go.Proofs.YthgfhgjlilmieaaGreatW.PrintWords Go.Proofs.YthgfhgjlilmieaaGreatW.PrintLast Go.Proofs.YthgfhgjlilmieaaGreatW.PrintMore
open Go.Proofs.YthgfhgjlilmieaaGreat.B
set_option linter.unusedVariables false
set_option linter.unusedSimpArgs false
def Ev {α : Type} (g : Nat → Option α) (r : α) : Prop := ∃ K, ∀ k, K ≤ k → g k = some r
theorem Ev.succ {α : Type} {g : Nat → Option α} {r : α} (h : Ev (fun k => g (k + 1)) r) : Ev g r := by
  obtain ⟨K, hK⟩ := h
  refine ⟨K + 1, fun k hk => ?_⟩
  obtain ⟨k, rfl⟩ : ∃ m, k = m + 1 := ⟨k - 1, by omega⟩
  exact hK k (by omega)
theorem Ev.bind {α β : Type} {g : Nat → Option α} {h : Nat → α → Option β} {a : α} {r : β} (hg : Ev g a) (hh : Ev (fun k => h k a) r) : Ev (fun k => (g k).bind (h k)) r := by
  obtain ⟨K, hK⟩ := hg
  obtain ⟨M, hM⟩ := hh
  exact ⟨K + M, fun k hk => by show (g k).bind (h k) = some r; rw [hK k (by omega), Option.bind_some]; exact hM k (by omega)⟩
theorem Ev.ret {α : Type} (r : α) : Ev (fun _ => some r) r := ⟨0, fun _ _ => rfl⟩
theorem ev_same (xs ys : List Int) (hb : xs.length ≤ 9223372036854775807) : Ev (fun k => r2Same.f k xs ys) (xs == ys) := ⟨xs.length + 1, fun k hk => same_f xs ys hb k (by omega)⟩
theorem ev_part (t s : List Int) (hb : s.length + t.length + 1 ≤ 9223372036854775807) : Ev (fun k => r6IsPart.f k t s) (partB t s) := ⟨2 * (s.length + 1) + t.length + 2, fun k hk => by
  unfold r6IsPart.f partB
  have := isPart_l t s hb (s.length + 1) 0 k (by omega) (by omega) (by omega)
  rw [Nat.sub_zero, ← List.range_eq_range'] at this
  exact this⟩
theorem ev_before (xs ys : List Int) (hb : xs.length ≤ 9223372036854775807) : Ev (fun k => r6Before.f k xs ys) (beforeB xs ys) := ⟨2 * xs.length + 2, fun k hk => by
  unfold r6Before.f
  have := before_l xs ys hb xs.length 0 k (by omega) (by omega) (by omega) (by omega)
  rw [List.drop_zero, List.drop_zero] at this
  exact this⟩
theorem rd69 (l : Lg) (i : Nat) (hi : i < l.jn.length) : rd_T69 (l.jn.map u69) (i : Int) = u69 l.jn[i] := by simp [rd_T69, List.getD_eq_getElem?_getD, hi]
theorem rd61 (l : Lg) (i : Nat) (hi : i < l.rc.length) : rd_T61 (l.rc.map u61) (i : Int) = u61 l.rc[i] := by simp [rd_T61, List.getD_eq_getElem?_getD, hi]
theorem u69_0 (s : S76) : (u69 s).f0 = s.f0 := rfl
theorem u69_1 (s : S76) : (u69 s).f1 = s.f1 := rfl
theorem u69_2 (s : S76) : (u69 s).f2 = s.f2 := rfl
theorem u61_0 (s : S75) : (u61 s).f0 = s.f0 := rfl
structure Nice (l : Lg) : Prop where
 jn : l.jn.length ≤ 8
 rc : l.rc.length ≤ 6
 st : ∀ s, s ∈ l.jn → 0 ≤ s.f1 ∧ s.f1 < l.sees.length
 tx : ∀ s, s ∈ l.jn → s.f2.length ≤ 5
theorem nice_of {l : Lg} (hE : logE l = 0) : Nice l := by
  have hs := sound_of hE
  exact ⟨hs.jlen, hs.rlen, fun s h => sent_rng hE h, fun s h => (txtOk_of hs.code (hs.jn s h)).len⟩
theorem canSend_l (l : Lg) (t : List Int) (h : Int) (hn : Nice l) (ht : t.length ≤ 1000) : ∀ (d i : Nat), d = l.jn.length - i → i ≤ l.jn.length → Ev (fun k => r6CanSend.l0 k t h i l.ls l.errs l.sees (l.jn.map u69) (l.rc.map u61)) ((l.jn.drop i).any fun s => heardR l s h && partB t s.f2) := by
  intro d
  induction d with
  | zero =>
    intro i hd hi
    refine Ev.succ ?_
    simp only [r6CanSend.l0, List.length_map, if_neg (show ¬ (i : Int) < (l.jn.length : Int) by omega)]
    rw [List.drop_eq_nil_of_le (by omega)]
    exact Ev.ret _
  | succ d ih =>
    intro i hd hi
    have h1 : i < l.jn.length := by omega
    have hs := hn.st _ (List.getElem_mem h1)
    have hx := hn.tx _ (List.getElem_mem h1)
    have hjn := hn.jn
    have hnext := ih (i + 1) (by omega) (by omega)
    refine Ev.succ ?_
    simp only [r6CanSend.l0, List.length_map, if_pos (show (i : Int) < (l.jn.length : Int) by omega), if_pos (show (0 : Int) ≤ (i : Int) by omega), rd69 l i h1, u69_0, u69_1, u69_2, if_pos hs.1, if_pos hs.2, wrap_nat i l.jn.length h1 (by omega)]
    rw [List.drop_eq_getElem_cons h1, List.any_cons]
    by_cases q1 : rd l.sees l.jn[i].f1 ≥ 0
    ·by_cases q2 : rd l.sees l.jn[i].f1 ≤ l.jn[i].f0
     ·by_cases q3 : l.jn[i].f0 < h
      ·simp only [if_pos q1, if_pos q2, if_pos q3]
       have hr : heardR l l.jn[i] h = true := by unfold heardR; rw [decide_eq_true (show 0 ≤ rd l.sees l.jn[i].f1 from q1), decide_eq_true q2, decide_eq_true q3]; rfl
       rw [hr, Bool.true_and]
       refine Ev.bind (ev_part t l.jn[i].f2 (by omega)) ?_
       cases partB t l.jn[i].f2 with
       | true => simp only [if_true, Bool.true_or]; exact Ev.ret _
       | false => simp only [Bool.false_eq_true, if_false, Bool.false_or]; exact hnext
      ·simp only [if_pos q1, if_pos q2, if_neg q3]
       have hr : heardR l l.jn[i] h = false := by unfold heardR; simp [q3]
       rw [hr, Bool.false_and, Bool.false_or]; exact hnext
     ·simp only [if_pos q1, if_neg q2]
      have hr : heardR l l.jn[i] h = false := by unfold heardR; simp [q2]
      rw [hr, Bool.false_and, Bool.false_or]; exact hnext
    ·simp only [if_neg q1]
     have hr : heardR l l.jn[i] h = false := by
      unfold heardR
      rw [decide_eq_false (show ¬ 0 ≤ rd l.sees l.jn[i].f1 by omega), Bool.false_and]
     rw [hr, Bool.false_and, Bool.false_or]; exact hnext
theorem ev_can (l : Lg) (t : List Int) (h : Int) (hn : Nice l) (ht : t.length ≤ 1000) : Ev (fun k => r6CanSend.f k l.ls l.errs l.sees (l.jn.map u69) (l.rc.map u61) t h) (canB l t h) := by
  have := canSend_l l t h hn ht l.jn.length 0 (by omega) (by omega)
  unfold r6CanSend.f canB
  rw [List.drop_zero] at this
  exact this
def insG (t : List Int) : Bool → List (List Int) → List (List Int)
 | true, ys => ys
 | false, ys => insT t ys
theorem put_l (xs : List (List Int)) (t : List Int) (hb : t.length ≤ 1000) (hx : ∀ x, x ∈ xs → x.length ≤ 1000) (hl : xs.length ≤ 100000) : ∀ (d i : Nat) (out : List (List Int)) (p : Bool), d = xs.length - i → i ≤ xs.length → out.length ≤ i + p.toNat → Ev (fun k => r6Put.l0 k xs t out p i) (if (xs.drop i).contains t = true then xs else out ++ insG t p (xs.drop i)) := by
  intro d
  induction d with
  | zero =>
    intro i out p hd hi ho
    refine Ev.succ ?_
    simp only [r6Put.l0, if_neg (show ¬ (i : Int) < (xs.length : Int) by omega)]
    rw [List.drop_eq_nil_of_le (by omega)]
    cases p with
    | true => simp only [if_true, insG, List.append_nil, List.contains_nil, Bool.false_eq_true, if_false]; exact Ev.ret _
    | false =>
      simp only [Bool.toNat_false] at ho
      simp only [List.contains_nil, Bool.false_eq_true, if_false, insG, insT, if_pos (show out.length < 5864062014805 by omega)]
      exact Ev.ret _
  | succ d ih =>
    intro i out p hd hi ho
    have hpn : p.toNat ≤ 1 := by cases p <;> simp
    have h1 : i < xs.length := by omega
    have hxi := hx _ (List.getElem_mem h1)
    have e : rd_L2 xs (i : Int) = xs[i] := by simp [rd_L2, h1]
    refine Ev.succ ?_
    simp only [r6Put.l0, if_pos (show (i : Int) < (xs.length : Int) by omega), if_pos (show (0 : Int) ≤ (i : Int) by omega), e, wrap_nat i xs.length h1 (by omega)]
    refine Ev.bind (ev_same xs[i] t (by omega)) ?_
    rw [List.drop_eq_getElem_cons h1, List.contains_cons]
    by_cases q : xs[i] = t
    ·rw [show (t == xs[i]) = true by simp [q], show (xs[i] == t) = true by simp [q], Bool.true_or]
     simp only [if_true]
     exact Ev.ret _
    ·rw [show (t == xs[i]) = false by simp; exact fun h => q h.symm, show (xs[i] == t) = false by simpa using q, Bool.false_or]
     simp only [Bool.false_eq_true, if_false]
     cases p with
     | true =>
       simp only [if_true, if_pos (show out.length < 5864062014805 by omega)]
       have := ih (i + 1) (out ++ [xs[i]]) true (by omega) (by omega) (by simp only [Bool.toNat_true] at ho; simp; omega)
       simpa [insG] using this
     | false =>
       simp only [Bool.false_eq_true, if_false]
       refine Ev.bind (ev_before t xs[i] (by omega)) ?_
       cases hq : beforeB t xs[i] with
       | true =>
         simp only [if_true, if_pos (show out.length < 5864062014805 by omega), Option.bind_some, List.length_append, List.length_singleton, if_pos (show out.length + 1 < 5864062014805 by omega)]
         have := ih (i + 1) (out ++ [t] ++ [xs[i]]) true (by omega) (by omega) (by simp only [Bool.toNat_false] at ho; simp; omega)
         simpa [insG, insT, hq] using this
       | false =>
         simp only [Bool.false_eq_true, if_false, if_pos (show out.length < 5864062014805 by omega)]
         have := ih (i + 1) (out ++ [xs[i]]) false (by omega) (by omega) (by simp only [Bool.toNat_false] at ho; simp; omega)
         simpa [insG, insT, hq] using this
theorem ev_put (xs : List (List Int)) (t : List Int) (hb : t.length ≤ 1000) (hx : ∀ x, x ∈ xs → x.length ≤ 1000) (hl : xs.length ≤ 100000) : Ev (fun k => r6Put.f k xs t) (putT xs t) := by
  have := put_l xs t hb hx hl xs.length 0 [] false (by omega) (by omega) (by simp)
  unfold r6Put.f putT
  simpa [insG] using this
theorem insT_len (t : List Int) : ∀ xs, (insT t xs).length = xs.length + 1
 | [] => rfl
 | x :: xs => by simp only [insT]; split <;> simp [insT_len t xs]
theorem putT_len (xs : List (List Int)) (t : List Int) : (putT xs t).length ≤ xs.length + 1 := by
 unfold putT; split
 ·omega
 ·rw [insT_len]; exact Nat.le_refl _
theorem lvlS_len (l : Lg) (h : Int) (n : Nat) (t : List Int) (lev : List (List Int)) : ∀ k, (lvlS l h n t lev k).length ≤ lev.length + k
 | 0 => Nat.le_refl _
 | k + 1 => by
   have := lvlS_len l h n t lev k
   simp only [lvlS]; split
   ·have := putT_len (lvlS l h n t lev k) (cutT t k n); omega
   ·omega
theorem jn_tx {l : Lg} (hn : Nice l) {j : Nat} (hj : j < l.jn.length) : (rd_T76 l.jn (j : Int)).f2.length ≤ 5 := by rw [rd76_get l j hj]; exact hn.tx _ (List.getElem_mem hj)
theorem lvlJ_len (l : Lg) (h : Int) (n : Nat) (hn : Nice l) : ∀ j, j ≤ l.jn.length → (lvlJ l h n j).length ≤ 6 * j
 | 0, _ => Nat.le_refl _
 | j + 1, hj => by
   have h1 := lvlJ_len l h n hn j (by omega)
   have h2 := lvlS_len l h n (rd_T76 l.jn (j : Int)).f2 (lvlJ l h n j) ((rd_T76 l.jn (j : Int)).f2.length + 1 - n)
   have h3 := jn_tx hn (j := j) (by omega)
   simp only [lvlJ]; omega
theorem hearR_len (l : Lg) (h : Int) (hn : Nice l) : ∀ n, (hearR l h n).length ≤ 48 * n
 | 0 => Nat.le_refl _
 | n + 1 => by
   have h1 := hearR_len l h hn n
   have h2 := lvlJ_len l h (n + 1) hn l.jn.length (Nat.le_refl _)
   have h3 := hn.jn
   simp only [hearR, List.length_append]; omega
theorem hear_l2 (l : Lg) (h : Int) (n j : Nat) (hn : Nice l) (h1n : 1 ≤ n) (hn5 : n ≤ 5) (hj : j < l.jn.length) (out : List (List Int)) (r : List (List Int)) (hr : Ev (fun k => r6Heard.l1 k h out n (lvlJ l h n (j + 1)) ((j + 1 : Nat) : Int) l.ls l.errs l.sees (l.jn.map u69) (l.rc.map u61)) r) : ∀ (d i : Nat), d = (rd_T76 l.jn (j : Int)).f2.length + 1 - n - i → i ≤ (rd_T76 l.jn (j : Int)).f2.length + 1 - n → Ev (fun k => r6Heard.l2 k h out n (lvlS l h n (rd_T76 l.jn (j : Int)).f2 (lvlJ l h n j) i) j i l.ls l.errs l.sees (l.jn.map u69) (l.rc.map u61)) r := by
  have h5 := jn_tx hn hj
  have hjn := hn.jn
  have hlv := lvlJ_ok l h n j (by omega)
  have hln := lvlJ_len l h n hn j (by omega)
  have et : (u69 l.jn[j]).f2 = (rd_T76 l.jn (j : Int)).f2 := by rw [rd76_get l j hj]; rfl
  intro d
  induction d with
  | zero =>
    intro i hd hi
    refine Ev.succ ?_
    simp only [r6Heard.l2, List.length_map, if_pos (show (0 : Int) ≤ (j : Int) by omega), if_pos (show (j : Int) < (l.jn.length : Int) by omega), rd69 l j hj, et, wrap_add i n (by omega)]
    simp only [if_neg (show ¬ ((i + n : Nat) : Int) ≤ ((rd_T76 l.jn (j : Int)).f2.length : Int) by omega), wrap_nat j l.jn.length hj (by omega)]
    have ei : i = (rd_T76 l.jn (j : Int)).f2.length + 1 - n := by omega
    rw [ei]
    exact hr
  | succ d ih =>
    intro i hd hi
    have hin : i + n ≤ (rd_T76 l.jn (j : Int)).f2.length := by omega
    have hcl := cutT_len hin
    have hS := lvlS_ok l h n (rd_T76 l.jn (j : Int)).f2 (lvlJ l h n j) _ hlv i (fun _ => by omega)
    have hsl := lvlS_len l h n (rd_T76 l.jn (j : Int)).f2 (lvlJ l h n j) i
    have hnext := ih (i + 1) (by omega) (by omega)
    simp only [lvlS] at hnext
    refine Ev.succ ?_
    simp only [r6Heard.l2, List.length_map, if_pos (show (0 : Int) ≤ (j : Int) by omega), if_pos (show (j : Int) < (l.jn.length : Int) by omega), rd69 l j hj, et, wrap_add i n (by omega)]
    simp only [if_pos (show ((i + n : Nat) : Int) ≤ ((rd_T76 l.jn (j : Int)).f2.length : Int) by omega), if_pos (show (0 : Int) ≤ (i : Int) by omega), if_pos (show (i : Int) ≤ ((i + n : Nat) : Int) by omega), Int.toNat_natCast, Option.bind_some, wrap_nat i (i + 1) (by omega) (by omega)]
    rw [show ((rd_T76 l.jn (j : Int)).f2.take (i + n)).drop i = cutT (rd_T76 l.jn (j : Int)).f2 i n from rfl]
    refine Ev.bind (ev_can l _ h hn (by omega)) ?_
    cases hq : canB l (cutT (rd_T76 l.jn (j : Int)).f2 i n) h with
    | true =>
      rw [hq] at hnext
      simp only [if_true] at hnext ⊢
      exact Ev.bind (ev_put _ _ (by omega) (fun x hx => by have := hS.len x hx; omega) (by omega)) hnext
    | false =>
      rw [hq] at hnext
      simp only [Bool.false_eq_true, if_false] at hnext ⊢
      exact hnext
theorem hear_l1 (l : Lg) (h : Int) (n : Nat) (hn : Nice l) (h1n : 1 ≤ n) (hn5 : n ≤ 5) (out : List (List Int)) (ho : out.length ≤ 1000) (r : List (List Int)) (hr : Ev (fun k => r6Heard.l0 k h (out ++ lvlJ l h n l.jn.length) ((n + 1 : Nat) : Int) l.ls l.errs l.sees (l.jn.map u69) (l.rc.map u61)) r) : ∀ (d j : Nat), d = l.jn.length - j → j ≤ l.jn.length → Ev (fun k => r6Heard.l1 k h out n (lvlJ l h n j) j l.ls l.errs l.sees (l.jn.map u69) (l.rc.map u61)) r := by
  have hjn := hn.jn
  intro d
  induction d with
  | zero =>
    intro j hd hj
    have hln := lvlJ_len l h n hn j hj
    refine Ev.succ ?_
    simp only [r6Heard.l1, List.length_map, if_neg (show ¬ (j : Int) < (l.jn.length : Int) by omega), if_pos (show out.length + (lvlJ l h n j).length < 5864062014805 by omega), wrap_nat n (n + 1) (by omega) (by omega)]
    rw [show j = l.jn.length by omega]
    exact hr
  | succ d ih =>
    intro j hd hj
    have h1 : j < l.jn.length := by omega
    refine Ev.succ ?_
    simp only [r6Heard.l1, List.length_map, if_pos (show (j : Int) < (l.jn.length : Int) by omega)]
    exact hear_l2 l h n j hn h1n hn5 h1 out r (ih (j + 1) (by omega) (by omega)) _ 0 rfl (by omega)
theorem hear_l0 (l : Lg) (h : Int) (hn : Nice l) : ∀ (d n : Nat), d = 5 - n → n ≤ 5 → Ev (fun k => r6Heard.l0 k h (hearR l h n) ((n + 1 : Nat) : Int) l.ls l.errs l.sees (l.jn.map u69) (l.rc.map u61)) (hearR l h 5) := by
  intro d
  induction d with
  | zero =>
    intro n hd hi
    refine Ev.succ ?_
    simp only [r6Heard.l0, if_neg (show ¬ ((n + 1 : Nat) : Int) ≤ 5 by omega)]
    rw [show n = 5 by omega]
    exact Ev.ret _
  | succ d ih =>
    intro n hd hi
    have hl := hearR_len l h hn n
    refine Ev.succ ?_
    simp only [r6Heard.l0, if_pos (show ((n + 1 : Nat) : Int) ≤ 5 by omega)]
    exact hear_l1 l h (n + 1) hn (by omega) (by omega) _ (by omega) _ (ih (n + 1) (by omega) (by omega)) _ 0 rfl (by omega)
theorem ev_heard (l : Lg) (h : Int) (hE : logE l = 0) : Ev (fun k => r6Heard.f k l.ls l.errs l.sees (l.jn.map u69) (l.rc.map u61) h) (heardL l h) := by
  have hn := nice_of hE
  rw [← hearR_eq hE hn.tx h]
  exact hear_l0 l h hn 5 0 rfl (by omega)
def mskR (l : Lg) (r : S75) : List (List Int) → List Int × Bool
 | [] => ([], false)
 | t :: ts => if readsB l t r.f2 = true then (t, true) else mskR l r ts
theorem ev_reads (l : Lg) (hE : logE l = 0) (t : List Int) (ht : TxtOk l t) (r : Nat) (hr : r < l.rc.length) : Ev (fun k => r6Reads.f k l.ls l.errs l.sees (l.jn.map u69) (l.rc.map u61) t r) (readsB l t (rd_T75 l.rc r).f2) := ⟨0, fun k _ => by
  unfold r6Reads.f
  rw [lg_back l, if_pos ⟨⟨hE, (txtOkB_iff l t).2 ht⟩, by omega, by simpa using hr⟩]⟩
theorem heard_ok {l : Lg} (hE : logE l = 0) (h : Int) : ∀ t, t ∈ heardL l h → TxtOk l t := fun t ht => by
  obtain ⟨s, hs, _, lo, hi, h3, h4, rfl⟩ := (mem_partsL _ _ _).1 ((mem_heardL _ _ _).1 ht)
  have hso := sound_of hE
  have hk := txtOk_of hso.code (hso.jn s hs)
  have hm : ∀ x, x ∈ partOf s.f2 lo hi → x ∈ s.f2 := fun x hx => List.mem_of_mem_take (List.mem_of_mem_drop hx)
  exact ⟨by rw [partOf_len _ h4]; have := hk.len; omega, fun x hx => hk.inr x (hm x hx), fun x hx => hk.let_ x (hm x hx)⟩
theorem masked_l (l : Lg) (hE : logE l = 0) (r : Nat) (hr : r < l.rc.length) (all : List (List Int)) (ha : ∀ t, t ∈ all → TxtOk l t) (hl : all.length ≤ 100000) : ∀ (d i : Nat), d = all.length - i → i ≤ all.length → Ev (fun k => r6Masked.l0 k r all i l.ls l.errs l.sees (l.jn.map u69) (l.rc.map u61)) (mskR l (rd_T75 l.rc r) (all.drop i)) := by
  intro d
  induction d with
  | zero =>
    intro i hd hi
    refine Ev.succ ?_
    simp only [r6Masked.l0, if_neg (show ¬ (i : Int) < (all.length : Int) by omega)]
    rw [List.drop_eq_nil_of_le (by omega)]
    exact Ev.ret _
  | succ d ih =>
    intro i hd hi
    have h1 : i < all.length := by omega
    have e : rd_L2 all (i : Int) = all[i] := by simp [rd_L2, h1]
    refine Ev.succ ?_
    simp only [r6Masked.l0, if_pos (show (i : Int) < (all.length : Int) by omega), if_pos (show (0 : Int) ≤ (i : Int) by omega), e, wrap_nat i all.length h1 (by omega)]
    refine Ev.bind (ev_reads l hE all[i] (ha _ (List.getElem_mem h1)) r hr) ?_
    rw [List.drop_eq_getElem_cons h1]
    simp only [mskR]
    cases readsB l all[i] (rd_T75 l.rc r).f2 with
    | true => simp only [if_true]; exact Ev.ret _
    | false => simp only [Bool.false_eq_true, if_false]; exact ih (i + 1) (by omega) (by omega)
theorem ev_masked (l : Lg) (hE : logE l = 0) (r : Nat) (hr : r < l.rc.length) : Ev (fun k => r6Masked.f k l.ls l.errs l.sees (l.jn.map u69) (l.rc.map u61) r) (mskR l (rd_T75 l.rc r) (heardL l (rd_T75 l.rc r).f0)) := by
  unfold r6Masked.f
  simp only [List.length_map, if_pos (show (0 : Int) ≤ (r : Int) by omega), if_pos (show (r : Int) < (l.rc.length : Int) by omega), rd61 l r hr, u61_0]
  rw [rd75_get l r hr]
  refine Ev.bind (ev_heard l _ hE) ?_
  have hn := nice_of hE
  have hlen : (heardL l l.rc[r].f0).length ≤ 100000 := by
   rw [← hearR_eq hE hn.tx]; have := hearR_len l l.rc[r].f0 hn 5; omega
  have := masked_l l hE r hr (heardL l l.rc[r].f0) (heard_ok hE _) hlen _ 0 rfl (by omega)
  rw [rd75_get l r hr] at this
  exact this
theorem mskR_find (l : Lg) (r : S75) : ∀ xs : List (List Int), mskR l r xs = match xs.find? fun t => readsB l t r.f2 with | some t => (t, true) | none => ([], false)
  | [] => rfl
  | x :: xs => by
    simp only [mskR]
    by_cases h : readsB l x r.f2 = true
    ·rw [if_pos h, List.find?_cons]; simp only [h]
    ·rw [if_neg h, List.find?_cons]; simp only [h]; exact mskR_find l r xs
theorem logV_u (a : LV) (l : Lg) : logV a l = .agg #[.slice a.A0 l.ls.length a.c0, .int .i64 l.errs, .slice a.A2 l.sees.length a.c2, .slice a.A3 (l.jn.map u69).length a.c3, .slice a.A4 (l.rc.map u61).length a.c4] := by rw [List.length_map, List.length_map]
theorem LogAt.j69 {w : World} {a : LV} {l : Lg} (h : LogAt w a l) : Kd.C k69 w a.A3 (l.jn.map u69).length (l.jn.map u69) := by rw [List.length_map]; exact C_map u69 rfl (fun _ _ _ h => h) h.h3
theorem LogAt.r61 {w : World} {a : LV} {l : Lg} (h : LogAt w a l) : Kd.C k61 w a.A4 (l.rc.map u61).length (l.rc.map u61) := by rw [List.length_map]; exact C_map u61 rfl (fun _ _ _ h => h) h.h4
def LstP (xs : List (List Int)) (w : World) (e : Ending) (w' : World) : Prop := ∃ A c, e = .returned (.slice A xs.length c) ∧ xs.length ≤ c ∧ Kd.C (Kd.slice 3 (Kd.int .i64)) w' A xs.length xs ∧ Below w.heap.size w w'
theorem heard29_any (a : LV) (l : Lg) (h : Int) (w : World) (hL : LogAt w a l) (hE : logE l = 0) : Calls Tryz.prog 29 #[logV a l, .int .i64 h] w (LstP (heardL l h) w) := by
 obtain ⟨K, hK⟩ := ev_heard l h hE
 rw [logV_u]
 refine (r6Heard.calls K a.A0 a.c0 l.ls l.errs a.A2 a.c2 l.sees _ a.A3 a.c3 (l.jn.map u69) a.A4 a.c4 (l.rc.map u61) h _ w hL.h0 hL.l0 hL.h2 hL.l2 (Kd.V_mk (by rw [List.length_map]; exact hL.l3) (Kd.C_F k69_heap hL.j69)) hL.r61 (by rw [List.length_map]; exact hL.l4) (hK K (Nat.le_refl _))).mono ?_
 rintro e w' ⟨v, rfl, hN, hb⟩
 obtain ⟨A, c, rfl, hl, hC⟩ := Kd.N_reads hN
 exact ⟨A, c, rfl, hl, hC, hb⟩
def LbP (xs : List Int) (b : Bool) (w : World) (e : Ending) (w' : World) : Prop := ∃ A c, e = .returned (.tuple #[.slice A xs.length c, .bool b]) ∧ xs.length ≤ c ∧ Kd.C (Kd.int .i64) w' A xs.length xs ∧ Below w.heap.size w w'
theorem masked30_any (a : LV) (l : Lg) (r : Nat) (w : World) (hL : LogAt w a l) (hE : logE l = 0) (hr : r < l.rc.length) : Calls Tryz.prog 30 #[logV a l, .int .i64 r] w (LbP (oneL (mskO l r)) (mskO l r).isSome w) := by
 obtain ⟨K, hK⟩ := ev_masked l hE r hr
 rw [logV_u]
 have e1 : mskR l (rd_T75 l.rc r) (heardL l (rd_T75 l.rc r).f0) = (oneL (mskO l r), (mskO l r).isSome) := by
  rw [mskR_find]
  unfold mskO
  cases (heardL l (rd_T75 l.rc (r : Int)).f0).find? fun t => readsB l t (rd_T75 l.rc (r : Int)).f2 <;> rfl
 rw [e1] at hK
 refine (r6Masked.calls K a.A0 a.c0 l.ls l.errs a.A2 a.c2 l.sees _ a.A3 a.c3 (l.jn.map u69) a.A4 a.c4 (l.rc.map u61) r _ _ w hL.h0 hL.l0 hL.h2 hL.l2 (Kd.V_mk (by rw [List.length_map]; exact hL.l3) (Kd.C_F k69_heap hL.j69)) hL.r61 (by rw [List.length_map]; exact hL.l4) (hK K (Nat.le_refl _))).mono ?_
 rintro e w' ⟨v, rfl, hN, hb⟩
 obtain ⟨A, c, rfl⟩ := Kd.V_slice hN
 obtain ⟨_, hl, hC⟩ := Kd.V_reads' hN
 exact ⟨A, c, rfl, hl, hC, hb⟩
theorem hour_in (h : Int) : hourB h = inR h 0 23 := by unfold hourB inR; rfl
theorem hea_bad {l : Lg} (h : Int) (hE : logE l ≠ 0) : heaE l h = logE l ∧ heaL l h = [] := by
  have e : heaE l h = logE l := by unfold heaE; rw [if_neg hE]
  exact ⟨e, by unfold heaL; rw [if_neg (by rw [e]; exact hE)]⟩
theorem hea_in {l : Lg} {h : Int} (hE : logE l = 0) (hi : inR h 0 23 = true) : heaE l h = 0 ∧ heaL l h = heardL l h := by
  have e : heaE l h = 0 := by unfold heaE; rw [if_pos hE, if_pos (by rw [hour_in]; exact hi)]
  exact ⟨e, by unfold heaL; rw [if_pos e]⟩
theorem hea_out {l : Lg} {h : Int} (hE : logE l = 0) (hi : inR h 0 23 = false) : heaE l h = 2 ∧ heaL l h = [] := by
  have e : heaE l h = 2 := by unfold heaE; rw [if_pos hE, if_neg (by rw [hour_in, hi]; simp)]
  exact ⟨e, by unfold heaL; rw [if_neg (by rw [e]; decide)]⟩
theorem msk_bad {l : Lg} (n : Int) (h : askE l n ≠ 0) : mskE l n = askE l n ∧ mskL l n = [] := by
  exact ⟨by unfold mskE; rw [if_neg h], by unfold mskL; rw [if_neg h]⟩
theorem msk_in {l : Lg} {n : Int} (h : askE l n = 0) : mskE l n = oneE (mskO l n) ∧ mskL l n = oneL (mskO l n) := by
  exact ⟨by unfold mskE; rw [if_pos h], by unfold mskL; rw [if_pos h]⟩
set_option maxRecDepth 100000 in
set_option maxHeartbeats 16000000 in
theorem maskHears_any (a : LV) (l : Lg) (h n : Int) (w : World) (hL : LogAt w a l) : Calls Tryz.prog 4 #[logV a l, .int .i64 h, .int .i64 n] w fun e w' => e = .returned (.bool true) ∧ Below w.heap.size w w' := by
  have hu := Tryz.underlying29
  have hz : ∀ W, Below (w.heap.size + 1) (w.alloc (logD a l)) W → LogAt W a l := fun W h => hL.below (toW h)
  have HZ := Am hz
  have HTH := Am (fun W h => thin17_any a l W (hz W h))
  have HLG := Am (fun W h (hf : Fits l) => log20_any a l W (hz W h) hf)
  have HFL := Am (fun W h => fault22_any a l W (hz W h))
  have HAW := Am awake_any
  have HCE := Am (logCells a l w)
  have HTW := Am (fun W h => toW (a := a) (l := l) (w := w) (W := W) h)
  have BW := Am (Below.refl (w.heap.size + 1) (w.alloc (logD a l)))
  have HN : Aside0 (w.heap.size + 1 ≤ (w.alloc (logD a l)).heap.size) := ⟨by simp⟩
  have HHE := Am (fun a' W (hl : LogAt W a' l) => heard26_at a' l h W hl)
  have HMK := Am (fun a' W (hl : LogAt W a' l) => masked27_at a' l n W hl)
  have HRH := Am (fun (hE : logE l = 0) W hb => heard29_any a l h W (hz W hb) hE)
  have HRM := Am (fun (hE : logE l = 0) (m : Nat) (hm : m < l.rc.length) W hb => masked30_any a l m W (hz W hb) hE hm)
  obtain ⟨A0, A2, A3, A4, c0, c2, c3, c4⟩ := a
  dsimp only [logV] at HTH HLG HFL HCE HRH HRM ⊢
  clear hz hL
  obtain ⟨E, hE0⟩ : ∃ E, E = logE l := ⟨_, rfl⟩
  obtain ⟨EH, hE1⟩ : ∃ E, E = heaE l h := ⟨_, rfl⟩
  obtain ⟨XH, hE2⟩ : ∃ E, E = heaL l h := ⟨_, rfl⟩
  obtain ⟨EM, hE3⟩ : ∃ E, E = mskE l n := ⟨_, rfl⟩
  obtain ⟨YM, hE4⟩ : ∃ E, E = mskL l n := ⟨_, rfl⟩
  rw [← hE0] at HFL
  rw [← hE1, ← hE2] at HHE
  rw [← hE3, ← hE4] at HMK
  have HEQ := Am (And.intro hE0 (And.intro hE1 (And.intro hE2 (And.intro hE3 hE4))))
  clear hE0 hE1 hE2 hE3 hE4
  go_enter Tryz.func4, Tryz.ntmps4
  go_wp2_with (fail)
  refine (HTH.out _ BW.out).mono ?_
  rintro e w1_ ⟨b, rfl, hq, hb⟩
  have BW := Am (step_b BW.out HN.out hb)
  obtain ⟨b0, b1, b2, b3, b4⟩ := HCE.out _ BW.out
  clear hb
  cases b with
  | false =>
    go_wp2_with (fail)
    refine (HAW.out _).mono ?_
    rintro e w2_ ⟨rfl, hb⟩
    have BW := Am (step_b BW.out HN.out hb)
    clear b0 b1 b2 b3 b4
    obtain ⟨b0, b1, b2, b3, b4⟩ := HCE.out _ BW.out
    clear hb
    go_wp2
    go_ret
    exact ⟨rfl, HTW.out _ BW.out⟩
  | true =>
    have hf := (hq rfl).fits
    clear hq
    go_wp2_with (fail)
    refine (HLG.out _ BW.out hf).mono ?_
    rintro e w2_ ⟨a1, rfl, hl, hb⟩
    have HL1 := Am hl
    clear hl
    have BW := Am (step_b BW.out HN.out hb)
    clear b0 b1 b2 b3 b4
    obtain ⟨b0, b1, b2, b3, b4⟩ := HCE.out _ BW.out
    clear hb
    go_wp2_with (fail)
    refine (HHE.out a1 _ HL1.out).mono ?_
    rintro e w3_ ⟨X0, x0, rfl, hlc, hC, hb⟩
    have HLX0 := Am hlc
    have HCX0 := Am hC
    clear hlc hC
    have BW := Am (step_b BW.out HN.out hb)
    clear b0 b1 b2 b3 b4
    obtain ⟨b0, b1, b2, b3, b4⟩ := HCE.out _ BW.out
    clear hb
    go_wp2_with (fail)
    refine (HLG.out _ BW.out hf).mono ?_
    rintro e w4_ ⟨a2, rfl, hl, hb⟩
    have HL2 := Am hl
    clear hl
    have BW := Am (step_b BW.out HN.out hb)
    have HCX0 := Am (Kd.C_below HCX0.out hb)
    clear b0 b1 b2 b3 b4
    obtain ⟨b0, b1, b2, b3, b4⟩ := HCE.out _ BW.out
    clear hb
    go_wp2_with (fail)
    refine (HMK.out a2 _ HL2.out).mono ?_
    rintro e w5_ ⟨Y0, y0, rfl, hlc, hC, hb⟩
    have HLCY0 := Am hlc
    have HCY0 := Am hC
    clear hlc hC
    have BW := Am (step_b BW.out HN.out hb)
    have HCX0 := Am (Kd.C_below HCX0.out hb)
    clear b0 b1 b2 b3 b4
    obtain ⟨b0, b1, b2, b3, b4⟩ := HCE.out _ BW.out
    clear hb
    go_upto_region 5 with (fail)
    go_cut [11, 12] (fun v11 v12 wc => v11 = .int .i64 E ∧ v12 = .int .i64 E ∧ Aside0 (Below w5_.heap.size w5_ wc))
    case first =>
     have hAB : Aside0 (Below w5_.heap.size w5_ w5_.drew) := ⟨pE_ (Below.refl _ _)⟩
     have HF1 := Am (HFL.out _ (pE_ BW.out))
     have HF2 := Am (fun w7 (hb : Below w5_.drew.heap.size w5_.drew w7) => HFL.out w7 (step_b (pE_ BW.out) HN.out hb))
     go_region_held3 (fun w' => w'.cell? ⟨w.heap.size, 0, none⟩ = some (.slice A0 l.ls.length c0) ∧ w'.cell? ⟨w.heap.size, 1, none⟩ = some (.int .i64 l.errs) ∧ w'.cell? ⟨w.heap.size, 2, none⟩ = some (.slice A2 l.sees.length c2) ∧ w'.cell? ⟨w.heap.size, 3, none⟩ = some (.slice A3 l.jn.length c3) ∧ w'.cell? ⟨w.heap.size, 4, none⟩ = some (.slice A4 l.rc.length c4) ∧ Aside0 (Below w5_.heap.size w5_ w'))
       (first
         | (go_keep; done)
         | (go_split_ands
            refine ⟨?_, ?_, ?_, ?_, ?_, ?_⟩
            ·first | exact pC_ HB8.out (by assumption) | exact pC_ HB9.out (by assumption)
            ·first | exact pC_ HB8.out (by assumption) | exact pC_ HB9.out (by assumption)
            ·first | exact pC_ HB8.out (by assumption) | exact pC_ HB9.out (by assumption)
            ·first | exact pC_ HB8.out (by assumption) | exact pC_ HB9.out (by assumption)
            ·first | exact pC_ HB8.out (by assumption) | exact pC_ HB9.out (by assumption)
            ·first | exact ⟨pX_ (pX_ hAB.out HB9.out) HB8.out⟩ | exact ⟨pX_ hAB.out HB9.out⟩))
       ((first
         | (go_at_call 22; (with_reducible refine Calls.mono HF1.out ?_); rintro e w7 ⟨rfl, hb9⟩; have HB9 := Am hb9; clear hb9)
         | (go_at_call 22; (with_reducible refine Calls.mono (HF2.out w7 HB9.out) ?_); rintro e w8 ⟨rfl, hb8⟩; have HB8 := Am hb8; clear hb8)))
     all_goals
      rename_i hh
      have hbf := hh.2.2.2.2.2.out
      clear hh
      go_wp2_with (fail)
      go_meet
      case rel => exact ⟨rfl, rfl, ⟨hbf⟩⟩
    case rest =>
     obtain ⟨rfl, rfl, BR⟩ := hcut
     have hb := BR.out
     clear BR
     have BW := Am (step_b BW.out HN.out hb)
     have HCX0 := Am (Kd.C_below HCX0.out hb)
     have HCY0 := Am (Kd.C_below HCY0.out hb)
     clear b0 b1 b2 b3 b4
     obtain ⟨b0, b1, b2, b3, b4⟩ := HCE.out _ BW.out
     clear hb
     obtain ⟨hE0, hE1, hE2, hE3, hE4⟩ := HEQ.out
     clear HEQ HHE HMK HFL HLG HTH HL1 HL2
     by_cases hE : logE l = 0
     ·have HS := Am (sound_of hE)
      replace HRH := Am (HRH.out hE)
      replace HRM := Am (HRM.out hE)
      have HX5 := Am (fun t ht => (heard_ok hE h t ht).len)
      have hjr : (l.rc.length : Int) ≤ 6 := by have := HS.out.rlen; omega
      obtain rfl : E = 0 := hE0.trans hE
      clear hE0
      cases hin : inR h 0 23 with
      | false =>
        have hih := fun W => in23_any h 0 23 W
        rw [hin] at hih
        have HIH := Am hih
        clear hih
        obtain ⟨e1, e2⟩ := hea_out hE hin
        obtain rfl := hE1.trans e1
        obtain rfl := hE2.trans e2
        clear hE1 hE2 e1 e2 hin
        cases hir : inR n 0 ((l.rc.length : Int) - 1) with
        | false =>
          have hik := fun W => in23_any n 0 ((l.rc.length : Int) - 1) W
          rw [hir] at hik
          have HIR := Am hik
          clear hik
          have e1 := ask_out hE hir
          obtain ⟨e2, e3⟩ := msk_bad n (show askE l n ≠ 0 by rw [e1]; decide)
          obtain rfl := hE3.trans (e2.trans e1)
          obtain rfl := hE4.trans e3
          clear hE3 hE4 e1 e2 e3 hir HRM HS HX5 hE
          go_wp2_with (fail)
          refine (HIH.out _).mono ?_
          rintro e w' ⟨rfl, rfl⟩
          go_wp2_with (fail)
          refine (HIR.out _).mono ?_
          rintro e w' ⟨rfl, rfl⟩
          go_wp2_with (fail)
          refine (HAW.out _).mono ?_
          rintro e w6_ ⟨rfl, hb⟩
          have BW := Am (step_b BW.out HN.out hb)
          have HCX0 := Am (Kd.C_below HCX0.out hb)
          have HCY0 := Am (Kd.C_below HCY0.out hb)
          clear b0 b1 b2 b3 b4
          obtain ⟨b0, b1, b2, b3, b4⟩ := HCE.out _ BW.out
          clear hb
          go_wp2
          go_ret
          exact ⟨rfl, HTW.out _ BW.out⟩
        | true =>
          have hik := fun W => in23_any n 0 ((l.rc.length : Int) - 1) W
          rw [hir] at hik
          have HIR := Am hik
          clear hik
          have e1 := ask_in hE hir
          obtain ⟨m, rfl⟩ : ∃ m : Nat, n = (m : Int) := ⟨n.toNat, by simp only [inR, Bool.and_eq_true, decide_eq_true_eq] at hir; omega⟩
          have hm : m < l.rc.length := by simp only [inR, Bool.and_eq_true, decide_eq_true_eq] at hir; omega
          obtain ⟨e2, e3⟩ := msk_in e1
          rw [e2] at hE3
          rw [e3] at hE4
          replace HRM := Am (HRM.out m hm)
          clear e1 e2 e3 hir HS HX5 hE
          cases hmo : mskO l (m : Int) with
          | none =>
            rw [hmo] at hE3 hE4 HRM
            clear hmo
            obtain rfl : EM = 7 := hE3
            try clear hE3
            obtain rfl : YM = [] := hE4
            try clear hE4
            rw [show oneL none = [] from rfl, show (none : Option (List Int)).isSome = false from rfl] at HRM
            go_wp2_with (fail)
            refine (HIH.out _).mono ?_
            rintro e w' ⟨rfl, rfl⟩
            go_wp2_with (fail)
            refine (HIR.out _).mono ?_
            rintro e w' ⟨rfl, rfl⟩
            go_wp2_with (fail)
            refine (HRM.out _ BW.out).mono ?_
            rintro e w6_ ⟨Z0, z0, rfl, hlc, hC, hb⟩
            clear hlc hC
            have BW := Am (step_b BW.out HN.out hb)
            have HCX0 := Am (Kd.C_below HCX0.out hb)
            have HCY0 := Am (Kd.C_below HCY0.out hb)
            clear b0 b1 b2 b3 b4
            obtain ⟨b0, b1, b2, b3, b4⟩ := HCE.out _ BW.out
            clear hb
            go_wp2_with (fail)
            refine (HAW.out _).mono ?_
            rintro e w7_ ⟨rfl, hb⟩
            have BW := Am (step_b BW.out HN.out hb)
            have HCX0 := Am (Kd.C_below HCX0.out hb)
            have HCY0 := Am (Kd.C_below HCY0.out hb)
            clear b0 b1 b2 b3 b4
            obtain ⟨b0, b1, b2, b3, b4⟩ := HCE.out _ BW.out
            clear hb
            go_wp2
            go_ret
            exact ⟨rfl, HTW.out _ BW.out⟩
          | some t =>
            rw [hmo] at hE3 hE4 HRM
            clear hmo
            obtain rfl : EM = 0 := hE3
            try clear hE3
            obtain rfl : t = YM := Eq.symm hE4
            try clear hE4
            rw [show oneL (some t) = t from rfl, show (some t).isSome = true from rfl] at HRM
            have hst : ∀ A c B d W, Kd.C (Kd.int .i64) W A t.length t → t.length ≤ c → Kd.C (Kd.int .i64) W B t.length t → t.length ≤ d → Calls Tryz.prog 24 #[.slice A t.length c, .slice B t.length d] W fun e w' => e = .returned (.bool true) ∧ Below W.heap.size W w' := fun A c B d W h1 h2 h3 h4 => by
              have := same_any A B c d t t W h1 h2 h3 h4
              simpa using this
            have HST := Am hst
            clear hst
            go_wp2_with (fail)
            refine (HIH.out _).mono ?_
            rintro e w' ⟨rfl, rfl⟩
            go_wp2_with (fail)
            refine (HIR.out _).mono ?_
            rintro e w' ⟨rfl, rfl⟩
            go_wp2_with (fail)
            refine (HRM.out _ BW.out).mono ?_
            rintro e w6_ ⟨Z0, z0, rfl, hlc, hC, hb⟩
            have HLCZ0 := Am hlc
            have HCZ0 := Am hC
            clear hlc hC
            have BW := Am (step_b BW.out HN.out hb)
            have HCX0 := Am (Kd.C_below HCX0.out hb)
            have HCY0 := Am (Kd.C_below HCY0.out hb)
            clear b0 b1 b2 b3 b4
            obtain ⟨b0, b1, b2, b3, b4⟩ := HCE.out _ BW.out
            clear hb
            go_wp2_with (fail)
            refine (HST.out _ _ _ _ _ HCY0.out HLCY0.out HCZ0.out HLCZ0.out).mono ?_
            rintro e w7_ ⟨rfl, hb⟩
            have BW := Am (step_b BW.out HN.out hb)
            have HCX0 := Am (Kd.C_below HCX0.out hb)
            have HCY0 := Am (Kd.C_below HCY0.out hb)
            have HCZ0 := Am (Kd.C_below HCZ0.out hb)
            clear b0 b1 b2 b3 b4
            obtain ⟨b0, b1, b2, b3, b4⟩ := HCE.out _ BW.out
            clear hb
            go_wp2_with (fail)
            refine (HAW.out _).mono ?_
            rintro e w8_ ⟨rfl, hb⟩
            have BW := Am (step_b BW.out HN.out hb)
            have HCX0 := Am (Kd.C_below HCX0.out hb)
            have HCY0 := Am (Kd.C_below HCY0.out hb)
            have HCZ0 := Am (Kd.C_below HCZ0.out hb)
            clear b0 b1 b2 b3 b4
            obtain ⟨b0, b1, b2, b3, b4⟩ := HCE.out _ BW.out
            clear hb
            go_wp2
            go_ret
            exact ⟨rfl, HTW.out _ BW.out⟩
      | true =>
        have hih := fun W => in23_any h 0 23 W
        rw [hin] at hih
        have HIH := Am hih
        clear hih
        obtain ⟨e1, e2⟩ := hea_in hE hin
        have hsm : ∀ A c B d W, Kd.C (Kd.slice 3 (Kd.int .i64)) W A (heardL l h).length (heardL l h) → (heardL l h).length ≤ c → Kd.C (Kd.slice 3 (Kd.int .i64)) W B (heardL l h).length (heardL l h) → (heardL l h).length ≤ d → Calls Tryz.prog 28 #[.slice A (heardL l h).length c, .slice B (heardL l h).length d] W fun e w' => e = .returned (.bool true) ∧ Below W.heap.size W w' := fun A c B d W h1 h2 h3 h4 => by
          have := sames_any A B c d (heardL l h) (heardL l h) W 5 HX5.out (by omega) h1 h2 h3 h4
          simpa using this
        have HSM := Am hsm
        clear hsm
        generalize heardL l h = X at *
        obtain rfl := hE1.trans e1
        obtain rfl := hE2.trans e2
        clear hE1 hE2 e1 e2 hin
        cases hir : inR n 0 ((l.rc.length : Int) - 1) with
        | false =>
          have hik := fun W => in23_any n 0 ((l.rc.length : Int) - 1) W
          rw [hir] at hik
          have HIR := Am hik
          clear hik
          have e1 := ask_out hE hir
          obtain ⟨e2, e3⟩ := msk_bad n (show askE l n ≠ 0 by rw [e1]; decide)
          obtain rfl := hE3.trans (e2.trans e1)
          obtain rfl := hE4.trans e3
          clear hE3 hE4 e1 e2 e3 hir HRM HS HX5 hE
          go_wp2_with (fail)
          refine (HIH.out _).mono ?_
          rintro e w' ⟨rfl, rfl⟩
          go_wp2_with (fail)
          refine (HIR.out _).mono ?_
          rintro e w' ⟨rfl, rfl⟩
          go_wp2_with (fail)
          refine (HRH.out _ BW.out).mono ?_
          rintro e w6_ ⟨V0, v0, rfl, hlc, hC, hb⟩
          have HLCV0 := Am hlc
          have HCV0 := Am hC
          clear hlc hC
          have BW := Am (step_b BW.out HN.out hb)
          have HCX0 := Am (Kd.C_below HCX0.out hb)
          have HCY0 := Am (Kd.C_below HCY0.out hb)
          clear b0 b1 b2 b3 b4
          obtain ⟨b0, b1, b2, b3, b4⟩ := HCE.out _ BW.out
          clear hb
          go_wp2_with (fail)
          refine (HSM.out _ _ _ _ _ HCX0.out HLX0.out HCV0.out HLCV0.out).mono ?_
          rintro e w7_ ⟨rfl, hb⟩
          have BW := Am (step_b BW.out HN.out hb)
          have HCX0 := Am (Kd.C_below HCX0.out hb)
          have HCY0 := Am (Kd.C_below HCY0.out hb)
          have HCV0 := Am (Kd.C_below HCV0.out hb)
          clear b0 b1 b2 b3 b4
          obtain ⟨b0, b1, b2, b3, b4⟩ := HCE.out _ BW.out
          clear hb
          go_wp2_with (fail)
          refine (HAW.out _).mono ?_
          rintro e w8_ ⟨rfl, hb⟩
          have BW := Am (step_b BW.out HN.out hb)
          have HCX0 := Am (Kd.C_below HCX0.out hb)
          have HCY0 := Am (Kd.C_below HCY0.out hb)
          have HCV0 := Am (Kd.C_below HCV0.out hb)
          clear b0 b1 b2 b3 b4
          obtain ⟨b0, b1, b2, b3, b4⟩ := HCE.out _ BW.out
          clear hb
          go_wp2
          go_ret
          exact ⟨rfl, HTW.out _ BW.out⟩
        | true =>
          have hik := fun W => in23_any n 0 ((l.rc.length : Int) - 1) W
          rw [hir] at hik
          have HIR := Am hik
          clear hik
          have e1 := ask_in hE hir
          obtain ⟨m, rfl⟩ : ∃ m : Nat, n = (m : Int) := ⟨n.toNat, by simp only [inR, Bool.and_eq_true, decide_eq_true_eq] at hir; omega⟩
          have hm : m < l.rc.length := by simp only [inR, Bool.and_eq_true, decide_eq_true_eq] at hir; omega
          obtain ⟨e2, e3⟩ := msk_in e1
          rw [e2] at hE3
          rw [e3] at hE4
          replace HRM := Am (HRM.out m hm)
          clear e1 e2 e3 hir HS HX5 hE
          cases hmo : mskO l (m : Int) with
          | none =>
            rw [hmo] at hE3 hE4 HRM
            clear hmo
            obtain rfl : EM = 7 := hE3
            try clear hE3
            obtain rfl : YM = [] := hE4
            try clear hE4
            rw [show oneL none = [] from rfl, show (none : Option (List Int)).isSome = false from rfl] at HRM
            go_wp2_with (fail)
            refine (HIH.out _).mono ?_
            rintro e w' ⟨rfl, rfl⟩
            go_wp2_with (fail)
            refine (HIR.out _).mono ?_
            rintro e w' ⟨rfl, rfl⟩
            go_wp2_with (fail)
            refine (HRH.out _ BW.out).mono ?_
            rintro e w6_ ⟨V0, v0, rfl, hlc, hC, hb⟩
            have HLCV0 := Am hlc
            have HCV0 := Am hC
            clear hlc hC
            have BW := Am (step_b BW.out HN.out hb)
            have HCX0 := Am (Kd.C_below HCX0.out hb)
            have HCY0 := Am (Kd.C_below HCY0.out hb)
            clear b0 b1 b2 b3 b4
            obtain ⟨b0, b1, b2, b3, b4⟩ := HCE.out _ BW.out
            clear hb
            go_wp2_with (fail)
            refine (HSM.out _ _ _ _ _ HCX0.out HLX0.out HCV0.out HLCV0.out).mono ?_
            rintro e w7_ ⟨rfl, hb⟩
            have BW := Am (step_b BW.out HN.out hb)
            have HCX0 := Am (Kd.C_below HCX0.out hb)
            have HCY0 := Am (Kd.C_below HCY0.out hb)
            have HCV0 := Am (Kd.C_below HCV0.out hb)
            clear b0 b1 b2 b3 b4
            obtain ⟨b0, b1, b2, b3, b4⟩ := HCE.out _ BW.out
            clear hb
            go_wp2_with (fail)
            refine (HRM.out _ BW.out).mono ?_
            rintro e w8_ ⟨Z0, z0, rfl, hlc, hC, hb⟩
            clear hlc hC
            have BW := Am (step_b BW.out HN.out hb)
            have HCX0 := Am (Kd.C_below HCX0.out hb)
            have HCY0 := Am (Kd.C_below HCY0.out hb)
            have HCV0 := Am (Kd.C_below HCV0.out hb)
            clear b0 b1 b2 b3 b4
            obtain ⟨b0, b1, b2, b3, b4⟩ := HCE.out _ BW.out
            clear hb
            go_wp2_with (fail)
            refine (HAW.out _).mono ?_
            rintro e w9_ ⟨rfl, hb⟩
            have BW := Am (step_b BW.out HN.out hb)
            have HCX0 := Am (Kd.C_below HCX0.out hb)
            have HCY0 := Am (Kd.C_below HCY0.out hb)
            have HCV0 := Am (Kd.C_below HCV0.out hb)
            clear b0 b1 b2 b3 b4
            obtain ⟨b0, b1, b2, b3, b4⟩ := HCE.out _ BW.out
            clear hb
            go_wp2
            go_ret
            exact ⟨rfl, HTW.out _ BW.out⟩
          | some t =>
            rw [hmo] at hE3 hE4 HRM
            clear hmo
            obtain rfl : EM = 0 := hE3
            try clear hE3
            obtain rfl : t = YM := Eq.symm hE4
            try clear hE4
            rw [show oneL (some t) = t from rfl, show (some t).isSome = true from rfl] at HRM
            have hst : ∀ A c B d W, Kd.C (Kd.int .i64) W A t.length t → t.length ≤ c → Kd.C (Kd.int .i64) W B t.length t → t.length ≤ d → Calls Tryz.prog 24 #[.slice A t.length c, .slice B t.length d] W fun e w' => e = .returned (.bool true) ∧ Below W.heap.size W w' := fun A c B d W h1 h2 h3 h4 => by
              have := same_any A B c d t t W h1 h2 h3 h4
              simpa using this
            have HST := Am hst
            clear hst
            go_wp2_with (fail)
            refine (HIH.out _).mono ?_
            rintro e w' ⟨rfl, rfl⟩
            go_wp2_with (fail)
            refine (HIR.out _).mono ?_
            rintro e w' ⟨rfl, rfl⟩
            go_wp2_with (fail)
            refine (HRH.out _ BW.out).mono ?_
            rintro e w6_ ⟨V0, v0, rfl, hlc, hC, hb⟩
            have HLCV0 := Am hlc
            have HCV0 := Am hC
            clear hlc hC
            have BW := Am (step_b BW.out HN.out hb)
            have HCX0 := Am (Kd.C_below HCX0.out hb)
            have HCY0 := Am (Kd.C_below HCY0.out hb)
            clear b0 b1 b2 b3 b4
            obtain ⟨b0, b1, b2, b3, b4⟩ := HCE.out _ BW.out
            clear hb
            go_wp2_with (fail)
            refine (HSM.out _ _ _ _ _ HCX0.out HLX0.out HCV0.out HLCV0.out).mono ?_
            rintro e w7_ ⟨rfl, hb⟩
            have BW := Am (step_b BW.out HN.out hb)
            have HCX0 := Am (Kd.C_below HCX0.out hb)
            have HCY0 := Am (Kd.C_below HCY0.out hb)
            have HCV0 := Am (Kd.C_below HCV0.out hb)
            clear b0 b1 b2 b3 b4
            obtain ⟨b0, b1, b2, b3, b4⟩ := HCE.out _ BW.out
            clear hb
            go_wp2_with (fail)
            refine (HRM.out _ BW.out).mono ?_
            rintro e w8_ ⟨Z0, z0, rfl, hlc, hC, hb⟩
            have HLCZ0 := Am hlc
            have HCZ0 := Am hC
            clear hlc hC
            have BW := Am (step_b BW.out HN.out hb)
            have HCX0 := Am (Kd.C_below HCX0.out hb)
            have HCY0 := Am (Kd.C_below HCY0.out hb)
            have HCV0 := Am (Kd.C_below HCV0.out hb)
            clear b0 b1 b2 b3 b4
            obtain ⟨b0, b1, b2, b3, b4⟩ := HCE.out _ BW.out
            clear hb
            go_wp2_with (fail)
            refine (HST.out _ _ _ _ _ HCY0.out HLCY0.out HCZ0.out HLCZ0.out).mono ?_
            rintro e w9_ ⟨rfl, hb⟩
            have BW := Am (step_b BW.out HN.out hb)
            have HCX0 := Am (Kd.C_below HCX0.out hb)
            have HCY0 := Am (Kd.C_below HCY0.out hb)
            have HCV0 := Am (Kd.C_below HCV0.out hb)
            have HCZ0 := Am (Kd.C_below HCZ0.out hb)
            clear b0 b1 b2 b3 b4
            obtain ⟨b0, b1, b2, b3, b4⟩ := HCE.out _ BW.out
            clear hb
            go_wp2_with (fail)
            refine (HAW.out _).mono ?_
            rintro e w10_ ⟨rfl, hb⟩
            have BW := Am (step_b BW.out HN.out hb)
            have HCX0 := Am (Kd.C_below HCX0.out hb)
            have HCY0 := Am (Kd.C_below HCY0.out hb)
            have HCV0 := Am (Kd.C_below HCV0.out hb)
            have HCZ0 := Am (Kd.C_below HCZ0.out hb)
            clear b0 b1 b2 b3 b4
            obtain ⟨b0, b1, b2, b3, b4⟩ := HCE.out _ BW.out
            clear hb
            go_wp2
            go_ret
            exact ⟨rfl, HTW.out _ BW.out⟩
     ·obtain ⟨e1, e2⟩ := hea_bad h hE
      have e3 := ask_bad n hE
      obtain ⟨e4, e5⟩ := msk_bad n (show askE l n ≠ 0 by rw [e3]; exact hE)
      obtain rfl : EH = E := hE1.trans (e1.trans hE0.symm)
      obtain rfl := hE2.trans e2
      obtain rfl : EM = EH := hE3.trans (e4.trans (e3.trans hE0.symm))
      obtain rfl := hE4.trans e5
      rw [← hE0] at hE
      have q0 : (EM == 0) = false := by simpa using hE
      have q1 : (EM != 0) = true := by simpa using hE
      have q2 := eq_false hE
      have q3 : (EM != EM) = false := by simp
      clear e1 e2 e3 e4 e5 hE HRH HRM hE0 hE1 hE2 hE3 hE4
      go_wp2_with (fail)
      refine (HAW.out _).mono ?_
      rintro e w6_ ⟨rfl, hb⟩
      have BW := Am (step_b BW.out HN.out hb)
      have HCX0 := Am (Kd.C_below HCX0.out hb)
      have HCY0 := Am (Kd.C_below HCY0.out hb)
      clear b0 b1 b2 b3 b4
      obtain ⟨b0, b1, b2, b3, b4⟩ := HCE.out _ BW.out
      clear hb
      go_wp2
      go_ret
      exact ⟨rfl, HTW.out _ BW.out⟩
end Go.Proofs.YthgfhgjlilmieaaGreat.G
namespace Go.Proofs.YthgfhgjlilmieaaGreat.O
open Go.ChangeShapes Go.WideShapes Go.Deep Go.Joins Go.RowKit
set_option linter.unusedVariables false
section
variable {H : Type} {enc : TypeId × Value → H} {P : Program} {w : World} {base : Nat} {spare : Nat → Bool} {held : Bool}
theorem open_slice_fields {t e : TypeId} {fs : Array Field} {fuel : Nat} {cs : List Value} {x : DataW H × List MemPlace} (ht : P.underlying t = some (.slice e)) (he : P.underlying e = some (.struct fs))
    (hone : oneCellFields P fs = true) (hC : P.cellsOf e = fs.size) (h : DataW.trod enc P w base spare held fuel t cs = some x) :
    (cs = [.slice none 0 0] ∧ x = (.nil, [])) ∨
    ∃ (a : Addr) (len cap m : Nat) (D : Nat → DataW H) (Pl : Nat → List MemPlace), cs = [.slice (some a) len cap] ∧ base ≤ a.block ∧ len ≤ cap ∧ cap ≤ maxLen ∧ m = (if spare a.block then cap else len) ∧
      x = (.slice ((List.range len).map D) ((List.range (m - len)).map fun j => D (len + j)), MemPlace.row a (m * fs.size) ++ (List.range m).flatMap Pl) ∧
      ∀ i, i < m → ∃ (ys : List (DataW H × List MemPlace)) (n : Nat), D i = .agg (ys.map (·.1)) ∧ Pl i = ys.flatMap (·.2) ∧ ys.length = fs.size ∧
        ∀ (j : Nat) (f : Field), fs[j]? = some f → ∃ (v : Value) (y : DataW H × List MemPlace), w.cell? (a.add (i * fs.size + j)) = some v ∧ ys[j]? = some y ∧ DataW.trod enc P w base spare held n f.type [v] = some y := by
  rcases open_slice ht h with h0 | ⟨a, len, cap, m, n, D, Pl, hcs, hb, hl, hm, hmm, hx, hi⟩
  ·exact .inl h0
  ·refine .inr ⟨a, len, cap, m, D, Pl, hcs, hb, hl, hm, hmm, by rw [hC] at hx; exact hx, fun i him => ?_⟩
   obtain ⟨cs', hc, ht'⟩ := hi i him
   rw [hC] at hc
   obtain ⟨ys, n', hn', hy, hlen, hyl, hf⟩ := DataW.trod_struct he ht'
   obtain ⟨_, hcl, hat⟩ := World.cells?_some hc
   simp only [Prod.mk.injEq] at hy
   refine ⟨ys, n', hy.1, hy.2, hyl, fun j f hj => ?_⟩
   obtain ⟨ho, hk⟩ := hone_of hone j f hj
   have hjl : j < fs.size := (Array.getElem?_eq_some_iff.1 hj).1
   have hcell := hat j hjl
   have hv : cs'[j]? = some (cs'[j]'(by omega)) := List.getElem?_eq_getElem (by omega)
   have h1 := hf j f hj
   rw [ho, hk] at h1
   have hone' : (cs'.drop j).take 1 = [cs'[j]'(by omega)] := by
     rw [List.drop_eq_getElem_cons (by omega)]
     rfl
   rw [hone'] at h1
   have hys : ys[j]? = some (ys[j]'(by omega)) := List.getElem?_eq_getElem (by omega)
   refine ⟨_, _, ?_, hys, h1.trans hys⟩
   rw [← Go.Deep.add_add, hcell, hv]
end
section
variable {H : Type} {enc : TypeId × Value → H} {P : Program} {w : World} {base : Nat} {spare : Nat → Bool} {held : Bool}
theorem open_agg5 {r : Reach} {b0 : Nat} {t : TypeId} {f0 f1 f2 f3 f4 : Field} {v : Value} {d : DataW H} {p : List MemPlace} (hs : P.underlying t = some (.struct #[f0, f1, f2, f3, f4])) (hone : oneCellFields P #[f0, f1, f2, f3, f4] = true) (hC : P.cellsOf t = 5)
    (hv : Value.okWide P w r b0 t v) (h : DataW.Trod enc P w base spare held t v d p) :
    ∃ (v0 v1 v2 v3 v4 : Value) (y0 y1 y2 y3 y4 : DataW H × List MemPlace) (n : Nat), v = .agg #[v0, v1, v2, v3, v4] ∧ d = .agg [y0.1, y1.1, y2.1, y3.1, y4.1] ∧ p = y0.2 ++ (y1.2 ++ (y2.2 ++ (y3.2 ++ y4.2))) ∧
      DataW.trod enc P w base spare held n f0.type [v0] = some y0 ∧ DataW.trod enc P w base spare held n f1.type [v1] = some y1 ∧ DataW.trod enc P w base spare held n f2.type [v2] = some y2 ∧ DataW.trod enc P w base spare held n f3.type [v3] = some y3 ∧ DataW.trod enc P w base spare held n f4.type [v4] = some y4 := by
  obtain ⟨cs, rfl, hsz⟩ := okWide_struct hs hv
  obtain ⟨l⟩ := cs
  match l, hsz.trans hC with
  | [c0, c1, c2, c3, c4], _ =>
    obtain ⟨fuel, hf⟩ := h
    obtain ⟨xs, n, _, hx, _, hlen, hg⟩ := DataW.trod_struct hs hf
    obtain ⟨o0, k0⟩ := hone_of hone 0 f0 rfl
    obtain ⟨o1, k1⟩ := hone_of hone 1 f1 rfl
    obtain ⟨o2, k2⟩ := hone_of hone 2 f2 rfl
    obtain ⟨o3, k3⟩ := hone_of hone 3 f3 rfl
    obtain ⟨o4, k4⟩ := hone_of hone 4 f4 rfl
    match xs, hlen with
    | [y0, y1, y2, y3, y4], _ =>
      simp only [Prod.mk.injEq] at hx
      exact ⟨c0, c1, c2, c3, c4, y0, y1, y2, y3, y4, n, rfl, by simpa using hx.1, by simpa using hx.2, by simpa [Value.cells, o0, k0] using hg 0 f0 rfl, by simpa [Value.cells, o1, k1] using hg 1 f1 rfl, by simpa [Value.cells, o2, k2] using hg 2 f2 rfl, by simpa [Value.cells, o3, k3] using hg 3 f3 rfl, by simpa [Value.cells, o4, k4] using hg 4 f4 rfl⟩
end
end Go.Proofs.YthgfhgjlilmieaaGreat.O
namespace Go.Proofs.YthgfhgjlilmieaaGreat.G
open Go.RowKit Go.Shelf Go.ChangeShapes Go.WideShapes Go.Deep Go.Proofs.YthgfhgjlilmieaaGreatW.PrintWords Go.Proofs.YthgfhgjlilmieaaGreatW.PrintLast Go.Proofs.YthgfhgjlilmieaaGreatW.PrintMore
open Go.Proofs.YthgfhgjlilmieaaGreat.B
set_option linter.unusedVariables false
theorem mem_weightsAll {H : Type} {P : Program} {e : TypeId} : ∀ {l : List (DataW H)} {d : DataW H}, d ∈ l → ∀ n, n ∈ d.weights P e → n ∈ DataW.weightsAll P e l
  | x :: t, d, h, n, hn => by
    simp only [DataW.weightsAll, List.mem_append]
    rcases List.mem_cons.1 h with rfl | h
    ·exact .inl hn
    ·exact .inr (mem_weightsAll h n hn)
theorem mem_slice {H : Type} {P : Program} {t e : TypeId} (hu : P.underlying t = some (.slice e)) {els sp : List (DataW H)} {d : DataW H} (h : d ∈ els) : ∀ n, n ∈ d.weights P e → n ∈ (DataW.slice els sp).weights P t := fun n hn => by
  simp only [DataW.weights, hu, List.mem_cons, List.mem_append]
  exact .inr (.inl (mem_weightsAll h n hn))
section
variable {H : Type} {enc : TypeId × Value → H} {w : World} {base : Nat} {spare : Nat → Bool} {held : Bool}
theorem open_row_ints {fuel : Nat} {v : Value} {x : DataW H × List MemPlace} (h : DataW.trod enc Tryz.prog w base spare held fuel 25 [v] = some x) :
    ∃ A c xs, v = .slice A xs.length c ∧ xs.length ≤ c ∧ Kd.C (Kd.int .i64) w A xs.length xs := by
  rcases open_ints Tryz.underlying25 Tryz.underlying3 (by kernel_rfl) h with ⟨hcs, _⟩ | ⟨a, len, cap, zs, hcs, _, hl, hm, hz, _, hc, _⟩
  ·obtain ⟨A, c, e, hl, hC⟩ := Kd.R_reads (Kd.R_nil (Kd.int .i64) 3 w 0 (fun _ => True))
   cases e
   exact ⟨none, 0, [], by simpa using hcs, Nat.le_refl _, hC⟩
  ·have hzl : len ≤ zs.length := by rw [hz]; split <;> omega
   have hlen : (zs.take len).length = len := by rw [List.length_take]; omega
   refine ⟨some a, cap, zs.take len, by rw [hlen]; simpa using hcs, by omega, ?_⟩
   refine Kd.C_of_reads (d := (0 : Int)) (h1 := fun _ => rfl) ⟨rfl, by rw [hlen]; unfold maxLen at hm; omega, fun hn => ⟨a, rfl, fun j hj => ?_⟩⟩
   have hjl : j < len := by omega
   have := hc j (by omega)
   rw [this]
   simp [List.getD_eq_getElem?_getD, hjl]
theorem open_row_strs {fuel : Nat} {v : Value} {x : DataW H × List MemPlace} (h : DataW.trod enc Tryz.prog w base spare held fuel 22 [v] = some x) (hw : ∀ n, n ∈ x.1.weights Tryz.prog 22 → n ≤ reachBytes) :
    ∃ A c xs, v = .slice A xs.length c ∧ xs.length ≤ c ∧ Kd.C Kd.string w A xs.length xs ∧ ∀ s, s ∈ xs → s.size ≤ 140737488351232 := by
  rcases open_strings Tryz.underlying22 Tryz.underlying9 (by kernel_rfl) h with ⟨hcs, _⟩ | ⟨a, len, cap, zs, hcs, _, hl, hm, hz, hx, hc, _⟩
  ·obtain ⟨A, c, e, hl, hC⟩ := Kd.R_reads (Kd.R_nil Kd.string 9 w 0 (fun _ => True))
   cases e
   exact ⟨none, 0, [], by simpa using hcs, Nat.le_refl _, hC, by simp⟩
  ·have hzl : len ≤ zs.length := by rw [hz]; split <;> omega
   have hlen : (zs.take len).length = len := by rw [List.length_take]; omega
   refine ⟨some a, cap, zs.take len, by rw [hlen]; simpa using hcs, by omega, ?_, fun s hs => ?_⟩
   ·refine Kd.C_of_reads (d := ByteArray.empty) (h1 := fun _ => rfl) ⟨rfl, by rw [hlen]; unfold maxLen at hm; omega, fun hn => ⟨a, rfl, fun j hj => ?_⟩⟩
    have hjl : j < len := by omega
    have := hc j (by omega)
    rw [this]
    simp [List.getD_eq_getElem?_getD, hjl]
   ·have := hw s.size (by
      rw [hx]
      refine mem_slice Tryz.underlying22 (d := .lit (.string s.data.toList)) (List.mem_map.2 ⟨s, hs, rfl⟩) _ ?_
      simp [DataW.weights])
    simpa [reachBytes] using this
theorem row_of {α : Type} (d : Kd α) (a : Addr) (len : Nat) (Q : α → Prop) (hm : len ≤ 9223372036854775807) (h : ∀ i, i < len → ∃ (s : α) (cs : List Value), cs.length = d.sz ∧ d.K w s cs ∧ Q s ∧ ∀ (j : Nat) (u : Value), cs[j]? = some u → w.cell? (a.add (i * d.sz + j)) = some u) :
    ∃ xs : List α, xs.length = len ∧ Kd.C d w (some a) len xs ∧ ∀ s, s ∈ xs → Q s := by
  let xs := List.ofFn (n := len) fun i => Classical.choose (h i.1 i.2)
  have hl : xs.length = len := List.length_ofFn
  have hg : ∀ (i : Nat) (hi : i < len) (hx : i < xs.length), ∃ cs : List Value, cs.length = d.sz ∧ d.K w xs[i] cs ∧ Q xs[i] ∧ ∀ (j : Nat) (u : Value), cs[j]? = some u → w.cell? (a.add (i * d.sz + j)) = some u := fun i hi hx => by
   have e : xs[i] = Classical.choose (h i hi) := by simp [xs]
   rw [e]
   exact Classical.choose_spec (h i hi)
  refine ⟨xs, hl, ⟨hl, hm, fun _ => ⟨a, rfl, fun j p hj => ?_⟩⟩, fun s hs => ?_⟩
  ·obtain ⟨hj1, hj2⟩ := List.getElem?_eq_some_iff.1 hj
   obtain ⟨cs, h1, h2, _, h4⟩ := hg j (by omega) hj1
   rw [hj2] at h2
   exact ⟨cs, h1, h2, h4⟩
  ·obtain ⟨j, hj, rfl⟩ := List.getElem_of_mem hs
   obtain ⟨cs, _, _, h3, _⟩ := hg j (by omega) hj
   exact h3
theorem three {a : Addr} {v0 v1 v2 : Value} {i : Nat} (h0 : w.cell? (a.add (i * 3 + 0)) = some v0) (h1 : w.cell? (a.add (i * 3 + 1)) = some v1) (h2 : w.cell? (a.add (i * 3 + 2)) = some v2) : ∀ (j : Nat) (u : Value), [v0, v1, v2][j]? = some u → w.cell? (a.add (i * 3 + j)) = some u := by
  intro j u hj
  match j, hj with
  | 0, hj => cases hj; exact h0
  | 1, hj => cases hj; exact h1
  | 2, hj => cases hj; exact h2
theorem open_row_sent {fuel : Nat} {v : Value} {x : DataW H × List MemPlace} (h : DataW.trod enc Tryz.prog w base spare held fuel 26 [v] = some x) :
    ∃ A c, ∃ xs : List S76, v = .slice A xs.length c ∧ xs.length ≤ c ∧ Kd.C k76 w A xs.length xs := by
  rcases O.open_slice_fields Tryz.underlying26 Tryz.underlying69 (by kernel_rfl) (by kernel_rfl) h with ⟨hcs, _⟩ | ⟨a, len, cap, m, D, Pl, hcs, _, hl, hm, hmm, hx, hf⟩
  ·obtain ⟨A, c, e, hl, hC⟩ := Kd.R_reads (Kd.R_nil k76 76 w 0 (fun _ => True))
   cases e
   exact ⟨none, 0, [], by simpa using hcs, Nat.le_refl _, hC⟩
  ·have hlm : len ≤ m := by rw [hmm]; split <;> omega
   obtain ⟨xs, e1, e2, _⟩ := row_of (w := w) k76 a len (fun _ => True) (by unfold maxLen at hm; omega) (fun i hi => by
     obtain ⟨ys, n, _, _, _, hff⟩ := hf i (by omega)
     obtain ⟨v0, y0, c0, _, t0⟩ := hff 0 _ rfl
     obtain ⟨v1, y1, c1, _, t1⟩ := hff 1 _ rfl
     obtain ⟨v2, y2, c2, _, t2⟩ := hff 2 _ rfl
     obtain ⟨n0, e0, _, _⟩ := DataW.trod_int Tryz.underlying3 t0
     obtain ⟨n1, e1, _, _⟩ := DataW.trod_int Tryz.underlying3 t1
     obtain ⟨A, c, t, rfl, hc, hC⟩ := open_row_ints t2
     cases e0
     cases e1
     exact ⟨⟨n0, n1, t⟩, [.int .i64 n0, .int .i64 n1, .slice A t.length c], rfl, ⟨[.int .i64 n0], [.int .i64 n1, .slice A t.length c], rfl, rfl, [.int .i64 n1], [.slice A t.length c], rfl, rfl, A, c, rfl, hc, hC⟩, trivial, three c0 c1 c2⟩)
   exact ⟨some a, cap, xs, by rw [e1]; simpa using hcs, by omega, by rw [e1]; exact e2⟩
theorem open_row_rec {fuel : Nat} {v : Value} {x : DataW H × List MemPlace} (h : DataW.trod enc Tryz.prog w base spare held fuel 27 [v] = some x) (hw : ∀ n, n ∈ x.1.weights Tryz.prog 27 → n ≤ reachBytes) :
    ∃ A c, ∃ xs : List S75, v = .slice A xs.length c ∧ xs.length ≤ c ∧ Kd.C k75 w A xs.length xs ∧ ∀ r, r ∈ xs → r.f2.size ≤ 140737488351232 := by
  rcases O.open_slice_fields Tryz.underlying27 Tryz.underlying61 (by kernel_rfl) (by kernel_rfl) h with ⟨hcs, _⟩ | ⟨a, len, cap, m, D, Pl, hcs, _, hl, hm, hmm, hx, hf⟩
  ·obtain ⟨A, c, e, hl, hC⟩ := Kd.R_reads (Kd.R_nil k75 75 w 0 (fun _ => True))
   cases e
   exact ⟨none, 0, [], by simpa using hcs, Nat.le_refl _, hC, by simp⟩
  ·have hlm : len ≤ m := by rw [hmm]; split <;> omega
   obtain ⟨xs, e1, e2, e3⟩ := row_of (w := w) k75 a len (fun r => r.f2.size ≤ 140737488351232) (by unfold maxLen at hm; omega) (fun i hi => by
     obtain ⟨ys, n, hD, _, hys, hff⟩ := hf i (by omega)
     obtain ⟨v0, y0, c0, _, t0⟩ := hff 0 _ rfl
     obtain ⟨v1, y1, c1, _, t1⟩ := hff 1 _ rfl
     obtain ⟨v2, y2, c2, g2, t2⟩ := hff 2 _ rfl
     obtain ⟨n0, e0, _, _⟩ := DataW.trod_int Tryz.underlying3 t0
     obtain ⟨n1, e1, _, _⟩ := DataW.trod_int Tryz.underlying3 t1
     obtain ⟨s, e2, ey, _⟩ := DataW.trod_string Tryz.underlying9 t2
     cases e0
     cases e1
     cases e2
     have hsz : s.size ≤ 140737488351232 := by
      have := hw s.size (by
        rw [hx]
        refine mem_slice Tryz.underlying27 (d := D i) (List.mem_map.2 ⟨i, List.mem_range.2 hi, rfl⟩) _ ?_
        rw [hD]
        simp only [DataW.weights, Tryz.underlying61]
        refine DataW.weights_mem_each (j := 2) (t := 9) (d := y2.1) rfl ?_ _ ?_
        ·rw [List.getElem?_map, g2]; rfl
        ·rw [ey]; simp [DataW.weights])
      simpa [reachBytes] using this
     exact ⟨⟨n0, n1, s⟩, [.int .i64 n0, .int .i64 n1, .string s], rfl, ⟨[.int .i64 n0], [.int .i64 n1, .string s], rfl, rfl, [.int .i64 n1], [.string s], rfl, rfl, rfl⟩, hsz, three c0 c1 c2⟩)
   exact ⟨some a, cap, xs, by rw [e1]; simpa using hcs, by omega, by rw [e1]; exact e2, e3⟩
set_option maxRecDepth 100000 in
theorem open_log {r : Reach} {b0 : Nat} {v : Value} {d : DataW H} {p : List MemPlace} (hv : Value.okWide Tryz.prog w r b0 29 v) (h : DataW.Trod enc Tryz.prog w base spare held 29 v d p) (hw : ∀ n, n ∈ d.weights Tryz.prog 29 → n ≤ reachBytes) :
    ∃ a l, v = logV a l ∧ LogAt w a l := by
  obtain ⟨v0, v1, v2, v3, v4, y0, y1, y2, y3, y4, n, rfl, hd, _, t0, t1, t2, t3, t4⟩ := O.open_agg5 Tryz.underlying29 (by kernel_rfl) (by kernel_rfl) hv h
  have hw0 : ∀ n, n ∈ y0.1.weights Tryz.prog 24 → n ≤ reachBytes := fun n hn => hw n (by
    rw [hd]
    simp only [DataW.weights, Tryz.underlying29]
    exact DataW.weights_mem_each (j := 0) (t := 24) rfl rfl _ hn)
  have hw4 : ∀ n, n ∈ y4.1.weights Tryz.prog 27 → n ≤ reachBytes := fun n hn => hw n (by
    rw [hd]
    simp only [DataW.weights, Tryz.underlying29]
    exact DataW.weights_mem_each (j := 4) (t := 27) rfl rfl _ hn)
  obtain ⟨xs, n', _, hx, _, hlen, hg⟩ := DataW.trod_struct Tryz.underlying24 t0
  obtain ⟨z0, hz⟩ : ∃ z, xs = [z] := by
   match xs, hlen with
   | [z], _ => exact ⟨z, rfl⟩
  subst hz
  have g0 := hg 0 _ rfl
  have hcell : Tryz.prog.cellsOf 22 = 1 := by kernel_rfl
  have g1 : DataW.trod enc Tryz.prog w base spare held n' 22 [v0] = some z0 := by simpa [hcell] using g0
  have hy0 : y0.1 = .agg [z0.1] := by
   have := congrArg Prod.fst hx
   simpa using this
  obtain ⟨A0, c0, ls, rfl, l0, q0, s0⟩ := open_row_strs g1 (fun n hn => hw0 n (by
    rw [hy0]
    simp only [DataW.weights, Tryz.underlying24]
    exact DataW.weights_mem_each (j := 0) (t := 22) rfl rfl _ hn))
  obtain ⟨errs, e1, _, _⟩ := DataW.trod_int Tryz.underlying3 t1
  cases e1
  obtain ⟨A2, c2, sees, rfl, l2, q2⟩ := open_row_ints t2
  obtain ⟨A3, c3, jn, rfl, l3, q3⟩ := open_row_sent t3
  obtain ⟨A4, c4, rc, rfl, l4, q4, s4⟩ := open_row_rec t4 hw4
  exact ⟨⟨A0, A2, A3, A4, c0, c2, c3, c4⟩, ⟨ls, errs, sees, jn, rc⟩, rfl, q0, q2, q3, q4, l0, l2, l3, l4, s0, s4⟩
end
end Go.Proofs.YthgfhgjlilmieaaGreat.G
