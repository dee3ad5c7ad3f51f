/- texts of this claim, merged by a program of this session out of its own texts and the print's words -/
import Derived.ChangeSame
import Derived.ChangeSlices
import Derived.Deep.Fields
import Derived.Deep.Slices
import Derived.Lib.SmallJoins
import Derived.SizedLaws
import Derived.SliceStrings
import Derived.Test.YthgfhgjlilmieaaGreatKA0
import Derived.Test.YthgfhgjlilmieaaGreatKA1
import Derived.Test.YthgfhgjlilmieaaGreatKA2
import Derived.Test.YthgfhgjlilmieaaGreatKA3
namespace Go.Proofs.YthgfhgjlilmieaaGreat.B
open Go.RowKit Go.Proofs.YthgfhgjlilmieaaGreatW.PrintWords Go.Proofs.YthgfhgjlilmieaaGreatW.PrintLast Go.Proofs.YthgfhgjlilmieaaGreatW.PrintMore
attribute [local go_sem] max2_int min2_int max_two min_two max_three min_three max_four min_four
set_option linter.unusedVariables false
set_option linter.unusedSimpArgs false
mutual
def glisterlaw06_Log.l0 : Nat → Int → List ByteArray → Int → List Int → List (S69) → List (S61) → List ByteArray → Int → List Int → List (S76) → Option (List ByteArray × Int × List Int × (List (S76)) × (List (S75)))
 | 0, _, _, _, _, _, _, _, _, _, _ => none
 | k + 1, x4, x203000, x203001, x203002, x203003, x203004, x211000, x211001, x211002, x211003 => if x4 < (x203003.length : Int) then (if 0 ≤ x4 then ((glisterlaw06_list.f ((rd_T69 x203003 x4).f2)).bind fun t213 => (if x211003.length < 3518437208883 then (glisterlaw06_Log.l0 k (wrap64 (x4 + 1)) x203000 x203001 x203002 x203003 x203004 x211000 x211001 x211002 (x211003 ++ [(⟨(rd_T69 x203003 x4).f0, (rd_T69 x203003 x4).f1, t213⟩ : S76)])) else (none))) else (none)) else (glisterlaw06_Log.l1 k 0 x203000 x203001 x203002 x203003 x203004 x211000 x211001 x211002 x211003 ([] : List (S75)))
def glisterlaw06_Log.l1 : Nat → Int → List ByteArray → Int → List Int → List (S69) → List (S61) → List ByteArray → Int → List Int → List (S76) → List (S75) → Option (List ByteArray × Int × List Int × (List (S76)) × (List (S75)))
 | 0, _, _, _, _, _, _, _, _, _, _, _ => none
 | k + 1, x6, x203000, x203001, x203002, x203003, x203004, x211000, x211001, x211002, x211003, x211004 => if x6 < (x203004.length : Int) then (if 0 ≤ x6 then (if x211004.length < 4398046511104 then (glisterlaw06_Log.l1 k (wrap64 (x6 + 1)) x203000 x203001 x203002 x203003 x203004 x211000 x211001 x211002 x211003 (x211004 ++ [(⟨(rd_T61 x203004 x6).f0, (rd_T61 x203004 x6).f1, (rd_T61 x203004 x6).f2⟩ : S75)])) else (none)) else (none)) else (some (x211000, x211001, x211002, x211003, x211004))
end
def glisterlaw06_Log.f (k : Nat) (l0_0 : List ByteArray) (a0_1 : Int) (l0_2 : List Int) (l0_3 : List (S69)) (l0_4 : List (S61)) : Option (List ByteArray × Int × List Int × (List (S76)) × (List (S75))) := (glisterlaw02_Code.f l0_0).bind fun t204 => ((glisterlaw06_list.f l0_2).bind fun t207 => (glisterlaw06_Log.l0 k 0 l0_0 a0_1 l0_2 l0_3 l0_4 t204 a0_1 t207 ([] : List (S76))))
theorem glisterlaw06_Log.mono_l : ∀ k, (∀ y0 y1 y2 y3 y4 y5 y6 y7 y8 y9, LeO (glisterlaw06_Log.l0 k y0 y1 y2 y3 y4 y5 y6 y7 y8 y9) (glisterlaw06_Log.l0 (k + 1) y0 y1 y2 y3 y4 y5 y6 y7 y8 y9)) ∧ (∀ y0 y1 y2 y3 y4 y5 y6 y7 y8 y9 y10, LeO (glisterlaw06_Log.l1 k y0 y1 y2 y3 y4 y5 y6 y7 y8 y9 y10) (glisterlaw06_Log.l1 (k + 1) y0 y1 y2 y3 y4 y5 y6 y7 y8 y9 y10))
 | 0 => ⟨fun _ _ _ _ _ _ _ _ _ _ r h => by simp [glisterlaw06_Log.l0] at h, fun _ _ _ _ _ _ _ _ _ _ _ r h => by simp [glisterlaw06_Log.l1] at h⟩
 | k + 1 => by
  obtain ⟨ih0, ih1⟩ := glisterlaw06_Log.mono_l k
  refine ⟨?_, ?_⟩
  ·intro y0 y1 y2 y3 y4 y5 y6 y7 y8 y9
   unfold glisterlaw06_Log.l0
   repeat' first
   | (with_reducible exact ih0 _ _ _ _ _ _ _ _ _ _)
   | (with_reducible exact ih1 _ _ _ _ _ _ _ _ _ _ _)
   | (with_reducible exact LeO.refl _)
   | (with_reducible exact LeO.none _)
   | (with_reducible refine LeO.ite ?_ ?_)
   | (with_reducible refine LeO.bind ?_ (fun _ => ?_))
   | exact ih0 _ _ _ _ _ _ _ _ _ _
   | exact ih1 _ _ _ _ _ _ _ _ _ _ _
   | exact LeO.none _
   | refine LeO.ite ?_ ?_
   | refine LeO.bind ?_ (fun _ => ?_)
  ·intro y0 y1 y2 y3 y4 y5 y6 y7 y8 y9 y10
   unfold glisterlaw06_Log.l1
   repeat' first
   | (with_reducible exact ih0 _ _ _ _ _ _ _ _ _ _)
   | (with_reducible exact ih1 _ _ _ _ _ _ _ _ _ _ _)
   | (with_reducible exact LeO.refl _)
   | (with_reducible exact LeO.none _)
   | (with_reducible refine LeO.ite ?_ ?_)
   | (with_reducible refine LeO.bind ?_ (fun _ => ?_))
   | exact ih0 _ _ _ _ _ _ _ _ _ _
   | exact ih1 _ _ _ _ _ _ _ _ _ _ _
   | exact LeO.none _
   | refine LeO.ite ?_ ?_
   | refine LeO.bind ?_ (fun _ => ?_)
theorem glisterlaw06_Log.mono : ∀ a0 a1 a2 a3 a4 k, LeO (glisterlaw06_Log.f k a0 a1 a2 a3 a4) (glisterlaw06_Log.f (k + 1) a0 a1 a2 a3 a4) := by
 intro a0 a1 a2 a3 a4 k
 obtain ⟨ih0, ih1⟩ := glisterlaw06_Log.mono_l k
 unfold glisterlaw06_Log.f
 repeat' first
   | (with_reducible exact ih0 _ _ _ _ _ _ _ _ _ _)
   | (with_reducible exact ih1 _ _ _ _ _ _ _ _ _ _ _)
   | (with_reducible exact LeO.refl _)
   | (with_reducible exact LeO.none _)
   | (with_reducible refine LeO.ite ?_ ?_)
   | (with_reducible refine LeO.bind ?_ (fun _ => ?_))
   | exact ih0 _ _ _ _ _ _ _ _ _ _
   | exact ih1 _ _ _ _ _ _ _ _ _ _ _
   | exact LeO.none _
   | refine LeO.ite ?_ ?_
   | refine LeO.bind ?_ (fun _ => ?_)
def glisterlaw06_Log.T1 : Bool × List (List Nat × List Nat) := (true, [([], []), ([0], [0]), ([1], [1]), ([], []), ([3], [3]), ([], []), ([5], [5]), ([6, 2], [6]), ([2, 4, 7], [2, 4, 7]), ([], []), ([9, 8, 7, 0, 1, 2, 3, 4, 5, 6, 7, 8, 9], [8, 9])])
def glisterlaw06_Log.B1 : List Nat := [0, 1, 3, 0, 8, 0, 32, 103, 255, 0, 1023]
theorem glisterlaw06_Log.tab1 : rtab .any (opsOf Tryz.f20 1) = glisterlaw06_Log.T1 := by kernel_rfl
theorem glisterlaw06_Log.bits1 : waitsOk glisterlaw06_Log.T1.2 glisterlaw06_Log.B1 = true := by kernel_rfl
def glisterlaw06_Log.T6 : Bool × List (List Nat × List Nat) := (true, [([], []), ([0], [0]), ([], []), ([2], [2]), ([], []), ([4], [4]), ([], []), ([6], [6]), ([7], [7]), ([3, 5, 8], [3, 5, 8]), ([9], [9]), ([1, 10, 8], [1, 10]), ([0, 1, 2, 3, 4, 5, 6, 7, 8, 9, 10, 11], []), ([12, 11, 11, 0, 1, 2, 3, 4, 5, 6, 7, 8, 9, 10, 11], [11, 12])])
def glisterlaw06_Log.B6 : List Nat := [0, 1, 0, 4, 0, 16, 0, 64, 192, 508, 1020, 2047, 4095, 8191]
theorem glisterlaw06_Log.tab6 : rtab .any (opsOf Tryz.f20 6) = glisterlaw06_Log.T6 := by kernel_rfl
theorem glisterlaw06_Log.bits6 : waitsOk glisterlaw06_Log.T6.2 glisterlaw06_Log.B6 = true := by kernel_rfl
set_option maxHeartbeats 8000000 in
set_option maxRecDepth 100000 in
theorem glisterlaw06_Log.calls (k : Nat) (A0_0 : Option Addr) (c0_0 : Nat) (l0_0 : List ByteArray) (a0_1 : Int) (A0_2 : Option Addr) (c0_2 : Nat) (l0_2 : List Int) (A0_3 : Option Addr) (c0_3 : Nat) (l0_3 : List (S69)) (A0_4 : Option Addr) (c0_4 : Nat) (l0_4 : List (S61)) (r1 : List ByteArray) (r2 : Int) (r3 : List Int) (r4 : List (S76)) (r5 : List (S75)) (w : World) (hr0_0 : Kd.C Kd.string w A0_0 l0_0.length l0_0) (hc0_0 : l0_0.length ≤ c0_0) (hr0_2 : Kd.C (Kd.int .i64) w A0_2 l0_2.length l0_2) (hc0_2 : l0_2.length ≤ c0_2) (hr0_3 : Kd.C k69 w A0_3 l0_3.length l0_3) (hc0_3 : l0_3.length ≤ c0_3) (hr0_4 : Kd.C k61 w A0_4 l0_4.length l0_4) (hc0_4 : l0_4.length ≤ c0_4) (h : glisterlaw06_Log.f k l0_0 a0_1 l0_2 l0_3 l0_4 = some (r1, r2, r3, r4, r5)) :
  Calls Tryz.prog 20 #[.agg #[.slice A0_0 l0_0.length c0_0, .int .i64 a0_1, .slice A0_2 l0_2.length c0_2, .slice A0_3 l0_3.length c0_3, .slice A0_4 l0_4.length c0_4]] w fun e w' => ∃ v0_ v2_ v3_ v4_ : Value, e = .returned (.agg #[v0_, .int .i64 r2, v2_, v3_, v4_]) ∧ Kd.R Kd.string 9 w' w.heap.size (fun _ => True) v0_ r1 ∧ Kd.R (Kd.int .i64) 3 w' w.heap.size (fun _ => True) v2_ r3 ∧ Kd.S k76 76 w' w.heap.size (fun k_ => some k_ ≠ (v2_ : Value).ownBlock) v3_ r4 ∧ Kd.R k75 75 w' w.heap.size (fun _ => True) v4_ r5 ∧ Below w.heap.size w w' := by
 have hu29 := Tryz.underlying29
 have hu38 := Tryz.underlying38
 have hu24 := Tryz.underlying24
 have hu69 := Tryz.underlying69
 have hu76 := Tryz.underlying76
 have hu61 := Tryz.underlying61
 have hu75 := Tryz.underlying75
 have HR0_0 := Aside0.mk hr0_0
 have HC0_0 := Aside0.mk hc0_0
 clear hr0_0 hc0_0
 have HR0_2 := Aside0.mk hr0_2
 have HC0_2 := Aside0.mk hc0_2
 clear hr0_2 hc0_2
 have HR0_3 := Aside0.mk hr0_3
 have HC0_3 := Aside0.mk hc0_3
 clear hr0_3 hc0_3
 have HR0_4 := Aside0.mk hr0_4
 have HC0_4 := Aside0.mk hc0_4
 clear hr0_4 hc0_4
 have HB := Aside0.mk (Below.refl w.heap.size w)
 have H : ((glisterlaw02_Code.f l0_0).bind fun t204 => ((glisterlaw06_list.f l0_2).bind fun t207 => (glisterlaw06_Log.l0 k 0 l0_0 a0_1 l0_2 l0_3 l0_4 t204 a0_1 t207 ([] : List (S76))))) = some (r1, r2, r3, r4, r5) := h
 clear h
 replace H := Option.bind_eq_some_iff.mp H
 obtain ⟨t204, A20, H⟩ := H
 replace H : ((glisterlaw06_list.f l0_2).bind fun t207 => (glisterlaw06_Log.l0 k 0 l0_0 a0_1 l0_2 l0_3 l0_4 t204 a0_1 t207 ([] : List (S76)))) = some (r1, r2, r3, r4, r5) := H
 have A2 := Aside0.mk A20
 clear A20
 replace H := Option.bind_eq_some_iff.mp H
 obtain ⟨t207, A30, H⟩ := H
 replace H : (glisterlaw06_Log.l0 k 0 l0_0 a0_1 l0_2 l0_3 l0_4 t204 a0_1 t207 ([] : List (S76))) = some (r1, r2, r3, r4, r5) := H
 have A3 := Aside0.mk A30
 clear A30
 have H' := Aside0.mk H
 clear H
 go_enter Tryz.func20, Tryz.ntmps20
 try go_wp2_with (first | ((with_reducible refine gate_dst (N := 1) rfl ?_); refine box_event ?hg (N := 1) ?hd (cs := #[.slice A0_0 l0_0.length c0_0, .int .i64 a0_1, .slice A0_2 l0_2.length c0_2, .slice A0_3 l0_3.length c0_3, .slice A0_4 l0_4.length c0_4]) (t := 29) ?hr ?_; (case hd => rfl); (case hg => rfl); (case hr => first | (go_simp; done) | (go_simp; rfl)); intro gb202 hg w4 hbox hb; have n0_ := Aside0.mk (below_step (by repeat (first | (with_reducible first | exact HB.out | apply below_alloc | apply pw_below_drewN | apply below_drew1) | exact HB.out)) hb); have n1_ := Aside0.mk (hbox); have n2_ := Aside0.mk ((by rw [hg]; exact (below_size (by repeat (first | (with_reducible first | exact HB.out | apply below_alloc | apply pw_below_drewN | apply below_drew1) | exact HB.out))) : w.heap.size ≤ gb202)); have n3_ := Aside0.mk ((by rw [hg]; exact (below_size (by repeat (first | (with_reducible first | exact HB.out | apply below_alloc | apply pw_below_drewN | apply below_drew1) | exact HB.out))) : w.heap.size ≤ gb202)); clear HB; have HB := n0_; have BK202 := n1_; have GW202 := n2_; have GE202 := n3_; clear n0_ n1_ n2_ n3_; clear hb hbox hg) | ((with_reducible refine gate_dst (N := 2) rfl ?_); refine box_event ?hg (N := 2) ?hd (cs := #[.slice none 0 0, .int .i64 0, .slice none 0 0, .slice none 0 0, .slice none 0 0]) (t := 38) ?hr ?_; (case hd => rfl); (case hg => rfl); (case hr => first | (go_simp; done) | (go_simp; rfl)); intro gb203 hg w5 hbox hb; have n0_ := Aside0.mk (blk_below (g := gb202) (o := .cells #[.slice A0_0 l0_0.length c0_0, .int .i64 a0_1, .slice A0_2 l0_2.length c0_2, .slice A0_3 l0_3.length c0_3, .slice A0_4 l0_4.length c0_4] 29 (0, 0)) (by (with_reducible repeat (first | refine blk_drewN ?_ _ | refine blk_drew ?_ | refine blk_alloc ?_ _)); exact BK202.out) hb); have n1_ := Aside0.mk (below_step (by repeat (first | (with_reducible first | exact HB.out | apply below_alloc | apply pw_below_drewN | apply below_drew1 | refine below_set ?_ GE202.out) | exact HB.out)) hb); have n2_ := Aside0.mk (hbox); have n3_ := Aside0.mk ((by rw [hg]; exact (below_size (by repeat (first | (with_reducible first | exact HB.out | apply below_alloc | apply pw_below_drewN | apply below_drew1 | refine below_set ?_ GE202.out) | exact HB.out))) : w.heap.size ≤ gb203)); have n4_ := Aside0.mk ((by rw [hg]; exact (below_size (by repeat (first | (with_reducible first | exact HB.out | apply below_alloc | apply pw_below_drewN | apply below_drew1 | refine below_set ?_ GE202.out) | exact HB.out))) : w.heap.size ≤ gb203)); have n5_ := Aside0.mk ((by rw [hg]; exact Nat.ne_of_lt (blk_lt (g := gb202) (o := .cells #[.slice A0_0 l0_0.length c0_0, .int .i64 a0_1, .slice A0_2 l0_2.length c0_2, .slice A0_3 l0_3.length c0_3, .slice A0_4 l0_4.length c0_4] 29 (0, 0)) (by (with_reducible repeat (first | refine blk_drewN ?_ _ | refine blk_drew ?_ | refine blk_alloc ?_ _)); exact BK202.out)) : gb202 ≠ gb203)); have n6_ := Aside0.mk ((by rw [hg]; exact Nat.ne_of_gt (blk_lt (g := gb202) (o := .cells #[.slice A0_0 l0_0.length c0_0, .int .i64 a0_1, .slice A0_2 l0_2.length c0_2, .slice A0_3 l0_3.length c0_3, .slice A0_4 l0_4.length c0_4] 29 (0, 0)) (by (with_reducible repeat (first | refine blk_drewN ?_ _ | refine blk_drew ?_ | refine blk_alloc ?_ _)); exact BK202.out)) : gb203 ≠ gb202)); clear BK202; clear HB; have BK202 := n0_; have HB := n1_; have BK203 := n2_; have GW203 := n3_; have GE203 := n4_; have NB202_203 := n5_; have NB203_202 := n6_; clear n0_ n1_ n2_ n3_ n4_ n5_ n6_; clear hb hbox hg))
 have n0_ := Aside0.mk (blk_drew BK202.out)
 have n1_ := Aside0.mk (blk_drew BK203.out)
 have n2_ := Aside0.mk (below_drew1 HB.out)
 clear BK202
 clear BK203
 clear HB
 have BK202 := n0_
 have BK203 := n1_
 have HB := n2_
 clear n0_ n1_ n2_
 refine start_ (n := 11) (S := fun w' => w'.cell? ⟨gb202, 0, none⟩ = some (.slice A0_0 l0_0.length c0_0) ∧ w'.cell? ⟨gb202, 1, none⟩ = some (.int .i64 a0_1) ∧ w'.cell? ⟨gb202, 2, none⟩ = some (.slice A0_2 l0_2.length c0_2) ∧ w'.cell? ⟨gb202, 3, none⟩ = some (.slice A0_3 l0_3.length c0_3) ∧ w'.cell? ⟨gb202, 4, none⟩ = some (.slice A0_4 l0_4.length c0_4)) (ds := []) #[false, false, false, false, false, false, false, false, false, false, false] (by kernel_rfl) rfl rfl ⟨(blk_cell BK202.out 0).trans rfl, (blk_cell BK202.out 1).trans rfl, (blk_cell BK202.out 2).trans rfl, (blk_cell BK202.out 3).trans rfl, (blk_cell BK202.out 4).trans rfl⟩ (fun hHeld => ?_); refine with_tabW glisterlaw06_Log.tab1 glisterlaw06_Log.bits1 (fun HT_ HW_ => ?_)
 generalize w5.drew = w6 at BK202 BK203 HB hHeld ⊢
 refine pure_ (i := 0) (N := some 8) (v := ?_) (a' := ?_) #[true, false, false, false, false, false, false, false, false, false, false] rfl rfl (any_of HT_.out (by kernel_rfl)) (fun _ _ _ h => h) (Or.inl ⟨by rfl, ?_⟩) ?_ ?_
 rotate_left
 ·intro w'
  go_simp
  with_reducible rfl
 rotate_left
 ·simp only [Act.put, List.setIfInBounds_toArray, List.set_cons_zero, List.set_cons_succ, i64_w, i32_w]
  rfl
 refine pure_ (i := 3) (N := some 11) (v := ?_) (a' := ?_) #[true, false, false, true, false, false, false, false, false, false, false] rfl rfl (any_of HT_.out (by kernel_rfl)) (fun _ _ _ h => h) (Or.inl ⟨by rfl, ?_⟩) ?_ ?_
 rotate_left
 ·intro w'
  go_simp
  with_reducible rfl
 rotate_left
 ·simp only [Act.put, List.setIfInBounds_toArray, List.set_cons_zero, List.set_cons_succ, i64_w, i32_w]
  rfl
 refine pure_ (i := 5) (N := some 13) (v := ?_) (a' := ?_) #[true, false, false, true, false, true, false, false, false, false, false] rfl rfl (any_of HT_.out (by kernel_rfl)) (fun _ _ _ h => h) (Or.inl ⟨by rfl, ?_⟩) ?_ ?_
 rotate_left
 ·intro w'
  go_simp
  with_reducible rfl
 rotate_left
 ·simp only [Act.put, List.setIfInBounds_toArray, List.set_cons_zero, List.set_cons_succ, i64_w, i32_w]
  rfl
 refine take_ (i := 1) (N := some 9) (v := ?_) (a' := ?_) #[true, true, false, true, false, true, false, false, false, false, false] rfl rfl (take_ofW HT_.out HW_.out (by kernel_rfl)) (fun _ _ _ h => h) (Or.inl ⟨by rfl, ?_⟩) hHeld ?_ ?_
 rotate_left
 ·rintro w' ⟨s0, s1, s2, s3, s4⟩
  go_simp
  with_reducible rfl
 rotate_left
 ·simp only [Act.put, List.setIfInBounds_toArray, List.set_cons_zero, List.set_cons_succ, i64_w, i32_w]
  rfl
 refine take_ (i := 4) (N := some 12) (v := ?_) (a' := ?_) #[true, true, false, true, true, true, false, false, false, false, false] rfl rfl (take_ofW HT_.out HW_.out (by kernel_rfl)) (fun _ _ _ h => h) (Or.inl ⟨by rfl, ?_⟩) hHeld ?_ ?_
 rotate_left
 ·rintro w' ⟨s0, s1, s2, s3, s4⟩
  go_simp
  with_reducible rfl
 rotate_left
 ·simp only [Act.put, List.setIfInBounds_toArray, List.set_cons_zero, List.set_cons_succ, i64_w, i32_w]
  rfl
 refine take_ (i := 6) (N := some 14) (v := ?_) (a' := ?_) #[true, true, false, true, true, true, true, false, false, false, false] rfl rfl (take_ofW HT_.out HW_.out (by kernel_rfl)) (fun _ _ _ h => h) (Or.inl ⟨by rfl, ?_⟩) hHeld ?_ ?_
 rotate_left
 ·rintro w' ⟨s0, s1, s2, s3, s4⟩
  go_simp
  with_reducible rfl
 rotate_left
 ·simp only [Act.put, List.setIfInBounds_toArray, List.set_cons_zero, List.set_cons_succ, i64_w, i32_w]
  rfl
 refine join_ (σ := Value × Value × Nat) 1 #[true, true, true, true, true, true, true, true, true, true, false] (fun s_ => [(10, .agg #[s_.1]), (15, s_.2.1), (3, .pointer (some ⟨s_.2.2, 0, none⟩)), (16, .agg #[s_.1, .int .i64 a0_1, s_.2.1, .slice none 0 0, .slice none 0 0])]) (fun s_ w' => (w'.cell? ⟨gb202, 0, none⟩ = some (.slice A0_0 l0_0.length c0_0) ∧ w'.cell? ⟨gb202, 1, none⟩ = some (.int .i64 a0_1) ∧ w'.cell? ⟨gb202, 2, none⟩ = some (.slice A0_2 l0_2.length c0_2) ∧ w'.cell? ⟨gb202, 3, none⟩ = some (.slice A0_3 l0_3.length c0_3) ∧ w'.cell? ⟨gb202, 4, none⟩ = some (.slice A0_4 l0_4.length c0_4)) ∧ (Kd.R Kd.string 9 w' w.heap.size (fun _ => True) s_.1 t204) ∧ (Kd.R (Kd.int .i64) 3 w' w.heap.size (fun _ => True) s_.2.1 t207) ∧ (w'.heap[gb202]? = some (.cells #[.slice A0_0 l0_0.length c0_0, .int .i64 a0_1, .slice A0_2 l0_2.length c0_2, .slice A0_3 l0_3.length c0_3, .slice A0_4 l0_4.length c0_4] 29 (0, 0))) ∧ (w'.heap[gb203]? = some (.cells #[.slice none 0 0, .int .i64 0, .slice none 0 0, .slice none 0 0, .slice none 0 0] 38 (0, 0))) ∧ (w'.heap[s_.2.2]? = some (.cells #[.slice none 0 0, .int .i64 0, .slice none 0 0, .slice none 0 0, .slice none 0 0] 38 (0, 0))) ∧ (w.heap.size ≤ s_.2.2) ∧ (w.heap.size ≤ s_.2.2) ∧ (gb202 ≠ s_.2.2) ∧ (s_.2.2 ≠ gb202) ∧ (gb203 ≠ s_.2.2) ∧ (s_.2.2 ≠ gb203) ∧ (Below w.heap.size w w')) ?_ ?_
 rotate_left
 ·intro hCont
  refine two_ (i := 2) (j := 9) (Ni := some 10) (Nj := some 3) #[true, true, true, true, true, true, true, false, false, false, false] #[true, true, false, true, true, true, true, false, false, true, false] rfl rfl rfl rfl (two_of HT_.out (by kernel_rfl)) (by decide) (by decide) (fun K hK => ?_) (fun K hK => ?_)
  ·skip
   refine goes_ Tryz.func63 (by kernel_rfl) rfl #[.agg #[.slice A0_0 l0_0.length c0_0]] (by rfl) rfl rfl (by (try simp only [List.map_toArray, List.map_cons, List.map_nil]); first | done | rfl | (simp only [List.length_drop, List.length_take]; rfl)) ?_
   with_reducible refine (glisterlaw02_Code.calls _ _ l0_0 t204 _ ?side1 ?side2 A2.out).mono ?_
   (case side1 => repeat (first | exact (Kd.C_below HR0_0.out HB.out) | (with_reducible refine Kd.C_alloc ?_ _) | (with_reducible refine Kd.C_drewN ?_ _) | (with_reducible refine Kd.C_drew ?_)))
   (case side2 => exact HC0_0.out)
   rintro e w7 ⟨v205, rfl, ho0, hb⟩
   refine ⟨_, rfl, ?_⟩
   have n0_ := Aside0.mk (Kd.R_lower ho0 (below_size (by repeat (first | (with_reducible first | exact HB.out | apply below_alloc | apply pw_below_drewN | apply below_drew1 | refine below_set ?_ GE202.out | refine below_set ?_ GE203.out) | exact HB.out))))
   have n1_ := Aside0.mk (blk_below (g := gb202) (o := .cells #[.slice A0_0 l0_0.length c0_0, .int .i64 a0_1, .slice A0_2 l0_2.length c0_2, .slice A0_3 l0_3.length c0_3, .slice A0_4 l0_4.length c0_4] 29 (0, 0)) (by (with_reducible repeat (first | refine blk_drewN ?_ _ | refine blk_drew ?_ | refine blk_alloc ?_ _)); exact BK202.out) hb)
   have n2_ := Aside0.mk (blk_below (g := gb203) (o := .cells #[.slice none 0 0, .int .i64 0, .slice none 0 0, .slice none 0 0, .slice none 0 0] 38 (0, 0)) (by (with_reducible repeat (first | refine blk_drewN ?_ _ | refine blk_drew ?_ | refine blk_alloc ?_ _)); exact BK203.out) hb)
   have n3_ := Aside0.mk (below_step (by repeat (first | (with_reducible first | exact HB.out | apply below_alloc | apply pw_below_drewN | apply below_drew1 | refine below_set ?_ GE202.out | refine below_set ?_ GE203.out) | exact HB.out)) hb)
   clear BK202
   clear BK203
   clear HB
   have HO206 := n0_
   have BK202 := n1_
   have BK203 := n2_
   have HB := n3_
   clear n0_ n1_ n2_ n3_
   (try clear hb)
   (try clear hb2)
   (try clear hk)
   (try clear hi)
   (try clear ho0)
   refine hK.out _ _ ⟨(blk_cell BK202.out 0).trans rfl, (blk_cell BK202.out 1).trans rfl, (blk_cell BK202.out 2).trans rfl, (blk_cell BK202.out 3).trans rfl, (blk_cell BK202.out 4).trans rfl⟩ (fun hHeld => ?_)
   clear hK K
   refine norm_ (a' := ?_) ?_ ?_
   rotate_left
   ·show Act.put _ (some 10) _ = _
    simp only [Act.put, List.setIfInBounds_toArray, List.set_cons_zero, List.set_cons_succ, i64_w, i32_w]
    rfl
   refine two_ (i := 7) (j := 9) (Ni := some 15) (Nj := some 3) #[true, true, true, true, true, true, true, true, false, false, false] #[true, true, true, true, true, true, true, false, false, true, false] rfl rfl rfl rfl (two_of HT_.out (by kernel_rfl)) (by decide) (by decide) (fun K hK => ?_) (fun K hK => ?_)
   ·skip
    refine goes_ Tryz.func39 (by kernel_rfl) rfl #[.slice A0_2 l0_2.length c0_2] (by rfl) rfl rfl (by (try simp only [List.map_toArray, List.map_cons, List.map_nil]); first | done | rfl | (simp only [List.length_drop, List.length_take]; rfl)) ?_
    with_reducible refine (glisterlaw06_list.calls _ _ l0_2 t207 _ ?side1 ?side2 A3.out).mono ?_
    (case side1 => repeat (first | exact (Kd.C_below HR0_2.out HB.out) | (with_reducible refine Kd.C_alloc ?_ _) | (with_reducible refine Kd.C_drewN ?_ _) | (with_reducible refine Kd.C_drew ?_)))
    (case side2 => exact HC0_2.out)
    rintro e w8 ⟨v208, rfl, ho0, hb⟩
    refine ⟨_, rfl, ?_⟩
    have n0_ := Aside0.mk (Kd.R_below (by (with_reducible repeat (first | apply Kd.R_alloc | apply Kd.R_drewN | apply Kd.R_drew)); exact HO206.out) hb)
    have n1_ := Aside0.mk (Kd.R_lower ho0 (below_size (by repeat (first | (with_reducible first | exact HB.out | apply below_alloc | apply pw_below_drewN | apply below_drew1 | refine below_set ?_ GE202.out | refine below_set ?_ GE203.out) | exact HB.out))))
    have n2_ := Aside0.mk (blk_below (g := gb202) (o := .cells #[.slice A0_0 l0_0.length c0_0, .int .i64 a0_1, .slice A0_2 l0_2.length c0_2, .slice A0_3 l0_3.length c0_3, .slice A0_4 l0_4.length c0_4] 29 (0, 0)) (by (with_reducible repeat (first | refine blk_drewN ?_ _ | refine blk_drew ?_ | refine blk_alloc ?_ _)); exact BK202.out) hb)
    have n3_ := Aside0.mk (blk_below (g := gb203) (o := .cells #[.slice none 0 0, .int .i64 0, .slice none 0 0, .slice none 0 0, .slice none 0 0] 38 (0, 0)) (by (with_reducible repeat (first | refine blk_drewN ?_ _ | refine blk_drew ?_ | refine blk_alloc ?_ _)); exact BK203.out) hb)
    have n4_ := Aside0.mk (below_step (by repeat (first | (with_reducible first | exact HB.out | apply below_alloc | apply pw_below_drewN | apply below_drew1 | refine below_set ?_ GE202.out | refine below_set ?_ GE203.out) | exact HB.out)) hb)
    clear HO206
    clear BK202
    clear BK203
    clear HB
    have HO206 := n0_
    have HO209 := n1_
    have BK202 := n2_
    have BK203 := n3_
    have HB := n4_
    clear n0_ n1_ n2_ n3_ n4_
    (try clear hb)
    (try clear hb2)
    (try clear hk)
    (try clear hi)
    (try clear ho0)
    obtain ⟨Ao9, co9, eo9⟩ := Kd.R_slice HO209.out
    (first | subst eo9 | (injection eo9 with f1_ f2_ f3_; have f4_ := f1_.symm; have f5_ := f3_.symm; clear f1_ f2_ f3_; subst f4_; subst f5_))
    obtain ⟨Ao10, co10, eo10⟩ := Kd.R_slice HO206.out
    (first | subst eo10 | (injection eo10 with f1_ f2_ f3_; have f4_ := f1_.symm; have f5_ := f3_.symm; clear f1_ f2_ f3_; subst f4_; subst f5_))
    refine hK.out _ _ ⟨(blk_cell BK202.out 0).trans rfl, (blk_cell BK202.out 1).trans rfl, (blk_cell BK202.out 2).trans rfl, (blk_cell BK202.out 3).trans rfl, (blk_cell BK202.out 4).trans rfl⟩ (fun hHeld => ?_)
    clear hK K
    refine norm_ (a' := ?_) ?_ ?_
    rotate_left
    ·show Act.put _ (some 15) _ = _
     simp only [Act.put, List.setIfInBounds_toArray, List.set_cons_zero, List.set_cons_succ, i64_w, i32_w]
     rfl
    refine pure_ (i := 8) (N := some 16) (v := ?_) (a' := ?_) #[true, true, true, true, true, true, true, true, true, false, false] rfl rfl (any_of HT_.out (by kernel_rfl)) (fun _ _ _ h => h) (Or.inl ⟨by rfl, ?_⟩) ?_ ?_
    rotate_left
    ·intro w'
     go_simp
     with_reducible rfl
    rotate_left
    ·simp only [Act.put, List.setIfInBounds_toArray, List.set_cons_zero, List.set_cons_succ, i64_w, i32_w]
     rfl
    refine one_ (i := 9) (N := some 3) #[true, true, true, true, true, true, true, true, true, true, false] rfl rfl (one_of HT_.out (by kernel_rfl)) (by decide) (fun K hK => ?_)
    refine box_step ?hg (N := 3) ?hd (cs := #[.slice none 0 0, .int .i64 0, .slice none 0 0, .slice none 0 0, .slice none 0 0]) (t := 38) ?hr ?_; (case hd => rfl); (case hg => rfl); (case hr => first | (go_simp; done) | (go_simp; rfl))
    intro gb210 hg w11 hbox hb
    have n0_ := Aside0.mk (Kd.R_below (by (with_reducible repeat (first | apply Kd.R_alloc | apply Kd.R_drewN | apply Kd.R_drew)); exact HO206.out) hb)
    have n1_ := Aside0.mk (Kd.R_below (by (with_reducible repeat (first | apply Kd.R_alloc | apply Kd.R_drewN | apply Kd.R_drew)); exact HO209.out) hb)
    have n2_ := Aside0.mk (blk_below (g := gb202) (o := .cells #[.slice A0_0 l0_0.length c0_0, .int .i64 a0_1, .slice A0_2 l0_2.length c0_2, .slice A0_3 l0_3.length c0_3, .slice A0_4 l0_4.length c0_4] 29 (0, 0)) (by (with_reducible repeat (first | refine blk_drewN ?_ _ | refine blk_drew ?_ | refine blk_alloc ?_ _)); exact BK202.out) hb)
    have n3_ := Aside0.mk (blk_below (g := gb203) (o := .cells #[.slice none 0 0, .int .i64 0, .slice none 0 0, .slice none 0 0, .slice none 0 0] 38 (0, 0)) (by (with_reducible repeat (first | refine blk_drewN ?_ _ | refine blk_drew ?_ | refine blk_alloc ?_ _)); exact BK203.out) hb)
    have n4_ := Aside0.mk (below_step (by repeat (first | (with_reducible first | exact HB.out | apply below_alloc | apply pw_below_drewN | apply below_drew1 | refine below_set ?_ GE202.out | refine below_set ?_ GE203.out) | exact HB.out)) hb)
    have n5_ := Aside0.mk (hbox)
    have n6_ := Aside0.mk ((by rw [hg]; exact (below_size (by repeat (first | (with_reducible first | exact HB.out | apply below_alloc | apply pw_below_drewN | apply below_drew1 | refine below_set ?_ GE202.out | refine below_set ?_ GE203.out) | exact HB.out))) : w.heap.size ≤ gb210))
    have n7_ := Aside0.mk ((by rw [hg]; exact (below_size (by repeat (first | (with_reducible first | exact HB.out | apply below_alloc | apply pw_below_drewN | apply below_drew1 | refine below_set ?_ GE202.out | refine below_set ?_ GE203.out) | exact HB.out))) : w.heap.size ≤ gb210))
    have n8_ := Aside0.mk ((by rw [hg]; exact Nat.ne_of_lt (blk_lt (g := gb202) (o := .cells #[.slice A0_0 l0_0.length c0_0, .int .i64 a0_1, .slice A0_2 l0_2.length c0_2, .slice A0_3 l0_3.length c0_3, .slice A0_4 l0_4.length c0_4] 29 (0, 0)) (by (with_reducible repeat (first | refine blk_drewN ?_ _ | refine blk_drew ?_ | refine blk_alloc ?_ _)); exact BK202.out)) : gb202 ≠ gb210))
    have n9_ := Aside0.mk ((by rw [hg]; exact Nat.ne_of_gt (blk_lt (g := gb202) (o := .cells #[.slice A0_0 l0_0.length c0_0, .int .i64 a0_1, .slice A0_2 l0_2.length c0_2, .slice A0_3 l0_3.length c0_3, .slice A0_4 l0_4.length c0_4] 29 (0, 0)) (by (with_reducible repeat (first | refine blk_drewN ?_ _ | refine blk_drew ?_ | refine blk_alloc ?_ _)); exact BK202.out)) : gb210 ≠ gb202))
    have n10_ := Aside0.mk ((by rw [hg]; exact Nat.ne_of_lt (blk_lt (g := gb203) (o := .cells #[.slice none 0 0, .int .i64 0, .slice none 0 0, .slice none 0 0, .slice none 0 0] 38 (0, 0)) (by (with_reducible repeat (first | refine blk_drewN ?_ _ | refine blk_drew ?_ | refine blk_alloc ?_ _)); exact BK203.out)) : gb203 ≠ gb210))
    have n11_ := Aside0.mk ((by rw [hg]; exact Nat.ne_of_gt (blk_lt (g := gb203) (o := .cells #[.slice none 0 0, .int .i64 0, .slice none 0 0, .slice none 0 0, .slice none 0 0] 38 (0, 0)) (by (with_reducible repeat (first | refine blk_drewN ?_ _ | refine blk_drew ?_ | refine blk_alloc ?_ _)); exact BK203.out)) : gb210 ≠ gb203))
    clear HO206
    clear HO209
    clear BK202
    clear BK203
    clear HB
    have HO206 := n0_
    have HO209 := n1_
    have BK202 := n2_
    have BK203 := n3_
    have HB := n4_
    have BK210 := n5_
    have GW210 := n6_
    have GE210 := n7_
    have NB202_210 := n8_
    have NB210_202 := n9_
    have NB203_210 := n10_
    have NB210_203 := n11_
    clear n0_ n1_ n2_ n3_ n4_ n5_ n6_ n7_ n8_ n9_ n10_ n11_
    clear hb hbox hg
    refine hK.out _ _ ⟨(blk_cell BK202.out 0).trans rfl, (blk_cell BK202.out 1).trans rfl, (blk_cell BK202.out 2).trans rfl, (blk_cell BK202.out 3).trans rfl, (blk_cell BK202.out 4).trans rfl⟩ (fun hHeld => ?_)
    clear hK K
    refine norm_ (a' := ?_) ?_ ?_
    rotate_left
    ·show Act.put _ (some 3) _ = _
     simp only [Act.put, List.setIfInBounds_toArray, List.set_cons_zero, List.set_cons_succ, i64_w, i32_w]
     rfl
    exact norm_ (by simp only [putAll, Act.put, List.setIfInBounds_toArray, List.set_cons_zero, List.set_cons_succ]) (hCont (.slice Ao10 t204.length co10, .slice Ao9 t207.length co9, gb210) _ ⟨hHeld, (by (with_reducible repeat (first | apply Kd.R_alloc | apply Kd.R_drewN | apply Kd.R_drew)); exact HO206.out), (by (with_reducible repeat (first | apply Kd.R_alloc | apply Kd.R_drewN | apply Kd.R_drew)); exact HO209.out), (by (with_reducible repeat (first | refine blk_drewN ?_ _ | refine blk_drew ?_ | refine blk_alloc ?_ _)); exact BK202.out), (by (with_reducible repeat (first | refine blk_drewN ?_ _ | refine blk_drew ?_ | refine blk_alloc ?_ _)); exact BK203.out), (by (with_reducible repeat (first | refine blk_drewN ?_ _ | refine blk_drew ?_ | refine blk_alloc ?_ _)); exact BK210.out), GW210.out, GE210.out, NB202_210.out, NB210_202.out, NB203_210.out, NB210_203.out, (by repeat (first | (with_reducible first | exact HB.out | apply below_alloc | apply pw_below_drewN | apply below_drew1 | refine below_set ?_ GE202.out | refine below_set ?_ GE203.out | refine below_set ?_ GE210.out) | exact HB.out))⟩)
   ·skip
    refine box_step ?hg (N := 3) ?hd (cs := #[.slice none 0 0, .int .i64 0, .slice none 0 0, .slice none 0 0, .slice none 0 0]) (t := 38) ?hr ?_; (case hd => rfl); (case hg => rfl); (case hr => first | (go_simp; done) | (go_simp; rfl))
    intro gb210 hg w8 hbox hb
    have n0_ := Aside0.mk (Kd.R_below (by (with_reducible repeat (first | apply Kd.R_alloc | apply Kd.R_drewN | apply Kd.R_drew)); exact HO206.out) hb)
    have n1_ := Aside0.mk (blk_below (g := gb202) (o := .cells #[.slice A0_0 l0_0.length c0_0, .int .i64 a0_1, .slice A0_2 l0_2.length c0_2, .slice A0_3 l0_3.length c0_3, .slice A0_4 l0_4.length c0_4] 29 (0, 0)) (by (with_reducible repeat (first | refine blk_drewN ?_ _ | refine blk_drew ?_ | refine blk_alloc ?_ _)); exact BK202.out) hb)
    have n2_ := Aside0.mk (blk_below (g := gb203) (o := .cells #[.slice none 0 0, .int .i64 0, .slice none 0 0, .slice none 0 0, .slice none 0 0] 38 (0, 0)) (by (with_reducible repeat (first | refine blk_drewN ?_ _ | refine blk_drew ?_ | refine blk_alloc ?_ _)); exact BK203.out) hb)
    have n3_ := Aside0.mk (below_step (by repeat (first | (with_reducible first | exact HB.out | apply below_alloc | apply pw_below_drewN | apply below_drew1 | refine below_set ?_ GE202.out | refine below_set ?_ GE203.out) | exact HB.out)) hb)
    have n4_ := Aside0.mk (hbox)
    have n5_ := Aside0.mk ((by rw [hg]; exact (below_size (by repeat (first | (with_reducible first | exact HB.out | apply below_alloc | apply pw_below_drewN | apply below_drew1 | refine below_set ?_ GE202.out | refine below_set ?_ GE203.out) | exact HB.out))) : w.heap.size ≤ gb210))
    have n6_ := Aside0.mk ((by rw [hg]; exact (below_size (by repeat (first | (with_reducible first | exact HB.out | apply below_alloc | apply pw_below_drewN | apply below_drew1 | refine below_set ?_ GE202.out | refine below_set ?_ GE203.out) | exact HB.out))) : w.heap.size ≤ gb210))
    have n7_ := Aside0.mk ((by rw [hg]; exact Nat.ne_of_lt (blk_lt (g := gb202) (o := .cells #[.slice A0_0 l0_0.length c0_0, .int .i64 a0_1, .slice A0_2 l0_2.length c0_2, .slice A0_3 l0_3.length c0_3, .slice A0_4 l0_4.length c0_4] 29 (0, 0)) (by (with_reducible repeat (first | refine blk_drewN ?_ _ | refine blk_drew ?_ | refine blk_alloc ?_ _)); exact BK202.out)) : gb202 ≠ gb210))
    have n8_ := Aside0.mk ((by rw [hg]; exact Nat.ne_of_gt (blk_lt (g := gb202) (o := .cells #[.slice A0_0 l0_0.length c0_0, .int .i64 a0_1, .slice A0_2 l0_2.length c0_2, .slice A0_3 l0_3.length c0_3, .slice A0_4 l0_4.length c0_4] 29 (0, 0)) (by (with_reducible repeat (first | refine blk_drewN ?_ _ | refine blk_drew ?_ | refine blk_alloc ?_ _)); exact BK202.out)) : gb210 ≠ gb202))
    have n9_ := Aside0.mk ((by rw [hg]; exact Nat.ne_of_lt (blk_lt (g := gb203) (o := .cells #[.slice none 0 0, .int .i64 0, .slice none 0 0, .slice none 0 0, .slice none 0 0] 38 (0, 0)) (by (with_reducible repeat (first | refine blk_drewN ?_ _ | refine blk_drew ?_ | refine blk_alloc ?_ _)); exact BK203.out)) : gb203 ≠ gb210))
    have n10_ := Aside0.mk ((by rw [hg]; exact Nat.ne_of_gt (blk_lt (g := gb203) (o := .cells #[.slice none 0 0, .int .i64 0, .slice none 0 0, .slice none 0 0, .slice none 0 0] 38 (0, 0)) (by (with_reducible repeat (first | refine blk_drewN ?_ _ | refine blk_drew ?_ | refine blk_alloc ?_ _)); exact BK203.out)) : gb210 ≠ gb203))
    clear HO206
    clear BK202
    clear BK203
    clear HB
    have HO206 := n0_
    have BK202 := n1_
    have BK203 := n2_
    have HB := n3_
    have BK210 := n4_
    have GW210 := n5_
    have GE210 := n6_
    have NB202_210 := n7_
    have NB210_202 := n8_
    have NB203_210 := n9_
    have NB210_203 := n10_
    clear n0_ n1_ n2_ n3_ n4_ n5_ n6_ n7_ n8_ n9_ n10_
    clear hb hbox hg
    refine hK.out _ _ ⟨(blk_cell BK202.out 0).trans rfl, (blk_cell BK202.out 1).trans rfl, (blk_cell BK202.out 2).trans rfl, (blk_cell BK202.out 3).trans rfl, (blk_cell BK202.out 4).trans rfl⟩ (fun hHeld => ?_)
    clear hK K
    refine norm_ (a' := ?_) ?_ ?_
    rotate_left
    ·show Act.put _ (some 3) _ = _
     simp only [Act.put, List.setIfInBounds_toArray, List.set_cons_zero, List.set_cons_succ, i64_w, i32_w]
     rfl
    refine one_ (i := 7) (N := some 15) #[true, true, true, true, true, true, true, true, false, true, false] rfl rfl (one_of HT_.out (by kernel_rfl)) (by decide) (fun K hK => ?_)
    refine goes_ Tryz.func39 (by kernel_rfl) rfl #[.slice A0_2 l0_2.length c0_2] (by rfl) rfl rfl (by (try simp only [List.map_toArray, List.map_cons, List.map_nil]); first | done | rfl | (simp only [List.length_drop, List.length_take]; rfl)) ?_
    with_reducible refine (glisterlaw06_list.calls _ _ l0_2 t207 _ ?side1 ?side2 A3.out).mono ?_
    (case side1 => repeat (first | exact (Kd.C_below HR0_2.out HB.out) | (with_reducible refine Kd.C_alloc ?_ _) | (with_reducible refine Kd.C_drewN ?_ _) | (with_reducible refine Kd.C_drew ?_)))
    (case side2 => exact HC0_2.out)
    rintro e w9 ⟨v208, rfl, ho0, hb⟩
    refine ⟨_, rfl, ?_⟩
    have n0_ := Aside0.mk (Kd.R_below (by (with_reducible repeat (first | apply Kd.R_alloc | apply Kd.R_drewN | apply Kd.R_drew)); exact HO206.out) hb)
    have n1_ := Aside0.mk (Kd.R_lower ho0 (below_size (by repeat (first | (with_reducible first | exact HB.out | apply below_alloc | apply pw_below_drewN | apply below_drew1 | refine below_set ?_ GE202.out | refine below_set ?_ GE203.out | refine below_set ?_ GE210.out) | exact HB.out))))
    have n2_ := Aside0.mk (blk_below (g := gb202) (o := .cells #[.slice A0_0 l0_0.length c0_0, .int .i64 a0_1, .slice A0_2 l0_2.length c0_2, .slice A0_3 l0_3.length c0_3, .slice A0_4 l0_4.length c0_4] 29 (0, 0)) (by (with_reducible repeat (first | refine blk_drewN ?_ _ | refine blk_drew ?_ | refine blk_alloc ?_ _)); exact BK202.out) hb)
    have n3_ := Aside0.mk (blk_below (g := gb203) (o := .cells #[.slice none 0 0, .int .i64 0, .slice none 0 0, .slice none 0 0, .slice none 0 0] 38 (0, 0)) (by (with_reducible repeat (first | refine blk_drewN ?_ _ | refine blk_drew ?_ | refine blk_alloc ?_ _)); exact BK203.out) hb)
    have n4_ := Aside0.mk (blk_below (g := gb210) (o := .cells #[.slice none 0 0, .int .i64 0, .slice none 0 0, .slice none 0 0, .slice none 0 0] 38 (0, 0)) (by (with_reducible repeat (first | refine blk_drewN ?_ _ | refine blk_drew ?_ | refine blk_alloc ?_ _)); exact BK210.out) hb)
    have n5_ := Aside0.mk (below_step (by repeat (first | (with_reducible first | exact HB.out | apply below_alloc | apply pw_below_drewN | apply below_drew1 | refine below_set ?_ GE202.out | refine below_set ?_ GE203.out | refine below_set ?_ GE210.out) | exact HB.out)) hb)
    clear HO206
    clear BK202
    clear BK203
    clear BK210
    clear HB
    have HO206 := n0_
    have HO209 := n1_
    have BK202 := n2_
    have BK203 := n3_
    have BK210 := n4_
    have HB := n5_
    clear n0_ n1_ n2_ n3_ n4_ n5_
    (try clear hb)
    (try clear hb2)
    (try clear hk)
    (try clear hi)
    (try clear ho0)
    obtain ⟨Ao10, co10, eo10⟩ := Kd.R_slice HO209.out
    (first | subst eo10 | (injection eo10 with f1_ f2_ f3_; have f4_ := f1_.symm; have f5_ := f3_.symm; clear f1_ f2_ f3_; subst f4_; subst f5_))
    obtain ⟨Ao11, co11, eo11⟩ := Kd.R_slice HO206.out
    (first | subst eo11 | (injection eo11 with f1_ f2_ f3_; have f4_ := f1_.symm; have f5_ := f3_.symm; clear f1_ f2_ f3_; subst f4_; subst f5_))
    refine hK.out _ _ ⟨(blk_cell BK202.out 0).trans rfl, (blk_cell BK202.out 1).trans rfl, (blk_cell BK202.out 2).trans rfl, (blk_cell BK202.out 3).trans rfl, (blk_cell BK202.out 4).trans rfl⟩ (fun hHeld => ?_)
    clear hK K
    refine norm_ (a' := ?_) ?_ ?_
    rotate_left
    ·show Act.put _ (some 15) _ = _
     simp only [Act.put, List.setIfInBounds_toArray, List.set_cons_zero, List.set_cons_succ, i64_w, i32_w]
     rfl
    refine pure_ (i := 8) (N := some 16) (v := ?_) (a' := ?_) #[true, true, true, true, true, true, true, true, true, true, false] rfl rfl (any_of HT_.out (by kernel_rfl)) (fun _ _ _ h => h) (Or.inl ⟨by rfl, ?_⟩) ?_ ?_
    rotate_left
    ·intro w'
     go_simp
     with_reducible rfl
    rotate_left
    ·simp only [Act.put, List.setIfInBounds_toArray, List.set_cons_zero, List.set_cons_succ, i64_w, i32_w]
     rfl
    exact norm_ (by simp only [putAll, Act.put, List.setIfInBounds_toArray, List.set_cons_zero, List.set_cons_succ]) (hCont (.slice Ao11 t204.length co11, .slice Ao10 t207.length co10, gb210) _ ⟨hHeld, (by (with_reducible repeat (first | apply Kd.R_alloc | apply Kd.R_drewN | apply Kd.R_drew)); exact HO206.out), (by (with_reducible repeat (first | apply Kd.R_alloc | apply Kd.R_drewN | apply Kd.R_drew)); exact HO209.out), (by (with_reducible repeat (first | refine blk_drewN ?_ _ | refine blk_drew ?_ | refine blk_alloc ?_ _)); exact BK202.out), (by (with_reducible repeat (first | refine blk_drewN ?_ _ | refine blk_drew ?_ | refine blk_alloc ?_ _)); exact BK203.out), (by (with_reducible repeat (first | refine blk_drewN ?_ _ | refine blk_drew ?_ | refine blk_alloc ?_ _)); exact BK210.out), GW210.out, GE210.out, NB202_210.out, NB210_202.out, NB203_210.out, NB210_203.out, (by repeat (first | (with_reducible first | exact HB.out | apply below_alloc | apply pw_below_drewN | apply below_drew1 | refine below_set ?_ GE202.out | refine below_set ?_ GE203.out | refine below_set ?_ GE210.out) | exact HB.out))⟩)
  ·skip
   refine box_step ?hg (N := 3) ?hd (cs := #[.slice none 0 0, .int .i64 0, .slice none 0 0, .slice none 0 0, .slice none 0 0]) (t := 38) ?hr ?_; (case hd => rfl); (case hg => rfl); (case hr => first | (go_simp; done) | (go_simp; rfl))
   intro gb210 hg w7 hbox hb
   have n0_ := Aside0.mk (blk_below (g := gb202) (o := .cells #[.slice A0_0 l0_0.length c0_0, .int .i64 a0_1, .slice A0_2 l0_2.length c0_2, .slice A0_3 l0_3.length c0_3, .slice A0_4 l0_4.length c0_4] 29 (0, 0)) (by (with_reducible repeat (first | refine blk_drewN ?_ _ | refine blk_drew ?_ | refine blk_alloc ?_ _)); exact BK202.out) hb)
   have n1_ := Aside0.mk (blk_below (g := gb203) (o := .cells #[.slice none 0 0, .int .i64 0, .slice none 0 0, .slice none 0 0, .slice none 0 0] 38 (0, 0)) (by (with_reducible repeat (first | refine blk_drewN ?_ _ | refine blk_drew ?_ | refine blk_alloc ?_ _)); exact BK203.out) hb)
   have n2_ := Aside0.mk (below_step (by repeat (first | (with_reducible first | exact HB.out | apply below_alloc | apply pw_below_drewN | apply below_drew1 | refine below_set ?_ GE202.out | refine below_set ?_ GE203.out) | exact HB.out)) hb)
   have n3_ := Aside0.mk (hbox)
   have n4_ := Aside0.mk ((by rw [hg]; exact (below_size (by repeat (first | (with_reducible first | exact HB.out | apply below_alloc | apply pw_below_drewN | apply below_drew1 | refine below_set ?_ GE202.out | refine below_set ?_ GE203.out) | exact HB.out))) : w.heap.size ≤ gb210))
   have n5_ := Aside0.mk ((by rw [hg]; exact (below_size (by repeat (first | (with_reducible first | exact HB.out | apply below_alloc | apply pw_below_drewN | apply below_drew1 | refine below_set ?_ GE202.out | refine below_set ?_ GE203.out) | exact HB.out))) : w.heap.size ≤ gb210))
   have n6_ := Aside0.mk ((by rw [hg]; exact Nat.ne_of_lt (blk_lt (g := gb202) (o := .cells #[.slice A0_0 l0_0.length c0_0, .int .i64 a0_1, .slice A0_2 l0_2.length c0_2, .slice A0_3 l0_3.length c0_3, .slice A0_4 l0_4.length c0_4] 29 (0, 0)) (by (with_reducible repeat (first | refine blk_drewN ?_ _ | refine blk_drew ?_ | refine blk_alloc ?_ _)); exact BK202.out)) : gb202 ≠ gb210))
   have n7_ := Aside0.mk ((by rw [hg]; exact Nat.ne_of_gt (blk_lt (g := gb202) (o := .cells #[.slice A0_0 l0_0.length c0_0, .int .i64 a0_1, .slice A0_2 l0_2.length c0_2, .slice A0_3 l0_3.length c0_3, .slice A0_4 l0_4.length c0_4] 29 (0, 0)) (by (with_reducible repeat (first | refine blk_drewN ?_ _ | refine blk_drew ?_ | refine blk_alloc ?_ _)); exact BK202.out)) : gb210 ≠ gb202))
   have n8_ := Aside0.mk ((by rw [hg]; exact Nat.ne_of_lt (blk_lt (g := gb203) (o := .cells #[.slice none 0 0, .int .i64 0, .slice none 0 0, .slice none 0 0, .slice none 0 0] 38 (0, 0)) (by (with_reducible repeat (first | refine blk_drewN ?_ _ | refine blk_drew ?_ | refine blk_alloc ?_ _)); exact BK203.out)) : gb203 ≠ gb210))
   have n9_ := Aside0.mk ((by rw [hg]; exact Nat.ne_of_gt (blk_lt (g := gb203) (o := .cells #[.slice none 0 0, .int .i64 0, .slice none 0 0, .slice none 0 0, .slice none 0 0] 38 (0, 0)) (by (with_reducible repeat (first | refine blk_drewN ?_ _ | refine blk_drew ?_ | refine blk_alloc ?_ _)); exact BK203.out)) : gb210 ≠ gb203))
   clear BK202
   clear BK203
   clear HB
   have BK202 := n0_
   have BK203 := n1_
   have HB := n2_
   have BK210 := n3_
   have GW210 := n4_
   have GE210 := n5_
   have NB202_210 := n6_
   have NB210_202 := n7_
   have NB203_210 := n8_
   have NB210_203 := n9_
   clear n0_ n1_ n2_ n3_ n4_ n5_ n6_ n7_ n8_ n9_
   clear hb hbox hg
   refine hK.out _ _ ⟨(blk_cell BK202.out 0).trans rfl, (blk_cell BK202.out 1).trans rfl, (blk_cell BK202.out 2).trans rfl, (blk_cell BK202.out 3).trans rfl, (blk_cell BK202.out 4).trans rfl⟩ (fun hHeld => ?_)
   clear hK K
   refine norm_ (a' := ?_) ?_ ?_
   rotate_left
   ·show Act.put _ (some 3) _ = _
    simp only [Act.put, List.setIfInBounds_toArray, List.set_cons_zero, List.set_cons_succ, i64_w, i32_w]
    rfl
   refine one_ (i := 2) (N := some 10) #[true, true, true, true, true, true, true, false, false, true, false] rfl rfl (one_of HT_.out (by kernel_rfl)) (by decide) (fun K hK => ?_)
   refine goes_ Tryz.func63 (by kernel_rfl) rfl #[.agg #[.slice A0_0 l0_0.length c0_0]] (by rfl) rfl rfl (by (try simp only [List.map_toArray, List.map_cons, List.map_nil]); first | done | rfl | (simp only [List.length_drop, List.length_take]; rfl)) ?_
   with_reducible refine (glisterlaw02_Code.calls _ _ l0_0 t204 _ ?side1 ?side2 A2.out).mono ?_
   (case side1 => repeat (first | exact (Kd.C_below HR0_0.out HB.out) | (with_reducible refine Kd.C_alloc ?_ _) | (with_reducible refine Kd.C_drewN ?_ _) | (with_reducible refine Kd.C_drew ?_)))
   (case side2 => exact HC0_0.out)
   rintro e w8 ⟨v205, rfl, ho0, hb⟩
   refine ⟨_, rfl, ?_⟩
   have n0_ := Aside0.mk (Kd.R_lower ho0 (below_size (by repeat (first | (with_reducible first | exact HB.out | apply below_alloc | apply pw_below_drewN | apply below_drew1 | refine below_set ?_ GE202.out | refine below_set ?_ GE203.out | refine below_set ?_ GE210.out) | exact HB.out))))
   have n1_ := Aside0.mk (blk_below (g := gb202) (o := .cells #[.slice A0_0 l0_0.length c0_0, .int .i64 a0_1, .slice A0_2 l0_2.length c0_2, .slice A0_3 l0_3.length c0_3, .slice A0_4 l0_4.length c0_4] 29 (0, 0)) (by (with_reducible repeat (first | refine blk_drewN ?_ _ | refine blk_drew ?_ | refine blk_alloc ?_ _)); exact BK202.out) hb)
   have n2_ := Aside0.mk (blk_below (g := gb203) (o := .cells #[.slice none 0 0, .int .i64 0, .slice none 0 0, .slice none 0 0, .slice none 0 0] 38 (0, 0)) (by (with_reducible repeat (first | refine blk_drewN ?_ _ | refine blk_drew ?_ | refine blk_alloc ?_ _)); exact BK203.out) hb)
   have n3_ := Aside0.mk (blk_below (g := gb210) (o := .cells #[.slice none 0 0, .int .i64 0, .slice none 0 0, .slice none 0 0, .slice none 0 0] 38 (0, 0)) (by (with_reducible repeat (first | refine blk_drewN ?_ _ | refine blk_drew ?_ | refine blk_alloc ?_ _)); exact BK210.out) hb)
   have n4_ := Aside0.mk (below_step (by repeat (first | (with_reducible first | exact HB.out | apply below_alloc | apply pw_below_drewN | apply below_drew1 | refine below_set ?_ GE202.out | refine below_set ?_ GE203.out | refine below_set ?_ GE210.out) | exact HB.out)) hb)
   clear BK202
   clear BK203
   clear BK210
   clear HB
   have HO206 := n0_
   have BK202 := n1_
   have BK203 := n2_
   have BK210 := n3_
   have HB := n4_
   clear n0_ n1_ n2_ n3_ n4_
   (try clear hb)
   (try clear hb2)
   (try clear hk)
   (try clear hi)
   (try clear ho0)
   refine hK.out _ _ ⟨(blk_cell BK202.out 0).trans rfl, (blk_cell BK202.out 1).trans rfl, (blk_cell BK202.out 2).trans rfl, (blk_cell BK202.out 3).trans rfl, (blk_cell BK202.out 4).trans rfl⟩ (fun hHeld => ?_)
   clear hK K
   refine norm_ (a' := ?_) ?_ ?_
   rotate_left
   ·show Act.put _ (some 10) _ = _
    simp only [Act.put, List.setIfInBounds_toArray, List.set_cons_zero, List.set_cons_succ, i64_w, i32_w]
    rfl
   refine one_ (i := 7) (N := some 15) #[true, true, true, true, true, true, true, true, false, true, false] rfl rfl (one_of HT_.out (by kernel_rfl)) (by decide) (fun K hK => ?_)
   refine goes_ Tryz.func39 (by kernel_rfl) rfl #[.slice A0_2 l0_2.length c0_2] (by rfl) rfl rfl (by (try simp only [List.map_toArray, List.map_cons, List.map_nil]); first | done | rfl | (simp only [List.length_drop, List.length_take]; rfl)) ?_
   with_reducible refine (glisterlaw06_list.calls _ _ l0_2 t207 _ ?side1 ?side2 A3.out).mono ?_
   (case side1 => repeat (first | exact (Kd.C_below HR0_2.out HB.out) | (with_reducible refine Kd.C_alloc ?_ _) | (with_reducible refine Kd.C_drewN ?_ _) | (with_reducible refine Kd.C_drew ?_)))
   (case side2 => exact HC0_2.out)
   rintro e w9 ⟨v208, rfl, ho0, hb⟩
   refine ⟨_, rfl, ?_⟩
   have n0_ := Aside0.mk (Kd.R_below (by (with_reducible repeat (first | apply Kd.R_alloc | apply Kd.R_drewN | apply Kd.R_drew)); exact HO206.out) hb)
   have n1_ := Aside0.mk (Kd.R_lower ho0 (below_size (by repeat (first | (with_reducible first | exact HB.out | apply below_alloc | apply pw_below_drewN | apply below_drew1 | refine below_set ?_ GE202.out | refine below_set ?_ GE203.out | refine below_set ?_ GE210.out) | exact HB.out))))
   have n2_ := Aside0.mk (blk_below (g := gb202) (o := .cells #[.slice A0_0 l0_0.length c0_0, .int .i64 a0_1, .slice A0_2 l0_2.length c0_2, .slice A0_3 l0_3.length c0_3, .slice A0_4 l0_4.length c0_4] 29 (0, 0)) (by (with_reducible repeat (first | refine blk_drewN ?_ _ | refine blk_drew ?_ | refine blk_alloc ?_ _)); exact BK202.out) hb)
   have n3_ := Aside0.mk (blk_below (g := gb203) (o := .cells #[.slice none 0 0, .int .i64 0, .slice none 0 0, .slice none 0 0, .slice none 0 0] 38 (0, 0)) (by (with_reducible repeat (first | refine blk_drewN ?_ _ | refine blk_drew ?_ | refine blk_alloc ?_ _)); exact BK203.out) hb)
   have n4_ := Aside0.mk (blk_below (g := gb210) (o := .cells #[.slice none 0 0, .int .i64 0, .slice none 0 0, .slice none 0 0, .slice none 0 0] 38 (0, 0)) (by (with_reducible repeat (first | refine blk_drewN ?_ _ | refine blk_drew ?_ | refine blk_alloc ?_ _)); exact BK210.out) hb)
   have n5_ := Aside0.mk (below_step (by repeat (first | (with_reducible first | exact HB.out | apply below_alloc | apply pw_below_drewN | apply below_drew1 | refine below_set ?_ GE202.out | refine below_set ?_ GE203.out | refine below_set ?_ GE210.out) | exact HB.out)) hb)
   clear HO206
   clear BK202
   clear BK203
   clear BK210
   clear HB
   have HO206 := n0_
   have HO209 := n1_
   have BK202 := n2_
   have BK203 := n3_
   have BK210 := n4_
   have HB := n5_
   clear n0_ n1_ n2_ n3_ n4_ n5_
   (try clear hb)
   (try clear hb2)
   (try clear hk)
   (try clear hi)
   (try clear ho0)
   obtain ⟨Ao10, co10, eo10⟩ := Kd.R_slice HO209.out
   (first | subst eo10 | (injection eo10 with f1_ f2_ f3_; have f4_ := f1_.symm; have f5_ := f3_.symm; clear f1_ f2_ f3_; subst f4_; subst f5_))
   obtain ⟨Ao11, co11, eo11⟩ := Kd.R_slice HO206.out
   (first | subst eo11 | (injection eo11 with f1_ f2_ f3_; have f4_ := f1_.symm; have f5_ := f3_.symm; clear f1_ f2_ f3_; subst f4_; subst f5_))
   refine hK.out _ _ ⟨(blk_cell BK202.out 0).trans rfl, (blk_cell BK202.out 1).trans rfl, (blk_cell BK202.out 2).trans rfl, (blk_cell BK202.out 3).trans rfl, (blk_cell BK202.out 4).trans rfl⟩ (fun hHeld => ?_)
   clear hK K
   refine norm_ (a' := ?_) ?_ ?_
   rotate_left
   ·show Act.put _ (some 15) _ = _
    simp only [Act.put, List.setIfInBounds_toArray, List.set_cons_zero, List.set_cons_succ, i64_w, i32_w]
    rfl
   refine pure_ (i := 8) (N := some 16) (v := ?_) (a' := ?_) #[true, true, true, true, true, true, true, true, true, true, false] rfl rfl (any_of HT_.out (by kernel_rfl)) (fun _ _ _ h => h) (Or.inl ⟨by rfl, ?_⟩) ?_ ?_
   rotate_left
   ·intro w'
    go_simp
    with_reducible rfl
   rotate_left
   ·simp only [Act.put, List.setIfInBounds_toArray, List.set_cons_zero, List.set_cons_succ, i64_w, i32_w]
    rfl
   exact norm_ (by simp only [putAll, Act.put, List.setIfInBounds_toArray, List.set_cons_zero, List.set_cons_succ]) (hCont (.slice Ao11 t204.length co11, .slice Ao10 t207.length co10, gb210) _ ⟨hHeld, (by (with_reducible repeat (first | apply Kd.R_alloc | apply Kd.R_drewN | apply Kd.R_drew)); exact HO206.out), (by (with_reducible repeat (first | apply Kd.R_alloc | apply Kd.R_drewN | apply Kd.R_drew)); exact HO209.out), (by (with_reducible repeat (first | refine blk_drewN ?_ _ | refine blk_drew ?_ | refine blk_alloc ?_ _)); exact BK202.out), (by (with_reducible repeat (first | refine blk_drewN ?_ _ | refine blk_drew ?_ | refine blk_alloc ?_ _)); exact BK203.out), (by (with_reducible repeat (first | refine blk_drewN ?_ _ | refine blk_drew ?_ | refine blk_alloc ?_ _)); exact BK210.out), GW210.out, GE210.out, NB202_210.out, NB210_202.out, NB203_210.out, NB210_203.out, (by repeat (first | (with_reducible first | exact HB.out | apply below_alloc | apply pw_below_drewN | apply below_drew1 | refine below_set ?_ GE202.out | refine below_set ?_ GE203.out | refine below_set ?_ GE210.out) | exact HB.out))⟩)
 rintro ⟨v205, v208, gb210⟩ w12 ⟨hS_, h0_, h1_, h2_, h3_, h4_, h5_, h6_, h7_, h8_, h9_, h10_, h11_⟩
 have n0_ : Aside0 (Kd.R Kd.string 9 w12 w.heap.size (fun _ => True) v205 t204) := ⟨h0_⟩
 have n1_ : Aside0 (Kd.R (Kd.int .i64) 3 w12 w.heap.size (fun _ => True) v208 t207) := ⟨h1_⟩
 have n2_ : Aside0 (w12.heap[gb202]? = some (.cells #[.slice A0_0 l0_0.length c0_0, .int .i64 a0_1, .slice A0_2 l0_2.length c0_2, .slice A0_3 l0_3.length c0_3, .slice A0_4 l0_4.length c0_4] 29 (0, 0))) := ⟨h2_⟩
 have n3_ : Aside0 (w12.heap[gb203]? = some (.cells #[.slice none 0 0, .int .i64 0, .slice none 0 0, .slice none 0 0, .slice none 0 0] 38 (0, 0))) := ⟨h3_⟩
 have n4_ : Aside0 (w12.heap[gb210]? = some (.cells #[.slice none 0 0, .int .i64 0, .slice none 0 0, .slice none 0 0, .slice none 0 0] 38 (0, 0))) := ⟨h4_⟩
 have n5_ : Aside0 (w.heap.size ≤ gb210) := ⟨h5_⟩
 have n6_ : Aside0 (w.heap.size ≤ gb210) := ⟨h6_⟩
 have n7_ : Aside0 (gb202 ≠ gb210) := ⟨h7_⟩
 have n8_ : Aside0 (gb210 ≠ gb202) := ⟨h8_⟩
 have n9_ : Aside0 (gb203 ≠ gb210) := ⟨h9_⟩
 have n10_ : Aside0 (gb210 ≠ gb203) := ⟨h10_⟩
 have n11_ : Aside0 (Below w.heap.size w w12) := ⟨h11_⟩
 clear BK202
 clear BK203
 clear HB
 clear h0_ h1_ h2_ h3_ h4_ h5_ h6_ h7_ h8_ h9_ h10_ h11_
 have HO206 := n0_
 have HO209 := n1_
 have BK202 := n2_
 have BK203 := n3_
 have BK210 := n4_
 have GW210 := n5_
 have GE210 := n6_
 have NB202_210 := n7_
 have NB210_202 := n8_
 have NB203_210 := n9_
 have NB210_203 := n10_
 have HB := n11_
 clear n0_ n1_ n2_ n3_ n4_ n5_ n6_ n7_ n8_ n9_ n10_ n11_
 have hHeld : w12.cell? ⟨gb202, 0, none⟩ = some (.slice A0_0 l0_0.length c0_0) ∧ w12.cell? ⟨gb202, 1, none⟩ = some (.int .i64 a0_1) ∧ w12.cell? ⟨gb202, 2, none⟩ = some (.slice A0_2 l0_2.length c0_2) ∧ w12.cell? ⟨gb202, 3, none⟩ = some (.slice A0_3 l0_3.length c0_3) ∧ w12.cell? ⟨gb202, 4, none⟩ = some (.slice A0_4 l0_4.length c0_4) := hS_
 obtain ⟨Ao13, co13, eo13⟩ := Kd.R_slice HO209.out
 (first | subst eo13 | (injection eo13 with f1_ f2_ f3_; have f4_ := f1_.symm; have f5_ := f3_.symm; clear f1_ f2_ f3_; subst f4_; subst f5_))
 obtain ⟨Ao14, co14, eo14⟩ := Kd.R_slice HO206.out
 (first | subst eo14 | (injection eo14 with f1_ f2_ f3_; have f4_ := f1_.symm; have f5_ := f3_.symm; clear f1_ f2_ f3_; subst f4_; subst f5_))
 refine norm_ (a' := ?_) ?_ ?_
 rotate_left
 ·simp only [putAll, Act.put, List.setIfInBounds_toArray, List.set_cons_zero, List.set_cons_succ]
  rfl
 refine one_ (i := 10) (N := none) #[true, true, true, true, true, true, true, true, true, true, true] rfl rfl (one_of HT_.out (by kernel_rfl)) (by decide) (fun K hK => ?_)
 have hs15 : w12.cell? ⟨gb210, 0, none⟩ = some (.slice none 0 0) := (blk_cell BK210.out 0).trans rfl
 have hfs15 := blk_frozen BK210.out 0
 have hns15_0 := NB202_210.out
 have hns15_1 := NB203_210.out
 have hms15_0 := NB210_202.out
 have hms15_1 := NB210_203.out
 have hs16 : w12.cell? ⟨gb210, 1, none⟩ = some (.int .i64 0) := (blk_cell BK210.out 1).trans rfl
 have hfs16 := blk_frozen BK210.out 1
 have hns16_0 := NB202_210.out
 have hns16_1 := NB203_210.out
 have hms16_0 := NB210_202.out
 have hms16_1 := NB210_203.out
 have hs17 : w12.cell? ⟨gb210, 2, none⟩ = some (.slice none 0 0) := (blk_cell BK210.out 2).trans rfl
 have hfs17 := blk_frozen BK210.out 2
 have hns17_0 := NB202_210.out
 have hns17_1 := NB203_210.out
 have hms17_0 := NB210_202.out
 have hms17_1 := NB210_203.out
 have hs18 : w12.cell? ⟨gb210, 3, none⟩ = some (.slice none 0 0) := (blk_cell BK210.out 3).trans rfl
 have hfs18 := blk_frozen BK210.out 3
 have hns18_0 := NB202_210.out
 have hns18_1 := NB203_210.out
 have hms18_0 := NB210_202.out
 have hms18_1 := NB210_203.out
 have hs19 : w12.cell? ⟨gb210, 4, none⟩ = some (.slice none 0 0) := (blk_cell BK210.out 4).trans rfl
 have hfs19 := blk_frozen BK210.out 4
 have hns19_0 := NB202_210.out
 have hns19_1 := NB203_210.out
 have hms19_0 := NB210_202.out
 have hms19_1 := NB210_203.out
 refine skip_ (w1 := ?_) (by rfl) rfl ?_ ?_
 rotate_left
 ·go_simp
  rfl
 refine hK.out _ _ ⟨((cell_far (p := ⟨gb210, _, none⟩) NB202_210.out _).trans (((cell_far (p := ⟨gb210, _, none⟩) NB202_210.out _).trans (((cell_far (p := ⟨gb210, _, none⟩) NB202_210.out _).trans (((cell_far (p := ⟨gb210, _, none⟩) NB202_210.out _).trans (((cell_far (p := ⟨gb210, _, none⟩) NB202_210.out _).trans (hHeld.1)))))))))), ((cell_far (p := ⟨gb210, _, none⟩) NB202_210.out _).trans (((cell_far (p := ⟨gb210, _, none⟩) NB202_210.out _).trans (((cell_far (p := ⟨gb210, _, none⟩) NB202_210.out _).trans (((cell_far (p := ⟨gb210, _, none⟩) NB202_210.out _).trans (((cell_far (p := ⟨gb210, _, none⟩) NB202_210.out _).trans (hHeld.2.1)))))))))), ((cell_far (p := ⟨gb210, _, none⟩) NB202_210.out _).trans (((cell_far (p := ⟨gb210, _, none⟩) NB202_210.out _).trans (((cell_far (p := ⟨gb210, _, none⟩) NB202_210.out _).trans (((cell_far (p := ⟨gb210, _, none⟩) NB202_210.out _).trans (((cell_far (p := ⟨gb210, _, none⟩) NB202_210.out _).trans (hHeld.2.2.1)))))))))), ((cell_far (p := ⟨gb210, _, none⟩) NB202_210.out _).trans (((cell_far (p := ⟨gb210, _, none⟩) NB202_210.out _).trans (((cell_far (p := ⟨gb210, _, none⟩) NB202_210.out _).trans (((cell_far (p := ⟨gb210, _, none⟩) NB202_210.out _).trans (((cell_far (p := ⟨gb210, _, none⟩) NB202_210.out _).trans (hHeld.2.2.2.1)))))))))), ((cell_far (p := ⟨gb210, _, none⟩) NB202_210.out _).trans (((cell_far (p := ⟨gb210, _, none⟩) NB202_210.out _).trans (((cell_far (p := ⟨gb210, _, none⟩) NB202_210.out _).trans (((cell_far (p := ⟨gb210, _, none⟩) NB202_210.out _).trans (((cell_far (p := ⟨gb210, _, none⟩) NB202_210.out _).trans (hHeld.2.2.2.2))))))))))⟩ (fun hHeld => ?_)
 clear hK K
 refine done_ (done_of HT_.out (by kernel_rfl)) ?_
 try go_wp2
 go_loopg [4] k (fun kq v4 w' => ∃ (x4_1 : Int) (x211003_1 : List (S76)) (u211003 : Value), v4 = .int .i64 x4_1 ∧ Aside0 (glisterlaw06_Log.l0 kq x4_1 l0_0 a0_1 l0_2 l0_3 l0_4 t204 a0_1 t207 x211003_1 = some (r1, r2, r3, r4, r5)) ∧ Aside0 (kq ≤ k) ∧ Aside0 (Kd.R Kd.string 9 w' w.heap.size (fun _ => True) (.slice Ao14 t204.length co14) t204) ∧ Aside0 (Kd.R (Kd.int .i64) 3 w' w.heap.size (fun _ => True) (.slice Ao13 t207.length co13) t207) ∧ Aside0 (Kd.S k76 76 w' w.heap.size (fun k_ => some k_ ≠ ((.slice Ao13 t207.length co13) : Value).ownBlock) u211003 x211003_1) ∧ Aside0 (w'.heap[gb202]? = some (.cells #[(.slice A0_0 l0_0.length c0_0), .int .i64 a0_1, (.slice A0_2 l0_2.length c0_2), (.slice A0_3 l0_3.length c0_3), (.slice A0_4 l0_4.length c0_4)] 29 (0, 0))) ∧ Aside0 (w'.heap[gb203]? = some (.cells #[(.slice none 0 0), .int .i64 0, (.slice none 0 0), (.slice none 0 0), (.slice none 0 0)] 38 (0, 0))) ∧ Aside0 (w'.heap[gb210]? = some (.cells #[(.slice Ao14 t204.length co14), .int .i64 a0_1, (.slice Ao13 t207.length co13), u211003, (.slice none 0 0)] 38 (0, 0))) ∧ Aside0 (Below w.heap.size w w'))
 case atStart => exact ⟨(0), (([] : List (S76))), (.slice none 0 0), (by first | rfl | (simp; done) | (simp [*]; done)), H', ⟨Nat.le_refl _⟩, ⟨by (with_reducible repeat (first | apply Kd.R_alloc | apply Kd.R_drewN | apply Kd.R_drew)); exact Kd.R_mono (Kd.R_far (p := ⟨gb210, 4, none⟩) (Kd.R_far (p := ⟨gb210, 3, none⟩) (Kd.R_far (p := ⟨gb210, 2, none⟩) (Kd.R_far (p := ⟨gb210, 1, none⟩) (Kd.R_far (p := ⟨gb210, 0, none⟩) (Kd.R_types HO206.out BK210.out (by decide)) (fun _ hk => hk.2) (.slice Ao14 t204.length co14)) (fun _ hk => hk.2) (.int .i64 a0_1)) (fun _ hk => hk.2) (.slice Ao13 t207.length co13)) (fun _ hk => hk.2) (.slice none 0 0)) (fun _ hk => hk.2) (.slice none 0 0)) (fun _ hk => trivial)⟩, ⟨by (with_reducible repeat (first | apply Kd.R_alloc | apply Kd.R_drewN | apply Kd.R_drew)); exact Kd.R_mono (Kd.R_far (p := ⟨gb210, 4, none⟩) (Kd.R_far (p := ⟨gb210, 3, none⟩) (Kd.R_far (p := ⟨gb210, 2, none⟩) (Kd.R_far (p := ⟨gb210, 1, none⟩) (Kd.R_far (p := ⟨gb210, 0, none⟩) (Kd.R_types HO209.out BK210.out (by decide)) (fun _ hk => hk.2) (.slice Ao14 t204.length co14)) (fun _ hk => hk.2) (.int .i64 a0_1)) (fun _ hk => hk.2) (.slice Ao13 t207.length co13)) (fun _ hk => hk.2) (.slice none 0 0)) (fun _ hk => hk.2) (.slice none 0 0)) (fun _ hk => trivial)⟩, ⟨by first | exact Kd.S_nil _ _ _ _ _ | exact Kd.N_nil _ _ _ _ _ | exact Kd.V_nil _ _ _ _ _ | exact Kd.Q_nil _ _ _ _ _ | exact Kd.R_nil _ _ _ _ _⟩, ⟨by (with_reducible repeat (first | refine blk_drewN ?_ _ | refine blk_drew ?_ | refine blk_alloc ?_ _)); refine blk_far ?_ NB202_210.out _; (with_reducible repeat (first | refine blk_drewN ?_ _ | refine blk_drew ?_ | refine blk_alloc ?_ _)); refine blk_far ?_ NB202_210.out _; (with_reducible repeat (first | refine blk_drewN ?_ _ | refine blk_drew ?_ | refine blk_alloc ?_ _)); refine blk_far ?_ NB202_210.out _; (with_reducible repeat (first | refine blk_drewN ?_ _ | refine blk_drew ?_ | refine blk_alloc ?_ _)); refine blk_far ?_ NB202_210.out _; (with_reducible repeat (first | refine blk_drewN ?_ _ | refine blk_drew ?_ | refine blk_alloc ?_ _)); refine blk_far ?_ NB202_210.out _; (with_reducible repeat (first | refine blk_drewN ?_ _ | refine blk_drew ?_ | refine blk_alloc ?_ _)); exact BK202.out⟩, ⟨by (with_reducible repeat (first | refine blk_drewN ?_ _ | refine blk_drew ?_ | refine blk_alloc ?_ _)); refine blk_far ?_ NB203_210.out _; (with_reducible repeat (first | refine blk_drewN ?_ _ | refine blk_drew ?_ | refine blk_alloc ?_ _)); refine blk_far ?_ NB203_210.out _; (with_reducible repeat (first | refine blk_drewN ?_ _ | refine blk_drew ?_ | refine blk_alloc ?_ _)); refine blk_far ?_ NB203_210.out _; (with_reducible repeat (first | refine blk_drewN ?_ _ | refine blk_drew ?_ | refine blk_alloc ?_ _)); refine blk_far ?_ NB203_210.out _; (with_reducible repeat (first | refine blk_drewN ?_ _ | refine blk_drew ?_ | refine blk_alloc ?_ _)); refine blk_far ?_ NB203_210.out _; (with_reducible repeat (first | refine blk_drewN ?_ _ | refine blk_drew ?_ | refine blk_alloc ?_ _)); exact BK203.out⟩, ⟨by (with_reducible repeat (first | refine blk_drewN ?_ _ | refine blk_drew ?_ | refine blk_alloc ?_ _)); refine blk_put (cs := #[.slice Ao14 t204.length co14, .int .i64 a0_1, .slice Ao13 t207.length co13, .slice none 0 0, .slice none 0 0]) ?_ 4 _ rfl; (with_reducible repeat (first | refine blk_drewN ?_ _ | refine blk_drew ?_ | refine blk_alloc ?_ _)); refine blk_put (cs := #[.slice Ao14 t204.length co14, .int .i64 a0_1, .slice Ao13 t207.length co13, .slice none 0 0, .slice none 0 0]) ?_ 3 _ rfl; (with_reducible repeat (first | refine blk_drewN ?_ _ | refine blk_drew ?_ | refine blk_alloc ?_ _)); refine blk_put (cs := #[.slice Ao14 t204.length co14, .int .i64 a0_1, .slice none 0 0, .slice none 0 0, .slice none 0 0]) ?_ 2 _ rfl; (with_reducible repeat (first | refine blk_drewN ?_ _ | refine blk_drew ?_ | refine blk_alloc ?_ _)); refine blk_put (cs := #[.slice Ao14 t204.length co14, .int .i64 0, .slice none 0 0, .slice none 0 0, .slice none 0 0]) ?_ 1 _ rfl; (with_reducible repeat (first | refine blk_drewN ?_ _ | refine blk_drew ?_ | refine blk_alloc ?_ _)); refine blk_put (cs := #[.slice none 0 0, .int .i64 0, .slice none 0 0, .slice none 0 0, .slice none 0 0]) ?_ 0 _ rfl; (with_reducible repeat (first | refine blk_drewN ?_ _ | refine blk_drew ?_ | refine blk_alloc ?_ _)); exact BK210.out⟩, ⟨by repeat (first | (with_reducible first | exact HB.out | apply below_alloc | apply pw_below_drewN | apply below_drew1 | refine below_set ?_ GE202.out | refine below_set ?_ GE203.out | refine below_set ?_ GE210.out) | exact HB.out)⟩⟩
 case round =>
  clear H'
  try clear c2
  try clear p2
  try clear c3
  try clear c6
  obtain ⟨x4_1, x211003_1, u211003, rfl, HA, HK1, HO_211000, HO_211002, HO_211003, BK202, BK203, BK210, HB⟩ := hrel
  cases gk with
  | zero => exact absurd HA.out (by simp [glisterlaw06_Log.l0])
  | succ k1 =>
   have H := HA.out
   clear HA
   simp only [glisterlaw06_Log.l0] at H
   by_cases c20 : x4_1 < (l0_3.length : Int)
   ·rw [if_pos c20] at H
    have c20b0 : decide (x4_1 < (l0_3.length : Int)) = true := decide_eq_true c20
    clear c20
    by_cases c21 : 0 ≤ x4_1
    ·rw [if_pos c21] at H
     have c21b0 : decide (0 ≤ x4_1) = true := decide_eq_true c21
     clear c21
     replace H := Option.bind_eq_some_iff.mp H
     obtain ⟨t213, A220, H⟩ := H
     replace H : (if x211003_1.length < 3518437208883 then (glisterlaw06_Log.l0 k1 (wrap64 (x4_1 + 1)) l0_0 a0_1 l0_2 l0_3 l0_4 t204 a0_1 t207 (x211003_1 ++ [(⟨(rd_T69 l0_3 x4_1).f0, (rd_T69 l0_3 x4_1).f1, t213⟩ : S76)])) else (none)) = some (r1, r2, r3, r4, r5) := H
     have A22 := Aside0.mk A220
     clear A220
     by_cases c23 : x211003_1.length < 3518437208883
     ·rw [if_pos c23] at H
      have LMc23 := Aside0.mk c23
      clear c23
      obtain ⟨y216, hy216⟩ : ∃ y_ : List (S76), y_ = (x211003_1 ++ [(⟨(rd_T69 l0_3 x4_1).f0, (rd_T69 l0_3 x4_1).f1, t213⟩ : S76)]) := ⟨_, rfl⟩
      replace H : (glisterlaw06_Log.l0 k1 (wrap64 (x4_1 + 1)) l0_0 a0_1 l0_2 l0_3 l0_4 t204 a0_1 t207 y216) = some (r1, r2, r3, r4, r5) := by first | (rw [hy216]; with_reducible exact H) | (have H2_ := (Option.bind_some _ _).symm.trans H; rw [hy216]; with_reducible exact H2_) | (have H2_ := (Option.bind_some _ _).symm.trans H; with_reducible exact H2_) | with_reducible exact H | (rw [hy216]; exact H) | exact H
      have Ny216 := Aside0.mk hy216
      clear hy216
      have H' := Aside0.mk H
      clear H
      have hnb24 := NB202_203.out
      have hnc24 := NB203_202.out
      have hnb25 := NB202_210.out
      have hnc25 := NB210_202.out
      have hcz26_0 : wr.cell? ⟨gb202, 0, none⟩ = some (.slice A0_0 l0_0.length c0_0) := (blk_cell BK202.out 0).trans rfl
      have hcz26_1 : wr.cell? ⟨gb202, 1, none⟩ = some (.int .i64 a0_1) := (blk_cell BK202.out 1).trans rfl
      have hcz26_2 : wr.cell? ⟨gb202, 2, none⟩ = some (.slice A0_2 l0_2.length c0_2) := (blk_cell BK202.out 2).trans rfl
      have hcz26_3 : wr.cell? ⟨gb202, 3, none⟩ = some (.slice A0_3 l0_3.length c0_3) := (blk_cell BK202.out 3).trans rfl
      have hcz26_4 : wr.cell? ⟨gb202, 4, none⟩ = some (.slice A0_4 l0_4.length c0_4) := (blk_cell BK202.out 4).trans rfl
      have hfz26_0 := blk_frozen BK202.out 0
      have hfz26_1 := blk_frozen BK202.out 1
      have hfz26_2 := blk_frozen BK202.out 2
      have hfz26_3 := blk_frozen BK202.out 3
      have hfz26_4 := blk_frozen BK202.out 4
      have p211 : 0 ≤ (x4_1 : Int) := of_decide_eq_true (by first | (with_reducible assumption) | assumption)
      have q211 : x4_1 < (l0_3.length : Int) := of_decide_eq_true (by first | (with_reducible assumption) | assumption)
      obtain ⟨ad211, A211_2, c211_2, e211, hx211_0, hx211_1, hx211_2, hl211_2, hi211_2⟩ := at_T69 HR0_3.out x4_1 p211 q211
      cases e211
      replace hx211_0 := (HB.out.cell (World.block_lt_of_cell? w _ hx211_0)).trans hx211_0
      replace hx211_1 := (HB.out.cell (World.block_lt_of_cell? w _ hx211_1)).trans hx211_1
      replace hx211_2 := (HB.out.cell (World.block_lt_of_cell? w _ hx211_2)).trans hx211_2
      have HR211_2 := Aside0.mk hi211_2
      have HC211_2 := Aside0.mk hl211_2
      clear hi211_2 hl211_2
      replace p211 := eq_true p211
      replace q211 := eq_true q211
      try go_wp2_with (first | ((with_reducible refine gate_dst (N := 5) rfl ?_); refine box_event ?hg (N := 5) ?hd (cs := #[.int .i64 0, .int .i64 0, .slice none 0 0]) (t := 69) ?hr ?_; (case hd => rfl); (case hg => rfl); (case hr => first | (go_simp; done) | (go_simp; rfl)); intro gb212 hg w27 hbox hb; have n0_ := Aside0.mk (Kd.R_below (by (with_reducible repeat (first | apply Kd.R_alloc | apply Kd.R_drewN | apply Kd.R_drew)); exact HO_211000.out) hb); have n1_ := Aside0.mk (Kd.R_below (by (with_reducible repeat (first | apply Kd.R_alloc | apply Kd.R_drewN | apply Kd.R_drew)); exact HO_211002.out) hb); have n2_ := Aside0.mk (Kd.S_below (by (with_reducible repeat (first | apply Kd.S_alloc | apply Kd.S_drewN | apply Kd.S_drew)); exact HO_211003.out) hb); have n3_ := Aside0.mk (blk_below (g := gb202) (o := .cells #[.slice A0_0 l0_0.length c0_0, .int .i64 a0_1, .slice A0_2 l0_2.length c0_2, .slice (some ad211) l0_3.length c0_3, .slice A0_4 l0_4.length c0_4] 29 (0, 0)) (by (with_reducible repeat (first | refine blk_drewN ?_ _ | refine blk_drew ?_ | refine blk_alloc ?_ _)); exact BK202.out) hb); have n4_ := Aside0.mk (blk_below (g := gb203) (o := .cells #[.slice none 0 0, .int .i64 0, .slice none 0 0, .slice none 0 0, .slice none 0 0] 38 (0, 0)) (by (with_reducible repeat (first | refine blk_drewN ?_ _ | refine blk_drew ?_ | refine blk_alloc ?_ _)); exact BK203.out) hb); have n5_ := Aside0.mk (blk_below (g := gb210) (o := .cells #[.slice Ao14 t204.length co14, .int .i64 a0_1, .slice Ao13 t207.length co13, u211003, .slice none 0 0] 38 (0, 0)) (by (with_reducible repeat (first | refine blk_drewN ?_ _ | refine blk_drew ?_ | refine blk_alloc ?_ _)); exact BK210.out) hb); have n6_ := Aside0.mk (below_step (by repeat (first | (with_reducible first | exact HB.out | apply below_alloc | apply pw_below_drewN | apply below_drew1 | refine below_set ?_ GE202.out | refine below_set ?_ GE203.out | refine below_set ?_ GE210.out) | exact HB.out)) hb); have n7_ := Aside0.mk (hbox); have n8_ := Aside0.mk ((by rw [hg]; exact (below_size (by repeat (first | (with_reducible first | exact HB.out | apply below_alloc | apply pw_below_drewN | apply below_drew1 | refine below_set ?_ GE202.out | refine below_set ?_ GE203.out | refine below_set ?_ GE210.out) | exact HB.out))) : w.heap.size ≤ gb212)); have n9_ := Aside0.mk ((by rw [hg]; exact (below_size (by repeat (first | (with_reducible first | exact HB.out | apply below_alloc | apply pw_below_drewN | apply below_drew1 | refine below_set ?_ GE202.out | refine below_set ?_ GE203.out | refine below_set ?_ GE210.out) | exact HB.out))) : w.heap.size ≤ gb212)); have n10_ := Aside0.mk ((by rw [hg]; exact Nat.ne_of_lt (blk_lt (g := gb202) (o := .cells #[.slice A0_0 l0_0.length c0_0, .int .i64 a0_1, .slice A0_2 l0_2.length c0_2, .slice (some ad211) l0_3.length c0_3, .slice A0_4 l0_4.length c0_4] 29 (0, 0)) (by (with_reducible repeat (first | refine blk_drewN ?_ _ | refine blk_drew ?_ | refine blk_alloc ?_ _)); exact BK202.out)) : gb202 ≠ gb212)); have n11_ := Aside0.mk ((by rw [hg]; exact Nat.ne_of_gt (blk_lt (g := gb202) (o := .cells #[.slice A0_0 l0_0.length c0_0, .int .i64 a0_1, .slice A0_2 l0_2.length c0_2, .slice (some ad211) l0_3.length c0_3, .slice A0_4 l0_4.length c0_4] 29 (0, 0)) (by (with_reducible repeat (first | refine blk_drewN ?_ _ | refine blk_drew ?_ | refine blk_alloc ?_ _)); exact BK202.out)) : gb212 ≠ gb202)); have n12_ := Aside0.mk ((by rw [hg]; exact Nat.ne_of_lt (blk_lt (g := gb203) (o := .cells #[.slice none 0 0, .int .i64 0, .slice none 0 0, .slice none 0 0, .slice none 0 0] 38 (0, 0)) (by (with_reducible repeat (first | refine blk_drewN ?_ _ | refine blk_drew ?_ | refine blk_alloc ?_ _)); exact BK203.out)) : gb203 ≠ gb212)); have n13_ := Aside0.mk ((by rw [hg]; exact Nat.ne_of_gt (blk_lt (g := gb203) (o := .cells #[.slice none 0 0, .int .i64 0, .slice none 0 0, .slice none 0 0, .slice none 0 0] 38 (0, 0)) (by (with_reducible repeat (first | refine blk_drewN ?_ _ | refine blk_drew ?_ | refine blk_alloc ?_ _)); exact BK203.out)) : gb212 ≠ gb203)); have n14_ := Aside0.mk ((by rw [hg]; exact Nat.ne_of_lt (blk_lt (g := gb210) (o := .cells #[.slice Ao14 t204.length co14, .int .i64 a0_1, .slice Ao13 t207.length co13, u211003, .slice none 0 0] 38 (0, 0)) (by (with_reducible repeat (first | refine blk_drewN ?_ _ | refine blk_drew ?_ | refine blk_alloc ?_ _)); exact BK210.out)) : gb210 ≠ gb212)); have n15_ := Aside0.mk ((by rw [hg]; exact Nat.ne_of_gt (blk_lt (g := gb210) (o := .cells #[.slice Ao14 t204.length co14, .int .i64 a0_1, .slice Ao13 t207.length co13, u211003, .slice none 0 0] 38 (0, 0)) (by (with_reducible repeat (first | refine blk_drewN ?_ _ | refine blk_drew ?_ | refine blk_alloc ?_ _)); exact BK210.out)) : gb212 ≠ gb210)); clear HO_211000; clear HO_211002; clear HO_211003; clear BK202; clear BK203; clear BK210; clear HB; have HO_211000 := n0_; have HO_211002 := n1_; have HO_211003 := n2_; have BK202 := n3_; have BK203 := n4_; have BK210 := n5_; have HB := n6_; have BK212 := n7_; have GW212 := n8_; have GE212 := n9_; have NB202_212 := n10_; have NB212_202 := n11_; have NB203_212 := n12_; have NB212_203 := n13_; have NB210_212 := n14_; have NB212_210 := n15_; clear n0_ n1_ n2_ n3_ n4_ n5_ n6_ n7_ n8_ n9_ n10_ n11_ n12_ n13_ n14_ n15_; clear hb hbox hg; have hnb28 := NB212_202.out; have hnc28 := NB202_212.out; have hnb29 := NB212_203.out; have hnc29 := NB203_212.out; have hnb30 := NB212_210.out; have hnc30 := NB210_212.out; have hcz31_0 : w27.cell? ⟨gb212, 0, none⟩ = some (.int .i64 0) := (blk_cell BK212.out 0).trans rfl; have hcz31_1 : w27.cell? ⟨gb212, 1, none⟩ = some (.int .i64 0) := (blk_cell BK212.out 1).trans rfl; have hcz31_2 : w27.cell? ⟨gb212, 2, none⟩ = some (.slice none 0 0) := (blk_cell BK212.out 2).trans rfl; have hfz31_0 := blk_frozen BK212.out 0; have hfz31_1 := blk_frozen BK212.out 1; have hfz31_2 := blk_frozen BK212.out 2))
      have n0_ : Aside0 (Kd.R Kd.string 9 (((w27.setCell ⟨gb212, 0, none⟩ (.int .i64 ((rd_T69 l0_3 x4_1).f0))).setCell ⟨gb212, 1, none⟩ (.int .i64 ((rd_T69 l0_3 x4_1).f1))).setCell ⟨gb212, 2, none⟩ (.slice A211_2 ((rd_T69 l0_3 x4_1).f2).length c211_2)) w.heap.size (fun _ => True) (.slice Ao14 t204.length co14) t204) := ⟨by (with_reducible repeat (first | apply Kd.R_alloc | apply Kd.R_drewN | apply Kd.R_drew)); exact Kd.R_mono (Kd.R_far (p := ⟨gb212, 2, none⟩) (Kd.R_far (p := ⟨gb212, 1, none⟩) (Kd.R_far (p := ⟨gb212, 0, none⟩) (Kd.R_types HO_211000.out BK212.out (by decide)) (fun _ hk => hk.2) (.int .i64 ((rd_T69 l0_3 x4_1).f0))) (fun _ hk => hk.2) (.int .i64 ((rd_T69 l0_3 x4_1).f1))) (fun _ hk => hk.2) (.slice A211_2 ((rd_T69 l0_3 x4_1).f2).length c211_2)) (fun _ hk => trivial)⟩
      have n1_ : Aside0 (Kd.R (Kd.int .i64) 3 (((w27.setCell ⟨gb212, 0, none⟩ (.int .i64 ((rd_T69 l0_3 x4_1).f0))).setCell ⟨gb212, 1, none⟩ (.int .i64 ((rd_T69 l0_3 x4_1).f1))).setCell ⟨gb212, 2, none⟩ (.slice A211_2 ((rd_T69 l0_3 x4_1).f2).length c211_2)) w.heap.size (fun _ => True) (.slice Ao13 t207.length co13) t207) := ⟨by (with_reducible repeat (first | apply Kd.R_alloc | apply Kd.R_drewN | apply Kd.R_drew)); exact Kd.R_mono (Kd.R_far (p := ⟨gb212, 2, none⟩) (Kd.R_far (p := ⟨gb212, 1, none⟩) (Kd.R_far (p := ⟨gb212, 0, none⟩) (Kd.R_types HO_211002.out BK212.out (by decide)) (fun _ hk => hk.2) (.int .i64 ((rd_T69 l0_3 x4_1).f0))) (fun _ hk => hk.2) (.int .i64 ((rd_T69 l0_3 x4_1).f1))) (fun _ hk => hk.2) (.slice A211_2 ((rd_T69 l0_3 x4_1).f2).length c211_2)) (fun _ hk => trivial)⟩
      have n2_ : Aside0 (Kd.S k76 76 (((w27.setCell ⟨gb212, 0, none⟩ (.int .i64 ((rd_T69 l0_3 x4_1).f0))).setCell ⟨gb212, 1, none⟩ (.int .i64 ((rd_T69 l0_3 x4_1).f1))).setCell ⟨gb212, 2, none⟩ (.slice A211_2 ((rd_T69 l0_3 x4_1).f2).length c211_2)) w.heap.size (fun k_ => some k_ ≠ (.slice Ao13 t207.length co13 : Value).ownBlock) u211003 x211003_1) := ⟨by (with_reducible repeat (first | apply Kd.S_alloc | apply Kd.S_drewN | apply Kd.S_drew)); exact Kd.S_mono (Kd.S_far (p := ⟨gb212, 2, none⟩) (Kd.S_far (p := ⟨gb212, 1, none⟩) (Kd.S_far (p := ⟨gb212, 0, none⟩) (Kd.S_types HO_211003.out BK212.out (by decide)) (fun _ hk => hk.2) (.int .i64 ((rd_T69 l0_3 x4_1).f0))) (fun _ hk => hk.2) (.int .i64 ((rd_T69 l0_3 x4_1).f1))) (fun _ hk => hk.2) (.slice A211_2 ((rd_T69 l0_3 x4_1).f2).length c211_2)) (fun _ hk => hk.1)⟩
      have n3_ : Aside0 ((((w27.setCell ⟨gb212, 0, none⟩ (.int .i64 ((rd_T69 l0_3 x4_1).f0))).setCell ⟨gb212, 1, none⟩ (.int .i64 ((rd_T69 l0_3 x4_1).f1))).setCell ⟨gb212, 2, none⟩ (.slice A211_2 ((rd_T69 l0_3 x4_1).f2).length c211_2)).heap[gb202]? = some (.cells #[.slice A0_0 l0_0.length c0_0, .int .i64 a0_1, .slice A0_2 l0_2.length c0_2, .slice (some ad211) l0_3.length c0_3, .slice A0_4 l0_4.length c0_4] 29 (0, 0))) := ⟨by (with_reducible repeat (first | refine blk_drewN ?_ _ | refine blk_drew ?_ | refine blk_alloc ?_ _)); refine blk_far ?_ NB202_212.out _; (with_reducible repeat (first | refine blk_drewN ?_ _ | refine blk_drew ?_ | refine blk_alloc ?_ _)); refine blk_far ?_ NB202_212.out _; (with_reducible repeat (first | refine blk_drewN ?_ _ | refine blk_drew ?_ | refine blk_alloc ?_ _)); refine blk_far ?_ NB202_212.out _; (with_reducible repeat (first | refine blk_drewN ?_ _ | refine blk_drew ?_ | refine blk_alloc ?_ _)); exact BK202.out⟩
      have n4_ : Aside0 ((((w27.setCell ⟨gb212, 0, none⟩ (.int .i64 ((rd_T69 l0_3 x4_1).f0))).setCell ⟨gb212, 1, none⟩ (.int .i64 ((rd_T69 l0_3 x4_1).f1))).setCell ⟨gb212, 2, none⟩ (.slice A211_2 ((rd_T69 l0_3 x4_1).f2).length c211_2)).heap[gb203]? = some (.cells #[.slice none 0 0, .int .i64 0, .slice none 0 0, .slice none 0 0, .slice none 0 0] 38 (0, 0))) := ⟨by (with_reducible repeat (first | refine blk_drewN ?_ _ | refine blk_drew ?_ | refine blk_alloc ?_ _)); refine blk_far ?_ NB203_212.out _; (with_reducible repeat (first | refine blk_drewN ?_ _ | refine blk_drew ?_ | refine blk_alloc ?_ _)); refine blk_far ?_ NB203_212.out _; (with_reducible repeat (first | refine blk_drewN ?_ _ | refine blk_drew ?_ | refine blk_alloc ?_ _)); refine blk_far ?_ NB203_212.out _; (with_reducible repeat (first | refine blk_drewN ?_ _ | refine blk_drew ?_ | refine blk_alloc ?_ _)); exact BK203.out⟩
      have n5_ : Aside0 ((((w27.setCell ⟨gb212, 0, none⟩ (.int .i64 ((rd_T69 l0_3 x4_1).f0))).setCell ⟨gb212, 1, none⟩ (.int .i64 ((rd_T69 l0_3 x4_1).f1))).setCell ⟨gb212, 2, none⟩ (.slice A211_2 ((rd_T69 l0_3 x4_1).f2).length c211_2)).heap[gb210]? = some (.cells #[.slice Ao14 t204.length co14, .int .i64 a0_1, .slice Ao13 t207.length co13, u211003, .slice none 0 0] 38 (0, 0))) := ⟨by (with_reducible repeat (first | refine blk_drewN ?_ _ | refine blk_drew ?_ | refine blk_alloc ?_ _)); refine blk_far ?_ NB210_212.out _; (with_reducible repeat (first | refine blk_drewN ?_ _ | refine blk_drew ?_ | refine blk_alloc ?_ _)); refine blk_far ?_ NB210_212.out _; (with_reducible repeat (first | refine blk_drewN ?_ _ | refine blk_drew ?_ | refine blk_alloc ?_ _)); refine blk_far ?_ NB210_212.out _; (with_reducible repeat (first | refine blk_drewN ?_ _ | refine blk_drew ?_ | refine blk_alloc ?_ _)); exact BK210.out⟩
      have n6_ : Aside0 ((((w27.setCell ⟨gb212, 0, none⟩ (.int .i64 ((rd_T69 l0_3 x4_1).f0))).setCell ⟨gb212, 1, none⟩ (.int .i64 ((rd_T69 l0_3 x4_1).f1))).setCell ⟨gb212, 2, none⟩ (.slice A211_2 ((rd_T69 l0_3 x4_1).f2).length c211_2)).heap[gb212]? = some (.cells #[.int .i64 ((rd_T69 l0_3 x4_1).f0), .int .i64 ((rd_T69 l0_3 x4_1).f1), .slice A211_2 ((rd_T69 l0_3 x4_1).f2).length c211_2] 69 (0, 0))) := ⟨by (with_reducible repeat (first | refine blk_drewN ?_ _ | refine blk_drew ?_ | refine blk_alloc ?_ _)); refine blk_put (cs := #[.int .i64 ((rd_T69 l0_3 x4_1).f0), .int .i64 ((rd_T69 l0_3 x4_1).f1), .slice none 0 0]) ?_ 2 _ rfl; (with_reducible repeat (first | refine blk_drewN ?_ _ | refine blk_drew ?_ | refine blk_alloc ?_ _)); refine blk_put (cs := #[.int .i64 ((rd_T69 l0_3 x4_1).f0), .int .i64 0, .slice none 0 0]) ?_ 1 _ rfl; (with_reducible repeat (first | refine blk_drewN ?_ _ | refine blk_drew ?_ | refine blk_alloc ?_ _)); refine blk_put (cs := #[.int .i64 0, .int .i64 0, .slice none 0 0]) ?_ 0 _ rfl; (with_reducible repeat (first | refine blk_drewN ?_ _ | refine blk_drew ?_ | refine blk_alloc ?_ _)); exact BK212.out⟩
      have n7_ : Aside0 (Below w.heap.size w (((w27.setCell ⟨gb212, 0, none⟩ (.int .i64 ((rd_T69 l0_3 x4_1).f0))).setCell ⟨gb212, 1, none⟩ (.int .i64 ((rd_T69 l0_3 x4_1).f1))).setCell ⟨gb212, 2, none⟩ (.slice A211_2 ((rd_T69 l0_3 x4_1).f2).length c211_2))) := ⟨by repeat (first | (with_reducible first | exact HB.out | apply below_alloc | apply pw_below_drewN | apply below_drew1 | refine below_set ?_ GE202.out | refine below_set ?_ GE203.out | refine below_set ?_ GE210.out | refine below_set ?_ GE212.out) | exact HB.out)⟩
      (try clear HO_211000)
      (try clear HO_211002)
      (try clear HO_211003)
      (try clear BK202)
      (try clear BK203)
      (try clear BK210)
      (try clear BK212)
      (try clear HB)
      generalize (((w27.setCell ⟨gb212, 0, none⟩ (.int .i64 ((rd_T69 l0_3 x4_1).f0))).setCell ⟨gb212, 1, none⟩ (.int .i64 ((rd_T69 l0_3 x4_1).f1))).setCell ⟨gb212, 2, none⟩ (.slice A211_2 ((rd_T69 l0_3 x4_1).f2).length c211_2)) = w32 at n0_ n1_ n2_ n3_ n4_ n5_ n6_ n7_ ⊢
      have HO_211000 := n0_
      have HO_211002 := n1_
      have HO_211003 := n2_
      have BK202 := n3_
      have BK203 := n4_
      have BK210 := n5_
      have BK212 := n6_
      have HB := n7_
      clear n0_ n1_ n2_ n3_ n4_ n5_ n6_ n7_
      have n0_ := Aside0.mk (Kd.R_drew HO_211000.out)
      have n1_ := Aside0.mk (Kd.R_drew HO_211002.out)
      have n2_ := Aside0.mk (Kd.S_drew HO_211003.out)
      have n3_ := Aside0.mk (blk_drew BK202.out)
      have n4_ := Aside0.mk (blk_drew BK203.out)
      have n5_ := Aside0.mk (blk_drew BK210.out)
      have n6_ := Aside0.mk (blk_drew BK212.out)
      have n7_ := Aside0.mk (below_drew1 HB.out)
      clear HO_211000
      clear HO_211002
      clear HO_211003
      clear BK202
      clear BK203
      clear BK210
      clear BK212
      clear HB
      have HO_211000 := n0_
      have HO_211002 := n1_
      have HO_211003 := n2_
      have BK202 := n3_
      have BK203 := n4_
      have BK210 := n5_
      have BK212 := n6_
      have HB := n7_
      clear n0_ n1_ n2_ n3_ n4_ n5_ n6_ n7_
      refine start_ (n := 14) (S := fun w' => w'.cell? ⟨gb210, 0, none⟩ = some (.slice Ao14 t204.length co14) ∧ w'.cell? ⟨gb210, 1, none⟩ = some (.int .i64 a0_1) ∧ w'.cell? ⟨gb210, 2, none⟩ = some (.slice Ao13 t207.length co13) ∧ w'.cell? ⟨gb210, 3, none⟩ = some (u211003) ∧ w'.cell? ⟨gb210, 4, none⟩ = some (.slice none 0 0) ∧ w'.cell? ⟨gb212, 0, none⟩ = some (.int .i64 ((rd_T69 l0_3 x4_1).f0)) ∧ w'.cell? ⟨gb212, 1, none⟩ = some (.int .i64 ((rd_T69 l0_3 x4_1).f1)) ∧ w'.cell? ⟨gb212, 2, none⟩ = some (.slice A211_2 ((rd_T69 l0_3 x4_1).f2).length c211_2)) (ds := [13]) #[false, false, false, false, false, false, false, false, false, false, false, false, false, false] (by kernel_rfl) rfl rfl ⟨(blk_cell BK210.out 0).trans rfl, (blk_cell BK210.out 1).trans rfl, (blk_cell BK210.out 2).trans rfl, (blk_cell BK210.out 3).trans rfl, (blk_cell BK210.out 4).trans rfl, (blk_cell BK212.out 0).trans rfl, (blk_cell BK212.out 1).trans rfl, (blk_cell BK212.out 2).trans rfl⟩ (fun hHeld => ?_); refine with_tabW glisterlaw06_Log.tab6 glisterlaw06_Log.bits6 (fun HT_ HW_ => ?_)
      generalize w32.drew = w33 at HO_211000 HO_211002 HO_211003 BK202 BK203 BK210 BK212 HB hHeld ⊢
      refine pure_ (i := 0) (N := some 29) (v := ?_) (a' := ?_) #[true, false, false, false, false, false, false, false, false, false, false, false, false, false] rfl rfl (any_of HT_.out (by kernel_rfl)) (fun _ _ _ h => h) (Or.inl ⟨by rfl, ?_⟩) ?_ ?_
      rotate_left
      ·intro w'
       go_simp
       with_reducible rfl
      rotate_left
      ·simp only [Act.put, List.setIfInBounds_toArray, List.set_cons_zero, List.set_cons_succ, i64_w, i32_w]
       rfl
      refine pure_ (i := 2) (N := some 31) (v := ?_) (a' := ?_) #[true, false, true, false, false, false, false, false, false, false, false, false, false, false] rfl rfl (any_of HT_.out (by kernel_rfl)) (fun _ _ _ h => h) (Or.inl ⟨by rfl, ?_⟩) ?_ ?_
      rotate_left
      ·intro w'
       go_simp
       with_reducible rfl
      rotate_left
      ·simp only [Act.put, List.setIfInBounds_toArray, List.set_cons_zero, List.set_cons_succ, i64_w, i32_w]
       rfl
      refine pure_ (i := 4) (N := some 33) (v := ?_) (a' := ?_) #[true, false, true, false, true, false, false, false, false, false, false, false, false, false] rfl rfl (any_of HT_.out (by kernel_rfl)) (fun _ _ _ h => h) (Or.inl ⟨by rfl, ?_⟩) ?_ ?_
      rotate_left
      ·intro w'
       go_simp
       with_reducible rfl
      rotate_left
      ·simp only [Act.put, List.setIfInBounds_toArray, List.set_cons_zero, List.set_cons_succ, i64_w, i32_w]
       rfl
      refine pure_ (i := 6) (N := some 35) (v := ?_) (a' := ?_) #[true, false, true, false, true, false, true, false, false, false, false, false, false, false] rfl rfl (any_of HT_.out (by kernel_rfl)) (fun _ _ _ h => h) (Or.inl ⟨by rfl, ?_⟩) ?_ ?_
      rotate_left
      ·intro w'
       go_simp
       with_reducible rfl
      rotate_left
      ·simp only [Act.put, List.setIfInBounds_toArray, List.set_cons_zero, List.set_cons_succ, i64_w, i32_w]
       rfl
      refine take_ (i := 1) (N := some 30) (v := ?_) (a' := ?_) #[true, true, true, false, true, false, true, false, false, false, false, false, false, false] rfl rfl (take_ofW HT_.out HW_.out (by kernel_rfl)) (fun _ _ _ h => h) (Or.inl ⟨by rfl, ?_⟩) hHeld ?_ ?_
      rotate_left
      ·rintro w' ⟨s0, s1, s2, s3, s4, s5, s6, s7⟩
       go_simp
       with_reducible rfl
      rotate_left
      ·simp only [Act.put, List.setIfInBounds_toArray, List.set_cons_zero, List.set_cons_succ, i64_w, i32_w]
       rfl
      refine take_ (i := 3) (N := some 32) (v := ?_) (a' := ?_) #[true, true, true, true, true, false, true, false, false, false, false, false, false, false] rfl rfl (take_ofW HT_.out HW_.out (by kernel_rfl)) (fun _ _ _ h => h) (Or.inl ⟨by rfl, ?_⟩) hHeld ?_ ?_
      rotate_left
      ·rintro w' ⟨s0, s1, s2, s3, s4, s5, s6, s7⟩
       go_simp
       with_reducible rfl
      rotate_left
      ·simp only [Act.put, List.setIfInBounds_toArray, List.set_cons_zero, List.set_cons_succ, i64_w, i32_w]
       rfl
      refine take_ (i := 5) (N := some 34) (v := ?_) (a' := ?_) #[true, true, true, true, true, true, true, false, false, false, false, false, false, false] rfl rfl (take_ofW HT_.out HW_.out (by kernel_rfl)) (fun _ _ _ h => h) (Or.inl ⟨by rfl, ?_⟩) hHeld ?_ ?_
      rotate_left
      ·rintro w' ⟨s0, s1, s2, s3, s4, s5, s6, s7⟩
       go_simp
       with_reducible rfl
      rotate_left
      ·simp only [Act.put, List.setIfInBounds_toArray, List.set_cons_zero, List.set_cons_succ, i64_w, i32_w]
       rfl
      refine take_ (i := 7) (N := some 36) (v := ?_) (a' := ?_) #[true, true, true, true, true, true, true, true, false, false, false, false, false, false] rfl rfl (take_ofW HT_.out HW_.out (by kernel_rfl)) (fun _ _ _ h => h) (Or.inl ⟨by rfl, ?_⟩) hHeld ?_ ?_
      rotate_left
      ·rintro w' ⟨s0, s1, s2, s3, s4, s5, s6, s7⟩
       go_simp
       with_reducible rfl
      rotate_left
      ·simp only [Act.put, List.setIfInBounds_toArray, List.set_cons_zero, List.set_cons_succ, i64_w, i32_w]
       rfl
      refine one_ (i := 8) (N := some 37) #[true, true, true, true, true, true, true, true, true, false, false, false, false, false] rfl rfl (one_of HT_.out (by kernel_rfl)) (by decide) (fun K hK => ?_)
      refine goes_ Tryz.func39 (by kernel_rfl) rfl #[.slice A211_2 ((rd_T69 l0_3 x4_1).f2).length c211_2] (by rfl) rfl rfl (by (try simp only [List.map_toArray, List.map_cons, List.map_nil]); first | done | rfl | (simp only [List.length_drop, List.length_take]; rfl)) ?_
      with_reducible refine (glisterlaw06_list.calls _ _ ((rd_T69 l0_3 x4_1).f2) t213 _ ?side1 ?side2 A22.out).mono ?_
      (case side1 => repeat (first | exact (Kd.C_below HR211_2.out HB.out) | (with_reducible refine Kd.C_alloc ?_ _) | (with_reducible refine Kd.C_drewN ?_ _) | (with_reducible refine Kd.C_drew ?_)))
      (case side2 => exact HC211_2.out)
      rintro e w34 ⟨v214, rfl, ho0, hb⟩
      refine ⟨_, rfl, ?_⟩
      have n0_ := Aside0.mk (Kd.R_below (by (with_reducible repeat (first | apply Kd.R_alloc | apply Kd.R_drewN | apply Kd.R_drew)); exact HO_211000.out) hb)
      have n1_ := Aside0.mk (Kd.R_elder' (by (with_reducible repeat (first | apply Kd.R_alloc | apply Kd.R_drewN | apply Kd.R_drew)); exact HO_211002.out) (Kd.R_base ho0) hb)
      have n2_ := Aside0.mk (Kd.S_elder' (by (with_reducible repeat (first | apply Kd.S_alloc | apply Kd.S_drewN | apply Kd.S_drew)); exact HO_211003.out) (Kd.R_base ho0) hb)
      have n3_ := Aside0.mk (Kd.R_lower (Kd.R_new' ho0 (Kd.R_lt (by (with_reducible repeat (first | apply Kd.R_alloc | apply Kd.R_drewN | apply Kd.R_drew)); exact HO_211002.out))) (below_size (by repeat (first | (with_reducible first | exact HB.out | apply below_alloc | apply pw_below_drewN | apply below_drew1 | refine below_set ?_ GE202.out | refine below_set ?_ GE203.out | refine below_set ?_ GE210.out | refine below_set ?_ GE212.out) | exact HB.out))))
      have n4_ := Aside0.mk (blk_below (g := gb202) (o := .cells #[.slice A0_0 l0_0.length c0_0, .int .i64 a0_1, .slice A0_2 l0_2.length c0_2, .slice (some ad211) l0_3.length c0_3, .slice A0_4 l0_4.length c0_4] 29 (0, 0)) (by (with_reducible repeat (first | refine blk_drewN ?_ _ | refine blk_drew ?_ | refine blk_alloc ?_ _)); exact BK202.out) hb)
      have n5_ := Aside0.mk (blk_below (g := gb203) (o := .cells #[.slice none 0 0, .int .i64 0, .slice none 0 0, .slice none 0 0, .slice none 0 0] 38 (0, 0)) (by (with_reducible repeat (first | refine blk_drewN ?_ _ | refine blk_drew ?_ | refine blk_alloc ?_ _)); exact BK203.out) hb)
      have n6_ := Aside0.mk (blk_below (g := gb210) (o := .cells #[.slice Ao14 t204.length co14, .int .i64 a0_1, .slice Ao13 t207.length co13, u211003, .slice none 0 0] 38 (0, 0)) (by (with_reducible repeat (first | refine blk_drewN ?_ _ | refine blk_drew ?_ | refine blk_alloc ?_ _)); exact BK210.out) hb)
      have n7_ := Aside0.mk (blk_below (g := gb212) (o := .cells #[.int .i64 ((rd_T69 l0_3 x4_1).f0), .int .i64 ((rd_T69 l0_3 x4_1).f1), .slice A211_2 ((rd_T69 l0_3 x4_1).f2).length c211_2] 69 (0, 0)) (by (with_reducible repeat (first | refine blk_drewN ?_ _ | refine blk_drew ?_ | refine blk_alloc ?_ _)); exact BK212.out) hb)
      have n8_ := Aside0.mk (below_step (by repeat (first | (with_reducible first | exact HB.out | apply below_alloc | apply pw_below_drewN | apply below_drew1 | refine below_set ?_ GE202.out | refine below_set ?_ GE203.out | refine below_set ?_ GE210.out | refine below_set ?_ GE212.out) | exact HB.out)) hb)
      clear HO_211000
      clear HO_211002
      clear HO_211003
      clear BK202
      clear BK203
      clear BK210
      clear BK212
      clear HB
      have HO_211000 := n0_
      have HO_211002 := n1_
      have HO_211003 := n2_
      have HO215 := n3_
      have BK202 := n4_
      have BK203 := n5_
      have BK210 := n6_
      have BK212 := n7_
      have HB := n8_
      clear n0_ n1_ n2_ n3_ n4_ n5_ n6_ n7_ n8_
      (try clear hb)
      (try clear hb2)
      (try clear hk)
      (try clear hi)
      (try clear ho0)
      obtain ⟨Ao35, co35, eo35⟩ := Kd.R_slice HO215.out
      (first | subst eo35 | (injection eo35 with f1_ f2_ f3_; have f4_ := f1_.symm; have f5_ := f3_.symm; clear f1_ f2_ f3_; subst f4_; subst f5_))
      refine hK.out _ _ ⟨(blk_cell BK210.out 0).trans rfl, (blk_cell BK210.out 1).trans rfl, (blk_cell BK210.out 2).trans rfl, (blk_cell BK210.out 3).trans rfl, (blk_cell BK210.out 4).trans rfl, (blk_cell BK212.out 0).trans rfl, (blk_cell BK212.out 1).trans rfl, (blk_cell BK212.out 2).trans rfl⟩ (fun hHeld => ?_)
      clear hK K
      refine norm_ (a' := ?_) ?_ ?_
      rotate_left
      ·show Act.put _ (some 37) _ = _
       simp only [Act.put, List.setIfInBounds_toArray, List.set_cons_zero, List.set_cons_succ, i64_w, i32_w]
       rfl
      refine pure_ (i := 9) (N := some 38) (v := ?_) (a' := ?_) #[true, true, true, true, true, true, true, true, true, true, false, false, false, false] rfl rfl (any_of HT_.out (by kernel_rfl)) (fun _ _ _ h => h) (Or.inl ⟨by rfl, ?_⟩) ?_ ?_
      rotate_left
      ·intro w'
       go_simp
       with_reducible rfl
      rotate_left
      ·simp only [Act.put, List.setIfInBounds_toArray, List.set_cons_zero, List.set_cons_succ, i64_w, i32_w]
       rfl
      refine one_ (i := 10) (N := some 39) #[true, true, true, true, true, true, true, true, true, true, true, false, false, false] rfl rfl (one_of HT_.out (by kernel_rfl)) (by decide) (fun K hK => ?_)
      refine value_ (w1 := ?_) (v := ?_) (by rfl) rfl ?_ ?_
      rotate_left 2
      ·go_simp
       constructor
       ·rfl
       ·rfl
      refine hK.out _ _ ⟨(blk_cell (blk_alloc BK210.out _) 0).trans rfl, (blk_cell (blk_alloc BK210.out _) 1).trans rfl, (blk_cell (blk_alloc BK210.out _) 2).trans rfl, (blk_cell (blk_alloc BK210.out _) 3).trans rfl, (blk_cell (blk_alloc BK210.out _) 4).trans rfl, (blk_cell (blk_alloc BK212.out _) 0).trans rfl, (blk_cell (blk_alloc BK212.out _) 1).trans rfl, (blk_cell (blk_alloc BK212.out _) 2).trans rfl⟩ (fun hHeld => ?_)
      clear hK K
      refine norm_ (a' := ?_) ?_ ?_
      rotate_left
      ·show Act.put _ (some 39) _ = _
       simp only [Act.put, List.setIfInBounds_toArray, List.set_cons_zero, List.set_cons_succ, i64_w, i32_w]
       rfl
      refine one_ (i := 11) (N := some 40) #[true, true, true, true, true, true, true, true, true, true, true, true, false, false] rfl rfl (one_of HT_.out (by kernel_rfl)) (by decide) (fun K hK => ?_)
      refine Kd.S_append_step k76 (w0 := w) w.heap.size (by rfl) (.tmp 30) (.tmp 39) 35 76 (.agg #[(.int .i64 0), (.int .i64 0), (.slice none 0 0)]) 40 rfl Tryz.underlying35 info76 rfl (by decide) (by omega) u211003 x211003_1 (⟨(rd_T69 l0_3 x4_1).f0, (rd_T69 l0_3 x4_1).f1, t213⟩ : S76) [.int .i64 ((rd_T69 l0_3 x4_1).f0), .int .i64 ((rd_T69 l0_3 x4_1).f1), .slice Ao35 t213.length co35] (fun k_ => some k_ ≠ (.slice Ao13 t207.length co13 : Value).ownBlock) (fun k_ => some k_ = (.slice Ao35 t213.length co35 : Value).ownBlock) rfl rfl ?aP (fun k_ hk_ => ((Kd.R_mono (ok' := fun k_ => ((fun k_ => some k_ ≠ (.slice Ao13 t207.length co13 : Value).ownBlock)) k_ ∧ some k_ ≠ (u211003 : Value).ownBlock) (Kd.R_apart' (HO215.out) (Kd.S_typed HO_211003.out) (by decide)) (fun k_ hk => ⟨hk.1.2, hk.2⟩))).1 k_ hk_.symm) ?aF ?aO ?aB ?aS ?aL ?_
      (case aP => exact k76_mkM _ _ _ (⟨(rd_T69 l0_3 x4_1).f0, (rd_T69 l0_3 x4_1).f1, t213⟩ : S76) (Kd.R_mono (Kd.R_tight rfl (Kd.R_mono (ok' := fun k_ => ((fun k_ => some k_ ≠ (.slice Ao13 t207.length co13 : Value).ownBlock)) k_ ∧ some k_ ≠ (u211003 : Value).ownBlock) (Kd.R_apart' (HO215.out) (Kd.S_typed HO_211003.out) (by decide)) (fun k_ hk => ⟨hk.1.2, hk.2⟩))) (fun _ h_ => h_)))
      (case aB => exact (by repeat (first | (with_reducible first | exact HB.out | apply below_alloc | apply pw_below_drewN | apply below_drew1 | refine below_set ?_ GE202.out | refine below_set ?_ GE203.out | refine below_set ?_ GE210.out | refine below_set ?_ GE212.out) | exact HB.out)))
      (case aF => exact (fun k_ hk => Kd.fresh' (Kd.R_lt (by (with_reducible repeat (first | apply Kd.R_alloc | apply Kd.R_drewN | apply Kd.R_drew)); exact HO_211002.out)) k_ hk))
      (case aO => exact (by (with_reducible repeat (first | apply Kd.S_alloc | apply Kd.S_drewN | apply Kd.S_drew)); exact Kd.S_mono HO_211003.out (fun k_ hk => ⟨hk.1, fun e_ => hk.2 e_⟩)))
      (case aS => exact (below_size (by repeat (first | (with_reducible first | exact HB.out | apply below_alloc | apply pw_below_drewN | apply below_drew1 | refine below_set ?_ GE202.out | refine below_set ?_ GE203.out | refine below_set ?_ GE210.out | refine below_set ?_ GE212.out) | exact HB.out))))
      (case aL => have := LMc23.out; omega)
      intro v217 w36 ho hb hg hat
      rw [← Ny216.out] at ho
      have n0_ := Aside0.mk (Kd.R_over' (by (with_reducible repeat (first | apply Kd.R_alloc | apply Kd.R_drewN | apply Kd.R_drew)); exact HO_211000.out) (Kd.S_typed (by (with_reducible repeat (first | apply Kd.S_alloc | apply Kd.S_drewN | apply Kd.S_drew)); exact HO_211003.out)) (by decide) hg)
      have n1_ := Aside0.mk (Kd.R_over' (by (with_reducible repeat (first | apply Kd.R_alloc | apply Kd.R_drewN | apply Kd.R_drew)); exact HO_211002.out) (Kd.S_typed (by (with_reducible repeat (first | apply Kd.S_alloc | apply Kd.S_drewN | apply Kd.S_drew)); exact HO_211003.out)) (by decide) hg)
      have n2_ := Aside0.mk (blk_grown (g := gb202) (o := .cells #[.slice A0_0 l0_0.length c0_0, .int .i64 a0_1, .slice A0_2 l0_2.length c0_2, .slice (some ad211) l0_3.length c0_3, .slice A0_4 l0_4.length c0_4] 29 (0, 0)) (by (with_reducible repeat (first | refine blk_drewN ?_ _ | refine blk_drew ?_ | refine blk_alloc ?_ _)); exact BK202.out) hg (Kd.S_ne HO_211003.out BK202.out (by decide)))
      have n3_ := Aside0.mk (blk_grown (g := gb203) (o := .cells #[.slice none 0 0, .int .i64 0, .slice none 0 0, .slice none 0 0, .slice none 0 0] 38 (0, 0)) (by (with_reducible repeat (first | refine blk_drewN ?_ _ | refine blk_drew ?_ | refine blk_alloc ?_ _)); exact BK203.out) hg (Kd.S_ne HO_211003.out BK203.out (by decide)))
      have n4_ := Aside0.mk (blk_grown (g := gb210) (o := .cells #[.slice Ao14 t204.length co14, .int .i64 a0_1, .slice Ao13 t207.length co13, u211003, .slice none 0 0] 38 (0, 0)) (by (with_reducible repeat (first | refine blk_drewN ?_ _ | refine blk_drew ?_ | refine blk_alloc ?_ _)); exact BK210.out) hg (Kd.S_ne HO_211003.out BK210.out (by decide)))
      have n5_ := Aside0.mk (blk_grown (g := gb212) (o := .cells #[.int .i64 ((rd_T69 l0_3 x4_1).f0), .int .i64 ((rd_T69 l0_3 x4_1).f1), .slice A211_2 ((rd_T69 l0_3 x4_1).f2).length c211_2] 69 (0, 0)) (by (with_reducible repeat (first | refine blk_drewN ?_ _ | refine blk_drew ?_ | refine blk_alloc ?_ _)); exact BK212.out) hg (Kd.S_ne HO_211003.out BK212.out (by decide)))
      have n6_ := Aside0.mk (hb)
      have n7_ := Aside0.mk (ho)
      clear HO_211000
      clear HO_211002
      clear BK202
      clear BK203
      clear BK210
      clear BK212
      clear HB
      clear HO_211003
      clear HO215
      have HO_211000 := n0_
      have HO_211002 := n1_
      have BK202 := n2_
      have BK203 := n3_
      have BK210 := n4_
      have BK212 := n5_
      have HB := n6_
      have HO218 := n7_
      clear n0_ n1_ n2_ n3_ n4_ n5_ n6_ n7_
      clear ho hb hg hat
      obtain ⟨Ao37, co37, eo37⟩ := Kd.S_slice HO218.out
      (first | subst eo37 | (injection eo37 with f1_ f2_ f3_; have f4_ := f1_.symm; have f5_ := f3_.symm; clear f1_ f2_ f3_; subst f4_; subst f5_))
      refine hK.out _ _ ⟨(blk_cell BK210.out 0).trans rfl, (blk_cell BK210.out 1).trans rfl, (blk_cell BK210.out 2).trans rfl, (blk_cell BK210.out 3).trans rfl, (blk_cell BK210.out 4).trans rfl, (blk_cell BK212.out 0).trans rfl, (blk_cell BK212.out 1).trans rfl, (blk_cell BK212.out 2).trans rfl⟩ (fun hHeld => ?_)
      clear hK K
      refine norm_ (a' := ?_) ?_ ?_
      rotate_left
      ·show Act.put _ (some 40) _ = _
       simp only [Act.put, List.setIfInBounds_toArray, List.set_cons_zero, List.set_cons_succ, i64_w, i32_w]
       rfl
      refine pure_ (i := 12) (N := some 41) (v := ?_) (a' := ?_) #[true, true, true, true, true, true, true, true, true, true, true, true, true, false] rfl rfl (any_of HT_.out (by kernel_rfl)) (fun _ _ _ h => h) (Or.inl ⟨by rfl, ?_⟩) ?_ ?_
      rotate_left
      ·intro w'
       go_simp
       with_reducible rfl
      rotate_left
      ·simp only [Act.put, List.setIfInBounds_toArray, List.set_cons_zero, List.set_cons_succ, i64_w, i32_w]
       rfl
      refine last_ (i := 13) (N := none) #[true, true, true, true, true, true, true, true, true, true, true, true, true, true] rfl rfl (one_of HT_.out (by kernel_rfl)) (by decide) (fun K hK => ?_)
      have hs38 : w36.cell? ⟨gb210, 3, none⟩ = some (u211003) := (blk_cell BK210.out 3).trans rfl
      have hfs38 := blk_frozen BK210.out 3
      have hns38_0 := NB202_210.out
      have hns38_1 := NB203_210.out
      have hns38_3 := NB212_210.out
      have hms38_0 := NB210_202.out
      have hms38_1 := NB210_203.out
      have hms38_3 := NB210_212.out
      refine skip_ (w1 := ?_) (by rfl) rfl ?_ ?_
      rotate_left
      ·go_simp
       rfl
      refine hK.out _ _ ?_
      clear hK K
      refine done_ (done_of HT_.out (by kernel_rfl)) ?_
      try go_wp2
      go_roundg k1
      case measure => have := HK1.out; omega
      case rel => exact ⟨(wrap64 (x4_1 + 1)), (y216), (.slice Ao37 y216.length co37), (by first | rfl | (simp; done) | (simp [*]; done)), H', ⟨by have := HK1.out; omega⟩, ⟨by (with_reducible repeat (first | apply Kd.R_alloc | apply Kd.R_drewN | apply Kd.R_drew)); exact Kd.R_mono (Kd.R_far (p := ⟨gb210, 3, none⟩) (Kd.R_types HO_211000.out BK210.out (by decide)) (fun _ hk => hk.2) (.slice Ao37 y216.length co37)) (fun _ hk => trivial)⟩, ⟨by (with_reducible repeat (first | apply Kd.R_alloc | apply Kd.R_drewN | apply Kd.R_drew)); exact Kd.R_mono (Kd.R_far (p := ⟨gb210, 3, none⟩) (Kd.R_types HO_211002.out BK210.out (by decide)) (fun _ hk => hk.2) (.slice Ao37 y216.length co37)) (fun _ hk => trivial)⟩, ⟨by (with_reducible repeat (first | apply Kd.S_alloc | apply Kd.S_drewN | apply Kd.S_drew)); exact Kd.S_mono (Kd.S_far (p := ⟨gb210, 3, none⟩) (Kd.S_types HO218.out BK210.out (by decide)) (fun _ hk => hk.2) (.slice Ao37 y216.length co37)) (fun _ hk => hk.1)⟩, ⟨by (with_reducible repeat (first | refine blk_drewN ?_ _ | refine blk_drew ?_ | refine blk_alloc ?_ _)); refine blk_far ?_ NB202_210.out _; (with_reducible repeat (first | refine blk_drewN ?_ _ | refine blk_drew ?_ | refine blk_alloc ?_ _)); exact BK202.out⟩, ⟨by (with_reducible repeat (first | refine blk_drewN ?_ _ | refine blk_drew ?_ | refine blk_alloc ?_ _)); refine blk_far ?_ NB203_210.out _; (with_reducible repeat (first | refine blk_drewN ?_ _ | refine blk_drew ?_ | refine blk_alloc ?_ _)); exact BK203.out⟩, ⟨by (with_reducible repeat (first | refine blk_drewN ?_ _ | refine blk_drew ?_ | refine blk_alloc ?_ _)); refine blk_put (cs := #[.slice Ao14 t204.length co14, .int .i64 a0_1, .slice Ao13 t207.length co13, u211003, .slice none 0 0]) ?_ 3 _ rfl; (with_reducible repeat (first | refine blk_drewN ?_ _ | refine blk_drew ?_ | refine blk_alloc ?_ _)); exact BK210.out⟩, ⟨by repeat (first | (with_reducible first | exact HB.out | apply below_alloc | apply pw_below_drewN | apply below_drew1 | refine below_set ?_ GE202.out | refine below_set ?_ GE203.out | refine below_set ?_ GE210.out | refine below_set ?_ GE212.out) | exact HB.out)⟩⟩
     ·rw [if_neg c23] at H
      exact absurd H (by simp)
    ·rw [if_neg c21] at H
     exact absurd H (by simp)
   ·rw [if_neg c20] at H
    have c20b0 : decide (x4_1 < (l0_3.length : Int)) = false := decide_eq_false c20
    clear c20
    have H' := Aside0.mk H
    clear H
    have hnb39 := NB202_203.out
    have hnc39 := NB203_202.out
    have hnb40 := NB202_210.out
    have hnc40 := NB210_202.out
    have hcz41_0 : wr.cell? ⟨gb202, 0, none⟩ = some (.slice A0_0 l0_0.length c0_0) := (blk_cell BK202.out 0).trans rfl
    have hcz41_1 : wr.cell? ⟨gb202, 1, none⟩ = some (.int .i64 a0_1) := (blk_cell BK202.out 1).trans rfl
    have hcz41_2 : wr.cell? ⟨gb202, 2, none⟩ = some (.slice A0_2 l0_2.length c0_2) := (blk_cell BK202.out 2).trans rfl
    have hcz41_3 : wr.cell? ⟨gb202, 3, none⟩ = some (.slice A0_3 l0_3.length c0_3) := (blk_cell BK202.out 3).trans rfl
    have hcz41_4 : wr.cell? ⟨gb202, 4, none⟩ = some (.slice A0_4 l0_4.length c0_4) := (blk_cell BK202.out 4).trans rfl
    have hfz41_0 := blk_frozen BK202.out 0
    have hfz41_1 := blk_frozen BK202.out 1
    have hfz41_2 := blk_frozen BK202.out 2
    have hfz41_3 := blk_frozen BK202.out 3
    have hfz41_4 := blk_frozen BK202.out 4
    go_wp2
    go_loopg [6] k1 (fun kq v6 w' => ∃ (x6_2 : Int) (x211004_2 : List (S75)) (u211004 : Value), v6 = .int .i64 x6_2 ∧ Aside0 (glisterlaw06_Log.l1 kq x6_2 l0_0 a0_1 l0_2 l0_3 l0_4 t204 a0_1 t207 x211003_1 x211004_2 = some (r1, r2, r3, r4, r5)) ∧ Aside0 (kq ≤ k1) ∧ Aside0 (Kd.R Kd.string 9 w' w.heap.size (fun _ => True) (.slice Ao14 t204.length co14) t204) ∧ Aside0 (Kd.R (Kd.int .i64) 3 w' w.heap.size (fun _ => True) (.slice Ao13 t207.length co13) t207) ∧ Aside0 (Kd.S k76 76 w' w.heap.size (fun k_ => some k_ ≠ ((.slice Ao13 t207.length co13) : Value).ownBlock) u211003 x211003_1) ∧ Aside0 (Kd.R k75 75 w' w.heap.size (fun _ => True) u211004 x211004_2) ∧ Aside0 (w'.heap[gb202]? = some (.cells #[(.slice A0_0 l0_0.length c0_0), .int .i64 a0_1, (.slice A0_2 l0_2.length c0_2), (.slice A0_3 l0_3.length c0_3), (.slice A0_4 l0_4.length c0_4)] 29 (0, 0))) ∧ Aside0 (w'.heap[gb203]? = some (.cells #[(.slice none 0 0), .int .i64 0, (.slice none 0 0), (.slice none 0 0), (.slice none 0 0)] 38 (0, 0))) ∧ Aside0 (w'.heap[gb210]? = some (.cells #[(.slice Ao14 t204.length co14), .int .i64 a0_1, (.slice Ao13 t207.length co13), u211003, u211004] 38 (0, 0))) ∧ Aside0 (Below w.heap.size w w'))
    case atStart => exact ⟨(0), (([] : List (S75))), (.slice none 0 0), (by first | rfl | (simp; done) | (simp [*]; done)), H', ⟨Nat.le_refl _⟩, ⟨by (with_reducible repeat (first | apply Kd.R_alloc | apply Kd.R_drewN | apply Kd.R_drew)); exact HO_211000.out⟩, ⟨by (with_reducible repeat (first | apply Kd.R_alloc | apply Kd.R_drewN | apply Kd.R_drew)); exact HO_211002.out⟩, ⟨by (with_reducible repeat (first | apply Kd.S_alloc | apply Kd.S_drewN | apply Kd.S_drew)); exact HO_211003.out⟩, ⟨by first | exact Kd.R_nil _ _ _ _ _ | exact Kd.N_nil _ _ _ _ _ | exact Kd.V_nil _ _ _ _ _ | exact Kd.Q_nil _ _ _ _ _ | exact Kd.S_nil _ _ _ _ _⟩, ⟨by (with_reducible repeat (first | refine blk_drewN ?_ _ | refine blk_drew ?_ | refine blk_alloc ?_ _)); exact BK202.out⟩, ⟨by (with_reducible repeat (first | refine blk_drewN ?_ _ | refine blk_drew ?_ | refine blk_alloc ?_ _)); exact BK203.out⟩, ⟨by (with_reducible repeat (first | refine blk_drewN ?_ _ | refine blk_drew ?_ | refine blk_alloc ?_ _)); exact BK210.out⟩, ⟨by repeat (first | (with_reducible first | exact HB.out | apply below_alloc | apply pw_below_drewN | apply below_drew1 | refine below_set ?_ GE202.out | refine below_set ?_ GE203.out | refine below_set ?_ GE210.out) | exact HB.out)⟩⟩
    case round =>
     clear H'
     try clear c2
     try clear p2
     try clear q2
     try clear hx2
     try clear c3
     try clear c4
     try clear c6
     try clear p6
     try clear c20
     try clear c20b0
     try clear c21
     try clear c21b0
     try clear p21
     try clear q21
     try clear hx21
     try clear c23
     try clear c24
     try clear c25
     try clear c28
     try clear c29
     try clear c30
     try clear c39
     try clear c40
     try clear hcz26_0
     try clear hcz26_1
     try clear hcz26_2
     try clear hcz26_3
     try clear hcz26_4
     try clear hcz31_0
     try clear hcz31_1
     try clear hcz31_2
     try clear hcz41_0
     try clear hcz41_1
     try clear hcz41_2
     try clear hcz41_3
     try clear hcz41_4
     try clear hfz26_0
     try clear hfz26_1
     try clear hfz26_2
     try clear hfz26_3
     try clear hfz26_4
     try clear hfz31_0
     try clear hfz31_1
     try clear hfz31_2
     try clear hfz41_0
     try clear hfz41_1
     try clear hfz41_2
     try clear hfz41_3
     try clear hfz41_4
     try clear hx211_0
     try clear hx211_1
     try clear hx211_2
     try clear p2
     try clear p211
     try clear q211
     obtain ⟨x6_2, x211004_2, u211004, rfl, HA, HK2, HO_211000, HO_211002, HO_211003, HO_211004, BK202, BK203, BK210, HB⟩ := hrel
     cases gk with
     | zero => exact absurd HA.out (by simp [glisterlaw06_Log.l1])
     | succ k2 =>
      have H := HA.out
      clear HA
      simp only [glisterlaw06_Log.l1] at H
      by_cases c42 : x6_2 < (l0_4.length : Int)
      ·rw [if_pos c42] at H
       have c42b0 : decide (x6_2 < (l0_4.length : Int)) = true := decide_eq_true c42
       clear c42
       by_cases c43 : 0 ≤ x6_2
       ·rw [if_pos c43] at H
        have c43b0 : decide (0 ≤ x6_2) = true := decide_eq_true c43
        clear c43
        by_cases c44 : x211004_2.length < 4398046511104
        ·rw [if_pos c44] at H
         have LMc44 := Aside0.mk c44
         clear c44
         obtain ⟨y221, hy221⟩ : ∃ y_ : List (S75), y_ = (x211004_2 ++ [(⟨(rd_T61 l0_4 x6_2).f0, (rd_T61 l0_4 x6_2).f1, (rd_T61 l0_4 x6_2).f2⟩ : S75)]) := ⟨_, rfl⟩
         replace H : (glisterlaw06_Log.l1 k2 (wrap64 (x6_2 + 1)) l0_0 a0_1 l0_2 l0_3 l0_4 t204 a0_1 t207 x211003_1 y221) = some (r1, r2, r3, r4, r5) := by first | (rw [hy221]; with_reducible exact H) | (have H2_ := (Option.bind_some _ _).symm.trans H; rw [hy221]; with_reducible exact H2_) | (have H2_ := (Option.bind_some _ _).symm.trans H; with_reducible exact H2_) | with_reducible exact H | (rw [hy221]; exact H) | exact H
         have Ny221 := Aside0.mk hy221
         clear hy221
         have H' := Aside0.mk H
         clear H
         have hnb45 := NB202_203.out
         have hnc45 := NB203_202.out
         have hnb46 := NB202_210.out
         have hnc46 := NB210_202.out
         have hcz47_0 : wr.cell? ⟨gb202, 0, none⟩ = some (.slice A0_0 l0_0.length c0_0) := (blk_cell BK202.out 0).trans rfl
         have hcz47_1 : wr.cell? ⟨gb202, 1, none⟩ = some (.int .i64 a0_1) := (blk_cell BK202.out 1).trans rfl
         have hcz47_2 : wr.cell? ⟨gb202, 2, none⟩ = some (.slice A0_2 l0_2.length c0_2) := (blk_cell BK202.out 2).trans rfl
         have hcz47_3 : wr.cell? ⟨gb202, 3, none⟩ = some (.slice A0_3 l0_3.length c0_3) := (blk_cell BK202.out 3).trans rfl
         have hcz47_4 : wr.cell? ⟨gb202, 4, none⟩ = some (.slice A0_4 l0_4.length c0_4) := (blk_cell BK202.out 4).trans rfl
         have hfz47_0 := blk_frozen BK202.out 0
         have hfz47_1 := blk_frozen BK202.out 1
         have hfz47_2 := blk_frozen BK202.out 2
         have hfz47_3 := blk_frozen BK202.out 3
         have hfz47_4 := blk_frozen BK202.out 4
         have p219 : 0 ≤ (x6_2 : Int) := of_decide_eq_true (by first | (with_reducible assumption) | assumption)
         have q219 : x6_2 < (l0_4.length : Int) := of_decide_eq_true (by first | (with_reducible assumption) | assumption)
         obtain ⟨ad219, e219, hx219_0, hx219_1, hx219_2⟩ := at_T61 HR0_4.out x6_2 p219 q219
         cases e219
         replace hx219_0 := (HB.out.cell (World.block_lt_of_cell? w _ hx219_0)).trans hx219_0
         replace hx219_1 := (HB.out.cell (World.block_lt_of_cell? w _ hx219_1)).trans hx219_1
         replace hx219_2 := (HB.out.cell (World.block_lt_of_cell? w _ hx219_2)).trans hx219_2
         replace p219 := eq_true p219
         replace q219 := eq_true q219
         go_wp2_with (first | ((with_reducible refine gate_dst (N := 7) rfl ?_); refine box_event ?hg (N := 7) ?hd (cs := #[.int .i64 0, .int .i64 0, .string (⟨#[]⟩ : ByteArray)]) (t := 61) ?hr ?_; (case hd => rfl); (case hg => rfl); (case hr => first | (go_simp; done) | (go_simp; rfl)); intro gb220 hg w48 hbox hb; have n0_ := Aside0.mk (Kd.R_below (by (with_reducible repeat (first | apply Kd.R_alloc | apply Kd.R_drewN | apply Kd.R_drew)); exact HO_211000.out) hb); have n1_ := Aside0.mk (Kd.R_below (by (with_reducible repeat (first | apply Kd.R_alloc | apply Kd.R_drewN | apply Kd.R_drew)); exact HO_211002.out) hb); have n2_ := Aside0.mk (Kd.S_below (by (with_reducible repeat (first | apply Kd.S_alloc | apply Kd.S_drewN | apply Kd.S_drew)); exact HO_211003.out) hb); have n3_ := Aside0.mk (Kd.R_below (by (with_reducible repeat (first | apply Kd.R_alloc | apply Kd.R_drewN | apply Kd.R_drew)); exact HO_211004.out) hb); have n4_ := Aside0.mk (blk_below (g := gb202) (o := .cells #[.slice A0_0 l0_0.length c0_0, .int .i64 a0_1, .slice A0_2 l0_2.length c0_2, .slice A0_3 l0_3.length c0_3, .slice (some ad219) l0_4.length c0_4] 29 (0, 0)) (by (with_reducible repeat (first | refine blk_drewN ?_ _ | refine blk_drew ?_ | refine blk_alloc ?_ _)); exact BK202.out) hb); have n5_ := Aside0.mk (blk_below (g := gb203) (o := .cells #[.slice none 0 0, .int .i64 0, .slice none 0 0, .slice none 0 0, .slice none 0 0] 38 (0, 0)) (by (with_reducible repeat (first | refine blk_drewN ?_ _ | refine blk_drew ?_ | refine blk_alloc ?_ _)); exact BK203.out) hb); have n6_ := Aside0.mk (blk_below (g := gb210) (o := .cells #[.slice Ao14 t204.length co14, .int .i64 a0_1, .slice Ao13 t207.length co13, u211003, u211004] 38 (0, 0)) (by (with_reducible repeat (first | refine blk_drewN ?_ _ | refine blk_drew ?_ | refine blk_alloc ?_ _)); exact BK210.out) hb); have n7_ := Aside0.mk (below_step (by repeat (first | (with_reducible first | exact HB.out | apply below_alloc | apply pw_below_drewN | apply below_drew1 | refine below_set ?_ GE202.out | refine below_set ?_ GE203.out | refine below_set ?_ GE210.out) | exact HB.out)) hb); have n8_ := Aside0.mk (hbox); have n9_ := Aside0.mk ((by rw [hg]; exact (below_size (by repeat (first | (with_reducible first | exact HB.out | apply below_alloc | apply pw_below_drewN | apply below_drew1 | refine below_set ?_ GE202.out | refine below_set ?_ GE203.out | refine below_set ?_ GE210.out) | exact HB.out))) : w.heap.size ≤ gb220)); have n10_ := Aside0.mk ((by rw [hg]; exact (below_size (by repeat (first | (with_reducible first | exact HB.out | apply below_alloc | apply pw_below_drewN | apply below_drew1 | refine below_set ?_ GE202.out | refine below_set ?_ GE203.out | refine below_set ?_ GE210.out) | exact HB.out))) : w.heap.size ≤ gb220)); have n11_ := Aside0.mk ((by rw [hg]; exact Nat.ne_of_lt (blk_lt (g := gb202) (o := .cells #[.slice A0_0 l0_0.length c0_0, .int .i64 a0_1, .slice A0_2 l0_2.length c0_2, .slice A0_3 l0_3.length c0_3, .slice (some ad219) l0_4.length c0_4] 29 (0, 0)) (by (with_reducible repeat (first | refine blk_drewN ?_ _ | refine blk_drew ?_ | refine blk_alloc ?_ _)); exact BK202.out)) : gb202 ≠ gb220)); have n12_ := Aside0.mk ((by rw [hg]; exact Nat.ne_of_gt (blk_lt (g := gb202) (o := .cells #[.slice A0_0 l0_0.length c0_0, .int .i64 a0_1, .slice A0_2 l0_2.length c0_2, .slice A0_3 l0_3.length c0_3, .slice (some ad219) l0_4.length c0_4] 29 (0, 0)) (by (with_reducible repeat (first | refine blk_drewN ?_ _ | refine blk_drew ?_ | refine blk_alloc ?_ _)); exact BK202.out)) : gb220 ≠ gb202)); have n13_ := Aside0.mk ((by rw [hg]; exact Nat.ne_of_lt (blk_lt (g := gb203) (o := .cells #[.slice none 0 0, .int .i64 0, .slice none 0 0, .slice none 0 0, .slice none 0 0] 38 (0, 0)) (by (with_reducible repeat (first | refine blk_drewN ?_ _ | refine blk_drew ?_ | refine blk_alloc ?_ _)); exact BK203.out)) : gb203 ≠ gb220)); have n14_ := Aside0.mk ((by rw [hg]; exact Nat.ne_of_gt (blk_lt (g := gb203) (o := .cells #[.slice none 0 0, .int .i64 0, .slice none 0 0, .slice none 0 0, .slice none 0 0] 38 (0, 0)) (by (with_reducible repeat (first | refine blk_drewN ?_ _ | refine blk_drew ?_ | refine blk_alloc ?_ _)); exact BK203.out)) : gb220 ≠ gb203)); have n15_ := Aside0.mk ((by rw [hg]; exact Nat.ne_of_lt (blk_lt (g := gb210) (o := .cells #[.slice Ao14 t204.length co14, .int .i64 a0_1, .slice Ao13 t207.length co13, u211003, u211004] 38 (0, 0)) (by (with_reducible repeat (first | refine blk_drewN ?_ _ | refine blk_drew ?_ | refine blk_alloc ?_ _)); exact BK210.out)) : gb210 ≠ gb220)); have n16_ := Aside0.mk ((by rw [hg]; exact Nat.ne_of_gt (blk_lt (g := gb210) (o := .cells #[.slice Ao14 t204.length co14, .int .i64 a0_1, .slice Ao13 t207.length co13, u211003, u211004] 38 (0, 0)) (by (with_reducible repeat (first | refine blk_drewN ?_ _ | refine blk_drew ?_ | refine blk_alloc ?_ _)); exact BK210.out)) : gb220 ≠ gb210)); clear HO_211000; clear HO_211002; clear HO_211003; clear HO_211004; clear BK202; clear BK203; clear BK210; clear HB; have HO_211000 := n0_; have HO_211002 := n1_; have HO_211003 := n2_; have HO_211004 := n3_; have BK202 := n4_; have BK203 := n5_; have BK210 := n6_; have HB := n7_; have BK220 := n8_; have GW220 := n9_; have GE220 := n10_; have NB202_220 := n11_; have NB220_202 := n12_; have NB203_220 := n13_; have NB220_203 := n14_; have NB210_220 := n15_; have NB220_210 := n16_; clear n0_ n1_ n2_ n3_ n4_ n5_ n6_ n7_ n8_ n9_ n10_ n11_ n12_ n13_ n14_ n15_ n16_; clear hb hbox hg; have hnb49 := NB220_202.out; have hnc49 := NB202_220.out; have hnb50 := NB220_203.out; have hnc50 := NB203_220.out; have hnb51 := NB220_210.out; have hnc51 := NB210_220.out; have hcz52_0 : w48.cell? ⟨gb220, 0, none⟩ = some (.int .i64 0) := (blk_cell BK220.out 0).trans rfl; have hcz52_1 : w48.cell? ⟨gb220, 1, none⟩ = some (.int .i64 0) := (blk_cell BK220.out 1).trans rfl; have hcz52_2 : w48.cell? ⟨gb220, 2, none⟩ = some (.string (⟨#[]⟩ : ByteArray)) := (blk_cell BK220.out 2).trans rfl; have hfz52_0 := blk_frozen BK220.out 0; have hfz52_1 := blk_frozen BK220.out 1; have hfz52_2 := blk_frozen BK220.out 2; have hnb53 := NB210_203.out; have hnc53 := NB203_210.out; have hcz54_0 : w48.cell? ⟨gb210, 0, none⟩ = some (.slice Ao14 t204.length co14) := (blk_cell BK210.out 0).trans rfl; have hcz54_1 : w48.cell? ⟨gb210, 1, none⟩ = some (.int .i64 a0_1) := (blk_cell BK210.out 1).trans rfl; have hcz54_2 : w48.cell? ⟨gb210, 2, none⟩ = some (.slice Ao13 t207.length co13) := (blk_cell BK210.out 2).trans rfl; have hcz54_3 : w48.cell? ⟨gb210, 3, none⟩ = some (u211003) := (blk_cell BK210.out 3).trans rfl; have hcz54_4 : w48.cell? ⟨gb210, 4, none⟩ = some (u211004) := (blk_cell BK210.out 4).trans rfl; have hfz54_0 := blk_frozen BK210.out 0; have hfz54_1 := blk_frozen BK210.out 1; have hfz54_2 := blk_frozen BK210.out 2; have hfz54_3 := blk_frozen BK210.out 3; have hfz54_4 := blk_frozen BK210.out 4) | ((with_reducible refine gate_builtin (b := .append) (xs := #[.tmp 55, .tmp 63]) rfl ?_); at_builtin; refine Kd.R_append k75 (w0 := w) w.heap.size rfl (.tmp 55) (.tmp 63) 36 75 (.agg #[(.int .i64 0), (.int .i64 0), (.string ⟨#[]⟩)]) 32 rfl Tryz.underlying36 info75 rfl (by decide) (by omega) u211004 x211004_2 (⟨(rd_T61 l0_4 x6_2).f0, (rd_T61 l0_4 x6_2).f1, (rd_T61 l0_4 x6_2).f2⟩ : S75) [.int .i64 ((rd_T61 l0_4 x6_2).f0), .int .i64 ((rd_T61 l0_4 x6_2).f1), .string ((rd_T61 l0_4 x6_2).f2)] (fun _ => True) (fun _ => False) rfl (by first | (go_simp; done) | (go_simp; rfl)) ?aP (fun _ hk => hk.elim) ?aF ?aO ?aB ?aS ?aL ?_; (case aP => exact k75_mkM _ _ _ (⟨(rd_T61 l0_4 x6_2).f0, (rd_T61 l0_4 x6_2).f1, (rd_T61 l0_4 x6_2).f2⟩ : S75)); (case aB => exact (by repeat (first | (with_reducible first | exact HB.out | apply below_alloc | apply pw_below_drewN | apply below_drew1 | refine below_set ?_ GE202.out | refine below_set ?_ GE203.out | refine below_set ?_ GE210.out | refine below_set ?_ GE220.out) | exact HB.out))); (case aF => exact (fun _ _ => trivial)); (case aO => exact (by (with_reducible repeat (first | apply Kd.R_alloc | apply Kd.R_drewN | apply Kd.R_drew)); exact Kd.R_mono (Kd.R_far (p := ⟨gb220, 2, none⟩) (Kd.R_far (p := ⟨gb220, 1, none⟩) (Kd.R_far (p := ⟨gb220, 0, none⟩) (Kd.R_types HO_211004.out BK220.out (by decide)) (fun _ hk => hk.2) (.int .i64 ((rd_T61 l0_4 x6_2).f0))) (fun _ hk => hk.2) (.int .i64 ((rd_T61 l0_4 x6_2).f1))) (fun _ hk => hk.2) (.string ((rd_T61 l0_4 x6_2).f2))) (fun _ hk => trivial))); (case aS => exact (below_size (by repeat (first | (with_reducible first | exact HB.out | apply below_alloc | apply pw_below_drewN | apply below_drew1 | refine below_set ?_ GE202.out | refine below_set ?_ GE203.out | refine below_set ?_ GE210.out | refine below_set ?_ GE220.out) | exact HB.out)))); (case aL => have := LMc44.out; omega); intro v222 w55 ho hb hg hat; rw [← Ny221.out] at ho; have n0_ := Aside0.mk (Kd.R_over' (by (with_reducible repeat (first | apply Kd.R_alloc | apply Kd.R_drewN | apply Kd.R_drew)); exact (Kd.R_mono (Kd.R_far (p := ⟨gb220, 2, none⟩) (Kd.R_far (p := ⟨gb220, 1, none⟩) (Kd.R_far (p := ⟨gb220, 0, none⟩) (Kd.R_types HO_211000.out BK220.out (by decide)) (fun _ hk => hk.2) (.int .i64 ((rd_T61 l0_4 x6_2).f0))) (fun _ hk => hk.2) (.int .i64 ((rd_T61 l0_4 x6_2).f1))) (fun _ hk => hk.2) (.string ((rd_T61 l0_4 x6_2).f2))) (fun _ h_ => h_.1))) (Kd.R_typed (by (with_reducible repeat (first | apply Kd.R_alloc | apply Kd.R_drewN | apply Kd.R_drew)); exact (Kd.R_mono (Kd.R_far (p := ⟨gb220, 2, none⟩) (Kd.R_far (p := ⟨gb220, 1, none⟩) (Kd.R_far (p := ⟨gb220, 0, none⟩) (Kd.R_types HO_211004.out BK220.out (by decide)) (fun _ hk => hk.2) (.int .i64 ((rd_T61 l0_4 x6_2).f0))) (fun _ hk => hk.2) (.int .i64 ((rd_T61 l0_4 x6_2).f1))) (fun _ hk => hk.2) (.string ((rd_T61 l0_4 x6_2).f2))) (fun _ h_ => h_.1)))) (by decide) hg); have n1_ := Aside0.mk (Kd.R_over' (by (with_reducible repeat (first | apply Kd.R_alloc | apply Kd.R_drewN | apply Kd.R_drew)); exact (Kd.R_mono (Kd.R_far (p := ⟨gb220, 2, none⟩) (Kd.R_far (p := ⟨gb220, 1, none⟩) (Kd.R_far (p := ⟨gb220, 0, none⟩) (Kd.R_types HO_211002.out BK220.out (by decide)) (fun _ hk => hk.2) (.int .i64 ((rd_T61 l0_4 x6_2).f0))) (fun _ hk => hk.2) (.int .i64 ((rd_T61 l0_4 x6_2).f1))) (fun _ hk => hk.2) (.string ((rd_T61 l0_4 x6_2).f2))) (fun _ h_ => h_.1))) (Kd.R_typed (by (with_reducible repeat (first | apply Kd.R_alloc | apply Kd.R_drewN | apply Kd.R_drew)); exact (Kd.R_mono (Kd.R_far (p := ⟨gb220, 2, none⟩) (Kd.R_far (p := ⟨gb220, 1, none⟩) (Kd.R_far (p := ⟨gb220, 0, none⟩) (Kd.R_types HO_211004.out BK220.out (by decide)) (fun _ hk => hk.2) (.int .i64 ((rd_T61 l0_4 x6_2).f0))) (fun _ hk => hk.2) (.int .i64 ((rd_T61 l0_4 x6_2).f1))) (fun _ hk => hk.2) (.string ((rd_T61 l0_4 x6_2).f2))) (fun _ h_ => h_.1)))) (by decide) hg); have n2_ := Aside0.mk (Kd.S_over' (by (with_reducible repeat (first | apply Kd.S_alloc | apply Kd.S_drewN | apply Kd.S_drew)); exact (Kd.S_mono (Kd.S_far (p := ⟨gb220, 2, none⟩) (Kd.S_far (p := ⟨gb220, 1, none⟩) (Kd.S_far (p := ⟨gb220, 0, none⟩) (Kd.S_types HO_211003.out BK220.out (by decide)) (fun _ hk => hk.2) (.int .i64 ((rd_T61 l0_4 x6_2).f0))) (fun _ hk => hk.2) (.int .i64 ((rd_T61 l0_4 x6_2).f1))) (fun _ hk => hk.2) (.string ((rd_T61 l0_4 x6_2).f2))) (fun _ h_ => h_.1))) (Kd.R_typed (by (with_reducible repeat (first | apply Kd.R_alloc | apply Kd.R_drewN | apply Kd.R_drew)); exact (Kd.R_mono (Kd.R_far (p := ⟨gb220, 2, none⟩) (Kd.R_far (p := ⟨gb220, 1, none⟩) (Kd.R_far (p := ⟨gb220, 0, none⟩) (Kd.R_types HO_211004.out BK220.out (by decide)) (fun _ hk => hk.2) (.int .i64 ((rd_T61 l0_4 x6_2).f0))) (fun _ hk => hk.2) (.int .i64 ((rd_T61 l0_4 x6_2).f1))) (fun _ hk => hk.2) (.string ((rd_T61 l0_4 x6_2).f2))) (fun _ h_ => h_.1)))) (by decide) hg); have n3_ := Aside0.mk (blk_grown (g := gb202) (o := .cells #[.slice A0_0 l0_0.length c0_0, .int .i64 a0_1, .slice A0_2 l0_2.length c0_2, .slice A0_3 l0_3.length c0_3, .slice (some ad219) l0_4.length c0_4] 29 (0, 0)) (by (with_reducible repeat (first | refine blk_drewN ?_ _ | refine blk_drew ?_ | refine blk_alloc ?_ _)); refine blk_far ?_ NB202_220.out _; (with_reducible repeat (first | refine blk_drewN ?_ _ | refine blk_drew ?_ | refine blk_alloc ?_ _)); refine blk_far ?_ NB202_220.out _; (with_reducible repeat (first | refine blk_drewN ?_ _ | refine blk_drew ?_ | refine blk_alloc ?_ _)); refine blk_far ?_ NB202_220.out _; (with_reducible repeat (first | refine blk_drewN ?_ _ | refine blk_drew ?_ | refine blk_alloc ?_ _)); exact BK202.out) hg (Kd.R_ne HO_211004.out BK202.out (by decide))); have n4_ := Aside0.mk (blk_grown (g := gb203) (o := .cells #[.slice none 0 0, .int .i64 0, .slice none 0 0, .slice none 0 0, .slice none 0 0] 38 (0, 0)) (by (with_reducible repeat (first | refine blk_drewN ?_ _ | refine blk_drew ?_ | refine blk_alloc ?_ _)); refine blk_far ?_ NB203_220.out _; (with_reducible repeat (first | refine blk_drewN ?_ _ | refine blk_drew ?_ | refine blk_alloc ?_ _)); refine blk_far ?_ NB203_220.out _; (with_reducible repeat (first | refine blk_drewN ?_ _ | refine blk_drew ?_ | refine blk_alloc ?_ _)); refine blk_far ?_ NB203_220.out _; (with_reducible repeat (first | refine blk_drewN ?_ _ | refine blk_drew ?_ | refine blk_alloc ?_ _)); exact BK203.out) hg (Kd.R_ne HO_211004.out BK203.out (by decide))); have n5_ := Aside0.mk (blk_grown (g := gb210) (o := .cells #[.slice Ao14 t204.length co14, .int .i64 a0_1, .slice Ao13 t207.length co13, u211003, u211004] 38 (0, 0)) (by (with_reducible repeat (first | refine blk_drewN ?_ _ | refine blk_drew ?_ | refine blk_alloc ?_ _)); refine blk_far ?_ NB210_220.out _; (with_reducible repeat (first | refine blk_drewN ?_ _ | refine blk_drew ?_ | refine blk_alloc ?_ _)); refine blk_far ?_ NB210_220.out _; (with_reducible repeat (first | refine blk_drewN ?_ _ | refine blk_drew ?_ | refine blk_alloc ?_ _)); refine blk_far ?_ NB210_220.out _; (with_reducible repeat (first | refine blk_drewN ?_ _ | refine blk_drew ?_ | refine blk_alloc ?_ _)); exact BK210.out) hg (Kd.R_ne HO_211004.out BK210.out (by decide))); have n6_ := Aside0.mk (blk_grown (g := gb220) (o := .cells #[.int .i64 ((rd_T61 l0_4 x6_2).f0), .int .i64 ((rd_T61 l0_4 x6_2).f1), .string ((rd_T61 l0_4 x6_2).f2)] 61 (0, 0)) (by (with_reducible repeat (first | refine blk_drewN ?_ _ | refine blk_drew ?_ | refine blk_alloc ?_ _)); refine blk_put (cs := #[.int .i64 ((rd_T61 l0_4 x6_2).f0), .int .i64 ((rd_T61 l0_4 x6_2).f1), .string (⟨#[]⟩ : ByteArray)]) ?_ 2 _ rfl; (with_reducible repeat (first | refine blk_drewN ?_ _ | refine blk_drew ?_ | refine blk_alloc ?_ _)); refine blk_put (cs := #[.int .i64 ((rd_T61 l0_4 x6_2).f0), .int .i64 0, .string (⟨#[]⟩ : ByteArray)]) ?_ 1 _ rfl; (with_reducible repeat (first | refine blk_drewN ?_ _ | refine blk_drew ?_ | refine blk_alloc ?_ _)); refine blk_put (cs := #[.int .i64 0, .int .i64 0, .string (⟨#[]⟩ : ByteArray)]) ?_ 0 _ rfl; (with_reducible repeat (first | refine blk_drewN ?_ _ | refine blk_drew ?_ | refine blk_alloc ?_ _)); exact BK220.out) hg (Kd.R_ne HO_211004.out BK220.out (by decide))); have n7_ := Aside0.mk (hb); have n8_ := Aside0.mk (ho); clear HO_211000; clear HO_211002; clear HO_211003; clear BK202; clear BK203; clear BK210; clear BK220; clear HB; clear HO_211004; have HO_211000 := n0_; have HO_211002 := n1_; have HO_211003 := n2_; have BK202 := n3_; have BK203 := n4_; have BK210 := n5_; have BK220 := n6_; have HB := n7_; have HO223 := n8_; clear n0_ n1_ n2_ n3_ n4_ n5_ n6_ n7_ n8_; clear ho hb hg hat; obtain ⟨Ao56, co56, eo56⟩ := Kd.R_slice HO223.out; subst eo56; have hcz57_0 : w55.cell? ⟨gb210, 0, none⟩ = some (.slice Ao14 t204.length co14) := (blk_cell BK210.out 0).trans rfl; have hcz57_1 : w55.cell? ⟨gb210, 1, none⟩ = some (.int .i64 a0_1) := (blk_cell BK210.out 1).trans rfl; have hcz57_2 : w55.cell? ⟨gb210, 2, none⟩ = some (.slice Ao13 t207.length co13) := (blk_cell BK210.out 2).trans rfl; have hcz57_3 : w55.cell? ⟨gb210, 3, none⟩ = some (u211003) := (blk_cell BK210.out 3).trans rfl; have hcz57_4 : w55.cell? ⟨gb210, 4, none⟩ = some (u211004) := (blk_cell BK210.out 4).trans rfl; have hfz57_0 := blk_frozen BK210.out 0; have hfz57_1 := blk_frozen BK210.out 1; have hfz57_2 := blk_frozen BK210.out 2; have hfz57_3 := blk_frozen BK210.out 3; have hfz57_4 := blk_frozen BK210.out 4))
         go_roundg k2
         case measure => have := HK1.out; have := HK2.out; omega
         case rel => exact ⟨(wrap64 (x6_2 + 1)), (y221), (.slice Ao56 y221.length co56), (by first | rfl | (simp; done) | (simp [*]; done)), H', ⟨by have := HK1.out; have := HK2.out; omega⟩, ⟨by (with_reducible repeat (first | apply Kd.R_alloc | apply Kd.R_drewN | apply Kd.R_drew)); exact Kd.R_mono (Kd.R_far (p := ⟨gb210, 4, none⟩) (Kd.R_types HO_211000.out BK210.out (by decide)) (fun _ hk => hk.2) (.slice Ao56 y221.length co56)) (fun _ hk => trivial)⟩, ⟨by (with_reducible repeat (first | apply Kd.R_alloc | apply Kd.R_drewN | apply Kd.R_drew)); exact Kd.R_mono (Kd.R_far (p := ⟨gb210, 4, none⟩) (Kd.R_types HO_211002.out BK210.out (by decide)) (fun _ hk => hk.2) (.slice Ao56 y221.length co56)) (fun _ hk => trivial)⟩, ⟨by (with_reducible repeat (first | apply Kd.S_alloc | apply Kd.S_drewN | apply Kd.S_drew)); exact Kd.S_mono (Kd.S_far (p := ⟨gb210, 4, none⟩) (Kd.S_types HO_211003.out BK210.out (by decide)) (fun _ hk => hk.2) (.slice Ao56 y221.length co56)) (fun _ hk => hk.1)⟩, ⟨by (with_reducible repeat (first | apply Kd.R_alloc | apply Kd.R_drewN | apply Kd.R_drew)); exact Kd.R_mono (Kd.R_far (p := ⟨gb210, 4, none⟩) (Kd.R_types HO223.out BK210.out (by decide)) (fun _ hk => hk.2) (.slice Ao56 y221.length co56)) (fun _ hk => trivial)⟩, ⟨by (with_reducible repeat (first | refine blk_drewN ?_ _ | refine blk_drew ?_ | refine blk_alloc ?_ _)); refine blk_far ?_ NB202_210.out _; (with_reducible repeat (first | refine blk_drewN ?_ _ | refine blk_drew ?_ | refine blk_alloc ?_ _)); exact BK202.out⟩, ⟨by (with_reducible repeat (first | refine blk_drewN ?_ _ | refine blk_drew ?_ | refine blk_alloc ?_ _)); refine blk_far ?_ NB203_210.out _; (with_reducible repeat (first | refine blk_drewN ?_ _ | refine blk_drew ?_ | refine blk_alloc ?_ _)); exact BK203.out⟩, ⟨by (with_reducible repeat (first | refine blk_drewN ?_ _ | refine blk_drew ?_ | refine blk_alloc ?_ _)); refine blk_put (cs := #[.slice Ao14 t204.length co14, .int .i64 a0_1, .slice Ao13 t207.length co13, u211003, u211004]) ?_ 4 _ rfl; (with_reducible repeat (first | refine blk_drewN ?_ _ | refine blk_drew ?_ | refine blk_alloc ?_ _)); exact BK210.out⟩, ⟨by repeat (first | (with_reducible first | exact HB.out | apply below_alloc | apply pw_below_drewN | apply below_drew1 | refine below_set ?_ GE202.out | refine below_set ?_ GE203.out | refine below_set ?_ GE210.out | refine below_set ?_ GE220.out) | exact HB.out)⟩⟩
        ·rw [if_neg c44] at H
         exact absurd H (by simp)
       ·rw [if_neg c43] at H
        exact absurd H (by simp)
      ·rw [if_neg c42] at H
       have c42b0 : decide (x6_2 < (l0_4.length : Int)) = false := decide_eq_false c42
       clear c42
       simp only [Option.some.injEq, Prod.mk.injEq] at H
       obtain ⟨rfl, rfl, rfl, rfl, rfl⟩ := H
       have hnb58 := NB202_203.out
       have hnc58 := NB203_202.out
       have hnb59 := NB202_210.out
       have hnc59 := NB210_202.out
       have hcz60_0 : wr.cell? ⟨gb202, 0, none⟩ = some (.slice A0_0 l0_0.length c0_0) := (blk_cell BK202.out 0).trans rfl
       have hcz60_1 : wr.cell? ⟨gb202, 1, none⟩ = some (.int .i64 a0_1) := (blk_cell BK202.out 1).trans rfl
       have hcz60_2 : wr.cell? ⟨gb202, 2, none⟩ = some (.slice A0_2 l0_2.length c0_2) := (blk_cell BK202.out 2).trans rfl
       have hcz60_3 : wr.cell? ⟨gb202, 3, none⟩ = some (.slice A0_3 l0_3.length c0_3) := (blk_cell BK202.out 3).trans rfl
       have hcz60_4 : wr.cell? ⟨gb202, 4, none⟩ = some (.slice A0_4 l0_4.length c0_4) := (blk_cell BK202.out 4).trans rfl
       have hfz60_0 := blk_frozen BK202.out 0
       have hfz60_1 := blk_frozen BK202.out 1
       have hfz60_2 := blk_frozen BK202.out 2
       have hfz60_3 := blk_frozen BK202.out 3
       have hfz60_4 := blk_frozen BK202.out 4
       have hnb61 := NB210_203.out
       have hnc61 := NB203_210.out
       have hcz62_0 : wr.cell? ⟨gb210, 0, none⟩ = some (.slice Ao14 t204.length co14) := (blk_cell BK210.out 0).trans rfl
       have hcz62_1 : wr.cell? ⟨gb210, 1, none⟩ = some (.int .i64 a0_1) := (blk_cell BK210.out 1).trans rfl
       have hcz62_2 : wr.cell? ⟨gb210, 2, none⟩ = some (.slice Ao13 t207.length co13) := (blk_cell BK210.out 2).trans rfl
       have hcz62_3 : wr.cell? ⟨gb210, 3, none⟩ = some (u211003) := (blk_cell BK210.out 3).trans rfl
       have hcz62_4 : wr.cell? ⟨gb210, 4, none⟩ = some (u211004) := (blk_cell BK210.out 4).trans rfl
       have hfz62_0 := blk_frozen BK210.out 0
       have hfz62_1 := blk_frozen BK210.out 1
       have hfz62_2 := blk_frozen BK210.out 2
       have hfz62_3 := blk_frozen BK210.out 3
       have hfz62_4 := blk_frozen BK210.out 4
       have hcz63_0 : wr.cell? ⟨gb203, 0, none⟩ = some (.slice none 0 0) := (blk_cell BK203.out 0).trans rfl
       have hcz63_1 : wr.cell? ⟨gb203, 1, none⟩ = some (.int .i64 0) := (blk_cell BK203.out 1).trans rfl
       have hcz63_2 : wr.cell? ⟨gb203, 2, none⟩ = some (.slice none 0 0) := (blk_cell BK203.out 2).trans rfl
       have hcz63_3 : wr.cell? ⟨gb203, 3, none⟩ = some (.slice none 0 0) := (blk_cell BK203.out 3).trans rfl
       have hcz63_4 : wr.cell? ⟨gb203, 4, none⟩ = some (.slice none 0 0) := (blk_cell BK203.out 4).trans rfl
       have hfz63_0 := blk_frozen BK203.out 0
       have hfz63_1 := blk_frozen BK203.out 1
       have hfz63_2 := blk_frozen BK203.out 2
       have hfz63_3 := blk_frozen BK203.out 3
       have hfz63_4 := blk_frozen BK203.out 4
       obtain ⟨Ao64, co64, eo64⟩ := Kd.S_slice HO_211003.out
       subst eo64
       obtain ⟨Ao65, co65, eo65⟩ := Kd.R_slice HO_211004.out
       subst eo65
       go_wp2
       refine bodyPost_ret (results_cell_row rfl _ _ gb203 38 #[.slice Ao14 t204.length co14, .int .i64 a0_1, .slice Ao13 t207.length co13, .slice Ao64 x211003_1.length co64, .slice Ao65 x211004_2.length co65] (0, 0) _ rfl (by (with_reducible repeat (first | refine blk_drewN ?_ _ | refine blk_drew ?_ | refine blk_alloc ?_ _)); refine blk_put (cs := #[.slice Ao14 t204.length co14, .int .i64 a0_1, .slice Ao13 t207.length co13, .slice Ao64 x211003_1.length co64, .slice none 0 0]) ?_ 4 _ rfl; (with_reducible repeat (first | refine blk_drewN ?_ _ | refine blk_drew ?_ | refine blk_alloc ?_ _)); refine blk_put (cs := #[.slice Ao14 t204.length co14, .int .i64 a0_1, .slice Ao13 t207.length co13, .slice none 0 0, .slice none 0 0]) ?_ 3 _ rfl; (with_reducible repeat (first | refine blk_drewN ?_ _ | refine blk_drew ?_ | refine blk_alloc ?_ _)); refine blk_put (cs := #[.slice Ao14 t204.length co14, .int .i64 a0_1, .slice none 0 0, .slice none 0 0, .slice none 0 0]) ?_ 2 _ rfl; (with_reducible repeat (first | refine blk_drewN ?_ _ | refine blk_drew ?_ | refine blk_alloc ?_ _)); refine blk_put (cs := #[.slice Ao14 t204.length co14, .int .i64 0, .slice none 0 0, .slice none 0 0, .slice none 0 0]) ?_ 1 _ rfl; (with_reducible repeat (first | refine blk_drewN ?_ _ | refine blk_drew ?_ | refine blk_alloc ?_ _)); refine blk_put (cs := #[.slice none 0 0, .int .i64 0, .slice none 0 0, .slice none 0 0, .slice none 0 0]) ?_ 0 _ rfl; (with_reducible repeat (first | refine blk_drewN ?_ _ | refine blk_drew ?_ | refine blk_alloc ?_ _)); exact BK203.out) Tryz.underlying38 rfl (by kernel_rfl)) rfl ?_
       exact ⟨_, _, _, _, by first | rfl | (simp [errW_none, errW_some] <;> rfl) | (simp [*, errW_none, errW_some] <;> rfl), by (with_reducible repeat (first | apply Kd.R_alloc | apply Kd.R_drewN | apply Kd.R_drew)); exact Kd.R_mono (Kd.R_far (p := ⟨gb203, 4, none⟩) (Kd.R_far (p := ⟨gb203, 3, none⟩) (Kd.R_far (p := ⟨gb203, 2, none⟩) (Kd.R_far (p := ⟨gb203, 1, none⟩) (Kd.R_far (p := ⟨gb203, 0, none⟩) (Kd.R_types HO_211000.out BK203.out (by decide)) (fun _ hk => hk.2) (.slice Ao14 t204.length co14)) (fun _ hk => hk.2) (.int .i64 a0_1)) (fun _ hk => hk.2) (.slice Ao13 t207.length co13)) (fun _ hk => hk.2) (.slice Ao64 x211003_1.length co64)) (fun _ hk => hk.2) (.slice Ao65 x211004_2.length co65)) (fun _ hk => trivial), by (with_reducible repeat (first | apply Kd.R_alloc | apply Kd.R_drewN | apply Kd.R_drew)); exact Kd.R_mono (Kd.R_far (p := ⟨gb203, 4, none⟩) (Kd.R_far (p := ⟨gb203, 3, none⟩) (Kd.R_far (p := ⟨gb203, 2, none⟩) (Kd.R_far (p := ⟨gb203, 1, none⟩) (Kd.R_far (p := ⟨gb203, 0, none⟩) (Kd.R_types HO_211002.out BK203.out (by decide)) (fun _ hk => hk.2) (.slice Ao14 t204.length co14)) (fun _ hk => hk.2) (.int .i64 a0_1)) (fun _ hk => hk.2) (.slice Ao13 t207.length co13)) (fun _ hk => hk.2) (.slice Ao64 x211003_1.length co64)) (fun _ hk => hk.2) (.slice Ao65 x211004_2.length co65)) (fun _ hk => trivial), by (with_reducible repeat (first | apply Kd.S_alloc | apply Kd.S_drewN | apply Kd.S_drew)); exact Kd.S_mono (Kd.S_far (p := ⟨gb203, 4, none⟩) (Kd.S_far (p := ⟨gb203, 3, none⟩) (Kd.S_far (p := ⟨gb203, 2, none⟩) (Kd.S_far (p := ⟨gb203, 1, none⟩) (Kd.S_far (p := ⟨gb203, 0, none⟩) (Kd.S_types HO_211003.out BK203.out (by decide)) (fun _ hk => hk.2) (.slice Ao14 t204.length co14)) (fun _ hk => hk.2) (.int .i64 a0_1)) (fun _ hk => hk.2) (.slice Ao13 t207.length co13)) (fun _ hk => hk.2) (.slice Ao64 x211003_1.length co64)) (fun _ hk => hk.2) (.slice Ao65 x211004_2.length co65)) (fun _ hk => hk.1), by (with_reducible repeat (first | apply Kd.R_alloc | apply Kd.R_drewN | apply Kd.R_drew)); exact Kd.R_mono (Kd.R_far (p := ⟨gb203, 4, none⟩) (Kd.R_far (p := ⟨gb203, 3, none⟩) (Kd.R_far (p := ⟨gb203, 2, none⟩) (Kd.R_far (p := ⟨gb203, 1, none⟩) (Kd.R_far (p := ⟨gb203, 0, none⟩) (Kd.R_types HO_211004.out BK203.out (by decide)) (fun _ hk => hk.2) (.slice Ao14 t204.length co14)) (fun _ hk => hk.2) (.int .i64 a0_1)) (fun _ hk => hk.2) (.slice Ao13 t207.length co13)) (fun _ hk => hk.2) (.slice Ao64 x211003_1.length co64)) (fun _ hk => hk.2) (.slice Ao65 x211004_2.length co65)) (fun _ hk => trivial), by repeat (first | (with_reducible first | exact HB.out | apply below_alloc | apply pw_below_drewN | apply below_drew1 | refine below_set ?_ GE202.out | refine below_set ?_ GE203.out | refine below_set ?_ GE210.out) | exact HB.out)⟩
end Go.Proofs.YthgfhgjlilmieaaGreat.B
namespace Go.Proofs.YthgfhgjlilmieaaGreat.B
open Go.RowKit Go.Proofs.YthgfhgjlilmieaaGreatW.PrintWords Go.Proofs.YthgfhgjlilmieaaGreatW.PrintLast Go.Proofs.YthgfhgjlilmieaaGreatW.PrintMore
attribute [local go_sem] max2_int min2_int max_two min_two max_three min_three max_four min_four
set_option linter.unusedVariables false
set_option linter.unusedSimpArgs false
def glisterlaw06_line.f (l0 : List (S75)) : Option (List ByteArray × Int × List Int × (List (S76)) × (List (S75))) := (some (([(⟨6, 0, (⟨#[45, 32, 46]⟩ : ByteArray)⟩ : S75), (⟨8, 1, (⟨#[45]⟩ : ByteArray)⟩ : S75), (⟨9, 0, (⟨#[46]⟩ : ByteArray)⟩ : S75)] : List (S75)) : List (S75))).bind fun y179 => (if y179.length + l0.length < 4398046511104 then (some ((([(⟨#[46]⟩ : ByteArray), (⟨#[45]⟩ : ByteArray), (⟨#[46, 46]⟩ : ByteArray)] : List ByteArray)), 1, (([5, (-1)] : List Int)), (([(⟨6, 0, (([1, 0] : List Int))⟩ : S76), (⟨8, 1, (([2] : List Int))⟩ : S76)] : List (S76))), (y179 ++ l0))) else (none))
set_option maxHeartbeats 8000000 in
set_option maxRecDepth 100000 in
theorem glisterlaw06_line.calls (A0 : Option Addr) (c0 : Nat) (l0 : List (S75)) (r1 : List ByteArray) (r2 : Int) (r3 : List Int) (r4 : List (S76)) (r5 : List (S75)) (w : World) (hr0 : Kd.C k75 w A0 l0.length l0) (hc0 : l0.length ≤ c0) (h : glisterlaw06_line.f l0 = some (r1, r2, r3, r4, r5)) :
  Calls Tryz.prog 49 #[.slice A0 l0.length c0] w fun e w' => ∃ v0_ v2_ v3_ v4_ : Value, e = .returned (.agg #[v0_, .int .i64 r2, v2_, v3_, v4_]) ∧ Kd.R Kd.string 9 w' w.heap.size (fun k_ => (w.heap.size ≤ k_)) v0_ r1 ∧ Kd.R (Kd.int .i64) 3 w' w.heap.size (fun k_ => (w.heap.size ≤ k_)) v2_ r3 ∧ Kd.N k76 76 w' w.heap.size (fun k_ => (w.heap.size ≤ k_) ∧ some k_ ≠ (v0_ : Value).ownBlock ∧ some k_ ≠ (v2_ : Value).ownBlock ∧ some k_ ≠ (v4_ : Value).ownBlock) v3_ r4 ∧ Kd.R k75 75 w' w.heap.size (fun k_ => (w.heap.size ≤ k_)) v4_ r5 ∧ Below w.heap.size w w' := by
 have hu38 := Tryz.underlying38
 have hu34 := Tryz.underlying34
 have hu76 := Tryz.underlying76
 have hu75 := Tryz.underlying75
 have HR0 := Aside0.mk hr0
 have HC0 := Aside0.mk hc0
 clear hr0 hc0
 have HB := Aside0.mk (Below.refl w.heap.size w)
 have H : ((some (([(⟨6, 0, (⟨#[45, 32, 46]⟩ : ByteArray)⟩ : S75), (⟨8, 1, (⟨#[45]⟩ : ByteArray)⟩ : S75), (⟨9, 0, (⟨#[46]⟩ : ByteArray)⟩ : S75)] : List (S75)) : List (S75))).bind fun y179 => (if y179.length + l0.length < 4398046511104 then (some ((([(⟨#[46]⟩ : ByteArray), (⟨#[45]⟩ : ByteArray), (⟨#[46, 46]⟩ : ByteArray)] : List ByteArray)), 1, (([5, (-1)] : List Int)), (([(⟨6, 0, (([1, 0] : List Int))⟩ : S76), (⟨8, 1, (([2] : List Int))⟩ : S76)] : List (S76))), (y179 ++ l0))) else (none))) = some (r1, r2, r3, r4, r5) := h
 clear h
 obtain ⟨y164, hy164⟩ : ∃ y_ : List ByteArray, y_ = (([(⟨#[46]⟩ : ByteArray), (⟨#[45]⟩ : ByteArray), (⟨#[46, 46]⟩ : ByteArray)] : List ByteArray)) := ⟨_, rfl⟩
 replace H : ((some (([(⟨6, 0, (⟨#[45, 32, 46]⟩ : ByteArray)⟩ : S75), (⟨8, 1, (⟨#[45]⟩ : ByteArray)⟩ : S75), (⟨9, 0, (⟨#[46]⟩ : ByteArray)⟩ : S75)] : List (S75)) : List (S75))).bind fun y179 => (if y179.length + l0.length < 4398046511104 then (some (y164, 1, (([5, (-1)] : List Int)), (([(⟨6, 0, (([1, 0] : List Int))⟩ : S76), (⟨8, 1, (([2] : List Int))⟩ : S76)] : List (S76))), (y179 ++ l0))) else (none))) = some (r1, r2, r3, r4, r5) := by first | (rw [hy164]; with_reducible exact H) | (have H2_ := (Option.bind_some _ _).symm.trans H; rw [hy164]; with_reducible exact H2_) | (have H2_ := (Option.bind_some _ _).symm.trans H; with_reducible exact H2_) | with_reducible exact H | (rw [hy164]; exact H) | exact H
 have Ny164 := Aside0.mk hy164
 clear hy164
 obtain ⟨y167, hy167⟩ : ∃ y_ : List Int, y_ = (([5, (-1)] : List Int)) := ⟨_, rfl⟩
 replace H : ((some (([(⟨6, 0, (⟨#[45, 32, 46]⟩ : ByteArray)⟩ : S75), (⟨8, 1, (⟨#[45]⟩ : ByteArray)⟩ : S75), (⟨9, 0, (⟨#[46]⟩ : ByteArray)⟩ : S75)] : List (S75)) : List (S75))).bind fun y179 => (if y179.length + l0.length < 4398046511104 then (some (y164, 1, y167, (([(⟨6, 0, (([1, 0] : List Int))⟩ : S76), (⟨8, 1, (([2] : List Int))⟩ : S76)] : List (S76))), (y179 ++ l0))) else (none))) = some (r1, r2, r3, r4, r5) := by first | (rw [hy167]; with_reducible exact H) | (have H2_ := (Option.bind_some _ _).symm.trans H; rw [hy167]; with_reducible exact H2_) | (have H2_ := (Option.bind_some _ _).symm.trans H; with_reducible exact H2_) | with_reducible exact H | (rw [hy167]; exact H) | exact H
 have Ny167 := Aside0.mk hy167
 clear hy167
 obtain ⟨y170, hy170⟩ : ∃ y_ : List Int, y_ = (([1, 0] : List Int)) := ⟨_, rfl⟩
 replace H : ((some (([(⟨6, 0, (⟨#[45, 32, 46]⟩ : ByteArray)⟩ : S75), (⟨8, 1, (⟨#[45]⟩ : ByteArray)⟩ : S75), (⟨9, 0, (⟨#[46]⟩ : ByteArray)⟩ : S75)] : List (S75)) : List (S75))).bind fun y179 => (if y179.length + l0.length < 4398046511104 then (some (y164, 1, y167, (([(⟨6, 0, y170⟩ : S76), (⟨8, 1, (([2] : List Int))⟩ : S76)] : List (S76))), (y179 ++ l0))) else (none))) = some (r1, r2, r3, r4, r5) := by first | (rw [hy170]; with_reducible exact H) | (have H2_ := (Option.bind_some _ _).symm.trans H; rw [hy170]; with_reducible exact H2_) | (have H2_ := (Option.bind_some _ _).symm.trans H; with_reducible exact H2_) | with_reducible exact H | (rw [hy170]; exact H) | exact H
 have Ny170 := Aside0.mk hy170
 clear hy170
 obtain ⟨y173, hy173⟩ : ∃ y_ : List Int, y_ = (([2] : List Int)) := ⟨_, rfl⟩
 replace H : ((some (([(⟨6, 0, (⟨#[45, 32, 46]⟩ : ByteArray)⟩ : S75), (⟨8, 1, (⟨#[45]⟩ : ByteArray)⟩ : S75), (⟨9, 0, (⟨#[46]⟩ : ByteArray)⟩ : S75)] : List (S75)) : List (S75))).bind fun y179 => (if y179.length + l0.length < 4398046511104 then (some (y164, 1, y167, (([(⟨6, 0, y170⟩ : S76), (⟨8, 1, y173⟩ : S76)] : List (S76))), (y179 ++ l0))) else (none))) = some (r1, r2, r3, r4, r5) := by first | (rw [hy173]; with_reducible exact H) | (have H2_ := (Option.bind_some _ _).symm.trans H; rw [hy173]; with_reducible exact H2_) | (have H2_ := (Option.bind_some _ _).symm.trans H; with_reducible exact H2_) | with_reducible exact H | (rw [hy173]; exact H) | exact H
 have Ny173 := Aside0.mk hy173
 clear hy173
 obtain ⟨y176, hy176⟩ : ∃ y_ : List (S76), y_ = (([(⟨6, 0, y170⟩ : S76), (⟨8, 1, y173⟩ : S76)] : List (S76))) := ⟨_, rfl⟩
 replace H : ((some (([(⟨6, 0, (⟨#[45, 32, 46]⟩ : ByteArray)⟩ : S75), (⟨8, 1, (⟨#[45]⟩ : ByteArray)⟩ : S75), (⟨9, 0, (⟨#[46]⟩ : ByteArray)⟩ : S75)] : List (S75)) : List (S75))).bind fun y179 => (if y179.length + l0.length < 4398046511104 then (some (y164, 1, y167, y176, (y179 ++ l0))) else (none))) = some (r1, r2, r3, r4, r5) := by first | (rw [hy176]; with_reducible exact H) | (have H2_ := (Option.bind_some _ _).symm.trans H; rw [hy176]; with_reducible exact H2_) | (have H2_ := (Option.bind_some _ _).symm.trans H; with_reducible exact H2_) | with_reducible exact H | (rw [hy176]; exact H) | exact H
 have Ny176 := Aside0.mk hy176
 clear hy176
 obtain ⟨y179, hy179⟩ : ∃ y_ : List (S75), y_ = (([(⟨6, 0, (⟨#[45, 32, 46]⟩ : ByteArray)⟩ : S75), (⟨8, 1, (⟨#[45]⟩ : ByteArray)⟩ : S75), (⟨9, 0, (⟨#[46]⟩ : ByteArray)⟩ : S75)] : List (S75))) := ⟨_, rfl⟩
 replace H : (if y179.length + l0.length < 4398046511104 then (some (y164, 1, y167, y176, (y179 ++ l0))) else (none)) = some (r1, r2, r3, r4, r5) := by first | (rw [hy179]; with_reducible exact H) | (have H2_ := (Option.bind_some _ _).symm.trans H; rw [hy179]; with_reducible exact H2_) | (have H2_ := (Option.bind_some _ _).symm.trans H; with_reducible exact H2_) | with_reducible exact H | (rw [hy179]; exact H) | exact H
 have Ny179 := Aside0.mk hy179
 clear hy179
 by_cases c2 : y179.length + l0.length < 4398046511104
 ·rw [if_pos c2] at H
  have LMc2 := Aside0.mk c2
  clear c2
  obtain ⟨y182, hy182⟩ : ∃ y_ : List (S75), y_ = (y179 ++ l0) := ⟨_, rfl⟩
  replace H : (some (y164, 1, y167, y176, y182)) = some (r1, r2, r3, r4, r5) := by first | (rw [hy182]; with_reducible exact H) | (have H2_ := (Option.bind_some _ _).symm.trans H; rw [hy182]; with_reducible exact H2_) | (have H2_ := (Option.bind_some _ _).symm.trans H; with_reducible exact H2_) | with_reducible exact H | (rw [hy182]; exact H) | exact H
  have Ny182 := Aside0.mk hy182
  clear hy182
  simp only [Option.some.injEq, Prod.mk.injEq] at H
  obtain ⟨rfl, rfl, rfl, rfl, rfl⟩ := H
  go_enter Tryz.func49, Tryz.ntmps49
  go_wp2_with (first | ((with_reducible refine gate_dst (N := 2) rfl ?_); refine box_event ?hg (N := 2) ?hd (cs := #[.slice none 0 0, .int .i64 0, .slice none 0 0, .slice none 0 0, .slice none 0 0]) (t := 38) ?hr ?_; (case hd => rfl); (case hg => rfl); (case hr => first | (go_simp; done) | (go_simp; rfl)); intro gb163 hg w3 hbox hb; have n0_ := Aside0.mk (below_step (by repeat (first | (with_reducible first | exact HB.out | apply below_alloc | apply pw_below_drewN | apply below_drew1) | exact HB.out)) hb); have n1_ := Aside0.mk (hbox); have n2_ := Aside0.mk ((by rw [hg]; exact (below_size (by repeat (first | (with_reducible first | exact HB.out | apply below_alloc | apply pw_below_drewN | apply below_drew1) | exact HB.out))) : w.heap.size ≤ gb163)); have n3_ := Aside0.mk ((by rw [hg]; exact (below_size (by repeat (first | (with_reducible first | exact HB.out | apply below_alloc | apply pw_below_drewN | apply below_drew1) | exact HB.out))) : w.heap.size ≤ gb163)); clear HB; have HB := n0_; have BK163 := n1_; have GW163 := n2_; have GE163 := n3_; clear n0_ n1_ n2_ n3_; clear hb hbox hg) | ((with_reducible refine gate_dst (N := 3) rfl ?_); refine Kd.R_lit Kd.string _ 9 ?hg (N := 3) ?hd (xs := ([(⟨#[46]⟩ : ByteArray), (⟨#[45]⟩ : ByteArray), (⟨#[46, 46]⟩ : ByteArray)] : List ByteArray)) (inner := [.string (⟨#[46]⟩ : ByteArray), .string (⟨#[45]⟩ : ByteArray), .string (⟨#[46, 46]⟩ : ByteArray)]) (ok := fun _ => True) (okp := fun _ => True) ?hr ?hp (fun _ hk => hk) trivial (Below.refl _ _) (Nat.le_refl _) (by simp) ?_; (case hd => rfl); (case hg => rfl); (case hr => first | (go_simp; done) | (go_simp; rfl)); (case hp => exact (Reps.one (show Kd.M Kd.string _ _ _ (⟨#[46]⟩ : ByteArray) [.string (⟨#[46]⟩ : ByteArray)] from rfl) (Reps.one (show Kd.M Kd.string _ _ _ (⟨#[45]⟩ : ByteArray) [.string (⟨#[45]⟩ : ByteArray)] from rfl) (Reps.one (show Kd.M Kd.string _ _ _ (⟨#[46, 46]⟩ : ByteArray) [.string (⟨#[46, 46]⟩ : ByteArray)] from rfl) (Reps.none _ _))))); intro v165 w4 ho5 hb hg_ hnew_; clear hg_ hnew_; (first | rw [← Ny164.out] at ho5 | (simp only [Int.reduceToNat] at ho5; rw [← Ny164.out] at ho5)); have n0_ := Aside0.mk (Kd.R_lower (Kd.R_newM (M := fun k_ => (w.heap.size ≤ k_)) ho5 (below_size (by repeat (first | (with_reducible first | exact HB.out | apply below_alloc | apply pw_below_drewN | apply below_drew1 | refine below_set ?_ GE163.out) | exact HB.out))) (fun k_ h_ => h_)) (below_size (by repeat (first | (with_reducible first | exact HB.out | apply below_alloc | apply pw_below_drewN | apply below_drew1 | refine below_set ?_ GE163.out) | exact HB.out)))); have n1_ := Aside0.mk (blk_below (g := gb163) (o := .cells #[.slice none 0 0, .int .i64 0, .slice none 0 0, .slice none 0 0, .slice none 0 0] 38 (0, 0)) (by (with_reducible repeat (first | refine blk_drewN ?_ _ | refine blk_drew ?_ | refine blk_alloc ?_ _)); exact BK163.out) hb); have n2_ := Aside0.mk (below_step (by repeat (first | (with_reducible first | exact HB.out | apply below_alloc | apply pw_below_drewN | apply below_drew1 | refine below_set ?_ GE163.out) | exact HB.out)) hb); clear BK163; clear HB; have HO166 := n0_; have BK163 := n1_; have HB := n2_; clear n0_ n1_ n2_; clear hb ho5; obtain ⟨Ao6, co6, eo6⟩ := Kd.R_slice HO166.out; subst eo6) | ((with_reducible refine gate_dst (N := 5) rfl ?_); refine Kd.R_lit (Kd.int .i64) _ 3 ?hg (N := 5) ?hd (xs := ([5, (-1)] : List Int)) (inner := [.int .i64 5, .int .i64 (-1)]) (ok := fun _ => True) (okp := fun _ => True) ?hr ?hp (fun _ hk => hk) trivial (Below.refl _ _) (Nat.le_refl _) (by simp) ?_; (case hd => rfl); (case hg => rfl); (case hr => first | (go_simp; done) | (go_simp; rfl)); (case hp => exact (Reps.one (show Kd.M (Kd.int .i64) _ _ _ 5 [.int .i64 5] from rfl) (Reps.one (show Kd.M (Kd.int .i64) _ _ _ (-1) [.int .i64 (-1)] from rfl) (Reps.none _ _)))); intro v168 w7 ho8 hb hg_ hnew_; clear hg_ hnew_; (first | rw [← Ny167.out] at ho8 | (simp only [Int.reduceToNat] at ho8; rw [← Ny167.out] at ho8)); have n0_ := Aside0.mk (Kd.R_below (by (with_reducible repeat (first | apply Kd.R_alloc | apply Kd.R_drewN | apply Kd.R_drew)); exact HO166.out) hb); have n1_ := Aside0.mk (Kd.R_lower (Kd.R_newM (M := fun k_ => (w.heap.size ≤ k_)) ho8 (below_size (by repeat (first | (with_reducible first | exact HB.out | apply below_alloc | apply pw_below_drewN | apply below_drew1 | refine below_set ?_ GE163.out) | exact HB.out))) (fun k_ h_ => h_)) (below_size (by repeat (first | (with_reducible first | exact HB.out | apply below_alloc | apply pw_below_drewN | apply below_drew1 | refine below_set ?_ GE163.out) | exact HB.out)))); have n2_ := Aside0.mk (blk_below (g := gb163) (o := .cells #[.slice none 0 0, .int .i64 0, .slice none 0 0, .slice none 0 0, .slice none 0 0] 38 (0, 0)) (by (with_reducible repeat (first | refine blk_drewN ?_ _ | refine blk_drew ?_ | refine blk_alloc ?_ _)); exact BK163.out) hb); have n3_ := Aside0.mk (below_step (by repeat (first | (with_reducible first | exact HB.out | apply below_alloc | apply pw_below_drewN | apply below_drew1 | refine below_set ?_ GE163.out) | exact HB.out)) hb); clear HO166; clear BK163; clear HB; have HO166 := n0_; have HO169 := n1_; have BK163 := n2_; have HB := n3_; clear n0_ n1_ n2_ n3_; clear hb ho8) | ((with_reducible refine gate_dst (N := 6) rfl ?_); refine Kd.R_lit (Kd.int .i64) _ 3 ?hg (N := 6) ?hd (xs := ([1, 0] : List Int)) (inner := [.int .i64 1, .int .i64 0]) (ok := fun _ => True) (okp := fun _ => True) ?hr ?hp (fun _ hk => hk) trivial (Below.refl _ _) (Nat.le_refl _) (by simp) ?_; (case hd => rfl); (case hg => rfl); (case hr => first | (go_simp; done) | (go_simp; rfl)); (case hp => exact (Reps.one (show Kd.M (Kd.int .i64) _ _ _ 1 [.int .i64 1] from rfl) (Reps.one (show Kd.M (Kd.int .i64) _ _ _ 0 [.int .i64 0] from rfl) (Reps.none _ _)))); intro v171 w9 ho10 hb hg_ hnew_; clear hg_ hnew_; (first | rw [← Ny170.out] at ho10 | (simp only [Int.reduceToNat] at ho10; rw [← Ny170.out] at ho10)); have n0_ := Aside0.mk (Kd.R_below (by (with_reducible repeat (first | apply Kd.R_alloc | apply Kd.R_drewN | apply Kd.R_drew)); exact HO166.out) hb); have n1_ := Aside0.mk (Kd.R_elder' (by (with_reducible repeat (first | apply Kd.R_alloc | apply Kd.R_drewN | apply Kd.R_drew)); exact HO169.out) (Kd.R_base ho10) hb); have n2_ := Aside0.mk (Kd.R_lower (Kd.R_new' (Kd.R_newM (M := fun k_ => (w.heap.size ≤ k_)) ho10 (below_size (by repeat (first | (with_reducible first | exact HB.out | apply below_alloc | apply pw_below_drewN | apply below_drew1 | refine below_set ?_ GE163.out) | exact HB.out))) (fun k_ h_ => h_)) (Kd.R_lt (by (with_reducible repeat (first | apply Kd.R_alloc | apply Kd.R_drewN | apply Kd.R_drew)); exact HO169.out))) (below_size (by repeat (first | (with_reducible first | exact HB.out | apply below_alloc | apply pw_below_drewN | apply below_drew1 | refine below_set ?_ GE163.out) | exact HB.out)))); have n3_ := Aside0.mk (blk_below (g := gb163) (o := .cells #[.slice none 0 0, .int .i64 0, .slice none 0 0, .slice none 0 0, .slice none 0 0] 38 (0, 0)) (by (with_reducible repeat (first | refine blk_drewN ?_ _ | refine blk_drew ?_ | refine blk_alloc ?_ _)); exact BK163.out) hb); have n4_ := Aside0.mk (below_step (by repeat (first | (with_reducible first | exact HB.out | apply below_alloc | apply pw_below_drewN | apply below_drew1 | refine below_set ?_ GE163.out) | exact HB.out)) hb); clear HO166; clear HO169; clear BK163; clear HB; have HO166 := n0_; have HO169 := n1_; have HO172 := n2_; have BK163 := n3_; have HB := n4_; clear n0_ n1_ n2_ n3_ n4_; clear hb ho10; obtain ⟨Ao11, co11, eo11⟩ := Kd.R_slice HO172.out; subst eo11) | ((with_reducible refine gate_dst (N := 8) rfl ?_); refine Kd.R_lit (Kd.int .i64) _ 3 ?hg (N := 8) ?hd (xs := ([2] : List Int)) (inner := [.int .i64 2]) (ok := fun _ => True) (okp := fun _ => True) ?hr ?hp (fun _ hk => hk) trivial (Below.refl _ _) (Nat.le_refl _) (by simp) ?_; (case hd => rfl); (case hg => rfl); (case hr => first | (go_simp; done) | (go_simp; rfl)); (case hp => exact (Reps.one (show Kd.M (Kd.int .i64) _ _ _ 2 [.int .i64 2] from rfl) (Reps.none _ _))); intro v174 w12 ho13 hb hg_ hnew_; clear hg_ hnew_; (first | rw [← Ny173.out] at ho13 | (simp only [Int.reduceToNat] at ho13; rw [← Ny173.out] at ho13)); have n0_ := Aside0.mk (Kd.R_below (by (with_reducible repeat (first | apply Kd.R_alloc | apply Kd.R_drewN | apply Kd.R_drew)); exact HO166.out) hb); have n1_ := Aside0.mk (Kd.R_elder' (by (with_reducible repeat (first | apply Kd.R_alloc | apply Kd.R_drewN | apply Kd.R_drew)); exact HO169.out) (Kd.R_base ho13) hb); have n2_ := Aside0.mk (Kd.R_elder' (by (with_reducible repeat (first | apply Kd.R_alloc | apply Kd.R_drewN | apply Kd.R_drew)); exact HO172.out) (Kd.R_base ho13) hb); have n3_ := Aside0.mk (Kd.R_lower (Kd.R_new' (Kd.R_new' (Kd.R_newM (M := fun k_ => (w.heap.size ≤ k_)) ho13 (below_size (by repeat (first | (with_reducible first | exact HB.out | apply below_alloc | apply pw_below_drewN | apply below_drew1 | refine below_set ?_ GE163.out) | exact HB.out))) (fun k_ h_ => h_)) (Kd.R_lt (by (with_reducible repeat (first | apply Kd.R_alloc | apply Kd.R_drewN | apply Kd.R_drew)); exact HO169.out))) (Kd.R_lt (by (with_reducible repeat (first | apply Kd.R_alloc | apply Kd.R_drewN | apply Kd.R_drew)); exact HO172.out))) (below_size (by repeat (first | (with_reducible first | exact HB.out | apply below_alloc | apply pw_below_drewN | apply below_drew1 | refine below_set ?_ GE163.out) | exact HB.out)))); have n4_ := Aside0.mk (blk_below (g := gb163) (o := .cells #[.slice none 0 0, .int .i64 0, .slice none 0 0, .slice none 0 0, .slice none 0 0] 38 (0, 0)) (by (with_reducible repeat (first | refine blk_drewN ?_ _ | refine blk_drew ?_ | refine blk_alloc ?_ _)); exact BK163.out) hb); have n5_ := Aside0.mk (below_step (by repeat (first | (with_reducible first | exact HB.out | apply below_alloc | apply pw_below_drewN | apply below_drew1 | refine below_set ?_ GE163.out) | exact HB.out)) hb); clear HO166; clear HO169; clear HO172; clear BK163; clear HB; have HO166 := n0_; have HO169 := n1_; have HO172 := n2_; have HO175 := n3_; have BK163 := n4_; have HB := n5_; clear n0_ n1_ n2_ n3_ n4_ n5_; clear hb ho13; obtain ⟨Ao14, co14, eo14⟩ := Kd.R_slice HO175.out; subst eo14) | ((with_reducible refine gate_dst (N := 10) rfl ?_); refine Kd.N_lit k76 _ 76 ?hg (N' := 10) ?hd (xs := ([(⟨6, 0, y170⟩ : S76), (⟨8, 1, y173⟩ : S76)] : List (S76))) (inner := [.int .i64 6, .int .i64 0, .slice Ao11 y170.length co11, .int .i64 8, .int .i64 1, .slice Ao14 y173.length co14]) (ok := (fun k_ => (w.heap.size ≤ k_) ∧ some k_ ≠ (.slice Ao6 y164.length co6 : Value).ownBlock ∧ some k_ ≠ (v168 : Value).ownBlock ∧ k_ ≠ gb163)) (okp := (fun k_ => (w.heap.size ≤ k_) ∧ some k_ ≠ (.slice Ao6 y164.length co6 : Value).ownBlock ∧ some k_ ≠ (v168 : Value).ownBlock ∧ k_ ≠ gb163)) ?hr ?hp (fun _ hk => hk) ((show ∀ k_, w12.heap.size ≤ k_ → (fun k_ => (w.heap.size ≤ k_) ∧ some k_ ≠ (.slice Ao6 y164.length co6 : Value).ownBlock ∧ some k_ ≠ (v168 : Value).ownBlock ∧ k_ ≠ gb163) k_ from fun k_ hk => ⟨(Nat.le_trans (below_size (by repeat (first | (with_reducible first | exact HB.out | apply below_alloc | apply pw_below_drewN | apply below_drew1 | refine below_set ?_ GE163.out) | exact HB.out))) hk), Kd.fresh' (Kd.R_lt (by (with_reducible repeat (first | apply Kd.R_alloc | apply Kd.R_drewN | apply Kd.R_drew)); exact HO166.out)) k_ hk, Kd.fresh' (Kd.R_lt (by (with_reducible repeat (first | apply Kd.R_alloc | apply Kd.R_drewN | apply Kd.R_drew)); exact HO169.out)) k_ hk, Kd.freshB (g := gb163) (o := .cells #[.slice none 0 0, .int .i64 0, .slice none 0 0, .slice none 0 0, .slice none 0 0] 38 (0, 0)) (by (with_reducible repeat (first | refine blk_drewN ?_ _ | refine blk_drew ?_ | refine blk_alloc ?_ _)); exact BK163.out) k_ hk⟩) _ (Nat.le_refl _)) (Below.refl _ _) (Nat.le_refl _) (by simp) ?_; (case hd => rfl); (case hg => rfl); (case hr => first | (go_simp; done) | (go_simp; rfl)); (case hp => exact (Reps.c3 (show Kd.FK k76 _ _ (⟨6, 0, y170⟩ : S76) [.int .i64 6, .int .i64 0, .slice Ao11 y170.length co11] from (k76_mkF _ _ (⟨6, 0, y170⟩ : S76) (Kd.R_reads' (Kd.R_mono (ok' := (fun k_ => (w.heap.size ≤ k_) ∧ some k_ ≠ (.slice Ao6 y164.length co6 : Value).ownBlock ∧ some k_ ≠ (v168 : Value).ownBlock ∧ k_ ≠ gb163)) (Kd.R_types (Kd.R_apart' (HO172.out) (Kd.R_typed HO166.out) (by decide)) BK163.out (by decide)) (fun k_ hk => ⟨hk.1.1.1.1.1, ⟨hk.1.2, ⟨hk.1.1.1.2, hk.2⟩⟩⟩))).2.1 (Kd.R_F (Kd.R_mono (ok' := (fun k_ => (w.heap.size ≤ k_) ∧ some k_ ≠ (.slice Ao6 y164.length co6 : Value).ownBlock ∧ some k_ ≠ (v168 : Value).ownBlock ∧ k_ ≠ gb163)) (Kd.R_types (Kd.R_apart' (HO172.out) (Kd.R_typed HO166.out) (by decide)) BK163.out (by decide)) (fun k_ hk => ⟨hk.1.1.1.1.1, ⟨hk.1.2, ⟨hk.1.1.1.2, hk.2⟩⟩⟩))))) (Reps.c3 (show Kd.FK k76 _ _ (⟨8, 1, y173⟩ : S76) [.int .i64 8, .int .i64 1, .slice Ao14 y173.length co14] from (k76_mkF _ _ (⟨8, 1, y173⟩ : S76) (Kd.R_reads' (Kd.R_mono (ok' := (fun k_ => (w.heap.size ≤ k_) ∧ some k_ ≠ (.slice Ao6 y164.length co6 : Value).ownBlock ∧ some k_ ≠ (v168 : Value).ownBlock ∧ k_ ≠ gb163)) (Kd.R_types (Kd.R_apart' (HO175.out) (Kd.R_typed HO166.out) (by decide)) BK163.out (by decide)) (fun k_ hk => ⟨hk.1.1.1.1.1, ⟨hk.1.2, ⟨hk.1.1.1.2, hk.2⟩⟩⟩))).2.1 (Kd.R_F (Kd.R_mono (ok' := (fun k_ => (w.heap.size ≤ k_) ∧ some k_ ≠ (.slice Ao6 y164.length co6 : Value).ownBlock ∧ some k_ ≠ (v168 : Value).ownBlock ∧ k_ ≠ gb163)) (Kd.R_types (Kd.R_apart' (HO175.out) (Kd.R_typed HO166.out) (by decide)) BK163.out (by decide)) (fun k_ hk => ⟨hk.1.1.1.1.1, ⟨hk.1.2, ⟨hk.1.1.1.2, hk.2⟩⟩⟩))))) (Reps.none _ _)))); intro v177 w15 ho16 hb hg_ hnew_; clear hg_ hnew_; (first | rw [← Ny176.out] at ho16 | (simp only [Int.reduceToNat] at ho16; rw [← Ny176.out] at ho16)); have n0_ := Aside0.mk (Kd.R_below (by (with_reducible repeat (first | apply Kd.R_alloc | apply Kd.R_drewN | apply Kd.R_drew)); exact HO166.out) hb); have n1_ := Aside0.mk (Kd.R_below (by (with_reducible repeat (first | apply Kd.R_alloc | apply Kd.R_drewN | apply Kd.R_drew)); exact HO169.out) hb); have n2_ := Aside0.mk (Kd.N_lower ho16 (below_size (by repeat (first | (with_reducible first | exact HB.out | apply below_alloc | apply pw_below_drewN | apply below_drew1 | refine below_set ?_ GE163.out) | exact HB.out)))); have n3_ := Aside0.mk (blk_below (g := gb163) (o := .cells #[.slice none 0 0, .int .i64 0, .slice none 0 0, .slice none 0 0, .slice none 0 0] 38 (0, 0)) (by (with_reducible repeat (first | refine blk_drewN ?_ _ | refine blk_drew ?_ | refine blk_alloc ?_ _)); exact BK163.out) hb); have n4_ := Aside0.mk (below_step (by repeat (first | (with_reducible first | exact HB.out | apply below_alloc | apply pw_below_drewN | apply below_drew1 | refine below_set ?_ GE163.out) | exact HB.out)) hb); clear HO166; clear HO169; clear BK163; clear HB; clear HO172; clear HO175; have HO166 := n0_; have HO169 := n1_; have HO178 := n2_; have BK163 := n3_; have HB := n4_; clear n0_ n1_ n2_ n3_ n4_; clear hb ho16) | ((with_reducible refine gate_dst (N := 14) rfl ?_); refine Kd.R_lit k75 _ 75 ?hg (N := 14) ?hd (xs := ([(⟨6, 0, (⟨#[45, 32, 46]⟩ : ByteArray)⟩ : S75), (⟨8, 1, (⟨#[45]⟩ : ByteArray)⟩ : S75), (⟨9, 0, (⟨#[46]⟩ : ByteArray)⟩ : S75)] : List (S75))) (inner := [.int .i64 6, .int .i64 0, .string (⟨#[45, 32, 46]⟩ : ByteArray), .int .i64 8, .int .i64 1, .string (⟨#[45]⟩ : ByteArray), .int .i64 9, .int .i64 0, .string (⟨#[46]⟩ : ByteArray)]) (ok := fun _ => True) (okp := fun _ => True) ?hr ?hp (fun _ hk => hk) trivial (Below.refl _ _) (Nat.le_refl _) (by simp) ?_; (case hd => rfl); (case hg => rfl); (case hr => first | (go_simp; done) | (go_simp; rfl)); (case hp => exact (Reps.c3 (show Kd.M k75 _ _ _ (⟨6, 0, (⟨#[45, 32, 46]⟩ : ByteArray)⟩ : S75) [.int .i64 6, .int .i64 0, .string (⟨#[45, 32, 46]⟩ : ByteArray)] from (k75_mkM _ _ _ (⟨6, 0, (⟨#[45, 32, 46]⟩ : ByteArray)⟩ : S75) )) (Reps.c3 (show Kd.M k75 _ _ _ (⟨8, 1, (⟨#[45]⟩ : ByteArray)⟩ : S75) [.int .i64 8, .int .i64 1, .string (⟨#[45]⟩ : ByteArray)] from (k75_mkM _ _ _ (⟨8, 1, (⟨#[45]⟩ : ByteArray)⟩ : S75) )) (Reps.c3 (show Kd.M k75 _ _ _ (⟨9, 0, (⟨#[46]⟩ : ByteArray)⟩ : S75) [.int .i64 9, .int .i64 0, .string (⟨#[46]⟩ : ByteArray)] from (k75_mkM _ _ _ (⟨9, 0, (⟨#[46]⟩ : ByteArray)⟩ : S75) )) (Reps.none _ _))))); intro v180 w17 ho18 hb hg_ hnew_; clear hg_ hnew_; (first | rw [← Ny179.out] at ho18 | (simp only [Int.reduceToNat] at ho18; rw [← Ny179.out] at ho18)); have n0_ := Aside0.mk (Kd.R_below (by (with_reducible repeat (first | apply Kd.R_alloc | apply Kd.R_drewN | apply Kd.R_drew)); exact HO166.out) hb); have n1_ := Aside0.mk (Kd.R_below (by (with_reducible repeat (first | apply Kd.R_alloc | apply Kd.R_drewN | apply Kd.R_drew)); exact HO169.out) hb); have n2_ := Aside0.mk (Kd.N_elder' (by (with_reducible repeat (first | apply Kd.N_alloc | apply Kd.N_drewN | apply Kd.N_drew)); exact HO178.out) (Kd.R_base ho18) hb); have n3_ := Aside0.mk (Kd.R_lower (Kd.R_newM (M := fun k_ => (w.heap.size ≤ k_)) ho18 (below_size (by repeat (first | (with_reducible first | exact HB.out | apply below_alloc | apply pw_below_drewN | apply below_drew1 | refine below_set ?_ GE163.out) | exact HB.out))) (fun k_ h_ => h_)) (below_size (by repeat (first | (with_reducible first | exact HB.out | apply below_alloc | apply pw_below_drewN | apply below_drew1 | refine below_set ?_ GE163.out) | exact HB.out)))); have n4_ := Aside0.mk (blk_below (g := gb163) (o := .cells #[.slice none 0 0, .int .i64 0, .slice none 0 0, .slice none 0 0, .slice none 0 0] 38 (0, 0)) (by (with_reducible repeat (first | refine blk_drewN ?_ _ | refine blk_drew ?_ | refine blk_alloc ?_ _)); exact BK163.out) hb); have n5_ := Aside0.mk (below_step (by repeat (first | (with_reducible first | exact HB.out | apply below_alloc | apply pw_below_drewN | apply below_drew1 | refine below_set ?_ GE163.out) | exact HB.out)) hb); clear HO166; clear HO169; clear HO178; clear BK163; clear HB; have HO166 := n0_; have HO169 := n1_; have HO178 := n2_; have HO181 := n3_; have BK163 := n4_; have HB := n5_; clear n0_ n1_ n2_ n3_ n4_ n5_; clear hb ho18) | ((with_reducible refine gate_builtin (b := .append) (xs := #[.tmp 14, .tmp 15]) rfl ?_); at_builtin; refine Kd.R_append_rows k75 (w0 := w) w.heap.size rfl (.tmp 14) (.tmp 15) 36 75 (.agg #[(.int .i64 0), (.int .i64 0), (.string ⟨#[]⟩)]) 32 rfl Tryz.underlying36 info75 rfl (by decide) (by omega) v180 y179 l0 _ _ _ (fun k_ => (w.heap.size ≤ k_)) (fun _ => False) rfl rfl ?aO ?aR (fun _ _ h => h) (fun _ h => h.elim) ?aF ?aB ?aS ?aL ?_; (case aR => repeat (first | exact (Kd.C_below HR0.out HB.out) | (with_reducible refine Kd.C_alloc ?_ _) | (with_reducible refine Kd.C_drewN ?_ _) | (with_reducible refine Kd.C_drew ?_))); (case aB => exact (by repeat (first | (with_reducible first | exact HB.out | apply below_alloc | apply pw_below_drewN | apply below_drew1 | refine below_set ?_ GE163.out) | exact HB.out))); (case aF => exact (fun k_ hk => (Nat.le_trans (below_size (by repeat (first | (with_reducible first | exact HB.out | apply below_alloc | apply pw_below_drewN | apply below_drew1 | refine below_set ?_ GE163.out) | exact HB.out))) hk))); (case aO => exact (by (with_reducible repeat (first | apply Kd.R_alloc | apply Kd.R_drewN | apply Kd.R_drew)); exact Kd.R_mono HO181.out (fun _ hk => hk.1))); (case aS => exact (below_size (by repeat (first | (with_reducible first | exact HB.out | apply below_alloc | apply pw_below_drewN | apply below_drew1 | refine below_set ?_ GE163.out) | exact HB.out)))); (case aL => have := LMc2.out; omega); intro v183 w19 ho hb hg hat; rw [← Ny182.out] at ho; have n0_ := Aside0.mk (blk_grown (g := gb163) (o := .cells #[.slice none 0 0, .int .i64 0, .slice none 0 0, .slice none 0 0, .slice none 0 0] 38 (0, 0)) (by (with_reducible repeat (first | refine blk_drewN ?_ _ | refine blk_drew ?_ | refine blk_alloc ?_ _)); exact BK163.out) hg (Kd.R_ne HO181.out BK163.out (by decide))); have n1_ := Aside0.mk (Kd.R_over' (by (with_reducible repeat (first | apply Kd.R_alloc | apply Kd.R_drewN | apply Kd.R_drew)); exact HO166.out) (Kd.R_typed (by (with_reducible repeat (first | apply Kd.R_alloc | apply Kd.R_drewN | apply Kd.R_drew)); exact HO181.out)) (by decide) hg); have n2_ := Aside0.mk (Kd.R_over' (by (with_reducible repeat (first | apply Kd.R_alloc | apply Kd.R_drewN | apply Kd.R_drew)); exact HO169.out) (Kd.R_typed (by (with_reducible repeat (first | apply Kd.R_alloc | apply Kd.R_drewN | apply Kd.R_drew)); exact HO181.out)) (by decide) hg); have n3_ := Aside0.mk (Kd.N_afterv (ok := (fun k_ => (w.heap.size ≤ k_) ∧ some k_ ≠ (.slice Ao6 y164.length co6 : Value).ownBlock ∧ some k_ ≠ (v168 : Value).ownBlock ∧ k_ ≠ gb163)) (by (with_reducible repeat (first | apply Kd.N_alloc | apply Kd.N_drewN | apply Kd.N_drew)); exact HO178.out) hg hat); have n4_ := Aside0.mk (hb); have n5_ := Aside0.mk (ho); clear BK163; clear HO166; clear HO169; clear HO178; clear HB; clear HO181; have BK163 := n0_; have HO166 := n1_; have HO169 := n2_; have HO178 := n3_; have HB := n4_; have HO184 := n5_; clear n0_ n1_ n2_ n3_ n4_ n5_; clear ho hb hg hat; obtain ⟨Ao20, co20, eo20⟩ := Kd.R_slice HO184.out; subst eo20; obtain ⟨Ao21, co21, eo21⟩ := Kd.N_slice HO178.out; subst eo21; obtain ⟨Ao22, co22, eo22⟩ := Kd.R_slice HO169.out; subst eo22; have hcz23_0 : w19.cell? ⟨gb163, 0, none⟩ = some (.slice none 0 0) := (blk_cell BK163.out 0).trans rfl; have hcz23_1 : w19.cell? ⟨gb163, 1, none⟩ = some (.int .i64 0) := (blk_cell BK163.out 1).trans rfl; have hcz23_2 : w19.cell? ⟨gb163, 2, none⟩ = some (.slice none 0 0) := (blk_cell BK163.out 2).trans rfl; have hcz23_3 : w19.cell? ⟨gb163, 3, none⟩ = some (.slice none 0 0) := (blk_cell BK163.out 3).trans rfl; have hcz23_4 : w19.cell? ⟨gb163, 4, none⟩ = some (.slice none 0 0) := (blk_cell BK163.out 4).trans rfl; have hfz23_0 := blk_frozen BK163.out 0; have hfz23_1 := blk_frozen BK163.out 1; have hfz23_2 := blk_frozen BK163.out 2; have hfz23_3 := blk_frozen BK163.out 3; have hfz23_4 := blk_frozen BK163.out 4))
  refine bodyPost_ret (results_cell_row rfl _ _ gb163 38 #[.slice Ao6 y164.length co6, .int .i64 1, .slice Ao22 y167.length co22, .slice Ao21 y176.length co21, .slice Ao20 y182.length co20] (0, 0) _ rfl (by (with_reducible repeat (first | refine blk_drewN ?_ _ | refine blk_drew ?_ | refine blk_alloc ?_ _)); refine blk_put (cs := #[.slice Ao6 y164.length co6, .int .i64 1, .slice Ao22 y167.length co22, .slice Ao21 y176.length co21, .slice none 0 0]) ?_ 4 _ rfl; (with_reducible repeat (first | refine blk_drewN ?_ _ | refine blk_drew ?_ | refine blk_alloc ?_ _)); refine blk_put (cs := #[.slice Ao6 y164.length co6, .int .i64 1, .slice Ao22 y167.length co22, .slice none 0 0, .slice none 0 0]) ?_ 3 _ rfl; (with_reducible repeat (first | refine blk_drewN ?_ _ | refine blk_drew ?_ | refine blk_alloc ?_ _)); refine blk_put (cs := #[.slice Ao6 y164.length co6, .int .i64 1, .slice none 0 0, .slice none 0 0, .slice none 0 0]) ?_ 2 _ rfl; (with_reducible repeat (first | refine blk_drewN ?_ _ | refine blk_drew ?_ | refine blk_alloc ?_ _)); refine blk_put (cs := #[.slice Ao6 y164.length co6, .int .i64 0, .slice none 0 0, .slice none 0 0, .slice none 0 0]) ?_ 1 _ rfl; (with_reducible repeat (first | refine blk_drewN ?_ _ | refine blk_drew ?_ | refine blk_alloc ?_ _)); refine blk_put (cs := #[.slice none 0 0, .int .i64 0, .slice none 0 0, .slice none 0 0, .slice none 0 0]) ?_ 0 _ rfl; (with_reducible repeat (first | refine blk_drewN ?_ _ | refine blk_drew ?_ | refine blk_alloc ?_ _)); exact BK163.out) Tryz.underlying38 rfl (by kernel_rfl)) rfl ?_
  exact ⟨_, _, _, _, by first | rfl | (simp [errW_none, errW_some] <;> rfl) | (simp [*, errW_none, errW_some] <;> rfl), by (with_reducible repeat (first | apply Kd.R_alloc | apply Kd.R_drewN | apply Kd.R_drew)); exact Kd.R_mono (Kd.R_far (p := ⟨gb163, 4, none⟩) (Kd.R_far (p := ⟨gb163, 3, none⟩) (Kd.R_far (p := ⟨gb163, 2, none⟩) (Kd.R_far (p := ⟨gb163, 1, none⟩) (Kd.R_far (p := ⟨gb163, 0, none⟩) (Kd.R_types HO166.out BK163.out (by decide)) (fun _ hk => hk.2) (.slice Ao6 y164.length co6)) (fun _ hk => hk.2) (.int .i64 1)) (fun _ hk => hk.2) (.slice Ao22 y167.length co22)) (fun _ hk => hk.2) (.slice Ao21 y176.length co21)) (fun _ hk => hk.2) (.slice Ao20 y182.length co20)) (fun _ hk => hk.1.1), by (with_reducible repeat (first | apply Kd.R_alloc | apply Kd.R_drewN | apply Kd.R_drew)); exact Kd.R_mono (Kd.R_far (p := ⟨gb163, 4, none⟩) (Kd.R_far (p := ⟨gb163, 3, none⟩) (Kd.R_far (p := ⟨gb163, 2, none⟩) (Kd.R_far (p := ⟨gb163, 1, none⟩) (Kd.R_far (p := ⟨gb163, 0, none⟩) (Kd.R_types HO169.out BK163.out (by decide)) (fun _ hk => hk.2) (.slice Ao6 y164.length co6)) (fun _ hk => hk.2) (.int .i64 1)) (fun _ hk => hk.2) (.slice Ao22 y167.length co22)) (fun _ hk => hk.2) (.slice Ao21 y176.length co21)) (fun _ hk => hk.2) (.slice Ao20 y182.length co20)) (fun _ hk => hk.1.1.1.1), by (with_reducible repeat (first | apply Kd.N_alloc | apply Kd.N_drewN | apply Kd.N_drew)); exact Kd.N_mono (Kd.N_far (p := ⟨gb163, 4, none⟩) (Kd.N_far (p := ⟨gb163, 3, none⟩) (Kd.N_far (p := ⟨gb163, 2, none⟩) (Kd.N_far (p := ⟨gb163, 1, none⟩) (Kd.N_far (p := ⟨gb163, 0, none⟩) (Kd.N_mono HO178.out (fun k_ hk => (⟨hk, hk.1.2.2.2⟩ : _ ∧ k_ ≠ gb163))) (fun _ hk => hk.2) (.slice Ao6 y164.length co6)) (fun _ hk => hk.2) (.int .i64 1)) (fun _ hk => hk.2) (.slice Ao22 y167.length co22)) (fun _ hk => hk.2) (.slice Ao21 y176.length co21)) (fun _ hk => hk.2) (.slice Ao20 y182.length co20)) (fun _ hk => ⟨hk.1.1.1, ⟨hk.1.1.2.1, ⟨hk.1.1.2.2.1, hk.1.2⟩⟩⟩), by (with_reducible repeat (first | apply Kd.R_alloc | apply Kd.R_drewN | apply Kd.R_drew)); exact Kd.R_mono (Kd.R_far (p := ⟨gb163, 4, none⟩) (Kd.R_far (p := ⟨gb163, 3, none⟩) (Kd.R_far (p := ⟨gb163, 2, none⟩) (Kd.R_far (p := ⟨gb163, 1, none⟩) (Kd.R_far (p := ⟨gb163, 0, none⟩) (Kd.R_types HO184.out BK163.out (by decide)) (fun _ hk => hk.2) (.slice Ao6 y164.length co6)) (fun _ hk => hk.2) (.int .i64 1)) (fun _ hk => hk.2) (.slice Ao22 y167.length co22)) (fun _ hk => hk.2) (.slice Ao21 y176.length co21)) (fun _ hk => hk.2) (.slice Ao20 y182.length co20)) (fun _ hk => hk.1), by repeat (first | (with_reducible first | exact HB.out | apply below_alloc | apply pw_below_drewN | apply below_drew1 | refine below_set ?_ GE163.out) | exact HB.out)⟩
 ·rw [if_neg c2] at H
  exact absurd H (by simp)
end Go.Proofs.YthgfhgjlilmieaaGreat.B
namespace Go.Proofs.YthgfhgjlilmieaaGreat.G
open Go.RowKit Go.Shelf Go.Proofs.YthgfhgjlilmieaaGreatW.PrintWords Go.Proofs.YthgfhgjlilmieaaGreatW.PrintLast Go.Proofs.YthgfhgjlilmieaaGreatW.PrintMore
open Go.Proofs.YthgfhgjlilmieaaGreat.B
set_option linter.unusedVariables false
set_option linter.unusedSimpArgs false
def bsA : ByteArray := ⟨#[46]⟩
def bsB : ByteArray := ⟨#[45]⟩
def bsC : ByteArray := ⟨#[46, 46]⟩
def bsD : ByteArray := ⟨#[45, 32, 46]⟩
def lineG (more : List S75) : Lg := { ls := [bsA, bsB, bsC], errs := 1, sees := [5, -1], jn := [⟨6, 0, [1, 0]⟩, ⟨8, 1, [2]⟩], rc := [⟨6, 0, bsD⟩, ⟨8, 1, bsB⟩, ⟨9, 0, bsA⟩] ++ more }
theorem line_f (more : List S75) (h : more.length ≤ 1000) : glisterlaw06_line.f more = some ((lineG more).ls, (lineG more).errs, (lineG more).sees, (lineG more).jn, (lineG more).rc) := by
  have h1 : [(⟨6, 0, (⟨#[45, 32, 46]⟩ : ByteArray)⟩ : S75), ⟨8, 1, (⟨#[45]⟩ : ByteArray)⟩, ⟨9, 0, (⟨#[46]⟩ : ByteArray)⟩].length + more.length < 4398046511104 := by simp; omega
  unfold glisterlaw06_line.f
  simp only [Option.bind_some]
  rw [if_pos h1]
  rfl
theorem line_any (A : Option Addr) (c : Nat) (more : List S75) (w : World) (hr : Kd.C k75 w A more.length more) (hc : more.length ≤ c) (hl : more.length ≤ 1000) (hz : ∀ r, r ∈ more → r.f2.size ≤ 140737488351232) :
    Calls Tryz.prog 49 #[.slice A more.length c] w fun e w' => ∃ a, e = .returned (logV a (lineG more)) ∧ LogAt w' a (lineG more) ∧ Below w.heap.size w w' := by
  refine (glisterlaw06_line.calls A c more _ _ _ _ _ w hr hc (line_f more hl)).mono ?_
  rintro e w' ⟨v0, v2, v3, v4, rfl, h0, h2, h3, h4, hb⟩
  obtain ⟨A0, c0, rfl, l0, g0⟩ := Kd.R_reads h0
  obtain ⟨A2, c2, rfl, l2, g2⟩ := Kd.R_reads h2
  obtain ⟨A3, c3, rfl, l3, g3⟩ := Kd.N_reads h3
  obtain ⟨A4, c4, rfl, l4, g4⟩ := Kd.R_reads h4
  refine ⟨⟨A0, A2, A3, A4, c0, c2, c3, c4⟩, rfl, ⟨g0, g2, g3, g4, l0, l2, l3, l4, fun s hs => ?_, fun r hr => ?_⟩, hb⟩
  · simp only [lineG, List.mem_cons, List.not_mem_nil, or_false] at hs
    rcases hs with rfl | rfl | rfl <;> decide
  · simp only [lineG, List.mem_append, List.mem_cons, List.not_mem_nil, or_false] at hr
    rcases hr with (rfl | rfl | rfl) | hr
    · decide
    · decide
    · decide
    · exact hz r hr
theorem line0_any (w : World) : Calls Tryz.prog 49 #[.slice none 0 0] w fun e w' => ∃ a, e = .returned (logV a (lineG [])) ∧ LogAt w' a (lineG []) ∧ Below w.heap.size w w' := by
  obtain ⟨A, c, e, _, hC⟩ := Kd.R_reads (Kd.R_nil k75 75 w 0 (fun _ => True))
  cases e
  exact line_any none 0 [] w hC (by simp) (by simp) (by simp)
theorem R_lit (base : Nat) (ok : Nat → Prop) (w : World) (b : Nat) (xs : List Int) (hok : ok b) (hn : xs.length ≤ maxLen) (hb : base ≤ b) (h : w.heap[b]? = some (.cells (xs.map (Value.int .i64)).toArray 3 (0, 0))) : Kd.R (Kd.int .i64) 3 w base ok (.slice (some ⟨b, 0, none⟩) xs.length xs.length) xs :=
  Kd.R_of_own ⟨by simp [encs], .inr ⟨b, xs.length, _, rfl, hb, h, Nat.le_refl _, hn, by simp, by simp [encs]; exact List.take_of_length_le (by simp)⟩⟩ (fun k hk => by simp [Value.ownBlock] at hk; exact hk ▸ hok)
theorem C_lit (w : World) (b : Nat) (xs : List Int) (hn : xs.length ≤ maxLen) (h : w.heap[b]? = some (.cells (xs.map (Value.int .i64)).toArray 3 (0, 0))) : Kd.C (Kd.int .i64) w (some ⟨b, 0, none⟩) xs.length xs := by
  obtain ⟨A, c, e, _, hC⟩ := Kd.R_reads (R_lit 0 (fun _ => True) w b xs trivial hn (Nat.zero_le _) h)
  cases e
  exact hC
theorem same_lit (A : Option Addr) (c : Nat) (xs : List Int) (w : World) (b : Nat) (hx : Kd.C (Kd.int .i64) w A xs.length xs) (hc : xs.length ≤ c) (hn : xs.length ≤ maxLen) (h : w.heap[b]? = some (.cells (xs.map (Value.int .i64)).toArray 3 (0, 0))) :
    Calls Tryz.prog 24 #[.slice A xs.length c, .slice (some ⟨b, 0, none⟩) xs.length xs.length] w fun e w' => e = .returned (.bool true) ∧ Below w.heap.size w w' := by
  have := same_any A (some ⟨b, 0, none⟩) c xs.length xs xs w hx hc (C_lit w b xs hn h) (Nat.le_refl _)
  simpa using this
theorem lit3 (W0 : World) (b1 b2 b3 b4 : Nat) (h1 : W0.heap[b1]? = some (.cells #[.int .i64 0] 3 (0, 0))) (h2 : W0.heap[b2]? = some (.cells #[.int .i64 1] 3 (0, 0))) (h3 : W0.heap[b3]? = some (.cells #[.int .i64 1, .int .i64 0] 3 (0, 0)))
    (h4 : W0.heap[b4]? = some (.cells #[.slice (some ⟨b1, 0, none⟩) 1 1, .slice (some ⟨b2, 0, none⟩) 1 1, .slice (some ⟨b3, 0, none⟩) 2 2] 25 (0, 0))) (n1 : b1 ≠ b4) (n2 : b2 ≠ b4) (n3 : b3 ≠ b4) : Kd.C (Kd.slice 3 (Kd.int .i64)) W0 (some ⟨b4, 0, none⟩) 3 [[0], [1], [1, 0]] := by
  have hR : Kd.R (Kd.slice 3 (Kd.int .i64)) 25 W0 0 (fun _ => True) (.slice (some ⟨b4, 0, none⟩) 3 3) [[0], [1], [1, 0]] := by
    refine ⟨fun _ _ => trivial, [.slice (some ⟨b1, 0, none⟩) 1 1, .slice (some ⟨b2, 0, none⟩) 1 1, .slice (some ⟨b3, 0, none⟩) 2 2], ⟨rfl, .inr ⟨b4, 3, _, rfl, Nat.zero_le _, h4, Nat.le_refl _, by simp [maxLen], rfl, rfl⟩⟩, rfl, ?_⟩
    intro j p hj
    match j, hj with
    | 0, hj =>
      cases hj
      exact ⟨_, rfl, R_lit 0 _ W0 b1 [0] ⟨trivial, fun e => n1 (by simpa [Value.ownBlock] using e)⟩ (by simp [maxLen]) (Nat.zero_le _) h1⟩
    | 1, hj =>
      cases hj
      exact ⟨_, rfl, R_lit 0 _ W0 b2 [1] ⟨trivial, fun e => n2 (by simpa [Value.ownBlock] using e)⟩ (by simp [maxLen]) (Nat.zero_le _) h2⟩
    | 2, hj =>
      cases hj
      exact ⟨_, rfl, R_lit 0 _ W0 b3 [1, 0] ⟨trivial, fun e => n3 (by simpa [Value.ownBlock] using e)⟩ (by simp [maxLen]) (Nat.zero_le _) h3⟩
  obtain ⟨A, c, e, hl, hC⟩ := Kd.R_reads hR
  cases e
  exact hC
theorem lit3_same (A : Option Addr) (c : Nat) (w W0 : World) (hx : Kd.C (Kd.slice 3 (Kd.int .i64)) w A 3 [[0], [1], [1, 0]]) (hc : 3 ≤ c) (b4 : Nat) (hw : Kd.C (Kd.slice 3 (Kd.int .i64)) w (some ⟨b4, 0, none⟩) 3 [[0], [1], [1, 0]]) :
    Calls Tryz.prog 28 #[.slice A 3 c, .slice (some ⟨b4, 0, none⟩) 3 3] w fun e w' => e = .returned (.bool true) ∧ Below w.heap.size w w' :=
  sames_any A (some ⟨b4, 0, none⟩) c 3 [[0], [1], [1, 0]] [[0], [1], [1, 0]] w 5 (by decide) (by decide) hx hc hw (Nat.le_refl _)
theorem line0_hl : heardL (lineG []) 8 = [[0], [1], [1, 0]] := by
  have hp : partsL (lineG []) 8 = [[1], [1, 0], [0]] := by decide +kernel
  have h : sortT (partsL (lineG []) 8) = [[0], [1], [1, 0]] := (sortT_unique (by rw [hp]; decide +kernel) (by decide +kernel)).symm
  unfold heardL
  rw [h]
  decide +kernel
theorem line0_hl9 : heardL (lineG []) 9 = [[0], [1], [1, 0]] := by
  have hp : partsL (lineG []) 9 = [[1], [1, 0], [0]] := by decide +kernel
  have h : sortT (partsL (lineG []) 9) = [[0], [1], [1, 0]] := (sortT_unique (by rw [hp]; decide +kernel) (by decide +kernel)).symm
  unfold heardL
  rw [h]
  decide +kernel
theorem line0_msk : mskO (lineG []) 2 = some [0] := by
  have e : (rd_T75 (lineG []).rc 2).f0 = 9 := rfl
  unfold mskO
  rw [e, line0_hl9]
  decide +kernel
theorem aw_own (a : LV) (w : World) (h : LogAt w a (lineG [])) : Calls Tryz.prog 21 #[logV a (lineG []), .int .i64 1] w fun e w' => ∃ A c, e = .returned (.tuple #[.slice A 1 c, .int .i64 0]) ∧ 1 ≤ c ∧ Kd.C (Kd.int .i64) w' A 1 [1] ∧ Below w.heap.size w w' := by
  have e1 : askE (lineG []) 1 = 0 := by decide +kernel
  have e2 : ownL (lineG []) 1 = [1] := by decide +kernel
  have hc := own_any a (lineG []) 1 w h
  rw [e1, e2] at hc
  refine hc.mono ?_
  rintro e w' ⟨v, rfl, hR, hb⟩
  obtain ⟨A, c, rfl, hl, hC⟩ := Kd.R_reads hR
  exact ⟨A, c, rfl, hl, hC, hb⟩
theorem aw_msk (a : LV) (w : World) (h : LogAt w a (lineG [])) : Calls Tryz.prog 27 #[logV a (lineG []), .int .i64 2] w fun e w' => ∃ A c, e = .returned (.tuple #[.slice A 1 c, .int .i64 0]) ∧ 1 ≤ c ∧ Kd.C (Kd.int .i64) w' A 1 [0] ∧ Below w.heap.size w w' := by
  have e1 : mskE (lineG []) 2 = 0 := by unfold mskE; rw [line0_msk]; decide +kernel
  have e2 : mskL (lineG []) 2 = [0] := by unfold mskL; rw [line0_msk]; decide +kernel
  have hc := masked_any a (lineG []) 2 w h
  rw [e1, e2] at hc
  refine hc.mono ?_
  rintro e w' ⟨v, rfl, hR, hb⟩
  obtain ⟨A, c, rfl, hl, hC⟩ := Kd.R_reads hR
  exact ⟨A, c, rfl, hl, hC, hb⟩
theorem aw_ver (a : LV) (w : World) (h : LogAt w a (lineG [])) : Calls Tryz.prog 35 #[logV a (lineG [])] w fun e w' => ∃ A c, e = .returned (.tuple #[.slice A 3 c, .int .i64 0]) ∧ 3 ≤ c ∧ Kd.C (Kd.int .i64) w' A 3 [1, 3, 2] ∧ Below w.heap.size w w' := by
  have e1 : verdE (lineG []) = 0 := by decide +kernel
  have e2 : verdL (lineG []) = [1, 3, 2] := by decide +kernel
  have hc := verdicts_any a (lineG []) w h
  rw [e1, e2] at hc
  refine hc.mono ?_
  rintro e w' ⟨v, rfl, hR, hb⟩
  obtain ⟨A, c, rfl, hl, hC⟩ := Kd.R_reads hR
  exact ⟨A, c, rfl, hl, hC, hb⟩
theorem aw_asg (a : LV) (w : World) (h : LogAt w a (lineG [])) : Calls Tryz.prog 36 #[logV a (lineG [])] w fun e w' => ∃ A c, e = .returned (.tuple #[.slice A 3 c, .int .i64 0]) ∧ 3 ≤ c ∧ Kd.C (Kd.int .i64) w' A 3 [0, 1, -1] ∧ Below w.heap.size w w' := by
  have e1 : asgE (lineG []) = 0 := by decide +kernel
  have e2 : asgL (lineG []) = [0, 1, -1] := by decide +kernel
  have hc := assign_any a (lineG []) w h
  rw [e1, e2] at hc
  refine hc.mono ?_
  rintro e w' ⟨v, rfl, hR, hb⟩
  obtain ⟨A, c, rfl, hl, hC⟩ := Kd.R_reads hR
  exact ⟨A, c, rfl, hl, hC, hb⟩
theorem aw_lve (a : LV) (w : World) (h : LogAt w a (lineG [⟨6, 0, bsD⟩])) : Calls Tryz.prog 32 #[logV a (lineG [⟨6, 0, bsD⟩])] w fun e w' => ∃ A c, e = .returned (.tuple #[.slice A 1 c, .int .i64 0]) ∧ 1 ≤ c ∧ Kd.C (Kd.int .i64) w' A 1 [0] ∧ Below w.heap.size w w' := by
  have e1 : leaveE (lineG [⟨6, 0, bsD⟩]) = 0 := by decide +kernel
  have e2 : leaveL (lineG [⟨6, 0, bsD⟩]) = [0] := by decide +kernel
  have hc := leave32_any a (lineG [⟨6, 0, bsD⟩]) w h
  rw [e1, e2] at hc
  refine hc.mono ?_
  rintro e w' ⟨v, rfl, hR, hb⟩
  obtain ⟨A, c, rfl, hl, hC⟩ := Kd.R_reads hR
  exact ⟨A, c, rfl, hl, hC, hb⟩
theorem aw_hea (a : LV) (w : World) (h : LogAt w a (lineG [])) : Calls Tryz.prog 26 #[logV a (lineG []), .int .i64 8] w fun e w' => ∃ A c, e = .returned (.tuple #[.slice A 3 c, .int .i64 0]) ∧ 3 ≤ c ∧ Kd.C (Kd.slice 3 (Kd.int .i64)) w' A 3 [[0], [1], [1, 0]] ∧ Below w.heap.size w w' := by
  have e1 : heaE (lineG []) 8 = 0 := by decide +kernel
  have e2 : heaL (lineG []) 8 = [[0], [1], [1, 0]] := by
    unfold heaL
    rw [e1, if_pos rfl, line0_hl]
  have hc := hears_any a (lineG []) 8 w h
  rw [e1, e2] at hc
  refine hc.mono ?_
  rintro e w' ⟨v, rfl, hR, hb⟩
  obtain ⟨A, c, rfl, hl, hC⟩ := Kd.R_reads hR
  exact ⟨A, c, rfl, hl, hC, hb⟩
theorem line1_any (w : World) (b : Nat) (h : w.heap[b]? = some (.cells #[.int .i64 6, .int .i64 0, .string bsD] 75 (0, 0))) : Calls Tryz.prog 49 #[.slice (some ⟨b, 0, none⟩) 1 1] w fun e w' => ∃ a, e = .returned (logV a (lineG [⟨6, 0, bsD⟩])) ∧ LogAt w' a (lineG [⟨6, 0, bsD⟩]) ∧ Below w.heap.size w w' := by
  have hR : Kd.R k75 75 w 0 (fun _ => True) (.slice (some ⟨b, 0, none⟩) 1 1) [⟨6, 0, bsD⟩] := by
    refine ⟨fun _ _ => trivial, [.int .i64 6, .int .i64 0, .string bsD], ⟨rfl, .inr ⟨b, 1, _, rfl, Nat.zero_le _, h, Nat.le_refl _, by simp [maxLen], rfl, rfl⟩⟩, rfl, ?_⟩
    intro j p hj
    match j, hj with
    | 0, hj =>
      cases hj
      exact ⟨[.int .i64 6], [.int .i64 0, .string bsD], rfl, rfl, [.int .i64 0], [.string bsD], rfl, rfl, rfl⟩
  obtain ⟨A, c, e, hl, hC⟩ := Kd.R_reads hR
  cases e
  exact line_any _ _ [⟨6, 0, bsD⟩] w hC (by simp) (by simp) (fun r hr => by
    rw [List.mem_singleton] at hr
    subst hr
    decide)
set_option maxRecDepth 100000 in
set_option maxHeartbeats 8000000 in
theorem awake_any (w : World) : Calls Tryz.prog 18 #[] w fun e w' => e = .returned (.bool true) ∧ Below w.heap.size w w' := by
  obtain ⟨L0, hL0⟩ : ∃ L, L = lineG [] := ⟨_, rfl⟩
  obtain ⟨L1, hL1⟩ : ∃ L, L = lineG [⟨6, 0, bsD⟩] := ⟨_, rfl⟩
  have FLN := Aside0.mk line0_any
  have FL1 := Aside0.mk line1_any
  have Fown := Aside0.mk aw_own
  have Fmsk := Aside0.mk aw_msk
  have Fver := Aside0.mk aw_ver
  have Fasg := Aside0.mk aw_asg
  have Flve := Aside0.mk aw_lve
  have Fhea := Aside0.mk aw_hea
  rw [← hL0] at FLN Fown Fhea Fmsk Fver Fasg
  rw [← hL1] at FL1 Flve
  clear hL0 hL1
  have HB := Aside0.mk (Below.refl w.heap.size w)
  have hu75 := Tryz.underlying75
  go_enter Tryz.func18, Tryz.ntmps18
  go_wp2_with (fail)
  refine (FLN.out _).mono ?_
  rintro e x0 ⟨a0, rfl, hl, hb⟩
  have HB := Aside0.mk (below_next HB.out hb)
  have HL := Aside0.mk hl
  clear hl hb
  go_wp2_with (fail)
  refine (Fown.out _ _ HL.out).mono ?_
  rintro e y0 ⟨Aown, cown, rfl, hlc, hC, hb⟩
  have HB := Aside0.mk (below_next HB.out hb)
  have Hown := Aside0.mk hC
  have HCown := Aside0.mk hlc
  clear hC hlc hb HL
  go_wp2_with (fail)
  refine (FLN.out _).mono ?_
  rintro e x1 ⟨a1, rfl, hl, hb⟩
  have Hown := Aside0.mk (Kd.C_below Hown.out hb)
  have HB := Aside0.mk (below_next HB.out hb)
  have HL := Aside0.mk hl
  clear hl hb
  go_wp2_with (fail)
  refine (Fhea.out _ _ HL.out).mono ?_
  rintro e y1 ⟨Ahea, chea, rfl, hlc, hC, hb⟩
  have Hown := Aside0.mk (Kd.C_below Hown.out hb)
  have HB := Aside0.mk (below_next HB.out hb)
  have Hhea := Aside0.mk hC
  have HChea := Aside0.mk hlc
  clear hC hlc hb HL
  go_wp2_with (fail)
  refine (FLN.out _).mono ?_
  rintro e x2 ⟨a2, rfl, hl, hb⟩
  have Hown := Aside0.mk (Kd.C_below Hown.out hb)
  have Hhea := Aside0.mk (Kd.C_below Hhea.out hb)
  have HB := Aside0.mk (below_next HB.out hb)
  have HL := Aside0.mk hl
  clear hl hb
  go_wp2_with (fail)
  refine (Fmsk.out _ _ HL.out).mono ?_
  rintro e y2 ⟨Amsk, cmsk, rfl, hlc, hC, hb⟩
  have Hown := Aside0.mk (Kd.C_below Hown.out hb)
  have Hhea := Aside0.mk (Kd.C_below Hhea.out hb)
  have HB := Aside0.mk (below_next HB.out hb)
  have Hmsk := Aside0.mk hC
  have HCmsk := Aside0.mk hlc
  clear hC hlc hb HL
  go_wp2_with (fail)
  refine (FLN.out _).mono ?_
  rintro e x3 ⟨a3, rfl, hl, hb⟩
  have Hown := Aside0.mk (Kd.C_below Hown.out hb)
  have Hhea := Aside0.mk (Kd.C_below Hhea.out hb)
  have Hmsk := Aside0.mk (Kd.C_below Hmsk.out hb)
  have HB := Aside0.mk (below_next HB.out hb)
  have HL := Aside0.mk hl
  clear hl hb
  go_wp2_with (fail)
  refine (Fver.out _ _ HL.out).mono ?_
  rintro e y3 ⟨Aver, cver, rfl, hlc, hC, hb⟩
  have Hown := Aside0.mk (Kd.C_below Hown.out hb)
  have Hhea := Aside0.mk (Kd.C_below Hhea.out hb)
  have Hmsk := Aside0.mk (Kd.C_below Hmsk.out hb)
  have HB := Aside0.mk (below_next HB.out hb)
  have Hver := Aside0.mk hC
  have HCver := Aside0.mk hlc
  clear hC hlc hb HL
  go_wp2_with (fail)
  refine (FLN.out _).mono ?_
  rintro e x4 ⟨a4, rfl, hl, hb⟩
  have Hown := Aside0.mk (Kd.C_below Hown.out hb)
  have Hhea := Aside0.mk (Kd.C_below Hhea.out hb)
  have Hmsk := Aside0.mk (Kd.C_below Hmsk.out hb)
  have Hver := Aside0.mk (Kd.C_below Hver.out hb)
  have HB := Aside0.mk (below_next HB.out hb)
  have HL := Aside0.mk hl
  clear hl hb
  go_wp2_with (fail)
  refine (Fasg.out _ _ HL.out).mono ?_
  rintro e y4 ⟨Aasg, casg, rfl, hlc, hC, hb⟩
  have Hown := Aside0.mk (Kd.C_below Hown.out hb)
  have Hhea := Aside0.mk (Kd.C_below Hhea.out hb)
  have Hmsk := Aside0.mk (Kd.C_below Hmsk.out hb)
  have Hver := Aside0.mk (Kd.C_below Hver.out hb)
  have HB := Aside0.mk (below_next HB.out hb)
  have Hasg := Aside0.mk hC
  have HCasg := Aside0.mk hlc
  clear hC hlc hb HL
  go_wp2_with (fail)
  have hbx := (Below.refl y4.heap.size y4).alloc (Nat.le_refl _) (.cells #[.int .i64 6, .int .i64 0, .string bsD] 75)
  have Hown := Aside0.mk (Kd.C_below Hown.out hbx)
  have Hhea := Aside0.mk (Kd.C_below Hhea.out hbx)
  have Hmsk := Aside0.mk (Kd.C_below Hmsk.out hbx)
  have Hver := Aside0.mk (Kd.C_below Hver.out hbx)
  have Hasg := Aside0.mk (Kd.C_below Hasg.out hbx)
  have HB := Aside0.mk (below_next HB.out hbx)
  clear hbx
  refine (FL1.out _ _ (alloc_new _ _)).mono ?_
  rintro e x5 ⟨a5, rfl, hl, hb⟩
  have Hown := Aside0.mk (Kd.C_below Hown.out hb)
  have Hhea := Aside0.mk (Kd.C_below Hhea.out hb)
  have Hmsk := Aside0.mk (Kd.C_below Hmsk.out hb)
  have Hver := Aside0.mk (Kd.C_below Hver.out hb)
  have Hasg := Aside0.mk (Kd.C_below Hasg.out hb)
  have HB := Aside0.mk (below_next HB.out hb)
  have HL := Aside0.mk hl
  clear hl hb
  go_wp2_with (fail)
  refine (Flve.out _ _ HL.out).mono ?_
  rintro e y5 ⟨Alve, clve, rfl, hlc, hC, hb⟩
  have Hown := Aside0.mk (Kd.C_below Hown.out hb)
  have Hhea := Aside0.mk (Kd.C_below Hhea.out hb)
  have Hmsk := Aside0.mk (Kd.C_below Hmsk.out hb)
  have Hver := Aside0.mk (Kd.C_below Hver.out hb)
  have Hasg := Aside0.mk (Kd.C_below Hasg.out hb)
  have HB := Aside0.mk (below_next HB.out hb)
  have Hlve := Aside0.mk hC
  have HClve := Aside0.mk hlc
  clear hC hlc hb HL
  go_wp2_with (fail)
  have hbx := (Below.refl y5.heap.size y5).alloc (Nat.le_refl _) (.cells #[.int .i64 1] 3)
  have Hown := Aside0.mk (Kd.C_below Hown.out hbx)
  have Hhea := Aside0.mk (Kd.C_below Hhea.out hbx)
  have Hmsk := Aside0.mk (Kd.C_below Hmsk.out hbx)
  have Hver := Aside0.mk (Kd.C_below Hver.out hbx)
  have Hasg := Aside0.mk (Kd.C_below Hasg.out hbx)
  have Hlve := Aside0.mk (Kd.C_below Hlve.out hbx)
  have HB := Aside0.mk (below_next HB.out hbx)
  clear hbx
  refine (same_lit Aown cown [1] _ _ Hown.out HCown.out (by simp [maxLen]) (alloc_new _ _)).mono ?_
  rintro e z0 ⟨rfl, hb⟩
  have Hhea := Aside0.mk (Kd.C_below Hhea.out hb)
  have Hmsk := Aside0.mk (Kd.C_below Hmsk.out hb)
  have Hver := Aside0.mk (Kd.C_below Hver.out hb)
  have Hasg := Aside0.mk (Kd.C_below Hasg.out hb)
  have Hlve := Aside0.mk (Kd.C_below Hlve.out hb)
  have HB := Aside0.mk (below_next HB.out hb)
  clear hb
  go_wp2_with (fail)
  have hbx := ((((Below.refl z0.heap.size z0).alloc (Nat.le_refl _) (.cells #[.int .i64 0] 3)).alloc (by simp) (.cells #[.int .i64 1] 3)).alloc (by simp; omega) (.cells #[.int .i64 1, .int .i64 0] 3)).alloc (by simp; omega) (.cells #[.slice (some ⟨z0.heap.size, 0, none⟩) 1 1, .slice (some ⟨z0.heap.size + 1, 0, none⟩) 1 1, .slice (some ⟨z0.heap.size + 1 + 1, 0, none⟩) 2 2] 25)
  have Hhea := Aside0.mk (Kd.C_below Hhea.out hbx)
  have Hmsk := Aside0.mk (Kd.C_below Hmsk.out hbx)
  have Hver := Aside0.mk (Kd.C_below Hver.out hbx)
  have Hasg := Aside0.mk (Kd.C_below Hasg.out hbx)
  have Hlve := Aside0.mk (Kd.C_below Hlve.out hbx)
  have HB := Aside0.mk (below_next HB.out hbx)
  clear hbx
  refine (lit3_same Ahea chea _ w Hhea.out HChea.out _ (lit3 _ (z0.heap.size) (z0.heap.size + 1) (z0.heap.size + 1 + 1) _ (heap_old (heap_old (heap_old (alloc_new _ _) _) _) _) (heap_old (heap_old (alloc_at _ _ (by simp)) _) _) (heap_old (alloc_at _ _ (by simp)) _) (alloc_at _ _ (by simp)) (by omega) (by omega) (by omega))).mono ?_
  rintro e z1 ⟨rfl, hb⟩
  have Hmsk := Aside0.mk (Kd.C_below Hmsk.out hb)
  have Hver := Aside0.mk (Kd.C_below Hver.out hb)
  have Hasg := Aside0.mk (Kd.C_below Hasg.out hb)
  have Hlve := Aside0.mk (Kd.C_below Hlve.out hb)
  have HB := Aside0.mk (below_next HB.out hb)
  clear hb
  go_wp2_with (fail)
  have hbx := (Below.refl z1.heap.size z1).alloc (Nat.le_refl _) (.cells #[.int .i64 0] 3)
  have Hmsk := Aside0.mk (Kd.C_below Hmsk.out hbx)
  have Hver := Aside0.mk (Kd.C_below Hver.out hbx)
  have Hasg := Aside0.mk (Kd.C_below Hasg.out hbx)
  have Hlve := Aside0.mk (Kd.C_below Hlve.out hbx)
  have HB := Aside0.mk (below_next HB.out hbx)
  clear hbx
  refine (same_lit Amsk cmsk [0] _ _ Hmsk.out HCmsk.out (by simp [maxLen]) (alloc_new _ _)).mono ?_
  rintro e z2 ⟨rfl, hb⟩
  have Hver := Aside0.mk (Kd.C_below Hver.out hb)
  have Hasg := Aside0.mk (Kd.C_below Hasg.out hb)
  have Hlve := Aside0.mk (Kd.C_below Hlve.out hb)
  have HB := Aside0.mk (below_next HB.out hb)
  clear hb
  go_wp2_with (fail)
  have hbx := (Below.refl z2.heap.size z2).alloc (Nat.le_refl _) (.cells #[.int .i64 1, .int .i64 3, .int .i64 2] 3)
  have Hver := Aside0.mk (Kd.C_below Hver.out hbx)
  have Hasg := Aside0.mk (Kd.C_below Hasg.out hbx)
  have Hlve := Aside0.mk (Kd.C_below Hlve.out hbx)
  have HB := Aside0.mk (below_next HB.out hbx)
  clear hbx
  refine (same_lit Aver cver [1, 3, 2] _ _ Hver.out HCver.out (by simp [maxLen]) (alloc_new _ _)).mono ?_
  rintro e z3 ⟨rfl, hb⟩
  have Hasg := Aside0.mk (Kd.C_below Hasg.out hb)
  have Hlve := Aside0.mk (Kd.C_below Hlve.out hb)
  have HB := Aside0.mk (below_next HB.out hb)
  clear hb
  go_wp2_with (fail)
  have hbx := (Below.refl z3.heap.size z3).alloc (Nat.le_refl _) (.cells #[.int .i64 0, .int .i64 1, .int .i64 (-1)] 3)
  have Hasg := Aside0.mk (Kd.C_below Hasg.out hbx)
  have Hlve := Aside0.mk (Kd.C_below Hlve.out hbx)
  have HB := Aside0.mk (below_next HB.out hbx)
  clear hbx
  refine (same_lit Aasg casg [0, 1, -1] _ _ Hasg.out HCasg.out (by simp [maxLen]) (alloc_new _ _)).mono ?_
  rintro e z4 ⟨rfl, hb⟩
  have Hlve := Aside0.mk (Kd.C_below Hlve.out hb)
  have HB := Aside0.mk (below_next HB.out hb)
  clear hb
  go_wp2_with (fail)
  have hbx := (Below.refl z4.heap.size z4).alloc (Nat.le_refl _) (.cells #[.int .i64 0] 3)
  have Hlve := Aside0.mk (Kd.C_below Hlve.out hbx)
  have HB := Aside0.mk (below_next HB.out hbx)
  clear hbx
  refine (same_lit Alve clve [0] _ _ Hlve.out HClve.out (by simp [maxLen]) (alloc_new _ _)).mono ?_
  rintro e z5 ⟨rfl, hb⟩
  have HB := Aside0.mk (below_next HB.out hb)
  clear hb
  go_wp2_with (fail)
  go_ret
  exact ⟨rfl, HB.out⟩
end Go.Proofs.YthgfhgjlilmieaaGreat.G
namespace Go.Proofs.YthgfhgjlilmieaaGreat.G
open Go.RowKit Go.Shelf Go.Proofs.YthgfhgjlilmieaaGreatW.PrintWords Go.Proofs.YthgfhgjlilmieaaGreatW.PrintLast Go.Proofs.YthgfhgjlilmieaaGreatW.PrintMore
open Go.Proofs.YthgfhgjlilmieaaGreat.B
set_option linter.unusedVariables false
set_option linter.unusedSimpArgs false
def u69 (x : S76) : S69 := ⟨x.f0, x.f1, x.f2⟩
def u61 (x : S75) : S61 := ⟨x.f0, x.f1, x.f2⟩
theorem C_map {α β : Type} {d : Kd α} {e : Kd β} (f : α → β) (hs : d.sz = e.sz) (hk : ∀ w x cs, d.K w x cs → e.K w (f x) cs) {w : World} {A : Option Addr} {n : Nat} {xs : List α} (h : Kd.C d w A n xs) : Kd.C e w A n (xs.map f) := by
  obtain ⟨h1, h2, h3⟩ := h
  refine ⟨by rw [List.length_map]; exact h1, h2, fun hn => ?_⟩
  obtain ⟨ad, e1, hc⟩ := h3 hn
  refine ⟨ad, e1, fun j p hj => ?_⟩
  rw [List.getElem?_map] at hj
  obtain ⟨q, hq, rfl⟩ := Option.map_eq_some_iff.1 hj
  obtain ⟨c, c1, c2, c3⟩ := hc j q hq
  exact ⟨c, by rw [c1, hs], hk _ _ _ c2, by rw [← hs]; exact c3⟩
theorem list_f (t : List Int) (h : t.length ≤ 1000) : glisterlaw06_list.f t = some t := by
  unfold glisterlaw06_list.f
  simp only [Option.bind_some, List.length_nil, List.nil_append]
  rw [if_pos (by omega)]
theorem code_f (t : List ByteArray) (h : t.length ≤ 1000) : glisterlaw02_Code.f t = some t := by
  unfold glisterlaw02_Code.f
  simp only [Option.bind_some, List.length_nil, List.nil_append]
  rw [if_pos (by omega)]
theorem log_l1 (ls : List ByteArray) (errs : Int) (sees : List Int) (j69 : List S69) (rc : List S75) (y0 : List ByteArray) (y1 : Int) (y2 : List Int) (y3 : List S76) (hr : rc.length ≤ 1000) : ∀ (d i k : Nat), d = rc.length - i → i ≤ rc.length → d < k →
    glisterlaw06_Log.l1 k i ls errs sees j69 (rc.map u61) y0 y1 y2 y3 (rc.take i) = some (y0, y1, y2, y3, rc) := by
  intro d
  induction d with
  | zero =>
    intro i k hd hi hk
    obtain ⟨k, rfl⟩ : ∃ m, k = m + 1 := ⟨k - 1, by omega⟩
    simp only [glisterlaw06_Log.l1, List.length_map]
    rw [if_neg (by omega), show i = rc.length by omega, List.take_length]
  | succ d ih =>
    intro i k hd hi hk
    obtain ⟨k, rfl⟩ : ∃ m, k = m + 1 := ⟨k - 1, by omega⟩
    have h1 : i < rc.length := by omega
    have e : rd_T61 (rc.map u61) (i : Int) = u61 rc[i] := by simp [rd_T61, List.getD_eq_getElem?_getD, h1]
    simp only [glisterlaw06_Log.l1, List.length_map]
    rw [if_pos (by omega), if_pos (by omega), if_pos (by rw [List.length_take]; omega), e, wrap_nat i rc.length h1 (by omega)]
    have e2 : rc.take i ++ [(⟨(u61 rc[i]).f0, (u61 rc[i]).f1, (u61 rc[i]).f2⟩ : S75)] = rc.take (i + 1) := by
      rw [List.take_succ_eq_append_getElem h1]
      rfl
    rw [e2]
    exact ih (i + 1) k (by omega) (by omega) (by omega)
theorem log_l0 (ls : List ByteArray) (errs : Int) (sees : List Int) (jn : List S76) (rc : List S75) (y0 : List ByteArray) (y1 : Int) (y2 : List Int) (hj : jn.length ≤ 1000) (hr : rc.length ≤ 1000) (ht : ∀ (j : Nat) (h : j < jn.length), (jn[j]).f2.length ≤ 1000) : ∀ (d i k : Nat), d = jn.length - i → i ≤ jn.length → d + rc.length + 1 < k →
    glisterlaw06_Log.l0 k i ls errs sees (jn.map u69) (rc.map u61) y0 y1 y2 (jn.take i) = some (y0, y1, y2, jn, rc) := by
  intro d
  induction d with
  | zero =>
    intro i k hd hi hk
    obtain ⟨k, rfl⟩ : ∃ m, k = m + 1 := ⟨k - 1, by omega⟩
    simp only [glisterlaw06_Log.l0, List.length_map]
    rw [if_neg (by omega), show i = jn.length by omega, List.take_length]
    exact log_l1 ls errs sees _ rc y0 y1 y2 jn hr rc.length 0 k (by omega) (by omega) (by omega)
  | succ d ih =>
    intro i k hd hi hk
    obtain ⟨k, rfl⟩ : ∃ m, k = m + 1 := ⟨k - 1, by omega⟩
    have h1 : i < jn.length := by omega
    have e : rd_T69 (jn.map u69) (i : Int) = u69 jn[i] := by simp [rd_T69, List.getD_eq_getElem?_getD, h1]
    simp only [glisterlaw06_Log.l0, List.length_map]
    rw [if_pos (by omega), if_pos (by omega), e, show (u69 jn[i]).f2 = (jn[i]).f2 from rfl, list_f _ (ht i h1), Option.bind_some, if_pos (by rw [List.length_take]; omega), wrap_nat i jn.length h1 (by omega)]
    have e2 : jn.take i ++ [(⟨(u69 jn[i]).f0, (u69 jn[i]).f1, (jn[i]).f2⟩ : S76)] = jn.take (i + 1) := by
      rw [List.take_succ_eq_append_getElem h1]
      rfl
    rw [e2]
    exact ih (i + 1) k (by omega) (by omega) (by omega)
structure Fits (l : Lg) : Prop where
  ls : l.ls.length ≤ 1000
  sees : l.sees.length ≤ 1000
  jn : l.jn.length ≤ 1000
  rc : l.rc.length ≤ 1000
  tx : ∀ (j : Nat) (hj : j < l.jn.length), (l.jn[j]).f2.length ≤ 1000
theorem ThinOk.fits {l : Lg} (h : ThinOk l) : Fits l := ⟨by have := h.ls; omega, by have := h.sees; omega, by have := h.jn; omega, by have := h.rc; omega, fun j hj => by have := h.tx j hj; omega⟩
theorem log20_any (a : LV) (l : Lg) (w : World) (hL : LogAt w a l) (hf : Fits l) : Calls Tryz.prog 20 #[logV a l] w fun e w' => ∃ a', e = .returned (logV a' l) ∧ LogAt w' a' l ∧ Below w.heap.size w w' := by
  have h3 : Kd.C k69 w a.A3 l.jn.length (l.jn.map u69) := C_map u69 rfl (fun _ _ _ h => h) hL.h3
  have h4 : Kd.C k61 w a.A4 l.rc.length (l.rc.map u61) := C_map u61 rfl (fun _ _ _ h => h) hL.h4
  have e3 : (l.jn.map u69).length = l.jn.length := List.length_map ..
  have e4 : (l.rc.map u61).length = l.rc.length := List.length_map ..
  have hc := glisterlaw06_Log.calls (l.jn.length + l.rc.length + 2) a.A0 a.c0 l.ls l.errs a.A2 a.c2 l.sees a.A3 a.c3 (l.jn.map u69) a.A4 a.c4 (l.rc.map u61) l.ls l.errs l.sees l.jn l.rc w hL.h0 hL.l0 hL.h2 hL.l2 (by rw [e3]; exact h3) (by rw [e3]; exact hL.l3) (by rw [e4]; exact h4) (by rw [e4]; exact hL.l4) (by
    unfold glisterlaw06_Log.f
    rw [code_f _ hf.ls, Option.bind_some, list_f _ hf.sees, Option.bind_some]
    exact log_l0 l.ls l.errs l.sees l.jn l.rc _ _ _ hf.jn hf.rc hf.tx l.jn.length 0 _ (by omega) (by omega) (by omega))
  rw [e3, e4] at hc
  refine hc.mono ?_
  rintro e w' ⟨v0, v2, v3, v4, rfl, g0, g2, g3, g4, hb⟩
  obtain ⟨A0, c0, rfl, l0, q0⟩ := Kd.R_reads g0
  obtain ⟨A2, c2, rfl, l2, q2⟩ := Kd.R_reads g2
  obtain ⟨A3, c3, rfl, l3, q3⟩ := Kd.S_reads g3
  obtain ⟨A4, c4, rfl, l4, q4⟩ := Kd.R_reads g4
  exact ⟨⟨A0, A2, A3, A4, c0, c2, c3, c4⟩, rfl, ⟨q0, q2, q3, q4, l0, l2, l3, l4, hL.z0, hL.z4⟩, hb⟩
theorem few_small : ∀ (n : Nat) (s r : ByteArray), s.size + r.size = n → few s r < far → few s r ≤ n := by
  intro n
  induction n using Nat.strongRecOn with
  | ind n ih =>
    intro s r hn hf
    have hgen : ∀ (L : List (NX s r)) (v : Int), (v < far → v ≤ n) → L.foldl (fun m x => min m (costK x.1 + few (leftS s x.1) (leftR s r x.1))) v < far → L.foldl (fun m x => min m (costK x.1 + few (leftS s x.1) (leftR s r x.1))) v ≤ n := by
      intro L
      induction L with
      | nil => intro v hv h; exact hv h
      | cons x t iht =>
        intro v hv h
        simp only [List.foldl_cons] at h ⊢
        refine iht _ (fun hm => ?_) h
        have hp := prog_size s r x
        have hc : 0 ≤ costK x.1 ∧ costK x.1 ≤ 1 := by unfold costK; split <;> omega
        have hx : few (leftS s x.1) (leftR s r x.1) < far → few (leftS s x.1) (leftR s r x.1) ≤ ((leftS s x.1).size + (leftR s r x.1).size : Nat) := ih _ (by omega) _ _ rfl
        by_cases hv2 : v < far
        · have := hv hv2; omega
        · have : costK x.1 + few (leftS s x.1) (leftR s r x.1) < far := by omega
          have := hx (by omega)
          omega
    rw [few_eq] at hf ⊢
    refine hgen _ _ (fun hv => ?_) hf
    by_cases h0 : s.size = 0 ∧ r.size = 0
    · rw [if_pos h0]; omega
    · rw [if_neg h0] at hv; unfold far at hv; omega
theorem sig_no33 {s : ByteArray} (h : sigB s = true) : ∀ x, x ∈ s.data.toList → x ≠ 33 := by
  intro x hx e
  subst e
  obtain ⟨j, hj, he⟩ := List.getElem_of_mem hx
  have hj2 : j < s.size := by simpa using hj
  have hok := (sig_iff s).1 h j hj2
  have e1 : bt s (j : Int) = 33 := by
    have he2 : s.data[j] = 33 := by simpa using he
    have : s[j] = 33 := he2
    simp [bt, hj2, this]
  rw [e1] at hok
  cases hok
theorem sfE_ok {s : ByteArray} (h : sfE s = 0) : s.size ≤ 40 ∧ sigB s = true := by
  unfold sfE at h
  by_cases h1 : lenB s = false
  · rw [if_pos h1] at h; cases h
  · rw [if_neg h1] at h
    by_cases h2 : sigB s = false
    · rw [if_pos h2] at h; cases h
    · refine ⟨?_, by simpa using h2⟩
      have : lenB s = true := by simpa using h1
      simp only [lenB, decide_eq_true_eq] at this
      omega
theorem readOk_of {l : Lg} {r : S75} (h : recordB l r = true) : ReadOk r.f2 ∧ sfE r.f2 = 0 := by
  rw [← rec_eq] at h
  simp only [recR, Bool.and_eq_true, beq_iff_eq] at h
  have h2 := sfE_ok h.2
  exact ⟨⟨h2.1, sig_no33 h2.2⟩, h.2⟩
theorem txtOk_of {l : Lg} {s : S76} (hc : codeE l.ls = 0) (h : sentB l s = true) : TxtOk l s.f2 := by
  rw [← sent_eq l s hc] at h
  simp only [sentR, Bool.and_eq_true] at h
  obtain ⟨⟨_, h1⟩, h2⟩ := h
  simp only [inR, Bool.and_eq_true, decide_eq_true_eq] at h1
  have hin : ∀ x, x ∈ s.f2 → 0 ≤ x ∧ x < l.ls.length := fun x hx => by
    unfold txtB at h2
    rw [List.all_eq_true] at h2
    have := h2 x hx
    simp only [inR, Bool.and_eq_true, decide_eq_true_eq] at this
    omega
  refine ⟨by omega, hin, fun x hx => ?_⟩
  obtain ⟨g1, g2⟩ := hin x hx
  have hall : l.ls.all letterB = true := by
    cases hx2 : l.ls.all letterB with
    | true => rfl
    | false =>
      unfold codeE at hc
      rw [hx2] at hc
      by_cases q1 : 6 < l.ls.length
      · rw [if_pos q1] at hc; cases hc
      · rw [if_neg q1] at hc
        by_cases q2 : l.ls.length = 0
        · rw [if_pos q2] at hc; cases hc
        · rw [if_neg q2, if_pos rfl] at hc; cases hc
  rw [List.all_eq_true] at hall
  have hi : x.toNat < l.ls.length := by omega
  have e : letterAt l.ls x = l.ls[x.toNat] := by simp [letterAt, List.getD_eq_getElem?_getD, hi]
  rw [e]
  have := hall _ (List.getElem_mem hi)
  simp only [letterB, Bool.and_eq_true, decide_eq_true_eq] at this
  omega
structure Sound (l : Lg) : Prop where
  code : codeE l.ls = 0
  errs : 0 ≤ l.errs ∧ l.errs ≤ 3
  sees : 0 < l.sees.length ∧ l.sees.length ≤ 4
  see : ∀ x, x ∈ l.sees → seeB x = true
  jlen : l.jn.length ≤ 8
  rlen : l.rc.length ≤ 6
  jn : ∀ s, s ∈ l.jn → sentB l s = true
  rc : ∀ r, r ∈ l.rc → recordB l r = true
theorem sound_of {l : Lg} (h : logE l = 0) : Sound l := by
  unfold logE at h
  by_cases h1 : overB l = true
  · rw [if_pos h1] at h; cases h
  · rw [if_neg h1] at h
    by_cases h2 : codeE l.ls ≠ 0
    · rw [if_pos h2] at h; exact absurd h h2
    · rw [if_neg h2] at h
      by_cases h3 : badB l = true
      · rw [if_pos h3] at h; cases h
      · have h1' : overB l = false := by simpa using h1
        have h3' : badB l = false := by simpa using h3
        simp only [overB, Bool.or_eq_false_iff, decide_eq_false_iff_not] at h1'
        simp only [badB, Bool.or_eq_false_iff, Bool.not_eq_false'] at h3'
        obtain ⟨⟨⟨⟨g1, g2⟩, g3⟩, g4⟩, g5⟩ := h3'
        simp only [inB, Bool.and_eq_true, decide_eq_true_eq] at g1
        have g2' : l.sees.length ≠ 0 := by simpa using g2
        rw [List.all_eq_true] at g3 g4 g5
        exact ⟨by simpa using h2, by omega, by omega, g3, by omega, by omega, g4, g5⟩
theorem mem_bt {s : ByteArray} {x : UInt8} (h : x ∈ s.data.toList) : ∃ j : Nat, j < s.size ∧ bt s (j : Int) = (x.toNat : Int) := by
  obtain ⟨j, hj, he⟩ := List.getElem_of_mem h
  have hj2 : j < s.size := by simpa using hj
  have he2 : s.data[j] = x := by simpa using he
  have : s[j] = x := he2
  exact ⟨j, hj2, by simp [bt, hj2, this]⟩
theorem bt_mem {s : ByteArray} {j : Nat} (h : j < s.size) : ∃ x, x ∈ s.data.toList ∧ bt s (j : Int) = (x.toNat : Int) := by
  refine ⟨s[j], ?_, by simp [bt, h]⟩
  have : s.data.toList[j]'(by simpa using h) = s[j] := by simp; rfl
  rw [← this]
  exact List.getElem_mem _
theorem letter_ok {l : Lg} {t : List Int} (hs : codeE l.ls = 0) (ht : TxtOk l t) : ∀ x, x ∈ t → ∀ b, b ∈ (letterAt l.ls x).data.toList → okC (b.toNat : Int) = true := by
  intro x hx b hb
  obtain ⟨g1, g2⟩ := ht.inr x hx
  have hall : l.ls.all letterB = true := by
    cases hx2 : l.ls.all letterB with
    | true => rfl
    | false =>
      unfold codeE at hs
      rw [hx2] at hs
      by_cases q1 : 6 < l.ls.length
      · rw [if_pos q1] at hs; cases hs
      · rw [if_neg q1] at hs
        by_cases q2 : l.ls.length = 0
        · rw [if_pos q2] at hs; cases hs
        · rw [if_neg q2, if_pos rfl] at hs; cases hs
  rw [List.all_eq_true] at hall
  have hi : x.toNat < l.ls.length := by omega
  have e : letterAt l.ls x = l.ls[x.toNat] := by simp [letterAt, List.getD_eq_getElem?_getD, hi]
  rw [e] at hb
  have h1 := ((letter_iff _).1 (hall _ (List.getElem_mem hi))).2
  obtain ⟨j, hj, hj2⟩ := mem_bt hb
  have h2 := h1 j hj
  rw [hj2] at h2
  simp only [okD, okC, Bool.or_eq_true] at h2 ⊢
  exact .inl h2
theorem sgB_ok {l : Lg} {t : List Int} (hs : codeE l.ls = 0) (ht : TxtOk l t) : ∀ i, i ≤ t.length → ∀ b, b ∈ sgB l.ls t i → okC (b.toNat : Int) = true
  | 0, _, b, hb => by rw [sgB_0] at hb; cases hb
  | i + 1, hi, b, hb => by
    have hlet := letter_ok hs ht t[i] (List.getElem_mem (by omega))
    by_cases h0 : i = 0
    · rw [sgB_1 _ _ i (by omega) h0] at hb
      exact hlet b hb
    · rw [sgB_s _ _ i (by omega) (by omega), List.mem_append, List.mem_append] at hb
      rcases hb with (hb | hb) | hb
      · exact sgB_ok hs ht i (by omega) b hb
      · rw [List.mem_singleton] at hb
        subst hb
        decide
      · exact hlet b hb
theorem sg_sig {l : Lg} {t : List Int} (hs : codeE l.ls = 0) (ht : TxtOk l t) : sigB (sgS l t) = true := by
  rw [sig_iff]
  intro j hj
  obtain ⟨x, hx, e⟩ := bt_mem hj
  rw [e]
  refine sgB_ok hs ht t.length (Nat.le_refl _) x ?_
  have e2 : sgB l.ls t t.length = signsL l.ls t := by unfold sgB signsL; rw [List.take_length]
  rw [e2]
  simpa [sgS] using hx
theorem send_ok {l : Lg} {t : List Int} (hs : codeE l.ls = 0) (ht : TxtOk l t) : sendE l.ls t = 0 := by
  unfold sendE
  rw [if_neg (by rw [hs]; simp), if_neg (by have := ht.len; omega), if_neg]
  have : (t.all fun n => inB n ((l.ls.length : Int) - 1)) = true := by
    rw [List.all_eq_true]
    intro x hx
    have := ht.inr x hx
    simp only [inB, Bool.and_eq_true, decide_eq_true_eq]
    omega
  rw [this]
  simp
theorem reads_eq {l : Lg} {t : List Int} {read : ByteArray} (hs : codeE l.ls = 0) (ht : TxtOk l t) (hr : sfE read = 0) : readsR l t read = readsB l t read := by
  obtain ⟨r1, r2⟩ := sfE_ok hr
  have hsz := sgS_size ht
  have e1 : sendS l.ls t = sgS l t := by unfold sendS; rw [if_pos (send_ok hs ht)]; rfl
  have e2 : signsE [sgS l t, read] = 0 := by
    have q1 : lenB (sgS l t) = true := by simp [lenB]; omega
    have q2 : lenB read = true := by simp [lenB]; omega
    simp [signsE, q1, q2, sg_sig hs ht, r2]
  unfold readsR readsB errsN
  rw [e1]
  have e3 : errsE (sgS l t) read = if far ≤ few (sgS l t) read then 11 else 0 := by
    unfold errsE
    rw [e2]
    simp
  have hb := few_bd (sgS l t) read
  by_cases hf : far ≤ few (sgS l t) read
  · rw [if_pos hf] at e3
    have : ¬ errR (sgS l t) read < 1000 := by unfold errR; unfold far at hf; omega
    simp [e3, this]
  · rw [if_neg hf] at e3
    have hsm := few_small _ (sgS l t) read rfl (by omega)
    have hlt : errR (sgS l t) read < 1000 := by unfold errR; omega
    have heq : errR (sgS l t) read = few (sgS l t) read := by unfold errR; omega
    have hlt2 : few (sgS l t) read < 1000 := by omega
    rw [heq, e3]
    simp [hlt2]
theorem hit_eq {l : Lg} (hs : Sound l) {r : S75} {s : S76} (hr : recordB l r = true) (hj : sentB l s = true) : hitR l r s = hitB l r s := by
  unfold hitR hitB
  rw [reads_eq hs.code (txtOk_of hs.code hj) (readOk_of hr).2]
  have e1 : (r.f0 == s.f0) = (s.f0 == r.f0) := BEq.comm
  have e2 : (r.f1 == s.f1) = (s.f1 == r.f1) := BEq.comm
  rw [e1, e2]
theorem own_eq {l : Lg} (hs : Sound l) {r : S75} (hr : recordB l r = true) : ownK l r l.jn.length = statL l r := by
  unfold ownK statL statK
  congr 1
  refine List.filter_congr fun i hi => ?_
  have hi2 := List.mem_range.1 hi
  rw [rd76_get l i hi2]
  exact hit_eq hs hr (hs.jn _ (List.getElem_mem hi2))
end Go.Proofs.YthgfhgjlilmieaaGreat.G
namespace Go.Proofs.YthgfhgjlilmieaaGreat.G
open Go.RowKit Go.Shelf Go.Proofs.YthgfhgjlilmieaaGreatW.PrintWords Go.Proofs.YthgfhgjlilmieaaGreatW.PrintLast Go.Proofs.YthgfhgjlilmieaaGreatW.PrintMore
open Go.Proofs.YthgfhgjlilmieaaGreat.B
set_option linter.unusedVariables false
set_option linter.unusedSimpArgs false
theorem step_b {N : Nat} {W0 W W' : World} (h : Below N W0 W) (hN : N ≤ W0.heap.size) (hb : Below W.heap.size W W') : Below N W0 W' := h.trans (hb.mono (Nat.le_trans hN h.size))
theorem logCells (a : LV) (l : Lg) (w W : World) (h : Below (w.heap.size + 1) (w.alloc (logD a l)) W) : W.cell? ⟨w.heap.size, 0, none⟩ = some (.slice a.A0 l.ls.length a.c0) ∧ W.cell? ⟨w.heap.size, 1, none⟩ = some (.int .i64 l.errs) ∧ W.cell? ⟨w.heap.size, 2, none⟩ = some (.slice a.A2 l.sees.length a.c2) ∧ W.cell? ⟨w.heap.size, 3, none⟩ = some (.slice a.A3 l.jn.length a.c3) ∧ W.cell? ⟨w.heap.size, 4, none⟩ = some (.slice a.A4 l.rc.length a.c4) := by
  have hc : ∀ i, W.cell? ⟨w.heap.size, i, none⟩ = #[.slice a.A0 l.ls.length a.c0, .int .i64 l.errs, .slice a.A2 l.sees.length a.c2, .slice a.A3 l.jn.length a.c3, .slice a.A4 l.rc.length a.c4][i]? := fun i => (h.cell (p := ⟨w.heap.size, i, none⟩) (by simp)).trans (cell_new _ _ _ _)
  exact ⟨hc 0, hc 1, hc 2, hc 3, hc 4⟩
theorem toW {a : LV} {l : Lg} {w W : World} (h : Below (w.heap.size + 1) (w.alloc (logD a l)) W) : Below w.heap.size w W := ((Below.refl _ w).alloc (Nat.le_refl _) _).trans (h.mono (by omega))
theorem ask_bad {l : Lg} (n : Int) (h : logE l ≠ 0) : askE l n = logE l := by unfold askE; rw [if_pos h]
theorem ask_out {l : Lg} {n : Int} (h : logE l = 0) (hi : inR n 0 ((l.rc.length : Int) - 1) = false) : askE l n = 2 := by unfold askE; rw [if_neg (by simp [h]), if_pos (by rw [← in_inB]; exact hi)]
theorem ask_in {l : Lg} {n : Int} (h : logE l = 0) (hi : inR n 0 ((l.rc.length : Int) - 1) = true) : askE l n = 0 := by unfold askE; rw [if_neg (by simp [h]), if_neg (by rw [← in_inB, hi]; simp)]
theorem own_bad {l : Lg} {n : Int} (h : askE l n ≠ 0) : ownL l n = [] := by unfold ownL; rw [if_neg h]
theorem own_in {l : Lg} {n : Int} (h : askE l n = 0) : ownL l n = statL l (rd_T75 l.rc n) := by unfold ownL; rw [if_pos h]
def OwnP (xs : List Int) (q : Int) (w : World) (e : Ending) (w' : World) : Prop := ∃ A c, e = .returned (.tuple #[.slice A xs.length c, .int .i64 q]) ∧ xs.length ≤ c ∧ Kd.C (Kd.int .i64) w' A xs.length xs ∧ Below w.heap.size w w'
theorem own21_at (a : LV) (l : Lg) (n : Int) (w : World) (hL : LogAt w a l) : Calls Tryz.prog 21 #[logV a l, .int .i64 n] w (OwnP (ownL l n) (askE l n) w) := (own_any a l n w hL).mono fun e w' ⟨v, he, hR, hb⟩ => by
  obtain ⟨A, c, rfl, hl, hC⟩ := Kd.R_reads hR
  exact ⟨A, c, he, hl, hC, hb⟩
set_option maxRecDepth 100000 in
set_option maxHeartbeats 8000000 in
theorem maskOwns_any (a : LV) (l : Lg) (n : Int) (w : World) (hL : LogAt w a l) : Calls Tryz.prog 3 #[logV a l, .int .i64 n] w fun e w' => e = .returned (.bool true) ∧ Below w.heap.size w w' := by
  have hu := Tryz.underlying29
  have hz : ∀ W, Below (w.heap.size + 1) (w.alloc (logD a l)) W → LogAt W a l := fun W h => hL.below (toW h)
  have HZ := Aside0.mk hz
  have HTH := Aside0.mk (fun W h => thin17_any a l W (hz W h))
  have HLG := Aside0.mk (fun W h (hf : Fits l) => log20_any a l W (hz W h) hf)
  have HFL := Aside0.mk (fun W h => fault22_any a l W (hz W h))
  have HAW := Aside0.mk awake_any
  have HCE := Aside0.mk (logCells a l w)
  have HTW := Aside0.mk (fun W h => toW (a := a) (l := l) (w := w) (W := W) h)
  have BW := Aside0.mk (Below.refl (w.heap.size + 1) (w.alloc (logD a l)))
  have HN : Aside0 (w.heap.size + 1 ≤ (w.alloc (logD a l)).heap.size) := ⟨by simp⟩
  have HCK := Aside0.mk (fun a' W h => checkLog_any a' l W h)
  have HOW := Aside0.mk (fun a' W h => own21_at a' l n W h)
  obtain ⟨A0, A2, A3, A4, c0, c2, c3, c4⟩ := a
  dsimp only [logV] at HTH HLG HFL HCE ⊢
  clear hz hL
  by_cases hE : logE l = 0
  · have HS := Aside0.mk (sound_of hE)
    rw [hE] at HFL
    have hck : ∀ a' W, LogAt W a' l → Calls Tryz.prog 19 #[logV a' l] W fun e w' => e = .returned (.int .i64 0) ∧ Below W.heap.size W w' := fun a' W h => by have := HCK.out a' W h; rwa [hE] at this
    have HCK := Aside0.mk hck
    have hjr : (l.rc.length : Int) ≤ 6 := by have := HS.out.rlen; omega
    cases hin : inR n 0 ((l.rc.length : Int) - 1) with
    | false =>
      have hik := fun W => in23_any n 0 ((l.rc.length : Int) - 1) W
      rw [hin] at hik
      have HIN := Aside0.mk hik
      clear hik
      have e1 := ask_out hE hin
      have e2 : ownL l n = [] := own_bad (by rw [e1]; decide)
      rw [e1, e2] at HOW
      clear hin e1 e2 hck hE
      go_enter Tryz.func3, Tryz.ntmps3
      go_wp2_with (fail)
      refine (HTH.out _ BW.out).mono ?_
      rintro e w1_ ⟨b, rfl, hq, hb⟩
      have BW := Aside0.mk (step_b BW.out HN.out hb)
      obtain ⟨b0, b1, b2, b3, b4⟩ := HCE.out _ BW.out
      clear hb
      cases b with
      | false =>
        go_wp2_with (fail)
        refine (HAW.out _).mono ?_
        rintro e w2_ ⟨rfl, hb⟩
        have BW := Aside0.mk (step_b BW.out HN.out hb)
        clear b0 b1 b2 b3 b4
        obtain ⟨b0, b1, b2, b3, b4⟩ := HCE.out _ BW.out
        clear hb
        go_wp2
        go_ret
        exact ⟨rfl, HTW.out _ BW.out⟩
      | true =>
        have hf := (hq rfl).fits
        clear hq
        go_wp2_with (fail)
        refine (HLG.out _ BW.out hf).mono ?_
        rintro e w2_ ⟨a1, rfl, hl, hb⟩
        have HL1 := Aside0.mk hl
        clear hl
        have BW := Aside0.mk (step_b BW.out HN.out hb)
        clear b0 b1 b2 b3 b4
        obtain ⟨b0, b1, b2, b3, b4⟩ := HCE.out _ BW.out
        clear hb
        go_wp2_with (fail)
        refine (HCK.out a1 _ HL1.out).mono ?_
        rintro e w3_ ⟨rfl, hb⟩
        have BW := Aside0.mk (step_b BW.out HN.out hb)
        clear b0 b1 b2 b3 b4
        obtain ⟨b0, b1, b2, b3, b4⟩ := HCE.out _ BW.out
        clear hb
        go_wp2_with (fail)
        refine (HLG.out _ BW.out hf).mono ?_
        rintro e w4_ ⟨a2, rfl, hl, hb⟩
        have HL2 := Aside0.mk hl
        clear hl
        have BW := Aside0.mk (step_b BW.out HN.out hb)
        clear b0 b1 b2 b3 b4
        obtain ⟨b0, b1, b2, b3, b4⟩ := HCE.out _ BW.out
        clear hb
        go_wp2_with (fail)
        refine (HOW.out a2 _ HL2.out).mono ?_
        rintro e w5_ ⟨A, c, rfl, hlc, hC, hb⟩
        have HLC := Aside0.mk hlc
        have HC := Aside0.mk hC
        clear hlc hC
        have BW := Aside0.mk (step_b BW.out HN.out hb)
        clear b0 b1 b2 b3 b4
        obtain ⟨b0, b1, b2, b3, b4⟩ := HCE.out _ BW.out
        clear hb
        go_wp2_with (fail)
        refine (HFL.out _ BW.out).mono ?_
        rintro e w6_ ⟨rfl, hb⟩
        have BW := Aside0.mk (step_b BW.out HN.out hb)
        have HC := Aside0.mk (Kd.C_below HC.out hb)
        clear b0 b1 b2 b3 b4
        obtain ⟨b0, b1, b2, b3, b4⟩ := HCE.out _ BW.out
        clear hb
        go_wp2_with (fail)
        refine (HIN.out _).mono ?_
        rintro e w' ⟨rfl, rfl⟩
        go_wp2_with (fail)
        refine (HAW.out _).mono ?_
        rintro e w8_ ⟨rfl, hb⟩
        have BW := Aside0.mk (step_b BW.out HN.out hb)
        have HC := Aside0.mk (Kd.C_below HC.out hb)
        clear b0 b1 b2 b3 b4
        obtain ⟨b0, b1, b2, b3, b4⟩ := HCE.out _ BW.out
        clear hb
        go_wp2
        go_ret
        exact ⟨rfl, HTW.out _ BW.out⟩
    | true =>
      have hik := fun W => in23_any n 0 ((l.rc.length : Int) - 1) W
      rw [hin] at hik
      have HIN := Aside0.mk hik
      clear hik
      have e1 := ask_in hE hin
      obtain ⟨m, rfl⟩ : ∃ m : Nat, n = (m : Int) := ⟨n.toNat, by simp only [inR, Bool.and_eq_true, decide_eq_true_eq] at hin; omega⟩
      have hm : m < l.rc.length := by simp only [inR, Bool.and_eq_true, decide_eq_true_eq] at hin; omega
      have hrec := HS.out.rc _ (List.getElem_mem hm)
      rw [← rd75_get l m hm] at hrec
      have e2 : ownL l (m : Int) = statL l (rd_T75 l.rc (m : Int)) := own_in e1
      have e3 := own_eq HS.out hrec
      rw [e1, e2] at HOW
      have hro : ∀ W, Below (w.heap.size + 1) (w.alloc (logD ⟨A0, A2, A3, A4, c0, c2, c3, c4⟩ l)) W → Calls Tryz.prog 25 #[logV ⟨A0, A2, A3, A4, c0, c2, c3, c4⟩ l, .int .i64 (m : Int)] W fun e w' => ∃ A c, e = .returned (.slice A (statL l (rd_T75 l.rc (m : Int))).length c) ∧ (statL l (rd_T75 l.rc (m : Int))).length ≤ c ∧ Kd.C (Kd.int .i64) w' A (statL l (rd_T75 l.rc (m : Int))).length (statL l (rd_T75 l.rc (m : Int))) ∧ Below W.heap.size W w' := fun W h => by
        refine (own25_any _ l m W (HZ.out W h) hm HS.out.jlen (fun j hj => ?_) (readOk_of hrec).1).mono ?_
        · rw [rd76_get l j hj]
          exact txtOk_of HS.out.code (HS.out.jn _ (List.getElem_mem hj))
        · rintro e w' ⟨v, rfl, hR, hb⟩
          rw [e3] at hR
          obtain ⟨A, c, rfl, hl, hC⟩ := Kd.R_reads hR
          exact ⟨A, c, rfl, hl, hC, hb⟩
      have HRO := Aside0.mk hro
      dsimp only [logV] at HRO
      clear hin e1 e2 e3 hck hE hro hrec
      generalize statL l (rd_T75 l.rc (m : Int)) = xs at *
      have hsm : ∀ A c B d W, Kd.C (Kd.int .i64) W A xs.length xs → xs.length ≤ c → Kd.C (Kd.int .i64) W B xs.length xs → xs.length ≤ d → Calls Tryz.prog 24 #[.slice A xs.length c, .slice B xs.length d] W fun e w' => e = .returned (.bool true) ∧ Below W.heap.size W w' := fun A c B d W h1 h2 h3 h4 => by
        have := same_any A B c d xs xs W h1 h2 h3 h4
        simpa using this
      have HSM := Aside0.mk hsm
      clear hsm
      go_enter Tryz.func3, Tryz.ntmps3
      go_wp2_with (fail)
      refine (HTH.out _ BW.out).mono ?_
      rintro e w1_ ⟨b, rfl, hq, hb⟩
      have BW := Aside0.mk (step_b BW.out HN.out hb)
      obtain ⟨b0, b1, b2, b3, b4⟩ := HCE.out _ BW.out
      clear hb
      cases b with
      | false =>
        go_wp2_with (fail)
        refine (HAW.out _).mono ?_
        rintro e w2_ ⟨rfl, hb⟩
        have BW := Aside0.mk (step_b BW.out HN.out hb)
        clear b0 b1 b2 b3 b4
        obtain ⟨b0, b1, b2, b3, b4⟩ := HCE.out _ BW.out
        clear hb
        go_wp2
        go_ret
        exact ⟨rfl, HTW.out _ BW.out⟩
      | true =>
        have hf := (hq rfl).fits
        clear hq
        go_wp2_with (fail)
        refine (HLG.out _ BW.out hf).mono ?_
        rintro e w2_ ⟨a1, rfl, hl, hb⟩
        have HL1 := Aside0.mk hl
        clear hl
        have BW := Aside0.mk (step_b BW.out HN.out hb)
        clear b0 b1 b2 b3 b4
        obtain ⟨b0, b1, b2, b3, b4⟩ := HCE.out _ BW.out
        clear hb
        go_wp2_with (fail)
        refine (HCK.out a1 _ HL1.out).mono ?_
        rintro e w3_ ⟨rfl, hb⟩
        have BW := Aside0.mk (step_b BW.out HN.out hb)
        clear b0 b1 b2 b3 b4
        obtain ⟨b0, b1, b2, b3, b4⟩ := HCE.out _ BW.out
        clear hb
        go_wp2_with (fail)
        refine (HLG.out _ BW.out hf).mono ?_
        rintro e w4_ ⟨a2, rfl, hl, hb⟩
        have HL2 := Aside0.mk hl
        clear hl
        have BW := Aside0.mk (step_b BW.out HN.out hb)
        clear b0 b1 b2 b3 b4
        obtain ⟨b0, b1, b2, b3, b4⟩ := HCE.out _ BW.out
        clear hb
        go_wp2_with (fail)
        refine (HOW.out a2 _ HL2.out).mono ?_
        rintro e w5_ ⟨A, c, rfl, hlc, hC, hb⟩
        have HLC := Aside0.mk hlc
        have HC := Aside0.mk hC
        clear hlc hC
        have BW := Aside0.mk (step_b BW.out HN.out hb)
        clear b0 b1 b2 b3 b4
        obtain ⟨b0, b1, b2, b3, b4⟩ := HCE.out _ BW.out
        clear hb
        go_wp2_with (fail)
        refine (HFL.out _ BW.out).mono ?_
        rintro e w6_ ⟨rfl, hb⟩
        have BW := Aside0.mk (step_b BW.out HN.out hb)
        have HC := Aside0.mk (Kd.C_below HC.out hb)
        clear b0 b1 b2 b3 b4
        obtain ⟨b0, b1, b2, b3, b4⟩ := HCE.out _ BW.out
        clear hb
        go_wp2_with (fail)
        refine (HIN.out _).mono ?_
        rintro e w' ⟨rfl, rfl⟩
        go_wp2_with (fail)
        refine (HRO.out _ BW.out).mono ?_
        rintro e w8_ ⟨A', c', rfl, hlc, hC, hb⟩
        have HLC2 := Aside0.mk hlc
        have HC2 := Aside0.mk hC
        clear hlc hC
        have BW := Aside0.mk (step_b BW.out HN.out hb)
        have HC := Aside0.mk (Kd.C_below HC.out hb)
        clear b0 b1 b2 b3 b4
        obtain ⟨b0, b1, b2, b3, b4⟩ := HCE.out _ BW.out
        clear hb
        go_wp2_with (fail)
        refine (HSM.out _ _ _ _ _ HC.out HLC.out HC2.out HLC2.out).mono ?_
        rintro e w9_ ⟨rfl, hb⟩
        have BW := Aside0.mk (step_b BW.out HN.out hb)
        have HC := Aside0.mk (Kd.C_below HC.out hb)
        have HC2 := Aside0.mk (Kd.C_below HC2.out hb)
        clear b0 b1 b2 b3 b4
        obtain ⟨b0, b1, b2, b3, b4⟩ := HCE.out _ BW.out
        clear hb
        go_wp2_with (fail)
        refine (HAW.out _).mono ?_
        rintro e w10_ ⟨rfl, hb⟩
        have BW := Aside0.mk (step_b BW.out HN.out hb)
        have HC := Aside0.mk (Kd.C_below HC.out hb)
        have HC2 := Aside0.mk (Kd.C_below HC2.out hb)
        clear b0 b1 b2 b3 b4
        obtain ⟨b0, b1, b2, b3, b4⟩ := HCE.out _ BW.out
        clear hb
        go_wp2
        go_ret
        exact ⟨rfl, HTW.out _ BW.out⟩
  · have hck : ∀ a' W, LogAt W a' l → Calls Tryz.prog 19 #[logV a' l] W fun e w' => e = .returned (.int .i64 (logE l)) ∧ Below W.heap.size W w' := fun a' W h => HCK.out a' W h
    have HCK := Aside0.mk hck
    rw [ask_bad n hE, own_bad (show askE l n ≠ 0 by rw [ask_bad n hE]; exact hE)] at HOW
    have q0 : (logE l == 0) = false := by simpa using hE
    have q1 : (logE l != 0) = true := by simpa using hE
    have q2 := eq_false hE
    clear hck hE
    generalize logE l = E at *
    go_enter Tryz.func3, Tryz.ntmps3
    go_wp2_with (fail)
    refine (HTH.out _ BW.out).mono ?_
    rintro e w1_ ⟨b, rfl, hq, hb⟩
    have BW := Aside0.mk (step_b BW.out HN.out hb)
    obtain ⟨b0, b1, b2, b3, b4⟩ := HCE.out _ BW.out
    clear hb
    cases b with
    | false =>
      go_wp2_with (fail)
      refine (HAW.out _).mono ?_
      rintro e w2_ ⟨rfl, hb⟩
      have BW := Aside0.mk (step_b BW.out HN.out hb)
      clear b0 b1 b2 b3 b4
      obtain ⟨b0, b1, b2, b3, b4⟩ := HCE.out _ BW.out
      clear hb
      go_wp2
      go_ret
      exact ⟨rfl, HTW.out _ BW.out⟩
    | true =>
      have hf := (hq rfl).fits
      clear hq
      go_wp2_with (fail)
      refine (HLG.out _ BW.out hf).mono ?_
      rintro e w2_ ⟨a1, rfl, hl, hb⟩
      have HL1 := Aside0.mk hl
      clear hl
      have BW := Aside0.mk (step_b BW.out HN.out hb)
      clear b0 b1 b2 b3 b4
      obtain ⟨b0, b1, b2, b3, b4⟩ := HCE.out _ BW.out
      clear hb
      go_wp2_with (fail)
      refine (HCK.out a1 _ HL1.out).mono ?_
      rintro e w3_ ⟨rfl, hb⟩
      have BW := Aside0.mk (step_b BW.out HN.out hb)
      clear b0 b1 b2 b3 b4
      obtain ⟨b0, b1, b2, b3, b4⟩ := HCE.out _ BW.out
      clear hb
      go_wp2_with (fail)
      refine (HLG.out _ BW.out hf).mono ?_
      rintro e w4_ ⟨a2, rfl, hl, hb⟩
      have HL2 := Aside0.mk hl
      clear hl
      have BW := Aside0.mk (step_b BW.out HN.out hb)
      clear b0 b1 b2 b3 b4
      obtain ⟨b0, b1, b2, b3, b4⟩ := HCE.out _ BW.out
      clear hb
      go_wp2_with (fail)
      refine (HOW.out a2 _ HL2.out).mono ?_
      rintro e w5_ ⟨A, c, rfl, hlc, hC, hb⟩
      have HLC := Aside0.mk hlc
      have HC := Aside0.mk hC
      clear hlc hC
      have BW := Aside0.mk (step_b BW.out HN.out hb)
      clear b0 b1 b2 b3 b4
      obtain ⟨b0, b1, b2, b3, b4⟩ := HCE.out _ BW.out
      clear hb
      go_wp2_with (fail)
      refine (HFL.out _ BW.out).mono ?_
      rintro e w6_ ⟨rfl, hb⟩
      have BW := Aside0.mk (step_b BW.out HN.out hb)
      have HC := Aside0.mk (Kd.C_below HC.out hb)
      clear b0 b1 b2 b3 b4
      obtain ⟨b0, b1, b2, b3, b4⟩ := HCE.out _ BW.out
      clear hb
      go_wp2_with (fail)
      refine (HAW.out _).mono ?_
      rintro e w7_ ⟨rfl, hb⟩
      have BW := Aside0.mk (step_b BW.out HN.out hb)
      have HC := Aside0.mk (Kd.C_below HC.out hb)
      clear b0 b1 b2 b3 b4
      obtain ⟨b0, b1, b2, b3, b4⟩ := HCE.out _ BW.out
      clear hb
      go_wp2
      go_ret
      exact ⟨rfl, HTW.out _ BW.out⟩
end Go.Proofs.YthgfhgjlilmieaaGreat.G
namespace Go.Proofs.YthgfhgjlilmieaaGreat.O
open Go.ChangeShapes Go.WideShapes Go.Deep Go.Joins Go.RowKit
set_option linter.unusedVariables false
section
variable {H : Type} {enc : TypeId × Value → H} {P : Program} {w : World} {base : Nat} {spare : Nat → Bool} {held : Bool}
theorem open_slice_fields {t e : TypeId} {fs : Array Field} {fuel : Nat} {cs : List Value} {x : DataW H × List MemPlace} (ht : P.underlying t = some (.slice e)) (he : P.underlying e = some (.struct fs))
    (hone : oneCellFields P fs = true) (hC : P.cellsOf e = fs.size) (h : DataW.trod enc P w base spare held fuel t cs = some x) :
    (cs = [.slice none 0 0] ∧ x = (.nil, [])) ∨
    ∃ (a : Addr) (len cap m : Nat) (D : Nat → DataW H) (Pl : Nat → List MemPlace), cs = [.slice (some a) len cap] ∧ base ≤ a.block ∧ len ≤ cap ∧ cap ≤ maxLen ∧ m = (if spare a.block then cap else len) ∧
      x = (.slice ((List.range len).map D) ((List.range (m - len)).map fun j => D (len + j)), MemPlace.row a (m * fs.size) ++ (List.range m).flatMap Pl) ∧
      ∀ i, i < m → ∃ (ys : List (DataW H × List MemPlace)) (n : Nat), D i = .agg (ys.map (·.1)) ∧ Pl i = ys.flatMap (·.2) ∧ ys.length = fs.size ∧
        ∀ (j : Nat) (f : Field), fs[j]? = some f → ∃ (v : Value) (y : DataW H × List MemPlace), w.cell? (a.add (i * fs.size + j)) = some v ∧ ys[j]? = some y ∧ DataW.trod enc P w base spare held n f.type [v] = some y := by
  rcases open_slice ht h with h0 | ⟨a, len, cap, m, n, D, Pl, hcs, hb, hl, hm, hmm, hx, hi⟩
  · exact .inl h0
  · refine .inr ⟨a, len, cap, m, D, Pl, hcs, hb, hl, hm, hmm, by rw [hC] at hx; exact hx, fun i him => ?_⟩
    obtain ⟨cs', hc, ht'⟩ := hi i him
    rw [hC] at hc
    obtain ⟨ys, n', hn', hy, hlen, hyl, hf⟩ := DataW.trod_struct he ht'
    obtain ⟨_, hcl, hat⟩ := World.cells?_some hc
    simp only [Prod.mk.injEq] at hy
    refine ⟨ys, n', hy.1, hy.2, hyl, fun j f hj => ?_⟩
    obtain ⟨ho, hk⟩ := hone_of hone j f hj
    have hjl : j < fs.size := (Array.getElem?_eq_some_iff.1 hj).1
    have hcell := hat j hjl
    have hv : cs'[j]? = some (cs'[j]'(by omega)) := List.getElem?_eq_getElem (by omega)
    have h1 := hf j f hj
    rw [ho, hk] at h1
    have hone' : (cs'.drop j).take 1 = [cs'[j]'(by omega)] := by
      rw [List.drop_eq_getElem_cons (by omega)]
      rfl
    rw [hone'] at h1
    have hys : ys[j]? = some (ys[j]'(by omega)) := List.getElem?_eq_getElem (by omega)
    refine ⟨_, _, ?_, hys, h1.trans hys⟩
    rw [← Go.Deep.add_add, hcell, hv]
end
section
variable {H : Type} {enc : TypeId × Value → H} {P : Program} {w : World} {base : Nat} {spare : Nat → Bool} {held : Bool}
theorem open_agg5 {r : Reach} {b0 : Nat} {t : TypeId} {f0 f1 f2 f3 f4 : Field} {v : Value} {d : DataW H} {p : List MemPlace} (hs : P.underlying t = some (.struct #[f0, f1, f2, f3, f4])) (hone : oneCellFields P #[f0, f1, f2, f3, f4] = true) (hC : P.cellsOf t = 5)
    (hv : Value.okWide P w r b0 t v) (h : DataW.Trod enc P w base spare held t v d p) :
    ∃ (v0 v1 v2 v3 v4 : Value) (y0 y1 y2 y3 y4 : DataW H × List MemPlace) (n : Nat), v = .agg #[v0, v1, v2, v3, v4] ∧ d = .agg [y0.1, y1.1, y2.1, y3.1, y4.1] ∧ p = y0.2 ++ (y1.2 ++ (y2.2 ++ (y3.2 ++ y4.2))) ∧
      DataW.trod enc P w base spare held n f0.type [v0] = some y0 ∧ DataW.trod enc P w base spare held n f1.type [v1] = some y1 ∧ DataW.trod enc P w base spare held n f2.type [v2] = some y2 ∧ DataW.trod enc P w base spare held n f3.type [v3] = some y3 ∧ DataW.trod enc P w base spare held n f4.type [v4] = some y4 := by
  obtain ⟨cs, rfl, hsz⟩ := okWide_struct hs hv
  obtain ⟨l⟩ := cs
  match l, hsz.trans hC with
  | [c0, c1, c2, c3, c4], _ =>
    obtain ⟨fuel, hf⟩ := h
    obtain ⟨xs, n, _, hx, _, hlen, hg⟩ := DataW.trod_struct hs hf
    obtain ⟨o0, k0⟩ := hone_of hone 0 f0 rfl
    obtain ⟨o1, k1⟩ := hone_of hone 1 f1 rfl
    obtain ⟨o2, k2⟩ := hone_of hone 2 f2 rfl
    obtain ⟨o3, k3⟩ := hone_of hone 3 f3 rfl
    obtain ⟨o4, k4⟩ := hone_of hone 4 f4 rfl
    match xs, hlen with
    | [y0, y1, y2, y3, y4], _ =>
      simp only [Prod.mk.injEq] at hx
      exact ⟨c0, c1, c2, c3, c4, y0, y1, y2, y3, y4, n, rfl, by simpa using hx.1, by simpa using hx.2, by simpa [Value.cells, o0, k0] using hg 0 f0 rfl, by simpa [Value.cells, o1, k1] using hg 1 f1 rfl, by simpa [Value.cells, o2, k2] using hg 2 f2 rfl, by simpa [Value.cells, o3, k3] using hg 3 f3 rfl, by simpa [Value.cells, o4, k4] using hg 4 f4 rfl⟩
end
end Go.Proofs.YthgfhgjlilmieaaGreat.O
namespace Go.Proofs.YthgfhgjlilmieaaGreat.G
open Go.RowKit Go.Shelf Go.ChangeShapes Go.WideShapes Go.Deep Go.Proofs.YthgfhgjlilmieaaGreatW.PrintWords Go.Proofs.YthgfhgjlilmieaaGreatW.PrintLast Go.Proofs.YthgfhgjlilmieaaGreatW.PrintMore
open Go.Proofs.YthgfhgjlilmieaaGreat.B
set_option linter.unusedVariables false
theorem mem_weightsAll {H : Type} {P : Program} {e : TypeId} : ∀ {l : List (DataW H)} {d : DataW H}, d ∈ l → ∀ n, n ∈ d.weights P e → n ∈ DataW.weightsAll P e l
  | x :: t, d, h, n, hn => by
    simp only [DataW.weightsAll, List.mem_append]
    rcases List.mem_cons.1 h with rfl | h
    · exact .inl hn
    · exact .inr (mem_weightsAll h n hn)
theorem mem_slice {H : Type} {P : Program} {t e : TypeId} (hu : P.underlying t = some (.slice e)) {els sp : List (DataW H)} {d : DataW H} (h : d ∈ els) : ∀ n, n ∈ d.weights P e → n ∈ (DataW.slice els sp).weights P t := fun n hn => by
  simp only [DataW.weights, hu, List.mem_cons, List.mem_append]
  exact .inr (.inl (mem_weightsAll h n hn))
section
variable {H : Type} {enc : TypeId × Value → H} {w : World} {base : Nat} {spare : Nat → Bool} {held : Bool}
theorem open_row_ints {fuel : Nat} {v : Value} {x : DataW H × List MemPlace} (h : DataW.trod enc Tryz.prog w base spare held fuel 25 [v] = some x) :
    ∃ A c xs, v = .slice A xs.length c ∧ xs.length ≤ c ∧ Kd.C (Kd.int .i64) w A xs.length xs := by
  rcases open_ints Tryz.underlying25 Tryz.underlying3 (by kernel_rfl) h with ⟨hcs, _⟩ | ⟨a, len, cap, zs, hcs, _, hl, hm, hz, _, hc, _⟩
  · obtain ⟨A, c, e, hl, hC⟩ := Kd.R_reads (Kd.R_nil (Kd.int .i64) 3 w 0 (fun _ => True))
    cases e
    exact ⟨none, 0, [], by simpa using hcs, Nat.le_refl _, hC⟩
  · have hzl : len ≤ zs.length := by rw [hz]; split <;> omega
    have hlen : (zs.take len).length = len := by rw [List.length_take]; omega
    refine ⟨some a, cap, zs.take len, by rw [hlen]; simpa using hcs, by omega, ?_⟩
    refine Kd.C_of_reads (d := (0 : Int)) (h1 := fun _ => rfl) ⟨rfl, by rw [hlen]; unfold maxLen at hm; omega, fun hn => ⟨a, rfl, fun j hj => ?_⟩⟩
    have hjl : j < len := by omega
    have := hc j (by omega)
    rw [this]
    simp [List.getD_eq_getElem?_getD, hjl]
theorem open_row_strs {fuel : Nat} {v : Value} {x : DataW H × List MemPlace} (h : DataW.trod enc Tryz.prog w base spare held fuel 22 [v] = some x) (hw : ∀ n, n ∈ x.1.weights Tryz.prog 22 → n ≤ reachBytes) :
    ∃ A c xs, v = .slice A xs.length c ∧ xs.length ≤ c ∧ Kd.C Kd.string w A xs.length xs ∧ ∀ s, s ∈ xs → s.size ≤ 140737488351232 := by
  rcases open_strings Tryz.underlying22 Tryz.underlying9 (by kernel_rfl) h with ⟨hcs, _⟩ | ⟨a, len, cap, zs, hcs, _, hl, hm, hz, hx, hc, _⟩
  · obtain ⟨A, c, e, hl, hC⟩ := Kd.R_reads (Kd.R_nil Kd.string 9 w 0 (fun _ => True))
    cases e
    exact ⟨none, 0, [], by simpa using hcs, Nat.le_refl _, hC, by simp⟩
  · have hzl : len ≤ zs.length := by rw [hz]; split <;> omega
    have hlen : (zs.take len).length = len := by rw [List.length_take]; omega
    refine ⟨some a, cap, zs.take len, by rw [hlen]; simpa using hcs, by omega, ?_, fun s hs => ?_⟩
    · refine Kd.C_of_reads (d := ByteArray.empty) (h1 := fun _ => rfl) ⟨rfl, by rw [hlen]; unfold maxLen at hm; omega, fun hn => ⟨a, rfl, fun j hj => ?_⟩⟩
      have hjl : j < len := by omega
      have := hc j (by omega)
      rw [this]
      simp [List.getD_eq_getElem?_getD, hjl]
    · have := hw s.size (by
        rw [hx]
        refine mem_slice Tryz.underlying22 (d := .lit (.string s.data.toList)) (List.mem_map.2 ⟨s, hs, rfl⟩) _ ?_
        simp [DataW.weights])
      simpa [reachBytes] using this
theorem row_of {α : Type} (d : Kd α) (a : Addr) (len : Nat) (Q : α → Prop) (hm : len ≤ 9223372036854775807) (h : ∀ i, i < len → ∃ (s : α) (cs : List Value), cs.length = d.sz ∧ d.K w s cs ∧ Q s ∧ ∀ (j : Nat) (u : Value), cs[j]? = some u → w.cell? (a.add (i * d.sz + j)) = some u) :
    ∃ xs : List α, xs.length = len ∧ Kd.C d w (some a) len xs ∧ ∀ s, s ∈ xs → Q s := by
  let xs := List.ofFn (n := len) fun i => Classical.choose (h i.1 i.2)
  have hl : xs.length = len := List.length_ofFn
  have hg : ∀ (i : Nat) (hi : i < len) (hx : i < xs.length), ∃ cs : List Value, cs.length = d.sz ∧ d.K w xs[i] cs ∧ Q xs[i] ∧ ∀ (j : Nat) (u : Value), cs[j]? = some u → w.cell? (a.add (i * d.sz + j)) = some u := fun i hi hx => by
    have e : xs[i] = Classical.choose (h i hi) := by simp [xs]
    rw [e]
    exact Classical.choose_spec (h i hi)
  refine ⟨xs, hl, ⟨hl, hm, fun _ => ⟨a, rfl, fun j p hj => ?_⟩⟩, fun s hs => ?_⟩
  · obtain ⟨hj1, hj2⟩ := List.getElem?_eq_some_iff.1 hj
    obtain ⟨cs, h1, h2, _, h4⟩ := hg j (by omega) hj1
    rw [hj2] at h2
    exact ⟨cs, h1, h2, h4⟩
  · obtain ⟨j, hj, rfl⟩ := List.getElem_of_mem hs
    obtain ⟨cs, _, _, h3, _⟩ := hg j (by omega) hj
    exact h3
theorem three {a : Addr} {v0 v1 v2 : Value} {i : Nat} (h0 : w.cell? (a.add (i * 3 + 0)) = some v0) (h1 : w.cell? (a.add (i * 3 + 1)) = some v1) (h2 : w.cell? (a.add (i * 3 + 2)) = some v2) : ∀ (j : Nat) (u : Value), [v0, v1, v2][j]? = some u → w.cell? (a.add (i * 3 + j)) = some u := by
  intro j u hj
  match j, hj with
  | 0, hj => cases hj; exact h0
  | 1, hj => cases hj; exact h1
  | 2, hj => cases hj; exact h2
theorem open_row_sent {fuel : Nat} {v : Value} {x : DataW H × List MemPlace} (h : DataW.trod enc Tryz.prog w base spare held fuel 26 [v] = some x) :
    ∃ A c, ∃ xs : List S76, v = .slice A xs.length c ∧ xs.length ≤ c ∧ Kd.C k76 w A xs.length xs := by
  rcases O.open_slice_fields Tryz.underlying26 Tryz.underlying69 (by kernel_rfl) (by kernel_rfl) h with ⟨hcs, _⟩ | ⟨a, len, cap, m, D, Pl, hcs, _, hl, hm, hmm, hx, hf⟩
  · obtain ⟨A, c, e, hl, hC⟩ := Kd.R_reads (Kd.R_nil k76 76 w 0 (fun _ => True))
    cases e
    exact ⟨none, 0, [], by simpa using hcs, Nat.le_refl _, hC⟩
  · have hlm : len ≤ m := by rw [hmm]; split <;> omega
    obtain ⟨xs, e1, e2, _⟩ := row_of (w := w) k76 a len (fun _ => True) (by unfold maxLen at hm; omega) (fun i hi => by
      obtain ⟨ys, n, _, _, _, hff⟩ := hf i (by omega)
      obtain ⟨v0, y0, c0, _, t0⟩ := hff 0 _ rfl
      obtain ⟨v1, y1, c1, _, t1⟩ := hff 1 _ rfl
      obtain ⟨v2, y2, c2, _, t2⟩ := hff 2 _ rfl
      obtain ⟨n0, e0, _, _⟩ := DataW.trod_int Tryz.underlying3 t0
      obtain ⟨n1, e1, _, _⟩ := DataW.trod_int Tryz.underlying3 t1
      obtain ⟨A, c, t, rfl, hc, hC⟩ := open_row_ints t2
      cases e0
      cases e1
      exact ⟨⟨n0, n1, t⟩, [.int .i64 n0, .int .i64 n1, .slice A t.length c], rfl, ⟨[.int .i64 n0], [.int .i64 n1, .slice A t.length c], rfl, rfl, [.int .i64 n1], [.slice A t.length c], rfl, rfl, A, c, rfl, hc, hC⟩, trivial, three c0 c1 c2⟩)
    exact ⟨some a, cap, xs, by rw [e1]; simpa using hcs, by omega, by rw [e1]; exact e2⟩
theorem open_row_rec {fuel : Nat} {v : Value} {x : DataW H × List MemPlace} (h : DataW.trod enc Tryz.prog w base spare held fuel 27 [v] = some x) (hw : ∀ n, n ∈ x.1.weights Tryz.prog 27 → n ≤ reachBytes) :
    ∃ A c, ∃ xs : List S75, v = .slice A xs.length c ∧ xs.length ≤ c ∧ Kd.C k75 w A xs.length xs ∧ ∀ r, r ∈ xs → r.f2.size ≤ 140737488351232 := by
  rcases O.open_slice_fields Tryz.underlying27 Tryz.underlying61 (by kernel_rfl) (by kernel_rfl) h with ⟨hcs, _⟩ | ⟨a, len, cap, m, D, Pl, hcs, _, hl, hm, hmm, hx, hf⟩
  · obtain ⟨A, c, e, hl, hC⟩ := Kd.R_reads (Kd.R_nil k75 75 w 0 (fun _ => True))
    cases e
    exact ⟨none, 0, [], by simpa using hcs, Nat.le_refl _, hC, by simp⟩
  · have hlm : len ≤ m := by rw [hmm]; split <;> omega
    obtain ⟨xs, e1, e2, e3⟩ := row_of (w := w) k75 a len (fun r => r.f2.size ≤ 140737488351232) (by unfold maxLen at hm; omega) (fun i hi => by
      obtain ⟨ys, n, hD, _, hys, hff⟩ := hf i (by omega)
      obtain ⟨v0, y0, c0, _, t0⟩ := hff 0 _ rfl
      obtain ⟨v1, y1, c1, _, t1⟩ := hff 1 _ rfl
      obtain ⟨v2, y2, c2, g2, t2⟩ := hff 2 _ rfl
      obtain ⟨n0, e0, _, _⟩ := DataW.trod_int Tryz.underlying3 t0
      obtain ⟨n1, e1, _, _⟩ := DataW.trod_int Tryz.underlying3 t1
      obtain ⟨s, e2, ey, _⟩ := DataW.trod_string Tryz.underlying9 t2
      cases e0
      cases e1
      cases e2
      have hsz : s.size ≤ 140737488351232 := by
        have := hw s.size (by
          rw [hx]
          refine mem_slice Tryz.underlying27 (d := D i) (List.mem_map.2 ⟨i, List.mem_range.2 hi, rfl⟩) _ ?_
          rw [hD]
          simp only [DataW.weights, Tryz.underlying61]
          refine DataW.weights_mem_each (j := 2) (t := 9) (d := y2.1) rfl ?_ _ ?_
          · rw [List.getElem?_map, g2]; rfl
          · rw [ey]; simp [DataW.weights])
        simpa [reachBytes] using this
      exact ⟨⟨n0, n1, s⟩, [.int .i64 n0, .int .i64 n1, .string s], rfl, ⟨[.int .i64 n0], [.int .i64 n1, .string s], rfl, rfl, [.int .i64 n1], [.string s], rfl, rfl, rfl⟩, hsz, three c0 c1 c2⟩)
    exact ⟨some a, cap, xs, by rw [e1]; simpa using hcs, by omega, by rw [e1]; exact e2, e3⟩
set_option maxRecDepth 100000 in
theorem open_log {r : Reach} {b0 : Nat} {v : Value} {d : DataW H} {p : List MemPlace} (hv : Value.okWide Tryz.prog w r b0 29 v) (h : DataW.Trod enc Tryz.prog w base spare held 29 v d p) (hw : ∀ n, n ∈ d.weights Tryz.prog 29 → n ≤ reachBytes) :
    ∃ a l, v = logV a l ∧ LogAt w a l := by
  obtain ⟨v0, v1, v2, v3, v4, y0, y1, y2, y3, y4, n, rfl, hd, _, t0, t1, t2, t3, t4⟩ := O.open_agg5 Tryz.underlying29 (by kernel_rfl) (by kernel_rfl) hv h
  have hw0 : ∀ n, n ∈ y0.1.weights Tryz.prog 24 → n ≤ reachBytes := fun n hn => hw n (by
    rw [hd]
    simp only [DataW.weights, Tryz.underlying29]
    exact DataW.weights_mem_each (j := 0) (t := 24) rfl rfl _ hn)
  have hw4 : ∀ n, n ∈ y4.1.weights Tryz.prog 27 → n ≤ reachBytes := fun n hn => hw n (by
    rw [hd]
    simp only [DataW.weights, Tryz.underlying29]
    exact DataW.weights_mem_each (j := 4) (t := 27) rfl rfl _ hn)
  obtain ⟨xs, n', _, hx, _, hlen, hg⟩ := DataW.trod_struct Tryz.underlying24 t0
  obtain ⟨z0, hz⟩ : ∃ z, xs = [z] := by
    match xs, hlen with
    | [z], _ => exact ⟨z, rfl⟩
  subst hz
  have g0 := hg 0 _ rfl
  have hcell : Tryz.prog.cellsOf 22 = 1 := by kernel_rfl
  have g1 : DataW.trod enc Tryz.prog w base spare held n' 22 [v0] = some z0 := by simpa [hcell] using g0
  have hy0 : y0.1 = .agg [z0.1] := by
    have := congrArg Prod.fst hx
    simpa using this
  obtain ⟨A0, c0, ls, rfl, l0, q0, s0⟩ := open_row_strs g1 (fun n hn => hw0 n (by
    rw [hy0]
    simp only [DataW.weights, Tryz.underlying24]
    exact DataW.weights_mem_each (j := 0) (t := 22) rfl rfl _ hn))
  obtain ⟨errs, e1, _, _⟩ := DataW.trod_int Tryz.underlying3 t1
  cases e1
  obtain ⟨A2, c2, sees, rfl, l2, q2⟩ := open_row_ints t2
  obtain ⟨A3, c3, jn, rfl, l3, q3⟩ := open_row_sent t3
  obtain ⟨A4, c4, rc, rfl, l4, q4, s4⟩ := open_row_rec t4 hw4
  exact ⟨⟨A0, A2, A3, A4, c0, c2, c3, c4⟩, ⟨ls, errs, sees, jn, rc⟩, rfl, q0, q2, q3, q4, l0, l2, l3, l4, s0, s4⟩
end
end Go.Proofs.YthgfhgjlilmieaaGreat.G
