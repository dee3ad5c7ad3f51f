/- texts of this claim, merged by a program of this session out of its own texts and the print's words -/
import Derived.BigGuardPart
import Derived.BigQuiet
import Derived.ChangeAlike
import Derived.Deep.QuietTactic
import Derived.LoopIn
import Derived.LoopNIn
import Derived.Maps.AppendAt
import Derived.Maps.OwnIn
import Derived.OwnWalkIn
import Derived.RangeFuncBound
import Derived.RangeFuncCalls
import Derived.RangeFuncLeaves
import Derived.RangeFuncNested
import Derived.RegionTactic
import Derived.Shelf.RegionOpen
import Derived.TacticsInMore
import Derived.Test.YthgfhgjlilmieaaGreatKA0
namespace Go.Proofs.YthgfhgjlilmieaaGreat.G
open Go.RowKit Go.Shelf Go.Proofs.YthgfhgjlilmieaaGreatW.PrintWords Go.Proofs.YthgfhgjlilmieaaGreatW.PrintLast Go.Proofs.YthgfhgjlilmieaaGreatW.PrintMore
open Go.Proofs.YthgfhgjlilmieaaGreat.B
attribute [local go_sem] Oper.semAt_some RunTo
set_option linter.unusedVariables false
set_option linter.unusedSimpArgs false
def twK (k : Nat) (s : ByteArray) : ByteArray × ByteArray :=
  if k = 0 then (s.extract 0 1, s.extract 0 1)
  else if k = 1 then (if bt s 0 = 32 then ⟨#[]⟩ else s.extract 0 1, if bt s 0 = 32 then ⟨#[33]⟩ else ⟨#[]⟩)
  else if k = 2 then (if bt s 0 = 45 then s.extract 0 1 else ⟨#[]⟩, if bt s 0 = 45 then ⟨#[46, 46]⟩ else ⟨#[33]⟩)
  else if k = 3 then (if Lib.hasPrefix s.data.toList [46, 46] = true then s.extract 0 2 else ⟨#[]⟩, if Lib.hasPrefix s.data.toList [46, 46] = true then ⟨#[45]⟩ else ⟨#[33]⟩)
  else if k = 4 then (if bt s 0 = 32 then s.extract 0 1 else ⟨#[]⟩, if bt s 0 = 32 then ⟨#[]⟩ else ⟨#[33]⟩)
  else (⟨#[]⟩, ⟨#[32]⟩)
def costK (k : Nat) : Int := if k = 0 then 0 else 1
def goes (s r : ByteArray) (k : Nat) : Bool := (decide (0 < s.size) || k == 5) && Lib.hasPrefix r.data.toList (twK k s).2.data.toList
def leftS (s : ByteArray) (k : Nat) : ByteArray := s.extract (twK k s).1.size s.size
def leftR (s r : ByteArray) (k : Nat) : ByteArray := r.extract (twK k s).2.size r.size
theorem step_any (k : Nat) (hk : k < 6) (s r : ByteArray) (h : 0 < s.size ∨ k = 5) (w : World) : Calls Tryz.prog (173 + k) #[.agg #[.string s, .string r]] w (TW (twK k s).1 (twK k s).2 w) := by
  match k, hk with
  | 0, _ => exact copied_any s r (by omega) w
  | 1, _ => exact missed_any s r (by omega) w
  | 2, _ => exact m175_any s r (by omega) w
  | 3, _ => exact joined_any s r w
  | 4, _ => exact m177_any s r (by omega) w
  | 5, _ => exact gap_any s r w
theorem enters_step (k : Nat) (hk : k < 6) : Enters (173 + k) := by
  match k, hk with
  | 0, _ => exact enters_of Tryz.func173 (by kernel_rfl) rfl
  | 1, _ => exact enters_of Tryz.func174 (by kernel_rfl) rfl
  | 2, _ => exact enters_of Tryz.func175 (by kernel_rfl) rfl
  | 3, _ => exact enters_of Tryz.func176 (by kernel_rfl) rfl
  | 4, _ => exact enters_of Tryz.func177 (by kernel_rfl) rfl
  | 5, _ => exact enters_of Tryz.func178 (by kernel_rfl) rfl
def kindCells : Array Value := #[.int .i64 0, .int .i64 0, .func (.func 173) #[] #[], .int .i64 1, .int .i64 1, .func (.func 174) #[] #[], .int .i64 2, .int .i64 1, .func (.func 175) #[] #[], .int .i64 3, .int .i64 1, .func (.func 176) #[] #[], .int .i64 4, .int .i64 1, .func (.func 177) #[] #[], .int .i64 5, .int .i64 1, .func (.func 178) #[] #[]]
theorem kind_cell (k : Nat) (hk : k < 6) : kindCells[3 * k]? = some (.int .i64 k) ∧ kindCells[3 * k + 1]? = some (.int .i64 (costK k)) ∧ kindCells[3 * k + 2]? = some (.func (.func (173 + k)) #[] #[]) := by
  match k, hk with
  | 0, _ => exact ⟨rfl, rfl, rfl⟩
  | 1, _ => exact ⟨rfl, rfl, rfl⟩
  | 2, _ => exact ⟨rfl, rfl, rfl⟩
  | 3, _ => exact ⟨rfl, rfl, rfl⟩
  | 4, _ => exact ⟨rfl, rfl, rfl⟩
  | 5, _ => exact ⟨rfl, rfl, rfl⟩
theorem kinds_any (w : World) : Calls Tryz.prog 163 #[] w fun e w' => e = .returned (.slice (some ⟨w.heap.size, 0, none⟩) 6 6) ∧ w' = w.alloc (.cells kindCells 180) := by
  go_enter Tryz.func163, Tryz.ntmps163
  go_wp2
  go_ret
  exact ⟨rfl, rfl⟩
theorem tw_size (k : Nat) (s : ByteArray) : (twK k s).1.size ≤ s.size := by
  unfold twK
  have e : (s.extract 0 1).size ≤ s.size := by simp; omega
  have e2 : (s.extract 0 2).size ≤ s.size := by simp; omega
  have e3 : (⟨#[]⟩ : ByteArray).size ≤ s.size := Nat.zero_le _
  repeat' split
  all_goals first | exact e | exact e2 | exact e3
theorem prefix_size {r p : ByteArray} (h : Lib.hasPrefix r.data.toList p.data.toList = true) : p.size ≤ r.size := by
  have := (List.isPrefixOf_iff_prefix.1 h).length_le
  rwa [data_length, data_length] at this
abbrev NX (s r : ByteArray) := { k : Nat // k < 6 ∧ goes s r k = true }
def nx (s r : ByteArray) (j : Nat) : List (NX s r) := (List.range j).filterMap fun k => if h : k < 6 ∧ goes s r k = true then some ⟨k, h⟩ else none
theorem nx_hit {s r : ByteArray} {j : Nat} (h : j < 6 ∧ goes s r j = true) : nx s r (j + 1) = nx s r j ++ [⟨j, h⟩] := by
  simp only [nx, List.range_succ, List.filterMap_append, List.filterMap_cons, List.filterMap_nil, dif_pos h]
theorem nx_miss {s r : ByteArray} {j : Nat} (h : goes s r j = false) : nx s r (j + 1) = nx s r j := by
  have : ¬ (j < 6 ∧ goes s r j = true) := fun h' => by rw [h] at h'; exact absurd h'.2 (by simp)
  simp only [nx, List.range_succ, List.filterMap_append, List.filterMap_cons, List.filterMap_nil, dif_neg this, List.append_nil]
theorem nx_len (s r : ByteArray) (j : Nat) : (nx s r j).length ≤ j := by
  unfold nx
  exact Nat.le_trans (List.length_filterMap_le _ _) (by simp)
def stepV (k : Nat) : Value := .agg #[.int .i64 k, .int .i64 (costK k), .func (.func (173 + k)) #[] #[]]
def readV (s r : ByteArray) (k : Nat) : Value := .agg #[.string (leftS s k), .string (leftR s r k)]
def KpR (B n1 : Nat) (W W' : World) : Prop := W.heap.size ≤ W'.heap.size ∧ ∀ k c t f, (k = B ∨ n1 ≤ k) → W.heap[k]? = some (.cells c t f) → W'.heap[k]? = some (.cells c t f)
theorem KpR.t {B n1 : Nat} {X Y Z : World} (h : KpR B n1 X Y) (k : KpR B n1 Y Z) : KpR B n1 X Z := ⟨Nat.le_trans h.1 k.1, fun i c t f hi hc => k.2 i c t f hi (h.2 i c t f hi hc)⟩
theorem KpR.b {B n1 : Nat} (W : World) (l : Nat) (o o' : Obj) (hl : W.heap[l]? = some o) (ho : o.isCells = false) : KpR B n1 W (W.putObj l o') := by
  have hg := grownBy_putObj' W l o'
  refine ⟨hg.size, fun k c t f _ hc => (hg.block k (Array.getElem?_eq_some_iff.1 hc).1 (fun e => ?_)).trans hc⟩
  cases e
  rw [hl] at hc
  cases hc
  cases ho
theorem KpR.of_grown {B n1 : Nat} {W W' : World} {row : Option Nat} (hg : W.grownBy W' row) (hr : ∀ j, row = some j → j < n1 ∧ j ≠ B) : KpR B n1 W W' :=
  ⟨hg.size, fun k c t f hk hc => (hg.block k (Array.getElem?_eq_some_iff.1 hc).1 (fun e => by
    obtain ⟨h1, h2⟩ := hr k e.symm
    rcases hk with rfl | hk
    · exact h2 rfl
    · omega)).trans hc⟩
set_option maxRecDepth 100000 in
set_option maxHeartbeats 4000000 in
theorem next1_in (n l Br n1 : Nat) (s r : ByteArray) (J Jx : List (NX s r) → World → Prop) (W : World) (hs : s.size ≤ 9223372036854775807) (hr : r.size ≤ 9223372036854775807)
    (hn : 1 ≤ n) (hJ : AbidesFrom W.heap.size J) (hn1 : n1 ≤ W.heap.size)
    (hY : ∀ pre x W1, J pre W1 → pre.length < 6 → YieldAt Fence.wide (n - 1) Tryz.prog l #[stepV x.1, readV s r x.1] W1 fun e W' =>
      (e = .returned (.bool true) ∧ J (pre ++ [x]) W' ∧ KpR Br n1 W1 W') ∨ (e = .returned (.bool false) ∧ Jx (pre ++ [x]) W'))
    (hB : W.heap[Br]? = some (.cells #[.string s, .string r] 159 (0, 0))) (h0 : J [] W) :
    CallsIn Fence.wide n Tryz.prog 162 #[.func (.yield l) #[] #[], .pointer (some ⟨Br, 0, none⟩)] W fun e W' => (∃ v, e = .returned v) ∧
      ((∃ ys, ys = nx s r 6 ∧ J ys W') ∨ (∃ pre, True ∧ Jx pre W')) := by
  have HJ := Aside0.mk hJ
  have HY := Aside0.mk hY
  have hB0 : W.cell? ⟨Br, 0, none⟩ = some (.string s) := by simp [World.cell?, hB]
  have hB1 : W.cell? ⟨Br, 1, none⟩ = some (.string r) := by simp [World.cell?, hB]
  have HB := Aside0.mk hB
  have hu := Tryz.underlying180
  have hu1 := Tryz.underlying159
  have hBr : Br < W.heap.size := (Array.getElem?_eq_some_iff.1 hB).1
  have hfn : ∀ f, Fence.wide.fn f := fun _ => trivial
  clear hY hJ hB
  refine callsIn_of_wp Tryz.func162 rfl trivial ?_ rfl
  simp only [Tryz.ntmps162, List.size_toArray, List.length_cons, List.length_nil, Nat.reduceAdd, Nat.reduceSub, Array.replicate_succ, Array.replicate_zero, List.push_toArray, List.append_toArray, List.nil_append, List.cons_append]
  gi_wp2_with (gi_at_call 163; refine (callsIn_wide.2 (kinds_any _)).mono ?_; rintro e w' ⟨rfl, rfl⟩)
  gi_loopw [9] (fun v wr => ∃ kk : Nat, kk ≤ 6 ∧ v = .int .i64 kk ∧ Aside0 (J (nx s r kk) wr) ∧ Aside0 (wr.heap[Br]? = some (.cells #[.string s, .string r] 159 (0, 0))) ∧ Aside0 (wr.heap[W.heap.size]? = some (.cells kindCells 180 (0, 0))))
    (fun v _ => 6 - (intOf v).toNat)
  case atStart =>
    exact ⟨0, by omega, rfl, ⟨HJ.out _ _ _ none h0 (World.grownBy_alloc W _ none) (fun r e => by cases e)⟩, ⟨(Below.heap_alloc W _ Br hBr).trans HB.out⟩, ⟨World.alloc_heap_new W _⟩⟩
  case round =>
    obtain ⟨kk, hkk, rfl, HJk, HBr, HKb⟩ := hrel
    by_cases hlt : kk < 6
    · have hltz : (kk : Int) < 6 := by omega
      obtain ⟨kc0, kc1, kc2⟩ := kind_cell kk hlt
      have hk0 : wr.cell? ⟨W.heap.size, kk * 3, none⟩ = some (.int .i64 kk) := by simp [World.cell?, HKb.out, Nat.mul_comm kk 3, kc0]
      have hk1 : wr.cell? ⟨W.heap.size, kk * 3 + 1, none⟩ = some (.int .i64 (costK kk)) := by simp [World.cell?, HKb.out, Nat.mul_comm kk 3, kc1]
      have hk2 : wr.cell? ⟨W.heap.size, kk * 3 + 2, none⟩ = some (.func (.func (173 + kk)) #[] #[]) := by simp [World.cell?, HKb.out, Nat.mul_comm kk 3, kc2]
      have hb0 : wr.cell? ⟨Br, 0, none⟩ = some (.string s) := by simp [World.cell?, HBr.out]
      have hb1 : wr.cell? ⟨Br, 1, none⟩ = some (.string r) := by simp [World.cell?, HBr.out]
      have hBr2 : Br < wr.heap.size := (Array.getElem?_eq_some_iff.1 HBr.out).1
      have hne1 : wr.heap.size ≠ Br := by omega
      have hne2 : Br ≠ wr.heap.size := by omega
      clear kc0 kc1 kc2
      have eg := enters_step kk hlt
      unfold Enters at eg
      have hcall := step_any kk hlt s r
      by_cases hgo : 0 < s.size ∨ kk = 5
      · have HC := Aside0.mk (hcall hgo)
        clear hcall
        generalize hg : 173 + kk = g at *
        have HG := Aside0.mk hg
        clear hg
        by_cases hs0 : 0 < s.size
        · have hz1 : s.toList.isEmpty = false := by
            rw [Lib.toList_data]
            cases hl : s.data.toList with
            | nil => have := data_length s; rw [hl] at this; simp at this; omega
            | cons x xs => rfl
          have hz2 : (s.toList = []) = False := by
            apply eq_false
            intro h
            rw [h] at hz1
            cases hz1
          have hz3 : (0 : Int) < s.size := by omega
          have hts := tw_size kk s
          have hgoes : goes s r kk = Lib.hasPrefix r.data.toList (twK kk s).2.data.toList := by simp [goes, hs0]
          have hrs := fun h => prefix_size (r := r) (p := (twK kk s).2) h
          have HPre := Aside0.mk (hasPrefix_any r (twK kk s).2)
          have HGO := Aside0.mk hgoes
          have HRS := Aside0.mk hrs
          clear hgoes hrs
          generalize hT : (twK kk s).1 = T at *
          generalize hWt : (twK kk s).2 = Wt at *
          have HT := Aside0.mk hT
          have HWt := Aside0.mk hWt
          clear hT hWt
          gi_wp2_with (fail)
          refine (callsIn_wide.2 (HC.out _)).mono ?_
          rintro e w2 ⟨rfl, hb2⟩
          obtain ⟨hc2, hf2⟩ := bcell hb2
          have hz := hb2.size
          have d0 : w2.cell? ⟨Br, 0, none⟩ = some (.string s) := (hc2 Br 0 (by simp; omega)).trans ((((Below.refl wr.heap.size wr).alloc (Nat.le_refl _) _).cell (p := ⟨Br, 0, none⟩) hBr2).trans hb0)
          have d1 : w2.cell? ⟨Br, 1, none⟩ = some (.string r) := (hc2 Br 1 (by simp; omega)).trans ((((Below.refl wr.heap.size wr).alloc (Nat.le_refl _) _).cell (p := ⟨Br, 1, none⟩) hBr2).trans hb1)
          have d2 : w2.cell? ⟨wr.heap.size, 0, none⟩ = some (.int .i64 kk) := (hc2 wr.heap.size 0 (by simp)).trans (by simp)
          have d3 : w2.cell? ⟨wr.heap.size, 1, none⟩ = some (.int .i64 (costK kk)) := (hc2 wr.heap.size 1 (by simp)).trans (by simp)
          have d4 : w2.cell? ⟨wr.heap.size, 2, none⟩ = some (.func (.func g) #[] #[]) := (hc2 wr.heap.size 2 (by simp)).trans (by simp)
          have HB2 := Aside0.mk hb2
          clear hc2 hf2 hb2
          cases hp : Lib.hasPrefix r.data.toList Wt.data.toList with
          | true =>
            have hrs := HRS.out hp
            gi_wp2_with (fail)
            refine wpIn_region_vals 18 [.pointer (some ⟨Br, 1, none⟩), .string r, .string Wt, .bool true, .bool true, .func (.yield l) #[] #[], .agg #[.int .i64 kk, .int .i64 (costK kk), .func (.func g) #[] #[]], .pointer (some ⟨Br, 0, none⟩), .string s, .string T, .int .i64 T.size, .string (s.extract T.size s.size),
              .pointer (some ⟨Br, 1, none⟩), .string r, .string Wt, .int .i64 Wt.size, .string (r.extract Wt.size r.size), .agg #[.string (s.extract T.size s.size), .string (r.extract Wt.size r.size)]] (fun w => w = w2.drew) (openF_wide n _) (by kernel_rfl) (by kernel_rfl) rfl ?_ ?_
            · intro fin hfin
              simp only [putAll, List.take_succ_cons, List.take_zero, Act.put] at hfin
              simp only [List.setIfInBounds_toArray, List.set_cons_succ, List.set_cons_zero] at hfin
              subst hfin
              simp only [List.take_succ_cons, List.take_zero, List.forall_mem_cons]
              refine ⟨?_, ?_, ?_, ?_, ?_, ?_, ?_, ?_, ?_, ?_, ?_, ?_, ?_, ?_, ?_, ?_, ?_, ?_, by simp⟩
              all_goals (intro w hw; subst hw; go_simp)
              all_goals (first | (refine (HPre.out _).mono ?_; rintro e w' ⟨rfl, rfl⟩; exact ⟨_, rfl, by simp [hp], rfl⟩) | skip)
            · intro fin hfin
              simp only [putAll, List.take_succ_cons, List.take_zero, Act.put] at hfin
              simp only [List.setIfInBounds_toArray, List.set_cons_succ, List.set_cons_zero] at hfin
              subst hfin
              intro w hw
              subst hw
              simp only [List.drop_succ_cons, List.drop_zero]
              have hbw : Below wr.heap.size wr w2.drew := below_drew (((Below.refl wr.heap.size wr).alloc (Nat.le_refl _) _).trans (HB2.out.mono (by simp)))
              have hgx : goes s r kk = true := by rw [HGO.out]; exact hp
              obtain ⟨fn, tmps, assign, body, hy, hR⟩ := HY.out (nx s r kk) ⟨kk, hlt, hgx⟩ w2.drew (HJ.out _ _ _ none HJk.out (grown_of_below hbw none) (fun r e => by cases e)) (by have := nx_len s r kk; omega)
              have hBrD : w2.drew.heap[Br]? = some (.cells #[.string s, .string r] 159 (0, 0)) := (hbw.block Br hBr2).trans HBr.out
              have hKbD : w2.drew.heap[W.heap.size]? = some (.cells kindCells 180 (0, 0)) := (hbw.block W.heap.size (Array.getElem?_eq_some_iff.1 HKb.out).1).trans HKb.out
              have HBrD := Aside0.mk hBrD
              have HKbD := Aside0.mk hKbD
              have HR := Aside0.mk hR
              dsimp only [stepV, readV, leftS, leftR] at hy
              rw [HT.out, HWt.out, HG.out] at hy
              clear hBrD hKbD hR hbw
              gi_wp2
              refine HR.out.mono ?_
              rintro e W3 (⟨rfl, hJ3, hk3⟩ | ⟨rfl, hJx3⟩)
              · have HJ3 := Aside0.mk hJ3
                have HK3 := Aside0.mk hk3
                clear hJ3 hk3
                gi_wp2
                go_roundw
                case rel => exact ⟨kk + 1, by omega, by go_num, ⟨by rw [nx_hit ⟨hlt, hgx⟩]; exact HJ3.out⟩, ⟨HK3.out.2 _ _ _ _ (.inl rfl) HBrD.out⟩, ⟨HK3.out.2 _ _ _ _ (.inr hn1) HKbD.out⟩⟩
                case measure => simp [intOf]; omega
              · have HJx := Aside0.mk hJx3
                clear hJx3
                gi_wp2
                refine bodyPost_ret (results_none rfl _ _ _) rfl ?_
                exact ⟨⟨_, rfl⟩, .inr ⟨_, trivial, HJx.out⟩⟩
          | false =>
            have hgx : goes s r kk = false := by rw [HGO.out]; exact hp
            have hbw : Below wr.heap.size wr w2.drew := below_drew (((Below.refl wr.heap.size wr).alloc (Nat.le_refl _) _).trans (HB2.out.mono (by simp)))
            have HBW := Aside0.mk hbw
            have HGX := Aside0.mk hgx
            clear hbw hgx
            gi_wp2_with (fail)
            refine wpIn_region_vals 18 [.pointer (some ⟨Br, 1, none⟩), .string r, .string Wt, .bool false, .bool false, undef, undef, undef, undef, undef, undef, undef, undef, undef, undef, undef, undef, undef] (fun w => w = w2.drew) (openF_wide n _) (by kernel_rfl) (by kernel_rfl) rfl ?_ ?_
            · intro fin hfin
              simp only [putAll, List.take_succ_cons, List.take_zero, Act.put] at hfin
              simp only [List.setIfInBounds_toArray, List.set_cons_succ, List.set_cons_zero] at hfin
              subst hfin
              simp only [List.take_succ_cons, List.take_zero, List.forall_mem_cons]
              refine ⟨?_, ?_, ?_, ?_, ?_, ?_, ?_, ?_, ?_, ?_, ?_, ?_, ?_, ?_, ?_, ?_, ?_, ?_, by simp⟩
              all_goals (intro w hw; subst hw; go_simp)
              all_goals (first | (refine (HPre.out _).mono ?_; rintro e w' ⟨rfl, rfl⟩; exact ⟨_, rfl, by simp [hp], rfl⟩) | skip)
            · intro fin hfin
              simp only [putAll, List.take_succ_cons, List.take_zero, Act.put] at hfin
              simp only [List.setIfInBounds_toArray, List.set_cons_succ, List.set_cons_zero] at hfin
              subst hfin
              intro w hw
              subst hw
              simp only [List.drop_succ_cons, List.drop_zero]
              gi_wp2
              go_roundw
              case rel => exact ⟨kk + 1, by omega, by go_num, ⟨by rw [nx_miss HGX.out]; exact HJ.out _ _ _ none HJk.out (grown_of_below HBW.out none) (fun r e => by cases e)⟩, ⟨(HBW.out.block Br hBr2).trans HBr.out⟩, ⟨(HBW.out.block W.heap.size (Array.getElem?_eq_some_iff.1 HKb.out).1).trans HKb.out⟩⟩
              case measure => simp [intOf]; omega
        · have hk5' : kk = 5 := by omega
          have hse : s.data.toList = [] := List.eq_nil_of_length_eq_zero (by rw [data_length]; omega)
          have hz1 : s.toList.isEmpty = true := by rw [Lib.toList_data, hse]; rfl
          have hz2 : (s.toList = []) = True := by rw [Lib.toList_data, hse]; simp
          have hk5 : ((kk : Int) != 5) = false := by rw [bne_eq_false_iff_eq]; omega
          have hk6 : ((kk : Int) == 5) = true := by rw [beq_iff_eq]; omega
          have HSE := Aside0.mk hse
          clear hse
          have hts := tw_size kk s
          have hgoes : goes s r kk = Lib.hasPrefix r.data.toList (twK kk s).2.data.toList := by simp [goes, hk5']
          have hrs := fun h => prefix_size (r := r) (p := (twK kk s).2) h
          have HPre := Aside0.mk (hasPrefix_any r (twK kk s).2)
          have HGO := Aside0.mk hgoes
          have HK5 := Aside0.mk hk5'
          have HRS := Aside0.mk hrs
          clear hgoes hrs hk5'
          generalize hT : (twK kk s).1 = T at *
          generalize hWt : (twK kk s).2 = Wt at *
          have HT := Aside0.mk hT
          have HWt := Aside0.mk hWt
          clear hT hWt
          gi_wp2_with (fail)
          refine (callsIn_wide.2 (HC.out _)).mono ?_
          rintro e w2 ⟨rfl, hb2⟩
          obtain ⟨hc2, hf2⟩ := bcell hb2
          have hz := hb2.size
          have d0 : w2.cell? ⟨Br, 0, none⟩ = some (.string s) := (hc2 Br 0 (by simp; omega)).trans ((((Below.refl wr.heap.size wr).alloc (Nat.le_refl _) _).cell (p := ⟨Br, 0, none⟩) hBr2).trans hb0)
          have d1 : w2.cell? ⟨Br, 1, none⟩ = some (.string r) := (hc2 Br 1 (by simp; omega)).trans ((((Below.refl wr.heap.size wr).alloc (Nat.le_refl _) _).cell (p := ⟨Br, 1, none⟩) hBr2).trans hb1)
          have d2 : w2.cell? ⟨wr.heap.size, 0, none⟩ = some (.int .i64 kk) := (hc2 wr.heap.size 0 (by simp)).trans (by simp)
          have d3 : w2.cell? ⟨wr.heap.size, 1, none⟩ = some (.int .i64 (costK kk)) := (hc2 wr.heap.size 1 (by simp)).trans (by simp)
          have d4 : w2.cell? ⟨wr.heap.size, 2, none⟩ = some (.func (.func g) #[] #[]) := (hc2 wr.heap.size 2 (by simp)).trans (by simp)
          have HB2 := Aside0.mk hb2
          clear hc2 hf2 hb2
          cases hp : Lib.hasPrefix r.data.toList Wt.data.toList with
          | true =>
            have hrs := HRS.out hp
            gi_wp2_with (fail)
            refine wpIn_region_vals 18 [.pointer (some ⟨Br, 1, none⟩), .string r, .string Wt, .bool true, .bool true, .func (.yield l) #[] #[], .agg #[.int .i64 kk, .int .i64 (costK kk), .func (.func g) #[] #[]], .pointer (some ⟨Br, 0, none⟩), .string s, .string T, .int .i64 T.size, .string (s.extract T.size s.size),
              .pointer (some ⟨Br, 1, none⟩), .string r, .string Wt, .int .i64 Wt.size, .string (r.extract Wt.size r.size), .agg #[.string (s.extract T.size s.size), .string (r.extract Wt.size r.size)]] (fun w => w = w2.drew) (openF_wide n _) (by kernel_rfl) (by kernel_rfl) rfl ?_ ?_
            · intro fin hfin
              simp only [putAll, List.take_succ_cons, List.take_zero, Act.put] at hfin
              simp only [List.setIfInBounds_toArray, List.set_cons_succ, List.set_cons_zero] at hfin
              subst hfin
              simp only [List.take_succ_cons, List.take_zero, List.forall_mem_cons]
              refine ⟨?_, ?_, ?_, ?_, ?_, ?_, ?_, ?_, ?_, ?_, ?_, ?_, ?_, ?_, ?_, ?_, ?_, ?_, by simp⟩
              all_goals (intro w hw; subst hw; go_simp)
              all_goals (first | (refine (HPre.out _).mono ?_; rintro e w' ⟨rfl, rfl⟩; exact ⟨_, rfl, by simp [hp], rfl⟩) | skip)
            · intro fin hfin
              simp only [putAll, List.take_succ_cons, List.take_zero, Act.put] at hfin
              simp only [List.setIfInBounds_toArray, List.set_cons_succ, List.set_cons_zero] at hfin
              subst hfin
              intro w hw
              subst hw
              simp only [List.drop_succ_cons, List.drop_zero]
              have hbw : Below wr.heap.size wr w2.drew := below_drew (((Below.refl wr.heap.size wr).alloc (Nat.le_refl _) _).trans (HB2.out.mono (by simp)))
              have hgx : goes s r kk = true := by rw [HGO.out]; exact hp
              obtain ⟨fn, tmps, assign, body, hy, hR⟩ := HY.out (nx s r kk) ⟨kk, hlt, hgx⟩ w2.drew (HJ.out _ _ _ none HJk.out (grown_of_below hbw none) (fun r e => by cases e)) (by have := nx_len s r kk; omega)
              have hBrD : w2.drew.heap[Br]? = some (.cells #[.string s, .string r] 159 (0, 0)) := (hbw.block Br hBr2).trans HBr.out
              have hKbD : w2.drew.heap[W.heap.size]? = some (.cells kindCells 180 (0, 0)) := (hbw.block W.heap.size (Array.getElem?_eq_some_iff.1 HKb.out).1).trans HKb.out
              have HBrD := Aside0.mk hBrD
              have HKbD := Aside0.mk hKbD
              have HR := Aside0.mk hR
              dsimp only [stepV, readV, leftS, leftR] at hy
              rw [HT.out, HWt.out, HG.out] at hy
              clear hBrD hKbD hR hbw
              gi_wp2
              refine HR.out.mono ?_
              rintro e W3 (⟨rfl, hJ3, hk3⟩ | ⟨rfl, hJx3⟩)
              · have HJ3 := Aside0.mk hJ3
                have HK3 := Aside0.mk hk3
                clear hJ3 hk3
                gi_wp2
                go_roundw
                case rel => exact ⟨kk + 1, by omega, by go_num, ⟨by rw [nx_hit ⟨hlt, hgx⟩]; exact HJ3.out⟩, ⟨HK3.out.2 _ _ _ _ (.inl rfl) HBrD.out⟩, ⟨HK3.out.2 _ _ _ _ (.inr hn1) HKbD.out⟩⟩
                case measure => simp [intOf]; omega
              · have HJx := Aside0.mk hJx3
                clear hJx3
                gi_wp2
                refine bodyPost_ret (results_none rfl _ _ _) rfl ?_
                exact ⟨⟨_, rfl⟩, .inr ⟨_, trivial, HJx.out⟩⟩
          | false =>
            have hgx : goes s r kk = false := by rw [HGO.out]; exact hp
            have hbw : Below wr.heap.size wr w2.drew := below_drew (((Below.refl wr.heap.size wr).alloc (Nat.le_refl _) _).trans (HB2.out.mono (by simp)))
            have HBW := Aside0.mk hbw
            have HGX := Aside0.mk hgx
            clear hbw hgx
            gi_wp2_with (fail)
            refine wpIn_region_vals 18 [.pointer (some ⟨Br, 1, none⟩), .string r, .string Wt, .bool false, .bool false, undef, undef, undef, undef, undef, undef, undef, undef, undef, undef, undef, undef, undef] (fun w => w = w2.drew) (openF_wide n _) (by kernel_rfl) (by kernel_rfl) rfl ?_ ?_
            · intro fin hfin
              simp only [putAll, List.take_succ_cons, List.take_zero, Act.put] at hfin
              simp only [List.setIfInBounds_toArray, List.set_cons_succ, List.set_cons_zero] at hfin
              subst hfin
              simp only [List.take_succ_cons, List.take_zero, List.forall_mem_cons]
              refine ⟨?_, ?_, ?_, ?_, ?_, ?_, ?_, ?_, ?_, ?_, ?_, ?_, ?_, ?_, ?_, ?_, ?_, ?_, by simp⟩
              all_goals (intro w hw; subst hw; go_simp)
              all_goals (first | (refine (HPre.out _).mono ?_; rintro e w' ⟨rfl, rfl⟩; exact ⟨_, rfl, by simp [hp], rfl⟩) | skip)
            · intro fin hfin
              simp only [putAll, List.take_succ_cons, List.take_zero, Act.put] at hfin
              simp only [List.setIfInBounds_toArray, List.set_cons_succ, List.set_cons_zero] at hfin
              subst hfin
              intro w hw
              subst hw
              simp only [List.drop_succ_cons, List.drop_zero]
              gi_wp2
              go_roundw
              case rel => exact ⟨kk + 1, by omega, by go_num, ⟨by rw [nx_miss HGX.out]; exact HJ.out _ _ _ none HJk.out (grown_of_below HBW.out none) (fun r e => by cases e)⟩, ⟨(HBW.out.block Br hBr2).trans HBr.out⟩, ⟨(HBW.out.block W.heap.size (Array.getElem?_eq_some_iff.1 HKb.out).1).trans HKb.out⟩⟩
              case measure => simp [intOf]; omega
      · have hkn : kk ≠ 5 := fun h => hgo (.inr h)
        have hse : s.data.toList = [] := List.eq_nil_of_length_eq_zero (by rw [data_length]; omega)
        have hz1 : s.toList.isEmpty = true := by rw [Lib.toList_data, hse]; rfl
        have hz2 : (s.toList = []) = True := by rw [Lib.toList_data, hse]; simp
        have hk5 : ((kk : Int) != 5) = true := by rw [bne_iff_ne]; omega
        have hk6 : ((kk : Int) == 5) = false := by rw [beq_eq_false_iff_ne]; omega
        have hgx : goes s r kk = false := by
          have h1 : ¬ 0 < s.size := fun h => hgo (.inl h)
          have h2 : (kk == 5) = false := by simpa using hkn
          simp [goes, h1, h2]
        have HGX := Aside0.mk hgx
        have hbw : Below wr.heap.size wr (wr.alloc (.cells #[.int .i64 kk, .int .i64 (costK kk), .func (.func (173 + kk)) #[] #[]] 180)) := (Below.refl wr.heap.size wr).alloc (Nat.le_refl _) _
        have HBW := Aside0.mk hbw
        clear hgx hse hgo hkn hbw hcall
        gi_wp2
        go_roundw
        case rel => exact ⟨kk + 1, by omega, by go_num, ⟨by rw [nx_miss HGX.out]; exact HJ.out _ _ _ none HJk.out (grown_of_below HBW.out none) (fun r e => by cases e)⟩, ⟨(HBW.out.block Br hBr2).trans HBr.out⟩, ⟨(HBW.out.block W.heap.size (Array.getElem?_eq_some_iff.1 HKb.out).1).trans HKb.out⟩⟩
        case measure => simp [intOf]; omega
    · have hk : kk = 6 := by omega
      subst hk
      gi_wp2
      go_end0
      exact ⟨⟨_, rfl⟩, .inl ⟨_, rfl, HJk.out⟩⟩
end Go.Proofs.YthgfhgjlilmieaaGreat.G
namespace Go.Proofs.YthgfhgjlilmieaaGreat.G
open Go.RowKit Go.Shelf Go.Proofs.YthgfhgjlilmieaaGreatW.PrintWords Go.Proofs.YthgfhgjlilmieaaGreatW.PrintLast Go.Proofs.YthgfhgjlilmieaaGreatW.PrintMore
open Go.Proofs.YthgfhgjlilmieaaGreat.B
attribute [local go_sem] Oper.semAt_some RunTo
set_option linter.unusedVariables false
set_option linter.unusedSimpArgs false
set_option maxHeartbeats 1000000 in
theorem next_any (s r : ByteArray) (w : World) : Calls Tryz.prog 144 #[.agg #[.string s, .string r]] w fun e w' => e = .returned (.func (.func 162) #[] #[.pointer (some ⟨w.heap.size, 0, none⟩)]) ∧ w' = w.alloc (.cells #[.string s, .string r] 159) := by
  have hu := Tryz.underlying159
  go_enter Tryz.func144, Tryz.ntmps144
  go_wp2
  go_ret
  exact ⟨rfl, rfl⟩
theorem next_stops (n Br n1 : Nat) (s r : ByteArray) (w : World) (hs : s.size ≤ 9223372036854775807) (hr : r.size ≤ 9223372036854775807) (hn : 1 ≤ n) (hn1 : n1 ≤ w.heap.size)
    (hB : w.heap[Br]? = some (.cells #[.string s, .string r] 159 (0, 0))) :
    SeqStopsK Fence.wide n Tryz.prog 162 #[.pointer (some ⟨Br, 0, none⟩)] (fun x : NX s r => #[stepV x.1, readV s r x.1]) (KpR Br n1) (fun ys => ys = nx s r 6) (fun _ => True) 6 w := fun l J Jx W hW hJ _ hY h0 =>
  next1_in n l Br n1 s r J Jx W hs hr hn hJ (Nat.le_trans hn1 hW.size) hY ((hW.block Br (Array.getElem?_eq_some_iff.1 hB).1).trans hB) h0
def far : Int := 1048576
def fewN : Nat → ByteArray → ByteArray → Int
  | 0, _, _ => far
  | n + 1, s, r => (nx s r 6).foldl (fun m x => min m (costK x.1 + fewN n (leftS s x.1) (leftR s r x.1))) (if s.size = 0 ∧ r.size = 0 then 0 else far)
def few (s r : ByteArray) : Int := fewN (s.size + r.size + 1) s r
theorem prog_size (s r : ByteArray) (x : NX s r) : (leftS s x.1).size + (leftR s r x.1).size < s.size + r.size := by
  obtain ⟨k, hk, hg⟩ := x
  simp only [goes, Bool.and_eq_true] at hg
  have h1 := tw_size k s
  have h2 := prefix_size hg.2
  have h3 : 1 ≤ (twK k s).1.size + (twK k s).2.size := by
    have hs : 0 < s.size ∨ k = 5 := by simpa using hg.1
    unfold twK
    have e1 : 0 < s.size → (s.extract 0 1).size = 1 := fun h => by simp; omega
    have e2 : (⟨#[33]⟩ : ByteArray).size = 1 := rfl
    have e3 : (⟨#[46, 46]⟩ : ByteArray).size = 2 := rfl
    have e4 : (⟨#[45]⟩ : ByteArray).size = 1 := rfl
    have e5 : (⟨#[32]⟩ : ByteArray).size = 1 := rfl
    have e6 : (⟨#[]⟩ : ByteArray).size = 0 := rfl
    repeat' split
    all_goals simp only [e2, e3, e4, e5, e6]
    all_goals first | omega | (have := e1 (by omega); omega)
  simp only [leftS, leftR, ByteArray.size_extract]
  omega
theorem fewN_bd : ∀ (n : Nat) (s r : ByteArray), 0 ≤ fewN n s r ∧ fewN n s r ≤ far
  | 0, _, _ => by simp [fewN, far]
  | n + 1, s, r => by
    have key : ∀ (l : List (NX s r)) (m : Int), 0 ≤ m ∧ m ≤ far → 0 ≤ l.foldl (fun m x => min m (costK x.1 + fewN n (leftS s x.1) (leftR s r x.1))) m ∧ l.foldl (fun m x => min m (costK x.1 + fewN n (leftS s x.1) (leftR s r x.1))) m ≤ far := by
      intro l
      induction l with
      | nil => intro m h; exact h
      | cons x l ih =>
        intro m h
        refine ih _ ?_
        have h1 := fewN_bd n (leftS s x.1) (leftR s r x.1)
        have h2 : 0 ≤ costK x.1 ∧ costK x.1 ≤ 1 := by unfold costK; split <;> omega
        show 0 ≤ min m (costK x.1 + fewN n (leftS s x.1) (leftR s r x.1)) ∧ min m (costK x.1 + fewN n (leftS s x.1) (leftR s r x.1)) ≤ far
        omega
    refine key _ _ ?_
    split <;> simp [far]
theorem fewN_stable : ∀ (n : Nat) (s r : ByteArray), s.size + r.size < n → ∀ m, s.size + r.size < m → fewN n s r = fewN m s r
  | 0, _, _, h, _, _ => absurd h (Nat.not_lt_zero _)
  | n + 1, s, r, h, 0, h' => absurd h' (Nat.not_lt_zero _)
  | n + 1, s, r, h, m + 1, h' => by
    simp only [fewN]
    have : (fun (q : Int) (x : NX s r) => min q (costK x.1 + fewN n (leftS s x.1) (leftR s r x.1))) = (fun (q : Int) (x : NX s r) => min q (costK x.1 + fewN m (leftS s x.1) (leftR s r x.1))) := by
      funext q x
      have hp := prog_size s r x
      rw [fewN_stable n _ _ (by omega) m (by omega)]
    rw [this]
theorem few_eq (s r : ByteArray) : few s r = (nx s r 6).foldl (fun m x => min m (costK x.1 + few (leftS s x.1) (leftR s r x.1))) (if s.size = 0 ∧ r.size = 0 then 0 else far) := by
  have : (fun (q : Int) (x : NX s r) => min q (costK x.1 + fewN (s.size + r.size) (leftS s x.1) (leftR s r x.1))) = (fun (q : Int) (x : NX s r) => min q (costK x.1 + few (leftS s x.1) (leftR s r x.1))) := by
    funext q x
    have hp := prog_size s r x
    unfold few
    rw [fewN_stable (s.size + r.size) _ _ hp _ (Nat.lt_succ_self _)]
  rw [← this]
  rfl
theorem few_bd (s r : ByteArray) : 0 ≤ few s r ∧ few s r ≤ far := fewN_bd _ _ _
def FewMap (b : Nat) (w : World) : Prop := ∃ f, MapAt Tryz.prog 159 b f w ∧ ∀ key v, f key = some v → ∃ s r, key = .agg #[.string s, .string r] ∧ v = .int .i64 (few s r)
set_option maxHeartbeats 2000000 in
set_option maxRecDepth 100000 in
theorem slices_Min (b off n c : Nat) (zs : List Int) (w : World) (hn : 0 < n) (hz : n ≤ zs.length) (hbig : n ≤ 9223372036854775807) (hc : ∀ j, j < zs.length → w.cell? ⟨b, off + j, none⟩ = some (.int .i64 (zs.getD j 0))) :
    Calls Tryz.prog 135 #[.slice (some ⟨b, off, none⟩) n c] w fun e w' => e = .returned (.int .i64 (Lib.minOf (zs.take n))) ∧ w' = w := by
  have h0 : w.cell? ⟨b, off, none⟩ = some (.int .i64 (zs.getD 0 0)) := hc 0 (by omega)
  go_enter Tryz.func135, Tryz.ntmps135
  go_wp2
  go_loop [3, 4] (fun m i => ∃ k : Nat, 0 < k ∧ k ≤ n ∧ i = .int .i64 k ∧ m = .int .i64 (Lib.minOf (zs.take k))) (fun _ i => n - (intOf i).toNat)
  case atStart => exact ⟨1, Nat.one_pos, hn, rfl, by rw [Lib.minOf_one]; simp [List.getD]⟩
  case round =>
    obtain ⟨k, hk0, hk, rfl, rfl⟩ := hrel
    have hcell : k < n → w.cell? ⟨b, off + k, none⟩ = some (.int .i64 (zs.getD k 0)) := fun _ => hc k (by omega)
    go_wp2
    · have hlt : k < n := by assumption
      go_round
      case rel => exact ⟨k + 1, by omega, by omega, by go_num, by rw [Lib.minOf_step zs k hk0 (by omega)]; simp [List.getD]⟩
      case measure => simp [intOf]; omega
    · have hge : ¬ k < n := by omega
      have : k = n := by omega
      subst this
      go_ret
      exact ⟨rfl, rfl⟩
theorem minimum2 (b c : Nat) (x y : Int) (w : World) (h0 : w.cell? ⟨b, 0, none⟩ = some (.int .i64 x)) (h1 : w.cell? ⟨b, 1, none⟩ = some (.int .i64 y)) :
    Calls Tryz.prog 145 #[.slice (some ⟨b, 0, none⟩) 2 c] w fun e w' => e = .returned (.int .i64 (min x y)) ∧ w = w' := by
  have hM := slices_Min b 0 2 c [x, y] w (by omega) (by simp) (by omega) (fun j hj => by
    match j, hj with
    | 0, _ => exact h0
    | 1, _ => exact h1)
  have e : Lib.minOf (([x, y] : List Int).take 2) = min x y := by simp [Lib.minOf]
  rw [e] at hM
  have HM := Aside0.mk hM
  clear hM e
  go_enter Tryz.func145, Tryz.ntmps145
  go_wp2_with (go_at_call 135; refine HM.out.mono ?_; rintro e w' ⟨rfl, rfl⟩)
  go_ret
  exact ⟨rfl, rfl⟩
open Go.Maps (Keyed) in
theorem wpListIn_mapUpd {F : Fence} {nF : Nat} {P : Program} (w : World) {ops : Array Oper} {rest : List Oper} {o : Oper} {a : Act} {Q : Exit → Act → World → Prop}
    (hg : o.guard = none) (m x v : Operand) (t : TypeId) (hop : o.op = Op.mapUpdate t m x v)
    (k e : TypeId) (K : Keyed P k) (ht : P.underlying t = some (.map k e)) (b : Nat) (f : Value → Option Value)
    (hm : a.eval m = .map (some b)) (hown : MapAt P k b f w) (key val : Value) (kl : Lit) (hx : a.eval x = key) (hv : a.eval v = val) (hkey : keyOf P k key = some kl)
    (hK : ∀ w' f', (∀ y, (y = key → f' y = some val) ∧ (y ≠ key → f' y = f y)) → MapAt P k b f' w' → w.grownBy w' (some b) → wpListIn F nF P ops Q rest (a.put o.dst undef) w') :
    wpListIn F nF P ops Q (o :: rest) a w := by
  refine wpListIn_plain hg fun K' hK' => ?_
  haveI : DecidableEq Value := fun _ _ => Classical.propDecidable _
  obtain ⟨w', hrun, r1, r2⟩ := hown.upd K ht (val := val) hkey
  unfold Oper.wpIn
  refine ⟨by simp [Oper.about, hop], ?_⟩
  rw [Oper.semAt_plain F _ _ (by rw [hop]; intro c hc'; cases hc')]
  simp [execOp, hop, hm, hx, hv, hrun, Result.andThen]
  exact hK' _ _ (hK w' _ (fun y => ⟨fun h => by simp [h], fun h => by simp [h]⟩) r1 r2)
def acc (s r : ByteArray) (v0 : Int) (pre : List (NX s r)) : Int := pre.foldl (fun m x => min m (costK x.1 + few (leftS s x.1) (leftR s r x.1))) v0
theorem acc_snoc (s r : ByteArray) (v0 : Int) (pre : List (NX s r)) (x : NX s r) : acc s r v0 (pre ++ [x]) = min (acc s r v0 pre) (costK x.1 + few (leftS s x.1) (leftR s r x.1)) := by simp [acc]
theorem acc_bd (s r : ByteArray) (v0 : Int) (h : 0 ≤ v0 ∧ v0 ≤ far) : ∀ (pre : List (NX s r)), 0 ≤ acc s r v0 pre ∧ acc s r v0 pre ≤ far := by
  intro pre
  unfold acc
  induction pre generalizing v0 with
  | nil => exact h
  | cons x l ih =>
    refine ih _ ?_
    have h1 := few_bd (leftS s x.1) (leftR s r x.1)
    have h2 : 0 ≤ costK x.1 ∧ costK x.1 ≤ 1 := by unfold costK; split <;> omega
    show 0 ≤ min v0 (costK x.1 + few (leftS s x.1) (leftR s r x.1)) ∧ min v0 (costK x.1 + few (leftS s x.1) (leftR s r x.1)) ≤ far
    omega
theorem grow_far {w W W' : World} {b : Nat} {row : Option Nat} (h : w.grownBy W (some b)) (k : W.grownBy W' row) (hr : ∀ r, row = some r → r = b ∨ w.heap.size ≤ r) : w.grownBy W' (some b) :=
  ⟨k.os.trans h.os, k.tape.trans h.tape, k.output.trans h.output, Nat.le_trans h.size k.size, fun i hi hne => (k.block i (Nat.lt_of_lt_of_le hi h.size) (fun e => by
    rcases hr i e.symm with rfl | h2
    · exact hne rfl
    · omega)).trans (h.block i hi hne)⟩
theorem FewMap.kept {b : Nat} {W W' : World} {row : Option Nat} (h : FewMap b W) (hg : W.grownBy W' row) (hne : some b ≠ row) : FewMap b W' := by
  obtain ⟨f, hM, hf⟩ := h
  exact ⟨f, hM.same (hg.block b hM.lt hne), hf⟩
def FewI (w : World) (b : Nat) (s r : ByteArray) (v0 : Int) (pre : List (NX s r)) (W : World) : Prop :=
  Boxed W (w.heap.size + 1 + 1) 3 (.int .i64 (acc s r v0 pre)) ∧ Boxed W w.heap.size 156 (.map (some b)) ∧ W.heap[w.heap.size + 1]? = some (.cells #[.string s, .string r] 159 (0, 0)) ∧ FewMap b W ∧ w.grownBy W (some b) ∧ w.heap.size + 4 ≤ W.heap.size
theorem FewI.far {w : World} {b : Nat} {s r : ByteArray} {v0 : Int} {pre : List (NX s r)} {W W' : World} {row : Option Nat} (h : FewI w b s r v0 pre W) (hb : b < w.heap.size) (hg : W.grownBy W' row) (hr : ∀ q, row = some q → w.heap.size + 4 ≤ q) : FewI w b s r v0 pre W' := by
  obtain ⟨h1, h2, h3, h4, h5, h6⟩ := h
  have ne : ∀ k, k < w.heap.size + 4 → some k ≠ row := fun k hk e => by have := hr k e.symm; omega
  exact ⟨h1.kept hg (ne _ (by omega)), h2.kept hg (ne _ (by omega)), (hg.block _ (by omega) (ne _ (by omega))).trans h3, h4.kept hg (ne _ (by omega)), grow_far h5 hg (fun q e => .inr (by have := hr q e; omega)), Nat.le_trans h6 hg.size⟩
theorem FewI.own {w : World} {b : Nat} {s r : ByteArray} {v0 : Int} (hb : b < w.heap.size) (B : Nat) (hB : w.heap.size + 4 ≤ B) : OwnFrom B (FewI w b s r v0) :=
  fun pre W W' row h hg hr => h.far hb hg (fun q e => by have := (hr q e).1; omega)
def FewA (w : World) (s r : ByteArray) (x : NX s r) (B7 B8 : Nat) (W : World) : Prop :=
  w.heap.size + 4 ≤ B7 ∧ B7 < B8 ∧ W.heap[B7]? = some (.cells #[.int .i64 x.1, .int .i64 (costK x.1), .func (.func (173 + x.1)) #[] #[]] 180 (0, 0)) ∧ W.heap[B8]? = some (.cells #[.string (leftS s x.1), .string (leftR s r x.1)] 159 (0, 0))
def FewS (w : World) (b : Nat) (s r : ByteArray) (v0 : Int) (pre : List (NX s r)) (x : NX s r) (B7 B8 : Nat) (W0 W : World) : Prop :=
  FewI w b s r v0 pre W ∧ FewA w s r x B7 B8 W ∧ W0.grownBy W (some b)
theorem FewS.after {w : World} {b : Nat} {s r : ByteArray} {v0 : Int} {pre : List (NX s r)} {x : NX s r} {B7 B8 : Nat} {W0 W W' : World} (h : FewS w b s r v0 pre x B7 B8 W0 W) (hb : b < w.heap.size) (hF : FewMap b W') (hg : W.grownBy W' (some b)) : FewS w b s r v0 pre x B7 B8 W0 W' := by
  obtain ⟨⟨h1, h2, h3, h4, h5, h6⟩, ⟨a1, a2, a3, a4⟩, g⟩ := h
  have ne : ∀ k, w.heap.size ≤ k → some k ≠ some b := fun k hk e => by cases e; omega
  exact ⟨⟨h1.kept hg (ne _ (by omega)), h2.kept hg (ne _ (by omega)), (hg.block _ (by omega) (ne _ (by omega))).trans h3, hF, grow_far h5 hg (fun q e => .inl (by cases e; rfl)), Nat.le_trans h6 hg.size⟩,
    ⟨a1, a2, (hg.block _ (Array.getElem?_eq_some_iff.1 a3).1 (ne _ (by omega))).trans a3, (hg.block _ (Array.getElem?_eq_some_iff.1 a4).1 (ne _ (by omega))).trans a4⟩, World.grownBy.trans g hg⟩
theorem FewS.done {w : World} {b : Nat} {s r : ByteArray} {v0 : Int} {pre : List (NX s r)} {x : NX s r} {B7 B8 : Nat} {W0 W : World} (h : FewS w b s r v0 pre x B7 B8 W0 W) (hb : b < w.heap.size) (o : Obj) :
    KeepsFrom (w.heap.size + 1 + 1 + 1 + 1) W0 ((W.alloc o).setCell ⟨w.heap.size + 1 + 1, 0, none⟩ (.int .i64 (min (acc s r v0 pre) (costK x.1 + few (leftS s x.1) (leftR s r x.1))))) ∧
    KpR (w.heap.size + 1 + 1 + 1) (w.heap.size + 4) W0 ((W.alloc o).setCell ⟨w.heap.size + 1 + 1, 0, none⟩ (.int .i64 (min (acc s r v0 pre) (costK x.1 + few (leftS s x.1) (leftR s r x.1))))) ∧
    FewI w b s r v0 (pre ++ [x]) ((W.alloc o).setCell ⟨w.heap.size + 1 + 1, 0, none⟩ (.int .i64 (min (acc s r v0 pre) (costK x.1 + few (leftS s x.1) (leftR s r x.1))))) := by
  obtain ⟨⟨h1, h2, h3, h4, h5, h6⟩, ⟨a1, a2, a3, a4⟩, g⟩ := h
  have g1 := World.grownBy_alloc W o none
  have g2 := grownBy_setCell' (W.alloc o) (w.heap.size + 1 + 1) (.int .i64 (min (acc s r v0 pre) (costK x.1 + few (leftS s x.1) (leftR s r x.1))))
  have ne : ∀ k, k ≠ w.heap.size + 1 + 1 → some k ≠ some (w.heap.size + 1 + 1) := fun k hk e => by cases e; exact hk rfl
  refine ⟨?_, ?_, ?_, ?_, ?_, ?_, ?_, ?_⟩
  · exact (KeepsFrom.of_grownBy g (fun j e => by cases e; omega)).trans ((KeepsFrom.of_grownBy g1 (fun j e => by cases e)).trans (KeepsFrom.of_grownBy g2 (fun j e => by cases e; omega)))
  · exact (KpR.of_grown g (fun j e => by cases e; omega)).t ((KpR.of_grown g1 (fun j e => by cases e)).t (KpR.of_grown g2 (fun j e => by cases e; omega)))
  · rw [acc_snoc]; exact (h1.alloc o).set _
  · exact (h2.alloc o).kept g2 (ne _ (by omega))
  · exact (g2.block _ (by simp; omega) (ne _ (by omega))).trans ((Below.heap_alloc W o _ (by omega)).trans h3)
  · exact (h4.kept g1 (by simp)).kept g2 (ne _ (by omega))
  · exact grow_far (grow_far h5 g1 (fun q e => by cases e)) g2 (fun q e => by cases e; right; omega)
  · have := g2.size; have := g1.size; omega
set_option maxRecDepth 100000 in
set_option maxHeartbeats 4000000 in
theorem fewest_any (m : Nat) : ∀ (b : Nat) (s r : ByteArray) (w : World), s.size + r.size < m → m ≤ 1000 → FewMap b w →
    Calls Tryz.prog 123 #[.map (some b), .agg #[.string s, .string r]] w fun e w' => e = .returned (.int .i64 (few s r)) ∧ FewMap b w' ∧ w.grownBy w' (some b) := by
  induction m with
  | zero => intro b s r w h; exact absurd h (Nat.not_lt_zero _)
  | succ m ih =>
    intro b s r w hlt hm hF
    obtain ⟨f, hM, hf⟩ := hF
    have hbd := few_bd s r
    have hblt := hM.lt
    obtain ⟨kl, hkl⟩ := keyOf159 s r (by unfold maxLen; omega) (by unfold maxLen; omega)
    have HKL := Aside0.mk hkl
    have hz : ∀ W : World, (zeroValue 3).run Tryz.prog W = .ok (.int .i64 0) W := fun W => by kernel_rfl
    have hb2 : Below w.heap.size w ((w.alloc (.cells #[.map (some b)] 156)).alloc (.cells #[.string s, .string r] 159)) := ((Below.refl _ w).alloc (Nat.le_refl _) _).alloc (by simp) _
    have hlook := (hM.below hb2).look true keyed159 Tryz.underlying156 (hz _) hkl
    have hu := Tryz.underlying159
    cases hfk : f (.agg #[.string s, .string r]) with
    | some v =>
      obtain ⟨s', r', e1, rfl⟩ := hf _ _ hfk
      rw [hfk] at hlook
      simp only [Option.getD_some, Option.isSome_some, if_true] at hlook
      injection e1 with e1
      have e2 : s = s' ∧ r = r' := by simpa using e1
      obtain ⟨rfl, rfl⟩ := e2
      have HM := Aside0.mk hM
      have HFK := Aside0.mk hfk
      have HFF := Aside0.mk hf
      have hg : w.grownBy (((w.alloc (.cells #[.map (some b)] 156)).alloc (.cells #[.string s, .string r] 159)).alloc (.cells #[.int .i64 (few s r)] 3)) (some b) := grown_of_below (hb2.alloc (by simp; omega) _) _
      have HG := Aside0.mk hg
      have HB2 := Aside0.mk hb2
      clear hM hfk hf hg hb2 ih hkl hbd e1
      refine (callsIn_wide (n := 9)).1 ?_
      refine callsIn_of_wp Tryz.func123 rfl trivial ?_ rfl
      simp only [Tryz.ntmps123, List.size_toArray, List.length_cons, List.length_nil, Nat.reduceAdd, Nat.reduceSub, Array.replicate_succ, Array.replicate_zero, List.push_toArray, List.append_toArray, List.nil_append, List.cons_append]
      gi_wp2
      go_ret
      exact ⟨rfl, ⟨f, HM.out.below (HB2.out.alloc (by simp; omega) _), HFF.out⟩, HG.out⟩
    | none =>
      rw [hfk] at hlook
      simp only [Option.getD_none, Option.isSome_none, if_true] at hlook
      have HM := Aside0.mk hM
      have HFK := Aside0.mk hfk
      have HFF := Aside0.mk hf
      have HB2 := Aside0.mk hb2
      have IH := Aside0.mk ih
      have HBD := Aside0.mk hbd
      have hfn : ∀ f, Fence.wide.fn f := fun _ => trivial
      clear hM hfk hf hb2 hkl hbd ih
      by_cases hee : s.size = 0 ∧ r.size = 0
      · have HEE := Aside0.mk hee
        obtain ⟨hs0, hr0⟩ := hee
        have hse_s : s.data.toList = [] := List.eq_nil_of_length_eq_zero (by rw [data_length]; omega)
        have hz1_s : s.toList.isEmpty = true := by rw [Lib.toList_data, hse_s]; rfl
        have hz2_s : (s.toList = []) = True := by rw [Lib.toList_data, hse_s]; simp
        have HSE_s := Aside0.mk hse_s
        clear hse_s
        have hse_r : r.data.toList = [] := List.eq_nil_of_length_eq_zero (by rw [data_length]; omega)
        have hz1_r : r.toList.isEmpty = true := by rw [Lib.toList_data, hse_r]; rfl
        have hz2_r : (r.toList = []) = True := by rw [Lib.toList_data, hse_r]; simp
        have HSE_r := Aside0.mk hse_r
        clear hse_r
        refine (callsIn_wide (n := 9)).1 ?_
        refine callsIn_of_wp_marks Tryz.func123 rfl trivial ?_ rfl
        simp only [Tryz.ntmps123, List.size_toArray, List.length_cons, List.length_nil, Nat.reduceAdd, Nat.reduceSub, Array.replicate_succ, Array.replicate_zero, List.push_toArray, List.append_toArray, List.nil_append, List.cons_append]
        gi_wp2_with (gi_at_call 144; refine (callsIn_wide.2 (next_any _ _ _)).mono ?_; rintro e w' ⟨rfl, rfl⟩)
        have hI0 : FewI w b s r 0 [] ((((w.alloc (.cells #[.map (some b)] 156)).alloc (.cells #[.string s, .string r] 159)).alloc (.cells #[.int .i64 0] 3)).alloc (.cells #[.string s, .string r] 159)) := by
          have e1 := World.alloc_heap_new w (.cells #[.map (some b)] 156)
          have e2 := World.alloc_heap_new (w.alloc (.cells #[.map (some b)] 156)) (.cells #[.string s, .string r] 159)
          have e3 := World.alloc_heap_new ((w.alloc (.cells #[.map (some b)] 156)).alloc (.cells #[.string s, .string r] 159)) (.cells #[.int .i64 0] 3)
          simp only [World.size_alloc] at e2 e3
          have b2 := (HB2.out.alloc (by simp; omega) (.cells #[.int .i64 0] 3)).alloc (by simp; omega) (.cells #[.string s, .string r] 159)
          refine ⟨(Below.heap_alloc _ _ _ (by simp)).trans e3, ?_, ?_, ?_, grown_of_below b2 _, by simp⟩
          · exact (Below.heap_alloc _ _ _ (by simp; omega)).trans ((Below.heap_alloc _ _ _ (by simp; omega)).trans ((Below.heap_alloc _ _ _ (by simp)).trans e1))
          · exact (Below.heap_alloc _ _ _ (by simp)).trans ((Below.heap_alloc _ _ _ (by simp)).trans e2)
          · exact ⟨f, HM.out.below b2, HFF.out⟩
        have hRd : ((((w.alloc (.cells #[.map (some b)] 156)).alloc (.cells #[.string s, .string r] 159)).alloc (.cells #[.int .i64 0] 3)).alloc (.cells #[.string s, .string r] 159)).heap[w.heap.size + 1 + 1 + 1]? = some (.cells #[.string s, .string r] 159 (0, 0)) := by
          have e4 := World.alloc_heap_new (((w.alloc (.cells #[.map (some b)] 156)).alloc (.cells #[.string s, .string r] 159)).alloc (.cells #[.int .i64 0] 3)) (.cells #[.string s, .string r] 159)
          simpa only [World.size_alloc] using e4
        refine wpIn_rangeFunc_ownH rfl (by omega) (gf := 162) (lb := #[.pointer (some ⟨w.heap.size + 1 + 1 + 1, 0, none⟩)]) rfl trivial (enters_of Tryz.func162 (by kernel_rfl) rfl)
          (next_stops (9 - 1) (w.heap.size + 1 + 1 + 1) (w.heap.size + 4) s r _ (by omega) (by omega) (by omega) (by simp) hRd) KpR.t (fun W l o o' _ h hc _ => KpR.b W l o o' h hc) (Below.refl _ _) (fun _ => rfl)
          (FewI w b s r 0) (fun _ _ _ => False) (FewI.own hblt _ (by simp)) (fun _ _ _ _ _ hs _ _ => hs) hI0
          (fun x a' W => ∃ B7 B8, FewA w s r x B7 B8 W ∧ a' = { tmps := #[.map (some b), .agg #[.string s, .string r], .pointer (some ⟨w.heap.size, 0, none⟩), .pointer (some ⟨w.heap.size + 1, 0, none⟩), .int .i64 0, .pointer (some ⟨w.heap.size + 1 + 1, 0, none⟩), .bool false, .pointer (some ⟨B7, 0, none⟩), .pointer (some ⟨B8, 0, none⟩), .tuple #[.int .i64 0, .bool false], .map (some b), .agg #[.string s, .string r], .tuple #[.int .i64 0, .bool false], .int .i64 0, .bool false, .bool false, undef, .pointer (some ⟨w.heap.size + 1, 0, none⟩), .string s, .bool true, .bool true, .pointer (some ⟨w.heap.size + 1, 1, none⟩), .string r, .bool true, .bool true, .agg #[.string s, .string r], .func (.func 162) #[] #[.pointer (some ⟨w.heap.size + 1 + 1 + 1, 0, none⟩)], stepV x.1, readV s r x.1, undef, undef, undef, undef, undef, undef, undef, undef, undef, undef, undef, undef, undef], defers := [] }) ?hAx ?assign ?body ?done ?stop
        case hAx =>
          rintro x a' _ W W' row ⟨B7, B8, ⟨h1, h2, h3, h4⟩, rfl⟩ hg hr
          have ne : ∀ k c t f, W.heap[k]? = some (.cells c t f) → some k ≠ row := fun k c t f hk e => by
            obtain ⟨o, ho, hc⟩ := (hr k e.symm).2
            rw [hk] at ho
            cases ho
            cases hc
          exact ⟨B7, B8, ⟨h1, h2, (hg.block _ (Array.getElem?_eq_some_iff.1 h3).1 (ne _ _ _ _ h3)).trans h3, (hg.block _ (Array.getElem?_eq_some_iff.1 h4).1 (ne _ _ _ _ h4)).trans h4⟩, rfl⟩
        case assign =>
          intro l pre x W K hi hK
          have hu3 := Tryz.underlying180
          have hsz := hi.2.2.2.2.2
          have hg := (World.grownBy_alloc W (.cells #[.int .i64 x.1, .int .i64 (costK x.1), .func (.func (173 + x.1)) #[] #[]] 180) none).trans (World.grownBy_alloc (W.alloc (.cells #[.int .i64 x.1, .int .i64 (costK x.1), .func (.func (173 + x.1)) #[] #[]] 180)) (.cells #[.string (leftS s x.1), .string (leftR s r x.1)] 159) none)
          have k1 := KeepsFrom.of_grownBy (B := w.heap.size + 1 + 1 + 1 + 1) hg (fun j e => by cases e)
          have k2 := KpR.of_grown (B := w.heap.size + 1 + 1 + 1) (n1 := w.heap.size + 4) hg (fun j e => by cases e)
          have k3 := hi.far hblt hg (fun q e => by cases e)
          have k4 := World.alloc_heap_new W (.cells #[.int .i64 x.1, .int .i64 (costK x.1), .func (.func (173 + x.1)) #[] #[]] 180)
          have k5 := World.alloc_heap_new (W.alloc (.cells #[.int .i64 x.1, .int .i64 (costK x.1), .func (.func (173 + x.1)) #[] #[]] 180)) (.cells #[.string (leftS s x.1), .string (leftR s r x.1)] 159)
          have k6 := (Below.heap_alloc _ (.cells #[.string (leftS s x.1), .string (leftR s r x.1)] 159) W.heap.size (by simp)).trans k4
          have K1 := Aside0.mk k1
          have K2 := Aside0.mk k2
          have K3 := Aside0.mk k3
          have K5 := Aside0.mk k5
          have K6 := Aside0.mk k6
          have HK := Aside0.mk hK
          clear k1 k2 k3 k4 k5 k6 hg hi hK
          dsimp only [stepV, readV]
          gi_wp2
          refine HK.out _ _ (by simpa using K1.out) K2.out K3.out ⟨W.heap.size, W.heap.size + 1, ⟨hsz, by omega, K6.out, by simpa using K5.out⟩, rfl⟩
        case body =>
          rintro l pre x a' W hl hrec hI ⟨B7, B8, hA, rfl⟩ hlen
          have hps := prog_size s r x
          exact absurd hps (by omega)
        case done =>
          rintro D ys W hD rfl hI hK
          have hfe : acc s r 0 (nx s r 6) = few s r := by
            rw [few_eq, if_pos HEE.out]; rfl
          obtain ⟨i1, i2, i3, ⟨f2, hM2, hf2⟩, i5, i6⟩ := hI
          rw [hfe] at i1
          have c1 := i1.cell
          have c2 := i2.cell
          have c3 : W.cell? ⟨w.heap.size + 1, 0, none⟩ = some (.string s) := by simp [World.cell?, i3]
          have c4 : W.cell? ⟨w.heap.size + 1, 1, none⟩ = some (.string r) := by simp [World.cell?, i3]
          have HM2 := Aside0.mk hM2
          have HF2 := Aside0.mk hf2
          have I1 := Aside0.mk i1
          have HG := Aside0.mk i5
          have HKD := Aside0.mk hK
          clear hM2 hf2 i1 i2 i3 i5 hfe hK
          gi_wp2_with (gi_at_mapUpdate; refine wpListIn_mapUpd _ rfl _ _ _ 156 rfl 159 3 keyed159 Tryz.underlying156 b f2 rfl HM2.out _ _ kl rfl rfl HKL.out ?_; intro w1 f3 hf3 hM3 hg3; have HM3 := Aside0.mk hM3; have HF3 := Aside0.mk hf3; have HG3 := Aside0.mk hg3; have c5 := (I1.out.kept hg3 (by simp; omega)).cell; clear hM3 hf3 hg3)
          refine ⟨by simp, .inl ⟨_, _, rfl, run_takeDeferred ((HG3.out.block D (Array.getElem?_eq_some_iff.1 HKD.out).1 (by intro e; cases e; simp at hD; omega)).trans HKD.out), ?_⟩⟩
          have hDw : w.heap.size + 4 ≤ D := by simpa using hD
          refine ⟨_, results_tmp rfl _ _ _, rfl, ⟨f3, HM3.out.same (World.putObj_heap_other (by omega)), ?_⟩, ?_⟩
          · intro key v hkv
            by_cases e : key = .agg #[.string s, .string r]
            · rw [(HF3.out key).1 e] at hkv
              cases hkv
              exact ⟨s, r, e, rfl⟩
            · rw [(HF3.out key).2 e] at hkv
              exact HF2.out key v hkv
          · exact grow_far (grow_far HG.out HG3.out (fun q e => .inl (by cases e; rfl))) (grownBy_putObj' _ D _) (fun q e => by cases e; right; omega)
        case stop =>
          rintro D c pre W _ _ h _
          exact h.elim
      · by_cases hs0 : s.size = 0
        · have hr0 : r.size ≠ 0 := fun h => hee ⟨hs0, h⟩
          have hse_s : s.data.toList = [] := List.eq_nil_of_length_eq_zero (by rw [data_length]; omega)
          have hz1_s : s.toList.isEmpty = true := by rw [Lib.toList_data, hse_s]; rfl
          have hz2_s : (s.toList = []) = True := by rw [Lib.toList_data, hse_s]; simp
          have HSE_s := Aside0.mk hse_s
          clear hse_s
          have hz1_r : r.toList.isEmpty = false := by
            rw [Lib.toList_data]
            cases hl : r.data.toList with
            | nil => have := data_length r; rw [hl] at this; simp at this; omega
            | cons x xs => rfl
          have hz2_r : (r.toList = []) = False := by
            apply eq_false
            intro h
            rw [h] at hz1_r
            cases hz1_r
          refine (callsIn_wide (n := 9)).1 ?_
          refine callsIn_of_wp_marks Tryz.func123 rfl trivial ?_ rfl
          simp only [Tryz.ntmps123, List.size_toArray, List.length_cons, List.length_nil, Nat.reduceAdd, Nat.reduceSub, Array.replicate_succ, Array.replicate_zero, List.push_toArray, List.append_toArray, List.nil_append, List.cons_append]
          gi_wp2_with (gi_at_call 144; refine (callsIn_wide.2 (next_any _ _ _)).mono ?_; rintro e w' ⟨rfl, rfl⟩)
          have hI0 : FewI w b s r 1048576 [] ((((w.alloc (.cells #[.map (some b)] 156)).alloc (.cells #[.string s, .string r] 159)).alloc (.cells #[.int .i64 1048576] 3)).alloc (.cells #[.string s, .string r] 159)) := by
            have e1 := World.alloc_heap_new w (.cells #[.map (some b)] 156)
            have e2 := World.alloc_heap_new (w.alloc (.cells #[.map (some b)] 156)) (.cells #[.string s, .string r] 159)
            have e3 := World.alloc_heap_new ((w.alloc (.cells #[.map (some b)] 156)).alloc (.cells #[.string s, .string r] 159)) (.cells #[.int .i64 1048576] 3)
            simp only [World.size_alloc] at e2 e3
            have b2 := (HB2.out.alloc (by simp; omega) (.cells #[.int .i64 1048576] 3)).alloc (by simp; omega) (.cells #[.string s, .string r] 159)
            refine ⟨(Below.heap_alloc _ _ _ (by simp)).trans e3, ?_, ?_, ?_, grown_of_below b2 _, by simp⟩
            · exact (Below.heap_alloc _ _ _ (by simp; omega)).trans ((Below.heap_alloc _ _ _ (by simp; omega)).trans ((Below.heap_alloc _ _ _ (by simp)).trans e1))
            · exact (Below.heap_alloc _ _ _ (by simp)).trans ((Below.heap_alloc _ _ _ (by simp)).trans e2)
            · exact ⟨f, HM.out.below b2, HFF.out⟩
          have hRd : ((((w.alloc (.cells #[.map (some b)] 156)).alloc (.cells #[.string s, .string r] 159)).alloc (.cells #[.int .i64 1048576] 3)).alloc (.cells #[.string s, .string r] 159)).heap[w.heap.size + 1 + 1 + 1]? = some (.cells #[.string s, .string r] 159 (0, 0)) := by
            have e4 := World.alloc_heap_new (((w.alloc (.cells #[.map (some b)] 156)).alloc (.cells #[.string s, .string r] 159)).alloc (.cells #[.int .i64 1048576] 3)) (.cells #[.string s, .string r] 159)
            simpa only [World.size_alloc] using e4
          refine wpIn_rangeFunc_ownH rfl (by omega) (gf := 162) (lb := #[.pointer (some ⟨w.heap.size + 1 + 1 + 1, 0, none⟩)]) rfl trivial (enters_of Tryz.func162 (by kernel_rfl) rfl)
            (next_stops (9 - 1) (w.heap.size + 1 + 1 + 1) (w.heap.size + 4) s r _ (by omega) (by omega) (by omega) (by simp) hRd) KpR.t (fun W l o o' _ h hc _ => KpR.b W l o o' h hc) (Below.refl _ _) (fun _ => rfl)
            (FewI w b s r 1048576) (fun _ _ _ => False) (FewI.own hblt _ (by simp)) (fun _ _ _ _ _ hs _ _ => hs) hI0
            (fun x a' W => ∃ B7 B8, FewA w s r x B7 B8 W ∧ a' = { tmps := #[.map (some b), .agg #[.string s, .string r], .pointer (some ⟨w.heap.size, 0, none⟩), .pointer (some ⟨w.heap.size + 1, 0, none⟩), .int .i64 0, .pointer (some ⟨w.heap.size + 1 + 1, 0, none⟩), .bool false, .pointer (some ⟨B7, 0, none⟩), .pointer (some ⟨B8, 0, none⟩), .tuple #[.int .i64 0, .bool false], .map (some b), .agg #[.string s, .string r], .tuple #[.int .i64 0, .bool false], .int .i64 0, .bool false, .bool false, undef, .pointer (some ⟨w.heap.size + 1, 0, none⟩), .string s, .bool true, .bool true, .pointer (some ⟨w.heap.size + 1, 1, none⟩), .string r, .bool false, .bool false, .agg #[.string s, .string r], .func (.func 162) #[] #[.pointer (some ⟨w.heap.size + 1 + 1 + 1, 0, none⟩)], stepV x.1, readV s r x.1, undef, undef, undef, undef, undef, undef, undef, undef, undef, undef, undef, undef, undef], defers := [] }) ?hAx ?assign ?body ?done ?stop
          case hAx =>
            rintro x a' _ W W' row ⟨B7, B8, ⟨h1, h2, h3, h4⟩, rfl⟩ hg hr
            have ne : ∀ k c t f, W.heap[k]? = some (.cells c t f) → some k ≠ row := fun k c t f hk e => by
              obtain ⟨o, ho, hc⟩ := (hr k e.symm).2
              rw [hk] at ho
              cases ho
              cases hc
            exact ⟨B7, B8, ⟨h1, h2, (hg.block _ (Array.getElem?_eq_some_iff.1 h3).1 (ne _ _ _ _ h3)).trans h3, (hg.block _ (Array.getElem?_eq_some_iff.1 h4).1 (ne _ _ _ _ h4)).trans h4⟩, rfl⟩
          case assign =>
            intro l pre x W K hi hK
            have hu3 := Tryz.underlying180
            have hsz := hi.2.2.2.2.2
            have hg := (World.grownBy_alloc W (.cells #[.int .i64 x.1, .int .i64 (costK x.1), .func (.func (173 + x.1)) #[] #[]] 180) none).trans (World.grownBy_alloc (W.alloc (.cells #[.int .i64 x.1, .int .i64 (costK x.1), .func (.func (173 + x.1)) #[] #[]] 180)) (.cells #[.string (leftS s x.1), .string (leftR s r x.1)] 159) none)
            have k1 := KeepsFrom.of_grownBy (B := w.heap.size + 1 + 1 + 1 + 1) hg (fun j e => by cases e)
            have k2 := KpR.of_grown (B := w.heap.size + 1 + 1 + 1) (n1 := w.heap.size + 4) hg (fun j e => by cases e)
            have k3 := hi.far hblt hg (fun q e => by cases e)
            have k4 := World.alloc_heap_new W (.cells #[.int .i64 x.1, .int .i64 (costK x.1), .func (.func (173 + x.1)) #[] #[]] 180)
            have k5 := World.alloc_heap_new (W.alloc (.cells #[.int .i64 x.1, .int .i64 (costK x.1), .func (.func (173 + x.1)) #[] #[]] 180)) (.cells #[.string (leftS s x.1), .string (leftR s r x.1)] 159)
            have k6 := (Below.heap_alloc _ (.cells #[.string (leftS s x.1), .string (leftR s r x.1)] 159) W.heap.size (by simp)).trans k4
            have K1 := Aside0.mk k1
            have K2 := Aside0.mk k2
            have K3 := Aside0.mk k3
            have K5 := Aside0.mk k5
            have K6 := Aside0.mk k6
            have HK := Aside0.mk hK
            clear k1 k2 k3 k4 k5 k6 hg hi hK
            dsimp only [stepV, readV]
            gi_wp2
            refine HK.out _ _ (by simpa using K1.out) K2.out K3.out ⟨W.heap.size, W.heap.size + 1, ⟨hsz, by omega, K6.out, by simpa using K5.out⟩, rfl⟩
          case body =>
            rintro l pre x a' W hl hrec hI ⟨B7, B8, hA, rfl⟩ hlen
            have hS0 : FewS w b s r 1048576 pre x B7 B8 W { W with drawn := W.drawn + 1 } := ⟨hI.far hblt (row := none) ⟨rfl, rfl, rfl, Nat.le_refl _, fun _ _ _ => rfl⟩ (fun q e => by cases e), hA, ⟨rfl, rfl, rfl, Nat.le_refl _, fun _ _ _ => rfl⟩⟩
            have hu3 := Tryz.underlying180
            have hfl : ∀ f, (Fence.wide.inRound l).fn f := fun _ => trivial
            have hbl := few_bd (leftS s x.1) (leftR s r x.1)
            have hcl : 0 ≤ costK x.1 ∧ costK x.1 ≤ 1 := by unfold costK; split <;> omega
            have hab := acc_bd s r 1048576 (by simp [far]) pre
            have hps := prog_size s r x
            unfold far at hbl hab
            refine wpIn_block ?_
            refine wpIn_region_vals 7 [.int .i64 (acc s r 1048576 pre), .pointer (some ⟨B7, 1, none⟩), .int .i64 (costK x.1), .map (some b), .agg #[.string (leftS s x.1), .string (leftR s r x.1)], .int .i64 (few (leftS s x.1) (leftR s r x.1)), .int .i64 (costK x.1 + few (leftS s x.1) (leftR s r x.1))]
              (FewS w b s r 1048576 pre x B7 B8 W) (openF_round l _ _) (by kernel_rfl) (by kernel_rfl) hS0 ?_ ?_
            · intro fin hfin
              simp only [putAll, List.take_succ_cons, List.take_zero, Act.put] at hfin
              simp only [List.setIfInBounds_toArray, List.set_cons_succ, List.set_cons_zero] at hfin
              subst hfin
              simp only [List.take_succ_cons, List.take_zero, List.forall_mem_cons]
              clear hS0 hI hA hrec
              refine ⟨?_, ?_, ?_, ?_, ?_, ?_, ?_, by simp⟩
              all_goals
                intro W1 hS
                have hS' := hS
                obtain ⟨⟨i1, i2, i3, i4, i5, i6⟩, ⟨a1, a2, a3, a4⟩, g1⟩ := hS'
                have c1 := i1.cell
                have c2 := i2.cell
                have c3 : W1.cell? ⟨B7, 1, none⟩ = some (.int .i64 (costK x.1)) := by simp [World.cell?, a3]
                have c4 : W1.cell? ⟨B8, 0, none⟩ = some (.string (leftS s x.1)) := by simp [World.cell?, a4]
                have c5 : W1.cell? ⟨B8, 1, none⟩ = some (.string (leftR s r x.1)) := by simp [World.cell?, a4]
                have I4 := Aside0.mk i4
                have HS := Aside0.mk hS
                clear i1 i2 i3 i4 i5 a3 a4 g1
                go_simp
              · refine (IH.out b _ _ _ (by omega) (by omega) I4.out).mono ?_
                rintro e w'' ⟨rfl, hF2, hg2⟩
                exact ⟨_, rfl, rfl, HS.out.after hblt hF2 hg2⟩
              · exact IntWalk.i64_in _ (by omega)
            · intro fin hfin
              simp only [putAll, List.take_succ_cons, List.take_zero, Act.put] at hfin
              simp only [List.setIfInBounds_toArray, List.set_cons_succ, List.set_cons_zero] at hfin
              subst hfin
              intro W1 hS
              have c1 := (hS.1.1.alloc (.cells #[.int .i64 (acc s r 1048576 pre), .int .i64 (costK x.1 + few (leftS s x.1) (leftR s r x.1))] 3)).cell
              have f1 := (hS.1.1.alloc (.cells #[.int .i64 (acc s r 1048576 pre), .int .i64 (costK x.1 + few (leftS s x.1) (leftR s r x.1))] 3)).frozen
              have hi6 := hS.1.2.2.2.2.2
              have HS := Aside0.mk hS
              clear hS hS0 hI hA hrec
              simp only [List.drop_succ_cons, List.drop_zero]
              have hmin := minimum2 W1.heap.size 2 (acc s r 1048576 pre) (costK x.1 + few (leftS s x.1) (leftR s r x.1)) (W1.alloc (.cells #[.int .i64 (acc s r 1048576 pre), .int .i64 (costK x.1 + few (leftS s x.1) (leftR s r x.1))] 3)) (by simp) (by simp)
              have HMin := Aside0.mk hmin
              clear hmin
              gi_wp2_with (gi_at_call 145; refine (CallsIn.inRound l (callsIn_wide.2 HMin.out)).mono ?_; rintro e w' ⟨rfl, rfl⟩)
              have hdn := HS.out.done hblt (.cells #[.int .i64 (acc s r 1048576 pre), .int .i64 (costK x.1 + few (leftS s x.1) (leftR s r x.1))] 3)
              exact ⟨by simpa only [World.size_alloc] using hdn.1, hdn.2.1, hdn.2.2⟩
          case done =>
            rintro D ys W hD rfl hI hK
            have hfe : acc s r 1048576 (nx s r 6) = few s r := by
              rw [few_eq, if_neg hee]; rfl
            obtain ⟨i1, i2, i3, ⟨f2, hM2, hf2⟩, i5, i6⟩ := hI
            rw [hfe] at i1
            have c1 := i1.cell
            have c2 := i2.cell
            have c3 : W.cell? ⟨w.heap.size + 1, 0, none⟩ = some (.string s) := by simp [World.cell?, i3]
            have c4 : W.cell? ⟨w.heap.size + 1, 1, none⟩ = some (.string r) := by simp [World.cell?, i3]
            have HM2 := Aside0.mk hM2
            have HF2 := Aside0.mk hf2
            have I1 := Aside0.mk i1
            have HG := Aside0.mk i5
            have HKD := Aside0.mk hK
            clear hM2 hf2 i1 i2 i3 i5 hfe hK
            gi_wp2_with (gi_at_mapUpdate; refine wpListIn_mapUpd _ rfl _ _ _ 156 rfl 159 3 keyed159 Tryz.underlying156 b f2 rfl HM2.out _ _ kl rfl rfl HKL.out ?_; intro w1 f3 hf3 hM3 hg3; have HM3 := Aside0.mk hM3; have HF3 := Aside0.mk hf3; have HG3 := Aside0.mk hg3; have c5 := (I1.out.kept hg3 (by simp; omega)).cell; clear hM3 hf3 hg3)
            refine ⟨by simp, .inl ⟨_, _, rfl, run_takeDeferred ((HG3.out.block D (Array.getElem?_eq_some_iff.1 HKD.out).1 (by intro e; cases e; simp at hD; omega)).trans HKD.out), ?_⟩⟩
            have hDw : w.heap.size + 4 ≤ D := by simpa using hD
            refine ⟨_, results_tmp rfl _ _ _, rfl, ⟨f3, HM3.out.same (World.putObj_heap_other (by omega)), ?_⟩, ?_⟩
            · intro key v hkv
              by_cases e : key = .agg #[.string s, .string r]
              · rw [(HF3.out key).1 e] at hkv
                cases hkv
                exact ⟨s, r, e, rfl⟩
              · rw [(HF3.out key).2 e] at hkv
                exact HF2.out key v hkv
            · exact grow_far (grow_far HG.out HG3.out (fun q e => .inl (by cases e; rfl))) (grownBy_putObj' _ D _) (fun q e => by cases e; right; omega)
          case stop =>
            rintro D c pre W _ _ h _
            exact h.elim
        · have hz1 : s.toList.isEmpty = false := by
            rw [Lib.toList_data]
            cases hl : s.data.toList with
            | nil => have := data_length s; rw [hl] at this; simp at this; omega
            | cons x xs => rfl
          have hz2 : (s.toList = []) = False := by
            apply eq_false
            intro h
            rw [h] at hz1
            cases hz1
          refine (callsIn_wide (n := 9)).1 ?_
          refine callsIn_of_wp_marks Tryz.func123 rfl trivial ?_ rfl
          simp only [Tryz.ntmps123, List.size_toArray, List.length_cons, List.length_nil, Nat.reduceAdd, Nat.reduceSub, Array.replicate_succ, Array.replicate_zero, List.push_toArray, List.append_toArray, List.nil_append, List.cons_append]
          gi_wp2_with (gi_at_call 144; refine (callsIn_wide.2 (next_any _ _ _)).mono ?_; rintro e w' ⟨rfl, rfl⟩)
          have hI0 : FewI w b s r 1048576 [] ((((w.alloc (.cells #[.map (some b)] 156)).alloc (.cells #[.string s, .string r] 159)).alloc (.cells #[.int .i64 1048576] 3)).alloc (.cells #[.string s, .string r] 159)) := by
            have e1 := World.alloc_heap_new w (.cells #[.map (some b)] 156)
            have e2 := World.alloc_heap_new (w.alloc (.cells #[.map (some b)] 156)) (.cells #[.string s, .string r] 159)
            have e3 := World.alloc_heap_new ((w.alloc (.cells #[.map (some b)] 156)).alloc (.cells #[.string s, .string r] 159)) (.cells #[.int .i64 1048576] 3)
            simp only [World.size_alloc] at e2 e3
            have b2 := (HB2.out.alloc (by simp; omega) (.cells #[.int .i64 1048576] 3)).alloc (by simp; omega) (.cells #[.string s, .string r] 159)
            refine ⟨(Below.heap_alloc _ _ _ (by simp)).trans e3, ?_, ?_, ?_, grown_of_below b2 _, by simp⟩
            · exact (Below.heap_alloc _ _ _ (by simp; omega)).trans ((Below.heap_alloc _ _ _ (by simp; omega)).trans ((Below.heap_alloc _ _ _ (by simp)).trans e1))
            · exact (Below.heap_alloc _ _ _ (by simp)).trans ((Below.heap_alloc _ _ _ (by simp)).trans e2)
            · exact ⟨f, HM.out.below b2, HFF.out⟩
          have hRd : ((((w.alloc (.cells #[.map (some b)] 156)).alloc (.cells #[.string s, .string r] 159)).alloc (.cells #[.int .i64 1048576] 3)).alloc (.cells #[.string s, .string r] 159)).heap[w.heap.size + 1 + 1 + 1]? = some (.cells #[.string s, .string r] 159 (0, 0)) := by
            have e4 := World.alloc_heap_new (((w.alloc (.cells #[.map (some b)] 156)).alloc (.cells #[.string s, .string r] 159)).alloc (.cells #[.int .i64 1048576] 3)) (.cells #[.string s, .string r] 159)
            simpa only [World.size_alloc] using e4
          refine wpIn_rangeFunc_ownH rfl (by omega) (gf := 162) (lb := #[.pointer (some ⟨w.heap.size + 1 + 1 + 1, 0, none⟩)]) rfl trivial (enters_of Tryz.func162 (by kernel_rfl) rfl)
            (next_stops (9 - 1) (w.heap.size + 1 + 1 + 1) (w.heap.size + 4) s r _ (by omega) (by omega) (by omega) (by simp) hRd) KpR.t (fun W l o o' _ h hc _ => KpR.b W l o o' h hc) (Below.refl _ _) (fun _ => rfl)
            (FewI w b s r 1048576) (fun _ _ _ => False) (FewI.own hblt _ (by simp)) (fun _ _ _ _ _ hs _ _ => hs) hI0
            (fun x a' W => ∃ B7 B8, FewA w s r x B7 B8 W ∧ a' = { tmps := #[.map (some b), .agg #[.string s, .string r], .pointer (some ⟨w.heap.size, 0, none⟩), .pointer (some ⟨w.heap.size + 1, 0, none⟩), .int .i64 0, .pointer (some ⟨w.heap.size + 1 + 1, 0, none⟩), .bool false, .pointer (some ⟨B7, 0, none⟩), .pointer (some ⟨B8, 0, none⟩), .tuple #[.int .i64 0, .bool false], .map (some b), .agg #[.string s, .string r], .tuple #[.int .i64 0, .bool false], .int .i64 0, .bool false, .bool false, undef, .pointer (some ⟨w.heap.size + 1, 0, none⟩), .string s, .bool false, .bool false, undef, undef, undef, .bool false, .agg #[.string s, .string r], .func (.func 162) #[] #[.pointer (some ⟨w.heap.size + 1 + 1 + 1, 0, none⟩)], stepV x.1, readV s r x.1, undef, undef, undef, undef, undef, undef, undef, undef, undef, undef, undef, undef, undef], defers := [] }) ?hAx ?assign ?body ?done ?stop
          case hAx =>
            rintro x a' _ W W' row ⟨B7, B8, ⟨h1, h2, h3, h4⟩, rfl⟩ hg hr
            have ne : ∀ k c t f, W.heap[k]? = some (.cells c t f) → some k ≠ row := fun k c t f hk e => by
              obtain ⟨o, ho, hc⟩ := (hr k e.symm).2
              rw [hk] at ho
              cases ho
              cases hc
            exact ⟨B7, B8, ⟨h1, h2, (hg.block _ (Array.getElem?_eq_some_iff.1 h3).1 (ne _ _ _ _ h3)).trans h3, (hg.block _ (Array.getElem?_eq_some_iff.1 h4).1 (ne _ _ _ _ h4)).trans h4⟩, rfl⟩
          case assign =>
            intro l pre x W K hi hK
            have hu3 := Tryz.underlying180
            have hsz := hi.2.2.2.2.2
            have hg := (World.grownBy_alloc W (.cells #[.int .i64 x.1, .int .i64 (costK x.1), .func (.func (173 + x.1)) #[] #[]] 180) none).trans (World.grownBy_alloc (W.alloc (.cells #[.int .i64 x.1, .int .i64 (costK x.1), .func (.func (173 + x.1)) #[] #[]] 180)) (.cells #[.string (leftS s x.1), .string (leftR s r x.1)] 159) none)
            have k1 := KeepsFrom.of_grownBy (B := w.heap.size + 1 + 1 + 1 + 1) hg (fun j e => by cases e)
            have k2 := KpR.of_grown (B := w.heap.size + 1 + 1 + 1) (n1 := w.heap.size + 4) hg (fun j e => by cases e)
            have k3 := hi.far hblt hg (fun q e => by cases e)
            have k4 := World.alloc_heap_new W (.cells #[.int .i64 x.1, .int .i64 (costK x.1), .func (.func (173 + x.1)) #[] #[]] 180)
            have k5 := World.alloc_heap_new (W.alloc (.cells #[.int .i64 x.1, .int .i64 (costK x.1), .func (.func (173 + x.1)) #[] #[]] 180)) (.cells #[.string (leftS s x.1), .string (leftR s r x.1)] 159)
            have k6 := (Below.heap_alloc _ (.cells #[.string (leftS s x.1), .string (leftR s r x.1)] 159) W.heap.size (by simp)).trans k4
            have K1 := Aside0.mk k1
            have K2 := Aside0.mk k2
            have K3 := Aside0.mk k3
            have K5 := Aside0.mk k5
            have K6 := Aside0.mk k6
            have HK := Aside0.mk hK
            clear k1 k2 k3 k4 k5 k6 hg hi hK
            dsimp only [stepV, readV]
            gi_wp2
            refine HK.out _ _ (by simpa using K1.out) K2.out K3.out ⟨W.heap.size, W.heap.size + 1, ⟨hsz, by omega, K6.out, by simpa using K5.out⟩, rfl⟩
          case body =>
            rintro l pre x a' W hl hrec hI ⟨B7, B8, hA, rfl⟩ hlen
            have hS0 : FewS w b s r 1048576 pre x B7 B8 W { W with drawn := W.drawn + 1 } := ⟨hI.far hblt (row := none) ⟨rfl, rfl, rfl, Nat.le_refl _, fun _ _ _ => rfl⟩ (fun q e => by cases e), hA, ⟨rfl, rfl, rfl, Nat.le_refl _, fun _ _ _ => rfl⟩⟩
            have hu3 := Tryz.underlying180
            have hfl : ∀ f, (Fence.wide.inRound l).fn f := fun _ => trivial
            have hbl := few_bd (leftS s x.1) (leftR s r x.1)
            have hcl : 0 ≤ costK x.1 ∧ costK x.1 ≤ 1 := by unfold costK; split <;> omega
            have hab := acc_bd s r 1048576 (by simp [far]) pre
            have hps := prog_size s r x
            unfold far at hbl hab
            refine wpIn_block ?_
            refine wpIn_region_vals 7 [.int .i64 (acc s r 1048576 pre), .pointer (some ⟨B7, 1, none⟩), .int .i64 (costK x.1), .map (some b), .agg #[.string (leftS s x.1), .string (leftR s r x.1)], .int .i64 (few (leftS s x.1) (leftR s r x.1)), .int .i64 (costK x.1 + few (leftS s x.1) (leftR s r x.1))]
              (FewS w b s r 1048576 pre x B7 B8 W) (openF_round l _ _) (by kernel_rfl) (by kernel_rfl) hS0 ?_ ?_
            · intro fin hfin
              simp only [putAll, List.take_succ_cons, List.take_zero, Act.put] at hfin
              simp only [List.setIfInBounds_toArray, List.set_cons_succ, List.set_cons_zero] at hfin
              subst hfin
              simp only [List.take_succ_cons, List.take_zero, List.forall_mem_cons]
              clear hS0 hI hA hrec
              refine ⟨?_, ?_, ?_, ?_, ?_, ?_, ?_, by simp⟩
              all_goals
                intro W1 hS
                have hS' := hS
                obtain ⟨⟨i1, i2, i3, i4, i5, i6⟩, ⟨a1, a2, a3, a4⟩, g1⟩ := hS'
                have c1 := i1.cell
                have c2 := i2.cell
                have c3 : W1.cell? ⟨B7, 1, none⟩ = some (.int .i64 (costK x.1)) := by simp [World.cell?, a3]
                have c4 : W1.cell? ⟨B8, 0, none⟩ = some (.string (leftS s x.1)) := by simp [World.cell?, a4]
                have c5 : W1.cell? ⟨B8, 1, none⟩ = some (.string (leftR s r x.1)) := by simp [World.cell?, a4]
                have I4 := Aside0.mk i4
                have HS := Aside0.mk hS
                clear i1 i2 i3 i4 i5 a3 a4 g1
                go_simp
              · refine (IH.out b _ _ _ (by omega) (by omega) I4.out).mono ?_
                rintro e w'' ⟨rfl, hF2, hg2⟩
                exact ⟨_, rfl, rfl, HS.out.after hblt hF2 hg2⟩
              · exact IntWalk.i64_in _ (by omega)
            · intro fin hfin
              simp only [putAll, List.take_succ_cons, List.take_zero, Act.put] at hfin
              simp only [List.setIfInBounds_toArray, List.set_cons_succ, List.set_cons_zero] at hfin
              subst hfin
              intro W1 hS
              have c1 := (hS.1.1.alloc (.cells #[.int .i64 (acc s r 1048576 pre), .int .i64 (costK x.1 + few (leftS s x.1) (leftR s r x.1))] 3)).cell
              have f1 := (hS.1.1.alloc (.cells #[.int .i64 (acc s r 1048576 pre), .int .i64 (costK x.1 + few (leftS s x.1) (leftR s r x.1))] 3)).frozen
              have hi6 := hS.1.2.2.2.2.2
              have HS := Aside0.mk hS
              clear hS hS0 hI hA hrec
              simp only [List.drop_succ_cons, List.drop_zero]
              have hmin := minimum2 W1.heap.size 2 (acc s r 1048576 pre) (costK x.1 + few (leftS s x.1) (leftR s r x.1)) (W1.alloc (.cells #[.int .i64 (acc s r 1048576 pre), .int .i64 (costK x.1 + few (leftS s x.1) (leftR s r x.1))] 3)) (by simp) (by simp)
              have HMin := Aside0.mk hmin
              clear hmin
              gi_wp2_with (gi_at_call 145; refine (CallsIn.inRound l (callsIn_wide.2 HMin.out)).mono ?_; rintro e w' ⟨rfl, rfl⟩)
              have hdn := HS.out.done hblt (.cells #[.int .i64 (acc s r 1048576 pre), .int .i64 (costK x.1 + few (leftS s x.1) (leftR s r x.1))] 3)
              exact ⟨by simpa only [World.size_alloc] using hdn.1, hdn.2.1, hdn.2.2⟩
          case done =>
            rintro D ys W hD rfl hI hK
            have hfe : acc s r 1048576 (nx s r 6) = few s r := by
              rw [few_eq, if_neg hee]; rfl
            obtain ⟨i1, i2, i3, ⟨f2, hM2, hf2⟩, i5, i6⟩ := hI
            rw [hfe] at i1
            have c1 := i1.cell
            have c2 := i2.cell
            have c3 : W.cell? ⟨w.heap.size + 1, 0, none⟩ = some (.string s) := by simp [World.cell?, i3]
            have c4 : W.cell? ⟨w.heap.size + 1, 1, none⟩ = some (.string r) := by simp [World.cell?, i3]
            have HM2 := Aside0.mk hM2
            have HF2 := Aside0.mk hf2
            have I1 := Aside0.mk i1
            have HG := Aside0.mk i5
            have HKD := Aside0.mk hK
            clear hM2 hf2 i1 i2 i3 i5 hfe hK
            gi_wp2_with (gi_at_mapUpdate; refine wpListIn_mapUpd _ rfl _ _ _ 156 rfl 159 3 keyed159 Tryz.underlying156 b f2 rfl HM2.out _ _ kl rfl rfl HKL.out ?_; intro w1 f3 hf3 hM3 hg3; have HM3 := Aside0.mk hM3; have HF3 := Aside0.mk hf3; have HG3 := Aside0.mk hg3; have c5 := (I1.out.kept hg3 (by simp; omega)).cell; clear hM3 hf3 hg3)
            refine ⟨by simp, .inl ⟨_, _, rfl, run_takeDeferred ((HG3.out.block D (Array.getElem?_eq_some_iff.1 HKD.out).1 (by intro e; cases e; simp at hD; omega)).trans HKD.out), ?_⟩⟩
            have hDw : w.heap.size + 4 ≤ D := by simpa using hD
            refine ⟨_, results_tmp rfl _ _ _, rfl, ⟨f3, HM3.out.same (World.putObj_heap_other (by omega)), ?_⟩, ?_⟩
            · intro key v hkv
              by_cases e : key = .agg #[.string s, .string r]
              · rw [(HF3.out key).1 e] at hkv
                cases hkv
                exact ⟨s, r, e, rfl⟩
              · rw [(HF3.out key).2 e] at hkv
                exact HF2.out key v hkv
            · exact grow_far (grow_far HG.out HG3.out (fun q e => .inl (by cases e; rfl))) (grownBy_putObj' _ D _) (fun q e => by cases e; right; omega)
          case stop =>
            rintro D c pre W _ _ h _
            exact h.elim
end Go.Proofs.YthgfhgjlilmieaaGreat.G
namespace Go.Proofs.YthgfhgjlilmieaaGreat.G
open Go.RowKit Go.Shelf Go.Proofs.YthgfhgjlilmieaaGreatW.PrintWords Go.Proofs.YthgfhgjlilmieaaGreatW.PrintLast Go.Proofs.YthgfhgjlilmieaaGreatW.PrintMore
open Go.Proofs.YthgfhgjlilmieaaGreat.B
set_option linter.unusedVariables false
set_option linter.unusedSimpArgs false
def errsE (s r : ByteArray) : Int := if signsE [s, r] ≠ 0 then signsE [s, r] else if far ≤ few s r then 11 else 0
def errsN (s r : ByteArray) : Int := if errsE s r = 0 then few s r else 0
theorem signsE_ok {s r : ByteArray} (h : signsE [s, r] = 0) : s.size ≤ 40 ∧ r.size ≤ 40 := by
  unfold signsE at h
  split at h
  · cases h
  · rename_i hl
    simp [lenB] at hl
    omega
theorem FewMap.made (w : World) : FewMap w.heap.size (w.alloc (.map #[] 0)) := ⟨_, MapAt.made w _ _, fun _ _ h => by cases h⟩
theorem grown_below {w W : World} {b : Nat} (h : w.grownBy W (some b)) {w0 : World} (h0 : Below w0.heap.size w0 w) (hb : w0.heap.size ≤ b) : Below w0.heap.size w0 W := h0.grown h h0.size (fun k e => by cases e; exact hb)
set_option maxHeartbeats 2000000 in
set_option maxRecDepth 100000 in
theorem errors_any (s r : ByteArray) (w : World) (hs : s.size ≤ 140737488351232) (hr : r.size ≤ 140737488351232) :
    Calls Tryz.prog 87 #[.string s, .string r] w fun e w' => e = .returned (.tuple #[.int .i64 (errsN s r), .int .i64 (errsE s r)]) ∧ Below w.heap.size w w' := by
  have hb1 : Below w.heap.size w (w.alloc (.cells #[.string s, .string r] 9)) := (Below.refl _ w).alloc (Nat.le_refl _) _
  have hrd : Kd.C Kd.string (w.alloc (.cells #[.string s, .string r] 9)) (some ⟨w.heap.size, 0, none⟩) [s, r].length [s, r] := by
    refine Kd.C_of_reads (d := ByteArray.empty) (h1 := fun _ => rfl) ⟨rfl, by simp, fun _ => ⟨_, rfl, fun j hj => ?_⟩⟩
    match j, hj with
    | 0, _ => rw [add_plain]; simp
    | 1, _ => rw [add_plain]; simp
  have hcon := checkSigns_any (some ⟨w.heap.size, 0, none⟩) 2 [s, r] _ hrd (fun x hx => by
    rcases List.mem_cons.1 hx with rfl | hx
    · exact hs
    · rw [List.mem_singleton.1 hx]; exact hr)
  have e2 : ([s, r] : List ByteArray).length = 2 := rfl
  rw [e2] at hcon
  have HC := Aside0.mk hcon
  have HB1 := Aside0.mk hb1
  have hmm := @run_makeMap Tryz.prog
  clear hcon hb1 hrd e2
  by_cases h0 : signsE [s, r] = 0
  · obtain ⟨hs4, hr4⟩ := signsE_ok h0
    have hF : ∀ w1 : World, Calls Tryz.prog 123 #[.map (some w1.heap.size), .agg #[.string s, .string r]] (w1.alloc (.map #[] 0)) fun e w' => e = .returned (.int .i64 (few s r)) ∧ Below w1.heap.size w1 w' := fun w1 =>
      (fewest_any 100 w1.heap.size s r _ (by omega) (by omega) (FewMap.made w1)).mono fun e w' ⟨he, _, hg⟩ => ⟨he, grown_below hg ((Below.refl _ w1).alloc (Nat.le_refl _) _) (Nat.le_refl _)⟩
    have HF := Aside0.mk hF
    have hbd := few_bd s r
    rw [h0] at HC
    by_cases hf : far ≤ few s r
    · have hE : errsE s r = 11 := by simp [errsE, h0, hf]
      have hN : errsN s r = 0 := by simp [errsN, hE]
      rw [hE, hN]
      have hd : decide ((1048576 : Int) ≤ few s r) = true := decide_eq_true hf
      clear hE hN h0 hF hf hbd
      go_enter Tryz.func87, Tryz.ntmps87
      go_wp2_with (first
        | (go_at_call 122; refine HC.out.mono ?_; rintro e w' ⟨rfl, hb'⟩; have HB' := Aside0.mk hb'; clear hb')
        | (go_at_call 123; refine (HF.out _).mono ?_; rintro e w'' ⟨rfl, hb''⟩))
      go_ret2
      exact ⟨rfl, below_next (below_next HB1.out HB'.out) hb''⟩
    · have hE : errsE s r = 0 := by simp [errsE, h0, hf]
      have hN : errsN s r = few s r := by simp [errsN, hE]
      rw [hE, hN]
      have hd : decide ((1048576 : Int) ≤ few s r) = false := decide_eq_false hf
      clear hE hN h0 hF hf hbd
      go_enter Tryz.func87, Tryz.ntmps87
      go_wp2_with (first
        | (go_at_call 122; refine HC.out.mono ?_; rintro e w' ⟨rfl, hb'⟩; have HB' := Aside0.mk hb'; clear hb')
        | (go_at_call 123; refine (HF.out _).mono ?_; rintro e w'' ⟨rfl, hb''⟩))
      go_ret2
      exact ⟨rfl, below_next (below_next HB1.out HB'.out) hb''⟩
  · have hE : errsE s r = signsE [s, r] := by simp [errsE, h0]
    have hN : errsN s r = 0 := by simp [errsN, hE, h0]
    rw [hE, hN]
    have hd : (signsE [s, r] != 0) = true := bne_iff_ne.2 h0
    clear hE hN h0
    generalize signsE [s, r] = q at *
    go_enter Tryz.func87, Tryz.ntmps87
    go_wp2_with (go_at_call 122; refine HC.out.mono ?_; rintro e w' ⟨rfl, hb'⟩)
    go_ret2
    exact ⟨rfl, below_next HB1.out hb'⟩
structure Lg where
  ls : List ByteArray
  errs : Int
  sees : List Int
  jn : List S76
  rc : List S75
structure LV where
  A0 : Option Addr
  A2 : Option Addr
  A3 : Option Addr
  A4 : Option Addr
  c0 : Nat
  c2 : Nat
  c3 : Nat
  c4 : Nat
abbrev logV (a : LV) (l : Lg) : Value := .agg #[.slice a.A0 l.ls.length a.c0, .int .i64 l.errs, .slice a.A2 l.sees.length a.c2, .slice a.A3 l.jn.length a.c3, .slice a.A4 l.rc.length a.c4]
structure LogAt (w : World) (a : LV) (l : Lg) : Prop where
  h0 : Kd.C Kd.string w a.A0 l.ls.length l.ls
  h2 : Kd.C (Kd.int .i64) w a.A2 l.sees.length l.sees
  h3 : Kd.C k76 w a.A3 l.jn.length l.jn
  h4 : Kd.C k75 w a.A4 l.rc.length l.rc
  l0 : l.ls.length ≤ a.c0
  l2 : l.sees.length ≤ a.c2
  l3 : l.jn.length ≤ a.c3
  l4 : l.rc.length ≤ a.c4
  z0 : ∀ s, s ∈ l.ls → s.size ≤ 140737488351232
  z4 : ∀ r, r ∈ l.rc → r.f2.size ≤ 140737488351232
theorem LogAt.below {w W : World} {a : LV} {l : Lg} (h : LogAt w a l) (hb : Below w.heap.size w W) : LogAt W a l :=
  ⟨Kd.C_below h.h0 hb, Kd.C_below h.h2 hb, Kd.C_below h.h3 hb, Kd.C_below h.h4 hb, h.l0, h.l2, h.l3, h.l4, h.z0, h.z4⟩
def hourB (n : Int) : Bool := decide (0 ≤ n) && decide (n ≤ 23)
theorem hour_any (n : Int) (w : World) : Calls Tryz.prog 60 #[.int .i64 n] w fun e w' => e = .returned (.bool (hourB n)) ∧ w = w' := by
  go_enter Tryz.func60, Tryz.ntmps60
  go_wp2_with (go_at_call 57; refine (within_m _ _ _ _).mono ?_; rintro e w' ⟨rfl, rfl⟩)
  go_ret
  exact ⟨rfl, rfl⟩
def atB (l : Lg) (h s : Int) : Bool := hourB h && inB s (l.sees.length - 1)
set_option maxHeartbeats 1000000 in
theorem at_any (a : LV) (l : Lg) (h s : Int) (w : World) (hL : l.sees.length ≤ 100) : Calls Tryz.prog 86 #[logV a l, .int .i64 h, .int .i64 s] w fun e w' => e = .returned (.bool (atB l h s)) ∧ Below w.heap.size w w' := by
  have hu := Tryz.underlying38
  obtain ⟨A0, A2, A3, A4, c0, c2, c3, c4⟩ := a
  obtain ⟨ls, errs, sees, jn, rc⟩ := l
  dsimp only [logV, atB] at *
  cases hq : hourB h with
  | true =>
    have HQ := Aside0.mk hq
    clear hq
    go_enter Tryz.func86, Tryz.ntmps86
    go_wp2_with (first | (go_at_call 60; refine (hour_any _ _).mono ?_; rintro e w' ⟨rfl, rfl⟩; rw [HQ.out]) | (go_at_call 57; refine (within_m _ _ _ _).mono ?_; rintro e w' ⟨rfl, rfl⟩))
    go_ret
    exact ⟨rfl, (Below.refl _ w).alloc (Nat.le_refl _) _⟩
  | false =>
    have HQ := Aside0.mk hq
    clear hq
    go_enter Tryz.func86, Tryz.ntmps86
    go_wp2_with (first | (go_at_call 60; refine (hour_any _ _).mono ?_; rintro e w' ⟨rfl, rfl⟩; rw [HQ.out]))
    go_ret
    exact ⟨rfl, (Below.refl _ w).alloc (Nat.le_refl _) _⟩
end Go.Proofs.YthgfhgjlilmieaaGreat.G
namespace Go.Proofs.YthgfhgjlilmieaaGreat.G
open Go.RowKit Go.Shelf Go.Proofs.YthgfhgjlilmieaaGreatW.PrintWords Go.Proofs.YthgfhgjlilmieaaGreatW.PrintLast Go.Proofs.YthgfhgjlilmieaaGreatW.PrintMore
open Go.Proofs.YthgfhgjlilmieaaGreat.B
set_option linter.unusedVariables false
set_option linter.unusedSimpArgs false
def heardB (l : Lg) (s : S76) (before : Int) : Bool := (rd l.sees s.f1 != -1 && decide (rd l.sees s.f1 ≤ s.f0)) && decide (s.f0 < before)
set_option maxHeartbeats 2000000 in
theorem heard_any (a : LV) (l : Lg) (s : S76) (A : Option Addr) (c : Nat) (before : Int) (w : World) (hL : LogAt w a l) (h0 : 0 ≤ s.f1) (h1 : s.f1 < l.sees.length) :
    Calls Tryz.prog 129 #[logV a l, .agg #[.int .i64 s.f0, .int .i64 s.f1, .slice A s.f2.length c], .int .i64 before] w fun e w' => e = .returned (.bool (heardB l s before)) ∧ Below w.heap.size w w' := by
  have hu := Tryz.underlying38
  have hu2 := Tryz.underlying76
  have hl2 := hL.h2
  obtain ⟨A0, A2, A3, A4, c0, c2, c3, c4⟩ := a
  obtain ⟨ls, errs, sees, jn, rc⟩ := l
  obtain ⟨f0, f1, f2⟩ := s
  dsimp only [logV, heardB] at *
  have hb : Below w.heap.size w ((w.alloc (.cells #[.slice A0 ls.length c0, .int .i64 errs, .slice A2 sees.length c2, .slice A3 jn.length c3, .slice A4 rc.length c4] 38)).alloc (.cells #[.int .i64 f0, .int .i64 f1, .slice A f2.length c] 76)) := ((Below.refl _ w).alloc (Nat.le_refl _) _).alloc (by simp) _
  obtain ⟨ad, rfl, hx⟩ := Kd.at_int (Kd.C_below hl2 hb) f1 h0 h1
  have HB := Aside0.mk hb
  clear hl2 hL hb
  generalize rd sees f1 = q at *
  cases hq : (q != -1) with
  | true =>
    cases hp : decide (q ≤ f0) with
    | true =>
      go_enter Tryz.func129, Tryz.ntmps129
      go_wp2
      go_ret
      exact ⟨rfl, HB.out⟩
    | false =>
      go_enter Tryz.func129, Tryz.ntmps129
      go_wp2
      go_ret
      exact ⟨rfl, HB.out⟩
  | false =>
    go_enter Tryz.func129, Tryz.ntmps129
    go_wp2
    go_ret
    exact ⟨rfl, HB.out⟩
def sentB (l : Lg) (s : S76) : Bool := (atB l s.f0 s.f1 && decide (0 < s.f2.length)) && sendE l.ls s.f2 == 0
set_option maxHeartbeats 2000000 in
set_option maxRecDepth 100000 in
theorem sent_any (a : LV) (l : Lg) (s : S76) (A : Option Addr) (c : Nat) (w : World) (hL : LogAt w a l) (hS : l.sees.length ≤ 100) (hr : Kd.C (Kd.int .i64) w A s.f2.length s.f2) (hc : s.f2.length ≤ c) :
    Calls Tryz.prog 55 #[logV a l, .agg #[.int .i64 s.f0, .int .i64 s.f1, .slice A s.f2.length c]] w fun e w' => e = .returned (.bool (sentB l s)) ∧ Below w.heap.size w w' := by
  have hu := Tryz.underlying38
  have hu2 := Tryz.underlying76
  have hu3 := Tryz.underlying34
  obtain ⟨A0, A2, A3, A4, c0, c2, c3, c4⟩ := a
  obtain ⟨ls, errs, sees, jn, rc⟩ := l
  obtain ⟨f0, f1, f2⟩ := s
  have hat : ∀ W, Calls Tryz.prog 86 #[logV ⟨A0, A2, A3, A4, c0, c2, c3, c4⟩ ⟨ls, errs, sees, jn, rc⟩, .int .i64 f0, .int .i64 f1] W fun e w' => e = .returned (.bool (atB ⟨ls, errs, sees, jn, rc⟩ f0 f1)) ∧ Below W.heap.size W w' := fun W => at_any _ _ f0 f1 W hS
  have hb : Below w.heap.size w ((w.alloc (.cells #[.slice A0 ls.length c0, .int .i64 errs, .slice A2 sees.length c2, .slice A3 jn.length c3, .slice A4 rc.length c4] 38)).alloc (.cells #[.int .i64 f0, .int .i64 f1, .slice A f2.length c] 76)) := ((Below.refl _ w).alloc (Nat.le_refl _) _).alloc (by simp) _
  have hsend := send_any A0 c0 ls A c f2 _ (Kd.C_below hL.h0 hb) hL.l0 (Kd.C_below hr hb) hL.z0
  dsimp only [logV, sentB] at *
  have HB := Aside0.mk hb
  have HS := Aside0.mk hsend
  have HA := Aside0.mk hat
  clear hL hr hb hsend hat
  generalize atB ⟨ls, errs, sees, jn, rc⟩ f0 f1 = q at *
  generalize sendE ls f2 = e0 at *
  cases q with
  | true =>
    by_cases h0 : 0 < f2.length
    · have h0' : decide ((0 : Int) < f2.length) = true := decide_eq_true (by omega)
      have hd : decide (0 < f2.length) = true := decide_eq_true h0
      rw [hd]
      go_enter Tryz.func55, Tryz.ntmps55
      go_wp2_with (first
        | (go_at_call 85; refine HS.out.mono ?_; rintro e w' ⟨rfl, hb'⟩; obtain ⟨hc', hf'⟩ := bcell hb'; have hz : w.heap.size + 1 < w'.heap.size := Nat.lt_of_lt_of_le (by simp) hb'.size; have HB' := Aside0.mk hb'; clear hb')
        | (go_at_call 86; refine (HA.out _).mono ?_; rintro e w'' ⟨rfl, hb''⟩; obtain ⟨hc'', hf''⟩ := bcell hb''; have HB'' := Aside0.mk hb''; clear hb''))
      go_ret
      exact ⟨by simp, below_next HB.out (below_next HB'.out HB''.out)⟩
    · have h0' : decide ((0 : Int) < f2.length) = false := decide_eq_false (by omega)
      have hd : decide (0 < f2.length) = false := decide_eq_false h0
      rw [hd]
      go_enter Tryz.func55, Tryz.ntmps55
      go_wp2_with (first
        | (go_at_call 85; refine HS.out.mono ?_; rintro e w' ⟨rfl, hb'⟩; obtain ⟨hc', hf'⟩ := bcell hb'; have hz : w.heap.size + 1 < w'.heap.size := Nat.lt_of_lt_of_le (by simp) hb'.size; have HB' := Aside0.mk hb'; clear hb')
        | (go_at_call 86; refine (HA.out _).mono ?_; rintro e w'' ⟨rfl, hb''⟩; obtain ⟨hc'', hf''⟩ := bcell hb''; have HB'' := Aside0.mk hb''; clear hb''))
      go_ret
      exact ⟨by simp, below_next HB.out (below_next HB'.out HB''.out)⟩
  | false =>
    go_enter Tryz.func55, Tryz.ntmps55
    go_wp2_with (first
      | (go_at_call 85; refine HS.out.mono ?_; rintro e w' ⟨rfl, hb'⟩; obtain ⟨hc', hf'⟩ := bcell hb'; have hz : w.heap.size + 1 < w'.heap.size := Nat.lt_of_lt_of_le (by simp) hb'.size; have HB' := Aside0.mk hb'; clear hb')
      | (go_at_call 86; refine (HA.out _).mono ?_; rintro e w'' ⟨rfl, hb''⟩; obtain ⟨hc'', hf''⟩ := bcell hb''; have HB'' := Aside0.mk hb''; clear hb''))
    go_ret
    exact ⟨by simp, below_next HB.out (below_next HB'.out HB''.out)⟩
def recordB (l : Lg) (r : S75) : Bool := atB l r.f0 r.f1 && errsE r.f2 r.f2 == 0
set_option maxHeartbeats 2000000 in
set_option maxRecDepth 100000 in
theorem record_any (a : LV) (l : Lg) (r : S75) (w : World) (hS : l.sees.length ≤ 100) (hr : r.f2.size ≤ 140737488351232) :
    Calls Tryz.prog 56 #[logV a l, .agg #[.int .i64 r.f0, .int .i64 r.f1, .string r.f2]] w fun e w' => e = .returned (.bool (recordB l r)) ∧ Below w.heap.size w w' := by
  have hu := Tryz.underlying38
  have hu2 := Tryz.underlying75
  obtain ⟨A0, A2, A3, A4, c0, c2, c3, c4⟩ := a
  obtain ⟨ls, errs, sees, jn, rc⟩ := l
  obtain ⟨f0, f1, f2⟩ := r
  have hat : ∀ W, Calls Tryz.prog 86 #[logV ⟨A0, A2, A3, A4, c0, c2, c3, c4⟩ ⟨ls, errs, sees, jn, rc⟩, .int .i64 f0, .int .i64 f1] W fun e w' => e = .returned (.bool (atB ⟨ls, errs, sees, jn, rc⟩ f0 f1)) ∧ Below W.heap.size W w' := fun W => at_any _ _ f0 f1 W hS
  have hb : Below w.heap.size w ((w.alloc (.cells #[.slice A0 ls.length c0, .int .i64 errs, .slice A2 sees.length c2, .slice A3 jn.length c3, .slice A4 rc.length c4] 38)).alloc (.cells #[.int .i64 f0, .int .i64 f1, .string f2] 75)) := ((Below.refl _ w).alloc (Nat.le_refl _) _).alloc (by simp) _
  have herr := fun W => errors_any f2 f2 W hr hr
  dsimp only [logV, recordB] at *
  have HB := Aside0.mk hb
  have HS := Aside0.mk herr
  have HA := Aside0.mk hat
  clear hb herr hat
  generalize atB ⟨ls, errs, sees, jn, rc⟩ f0 f1 = q at *
  generalize errsE f2 f2 = e0 at *
  cases q with
  | true =>
    go_enter Tryz.func56, Tryz.ntmps56
    go_wp2_with (first
      | (go_at_call 87; refine (HS.out _).mono ?_; rintro e w' ⟨rfl, hb'⟩; obtain ⟨hc', hf'⟩ := bcell hb'; have hz : w.heap.size + 1 < w'.heap.size := Nat.lt_of_lt_of_le (by simp) hb'.size; have HB' := Aside0.mk hb'; clear hb')
      | (go_at_call 86; refine (HA.out _).mono ?_; rintro e w'' ⟨rfl, hb''⟩; obtain ⟨hc'', hf''⟩ := bcell hb''; have HB'' := Aside0.mk hb''; clear hb''))
    go_ret
    exact ⟨by simp, below_next HB.out (below_next HB'.out HB''.out)⟩
  | false =>
    go_enter Tryz.func56, Tryz.ntmps56
    go_wp2_with (first
      | (go_at_call 87; refine (HS.out _).mono ?_; rintro e w' ⟨rfl, hb'⟩; obtain ⟨hc', hf'⟩ := bcell hb'; have hz : w.heap.size + 1 < w'.heap.size := Nat.lt_of_lt_of_le (by simp) hb'.size; have HB' := Aside0.mk hb'; clear hb')
      | (go_at_call 86; refine (HA.out _).mono ?_; rintro e w'' ⟨rfl, hb''⟩; obtain ⟨hc'', hf''⟩ := bcell hb''; have HB'' := Aside0.mk hb''; clear hb''))
    go_ret
    exact ⟨by simp, below_next HB.out (below_next HB'.out HB''.out)⟩
theorem sendS_size (ls : List ByteArray) (text : List Int) : (sendS ls text).size ≤ 25 := by
  unfold sendS
  split
  · rename_i h
    have hc : codeE ls = 0 := by
      unfold sendE at h
      split at h
      · rename_i hc; exact absurd h hc
      · rename_i hc; simpa using hc
    have hl : text.length ≤ 5 := by
      unfold sendE at h
      rw [if_neg (by simpa using hc)] at h
      split at h
      · cases h
      · omega
    have hin : text.all (fun n => inB n (ls.length - 1)) = true := by
      unfold sendE at h
      rw [if_neg (by simpa using hc), if_neg (by omega)] at h
      cases hq : text.all (fun n => inB n (ls.length - 1)) with
      | true => rfl
      | false => rw [hq] at h; cases h
    have hmem : ∀ x ∈ text.map (fun n => (letterAt ls n).data.toList), x.length ≤ 4 := by
      intro x hx
      obtain ⟨n, hn, rfl⟩ := List.mem_map.1 hx
      have := List.all_eq_true.1 hin n hn
      simp only [inB, Bool.and_eq_true, decide_eq_true_eq] at this
      have hlt : n.toNat < ls.length := by omega
      have hm : letterAt ls n ∈ ls := by
        simp only [letterAt, List.getD_eq_getElem?_getD, List.getElem?_eq_getElem hlt, Option.getD_some]
        exact List.getElem_mem hlt
      have := letters4 hc _ hm
      rw [data_length]; exact this
    have hjl := join_le _ 4 hmem
    rw [List.length_map] at hjl
    show (signsL ls text).toArray.size ≤ 25
    rw [List.size_toArray]
    unfold signsL
    omega
  · exact Nat.zero_le _
def readsB (l : Lg) (text : List Int) (read : ByteArray) : Bool := errsE (sendS l.ls text) read == 0 && decide (errsN (sendS l.ls text) read ≤ l.errs)
set_option maxHeartbeats 2000000 in
set_option maxRecDepth 100000 in
theorem reads_any (a : LV) (l : Lg) (A : Option Addr) (c : Nat) (text : List Int) (read : ByteArray) (w : World) (hL : LogAt w a l) (hr : Kd.C (Kd.int .i64) w A text.length text) (hs : read.size ≤ 140737488351232) :
    Calls Tryz.prog 69 #[logV a l, .slice A text.length c, .string read] w fun e w' => e = .returned (.bool (readsB l text read)) ∧ Below w.heap.size w w' := by
  have hu := Tryz.underlying38
  have hu3 := Tryz.underlying34
  obtain ⟨A0, A2, A3, A4, c0, c2, c3, c4⟩ := a
  obtain ⟨ls, errs, sees, jn, rc⟩ := l
  have hb : Below w.heap.size w (w.alloc (.cells #[.slice A0 ls.length c0, .int .i64 errs, .slice A2 sees.length c2, .slice A3 jn.length c3, .slice A4 rc.length c4] 38)) := (Below.refl _ w).alloc (Nat.le_refl _) _
  have hsend := send_any A0 c0 ls A c text _ (Kd.C_below hL.h0 hb) hL.l0 (Kd.C_below hr hb) hL.z0
  have herr := fun W => errors_any (sendS ls text) read W (by have := sendS_size ls text; omega) hs
  dsimp only [logV, readsB] at *
  have HB := Aside0.mk hb
  have HS := Aside0.mk hsend
  have HE := Aside0.mk herr
  clear hL hr hb hsend herr
  generalize sendE ls text = e1 at *
  generalize sendS ls text = s at *
  generalize errsE s read = e0 at *
  generalize errsN s read = n0 at *
  cases hq : (e0 == 0) with
  | true =>
    go_enter Tryz.func69, Tryz.ntmps69
    go_wp2_with (first
      | (go_at_call 85; refine HS.out.mono ?_; rintro e w' ⟨rfl, hb'⟩; obtain ⟨hc', hf'⟩ := bcell hb'; have hz : w.heap.size < w'.heap.size := Nat.lt_of_lt_of_le (by simp) hb'.size; have HB' := Aside0.mk hb'; clear hb')
      | (go_at_call 87; refine (HE.out _).mono ?_; rintro e w'' ⟨rfl, hb''⟩; obtain ⟨hc'', hf''⟩ := bcell hb''; have HB'' := Aside0.mk hb''; clear hb''))
    go_ret
    exact ⟨by simp, below_next HB.out (below_next HB'.out HB''.out)⟩
  | false =>
    go_enter Tryz.func69, Tryz.ntmps69
    go_wp2_with (first
      | (go_at_call 85; refine HS.out.mono ?_; rintro e w' ⟨rfl, hb'⟩; obtain ⟨hc', hf'⟩ := bcell hb'; have hz : w.heap.size < w'.heap.size := Nat.lt_of_lt_of_le (by simp) hb'.size; have HB' := Aside0.mk hb'; clear hb')
      | (go_at_call 87; refine (HE.out _).mono ?_; rintro e w'' ⟨rfl, hb''⟩; obtain ⟨hc'', hf''⟩ := bcell hb''; have HB'' := Aside0.mk hb''; clear hb''))
    go_ret
    exact ⟨by simp, below_next HB.out (below_next HB'.out HB''.out)⟩
def seeB (n : Int) : Bool := n == -1 || hourB n
theorem see1 (n : Int) (w : World) : Pred1 59 #[] #[] (.int .i64 n) (seeB n) w := by
  intro W hW
  clear hW
  show Calls Tryz.prog 59 #[.int .i64 n] W _
  unfold seeB
  cases hq : (n == -1) with
  | true =>
    go_enter Tryz.func59, Tryz.ntmps59
    go_wp2
    go_ret
    exact ⟨rfl, Below.refl _ _⟩
  | false =>
    go_enter Tryz.func59, Tryz.ntmps59
    go_wp2_with (go_at_call 60; refine (hour_any _ _).mono ?_; rintro e w' ⟨rfl, rfl⟩)
    go_ret
    exact ⟨rfl, Below.refl _ _⟩
theorem enters59 : Enters 59 := enters_of Tryz.func59 (by kernel_rfl) rfl
theorem enters55 : Enters 55 := enters_of Tryz.func55 (by kernel_rfl) rfl
theorem enters56 : Enters 56 := enters_of Tryz.func56 (by kernel_rfl) rfl
def overB (l : Lg) : Bool := (decide (4 < l.sees.length) || decide (8 < l.jn.length)) || decide (6 < l.rc.length)
def badB (l : Lg) : Bool := (((!(inB l.errs 3) || l.sees.length == 0) || !l.sees.all seeB) || !l.jn.all (sentB l)) || !l.rc.all (recordB l)
def logE (l : Lg) : Int := if overB l = true then 3 else if codeE l.ls ≠ 0 then codeE l.ls else if badB l = true then 1 else 0
end Go.Proofs.YthgfhgjlilmieaaGreat.G
namespace Go.Proofs.YthgfhgjlilmieaaGreat.G
open Go.RowKit Go.Shelf Go.Proofs.YthgfhgjlilmieaaGreatW.PrintWords Go.Proofs.YthgfhgjlilmieaaGreatW.PrintLast Go.Proofs.YthgfhgjlilmieaaGreatW.PrintMore
open Go.Proofs.YthgfhgjlilmieaaGreat.B
set_option linter.unusedVariables false
set_option linter.unusedSimpArgs false
set_option maxHeartbeats 4000000 in
set_option maxRecDepth 100000 in
theorem checkLog_any (a : LV) (l : Lg) (w : World) (hL : LogAt w a l) :
    Calls Tryz.prog 19 #[logV a l] w fun e w' => e = .returned (.int .i64 (logE l)) ∧ Below w.heap.size w w' := by
  have hu := Tryz.underlying38
  have hu3 := Tryz.underlying34
  obtain ⟨A0, A2, A3, A4, c0, c2, c3, c4⟩ := a
  obtain ⟨ls, errs, sees, jn, rc⟩ := l
  have hb : Below w.heap.size w (w.alloc (.cells #[.slice A0 ls.length c0, .int .i64 errs, .slice A2 sees.length c2, .slice A3 jn.length c3, .slice A4 rc.length c4] 38)) := (Below.refl _ w).alloc (Nat.le_refl _) _
  have HB := Aside0.mk hb
  by_cases h1 : overB ⟨ls, errs, sees, jn, rc⟩ = true
  · have hE : logE ⟨ls, errs, sees, jn, rc⟩ = 3 := by simp [logE, h1]
    rw [hE]
    dsimp only [logV, overB] at *
    clear hE hL hb
    by_cases p1 : 4 < sees.length
    · have p1' : decide ((4 : Int) < sees.length) = true := decide_eq_true (by omega)
      have p1'' : decide (4 < sees.length) = true := decide_eq_true p1
      clear h1
      go_enter Tryz.func19, Tryz.ntmps19
      go_wp2
      go_ret
      exact ⟨rfl, HB.out⟩
    · have p1' : decide ((4 : Int) < sees.length) = false := decide_eq_false (by omega)
      have p1'' : decide (4 < sees.length) = false := decide_eq_false p1
      by_cases p2 : 8 < jn.length
      · have p2' : decide ((8 : Int) < jn.length) = true := decide_eq_true (by omega)
        have p2'' : decide (8 < jn.length) = true := decide_eq_true p2
        clear h1
        go_enter Tryz.func19, Tryz.ntmps19
        go_wp2
        go_ret
        exact ⟨rfl, HB.out⟩
      · have p2' : decide ((8 : Int) < jn.length) = false := decide_eq_false (by omega)
        have p2'' : decide (8 < jn.length) = false := decide_eq_false p2
        have p3 : 6 < rc.length := by simpa [p1'', p2''] using h1
        have p3' : decide ((6 : Int) < rc.length) = true := decide_eq_true (by omega)
        have p3'' : decide (6 < rc.length) = true := decide_eq_true p3
        clear h1
        go_enter Tryz.func19, Tryz.ntmps19
        go_wp2
        go_ret
        exact ⟨rfl, HB.out⟩
  · have hov := h1
    simp only [overB, Bool.or_eq_true, decide_eq_true_eq, not_or] at hov
    obtain ⟨⟨p1, p2⟩, p3⟩ := hov
    have p1' : decide ((4 : Int) < sees.length) = false := decide_eq_false (by omega)
    have p1'' : decide (4 < sees.length) = false := decide_eq_false p1
    have p2' : decide ((8 : Int) < jn.length) = false := decide_eq_false (by omega)
    have p2'' : decide (8 < jn.length) = false := decide_eq_false p2
    have p3' : decide ((6 : Int) < rc.length) = false := decide_eq_false (by omega)
    have p3'' : decide (6 < rc.length) = false := decide_eq_false p3
    have HC := Aside0.mk (checkCode_any A0 c0 ls _ (Kd.C_below hL.h0 hb) hL.l0 hL.z0)
    by_cases h2 : codeE ls = 0
    · have hE : logE ⟨ls, errs, sees, jn, rc⟩ = if badB ⟨ls, errs, sees, jn, rc⟩ = true then 1 else 0 := by simp only [logE]; rw [if_neg h1, if_neg (by simpa using h2)]
      have h58 : ∀ W, Below w.heap.size w W → Calls Tryz.prog 58 #[.slice A2 sees.length c2, .func (.func 59) #[] #[]] W fun e w' => e = .returned (.bool (sees.all seeB)) ∧ Below W.heap.size W w' := fun W hW => all_intm 59 #[] #[] enters59 seeB A2 c2 sees W (Kd.C_below hL.h2 hW) (fun x _ => see1 x W)
      have h61 : ∀ W, Below w.heap.size w W → Calls Tryz.prog 61 #[.slice A3 jn.length c3, .func (.func 55) #[logV ⟨A0, A2, A3, A4, c0, c2, c3, c4⟩ ⟨ls, errs, sees, jn, rc⟩] #[]] W fun e w' => e = .returned (.bool (jn.all (sentB ⟨ls, errs, sees, jn, rc⟩))) ∧ Below W.heap.size W w' := fun W hW => all_sent 55 #[logV ⟨A0, A2, A3, A4, c0, c2, c3, c4⟩ ⟨ls, errs, sees, jn, rc⟩] #[] enters55 (sentB ⟨ls, errs, sees, jn, rc⟩) A3 c3 jn W (Kd.C_below hL.h3 hW)
        (fun x _ W2 hW2 A5 c5 l5 g5 W3 hW3 => sent_any ⟨A0, A2, A3, A4, c0, c2, c3, c4⟩ ⟨ls, errs, sees, jn, rc⟩ x A5 c5 W3 (hL.below (below_next (below_next hW hW2) hW3)) (by show sees.length ≤ 100; omega) (Kd.C_below g5 hW3) l5)
      have h62 : ∀ W, Below w.heap.size w W → Calls Tryz.prog 62 #[.slice A4 rc.length c4, .func (.func 56) #[logV ⟨A0, A2, A3, A4, c0, c2, c3, c4⟩ ⟨ls, errs, sees, jn, rc⟩] #[]] W fun e w' => e = .returned (.bool (rc.all (recordB ⟨ls, errs, sees, jn, rc⟩))) ∧ Below W.heap.size W w' := fun W hW => all_rec 56 #[logV ⟨A0, A2, A3, A4, c0, c2, c3, c4⟩ ⟨ls, errs, sees, jn, rc⟩] #[] enters56 (recordB ⟨ls, errs, sees, jn, rc⟩) A4 c4 rc W (Kd.C_below hL.h4 hW)
        (fun x hx W3 hW3 => record_any ⟨A0, A2, A3, A4, c0, c2, c3, c4⟩ ⟨ls, errs, sees, jn, rc⟩ x W3 (by show sees.length ≤ 100; omega) (hL.z4 x hx))
      have hbd : badB ⟨ls, errs, sees, jn, rc⟩ = ((((!(inB errs 3) || sees.length == 0) || !sees.all seeB) || !jn.all (sentB ⟨ls, errs, sees, jn, rc⟩)) || !rc.all (recordB ⟨ls, errs, sees, jn, rc⟩)) := rfl
      rw [hbd] at hE
      rw [h2] at HC
      have hin : inB errs 3 = (decide (0 ≤ errs) && decide (errs ≤ 3)) := rfl
      dsimp only [logV] at *
      have H58 := Aside0.mk h58
      have H61 := Aside0.mk h61
      have H62 := Aside0.mk h62
      have HE := Aside0.mk hE
      have HIN := Aside0.mk hin
      clear h58 h61 h62 hE hL hb hbd h1 h2 hin p1 p2 p3
      generalize inB errs 3 = q1 at *
      generalize sees.all seeB = q3 at *
      generalize jn.all (sentB ⟨ls, errs, sees, jn, rc⟩) = q4 at *
      generalize rc.all (recordB ⟨ls, errs, sees, jn, rc⟩) = q5 at *
      generalize logE ⟨ls, errs, sees, jn, rc⟩ = R at *
      cases q1 with
      | false =>
        go_enter Tryz.func19, Tryz.ntmps19
        go_wp2_with (go_at_call 54; refine HC.out.mono ?_; rintro e w' ⟨rfl, hb'⟩; obtain ⟨hc', hf'⟩ := bcell hb'; have hz : w.heap.size < w'.heap.size := Nat.lt_of_lt_of_le (by simp) hb'.size; have HB' := Aside0.mk (below_next HB.out hb'); clear hb')
        go_quiet (fail)
        go_wp2_with (first
          | (go_at_call 57; refine (within_m _ _ _ _).mono ?_; rintro e w' ⟨rfl, rfl⟩; rw [← HIN.out]))
        go_ret
        exact ⟨by rw [HE.out]; rfl, (pw_below_drewN HB'.out _)⟩
      | true =>
        by_cases h0 : sees.length = 0
        · have h0' : ((sees.length : Int) == 0) = true := by rw [beq_iff_eq]; omega
          have h0'' : (sees.length == 0) = true := by rw [beq_iff_eq]; exact h0
          have HE2 := HE.out
          rw [h0''] at HE2
          have HE := Aside0.mk HE2
          clear HE2 h0
          go_enter Tryz.func19, Tryz.ntmps19
          go_wp2_with (go_at_call 54; refine HC.out.mono ?_; rintro e w' ⟨rfl, hb'⟩; obtain ⟨hc', hf'⟩ := bcell hb'; have hz : w.heap.size < w'.heap.size := Nat.lt_of_lt_of_le (by simp) hb'.size; have HB' := Aside0.mk (below_next HB.out hb'); clear hb')
          go_quiet (fail)
          go_wp2_with (first
            | (go_at_call 57; refine (within_m _ _ _ _).mono ?_; rintro e w' ⟨rfl, rfl⟩; rw [← HIN.out]))
          go_ret
          exact ⟨by rw [HE.out]; rfl, (pw_below_drewN HB'.out _)⟩
        · have h0' : ((sees.length : Int) == 0) = false := by rw [beq_eq_false_iff_ne]; omega
          have h0'' : (sees.length == 0) = false := by rw [beq_eq_false_iff_ne]; exact h0
          have HE2 := HE.out
          rw [h0''] at HE2
          have HE := Aside0.mk HE2
          clear HE2 h0
          cases q3 with
          | false =>
            go_enter Tryz.func19, Tryz.ntmps19
            go_wp2_with (go_at_call 54; refine HC.out.mono ?_; rintro e w' ⟨rfl, hb'⟩; obtain ⟨hc', hf'⟩ := bcell hb'; have hz : w.heap.size < w'.heap.size := Nat.lt_of_lt_of_le (by simp) hb'.size; have HB' := Aside0.mk (below_next HB.out hb'); clear hb')
            go_quiet (fail)
            go_wp2_with (first
              | (go_at_call 57; refine (within_m _ _ _ _).mono ?_; rintro e w' ⟨rfl, rfl⟩; rw [← HIN.out])
              | (go_at_call 58; refine (H58.out _ (pw_below_drewN HB'.out _)).mono ?_; rintro e w58 ⟨rfl, hb58⟩; have hc58 := fun o => hb58.cell (p := ⟨w.heap.size, o, none⟩) hz; have HB58 := Aside0.mk (below_next (pw_below_drewN HB'.out _) hb58); have hz58 : w.heap.size < w58.heap.size := Nat.lt_of_lt_of_le hz hb58.size; clear hb58))
            go_ret
            exact ⟨by rw [HE.out]; rfl, HB58.out⟩
          | true =>
            cases q4 with
            | false =>
              go_enter Tryz.func19, Tryz.ntmps19
              go_wp2_with (go_at_call 54; refine HC.out.mono ?_; rintro e w' ⟨rfl, hb'⟩; obtain ⟨hc', hf'⟩ := bcell hb'; have hz : w.heap.size < w'.heap.size := Nat.lt_of_lt_of_le (by simp) hb'.size; have HB' := Aside0.mk (below_next HB.out hb'); clear hb')
              go_quiet (fail)
              go_wp2_with (first
                | (go_at_call 57; refine (within_m _ _ _ _).mono ?_; rintro e w' ⟨rfl, rfl⟩; rw [← HIN.out])
                | (go_at_call 58; refine (H58.out _ (pw_below_drewN HB'.out _)).mono ?_; rintro e w58 ⟨rfl, hb58⟩; have hc58 := fun o => hb58.cell (p := ⟨w.heap.size, o, none⟩) hz; have HB58 := Aside0.mk (below_next (pw_below_drewN HB'.out _) hb58); have hz58 : w.heap.size < w58.heap.size := Nat.lt_of_lt_of_le hz hb58.size; clear hb58)
                | (go_at_call 61; refine (H61.out _ HB58.out).mono ?_; rintro e w61 ⟨rfl, hb61⟩; have hc61 := fun o => hb61.cell (p := ⟨w.heap.size, o, none⟩) hz58; have HB61 := Aside0.mk (below_next HB58.out hb61); have hz61 : w.heap.size < w61.heap.size := Nat.lt_of_lt_of_le hz58 hb61.size; clear hb61))
              go_ret
              exact ⟨by rw [HE.out]; rfl, HB61.out⟩
            | true =>
              cases q5 with
              | false =>
                go_enter Tryz.func19, Tryz.ntmps19
                go_wp2_with (go_at_call 54; refine HC.out.mono ?_; rintro e w' ⟨rfl, hb'⟩; obtain ⟨hc', hf'⟩ := bcell hb'; have hz : w.heap.size < w'.heap.size := Nat.lt_of_lt_of_le (by simp) hb'.size; have HB' := Aside0.mk (below_next HB.out hb'); clear hb')
                go_quiet (fail)
                go_wp2_with (first
                  | (go_at_call 57; refine (within_m _ _ _ _).mono ?_; rintro e w' ⟨rfl, rfl⟩; rw [← HIN.out])
                  | (go_at_call 58; refine (H58.out _ (pw_below_drewN HB'.out _)).mono ?_; rintro e w58 ⟨rfl, hb58⟩; have hc58 := fun o => hb58.cell (p := ⟨w.heap.size, o, none⟩) hz; have HB58 := Aside0.mk (below_next (pw_below_drewN HB'.out _) hb58); have hz58 : w.heap.size < w58.heap.size := Nat.lt_of_lt_of_le hz hb58.size; clear hb58)
                  | (go_at_call 61; refine (H61.out _ HB58.out).mono ?_; rintro e w61 ⟨rfl, hb61⟩; have hc61 := fun o => hb61.cell (p := ⟨w.heap.size, o, none⟩) hz58; have HB61 := Aside0.mk (below_next HB58.out hb61); have hz61 : w.heap.size < w61.heap.size := Nat.lt_of_lt_of_le hz58 hb61.size; clear hb61)
                  | (go_at_call 62; refine (H62.out _ HB61.out).mono ?_; rintro e w62 ⟨rfl, hb62⟩; have hc62 := fun o => hb62.cell (p := ⟨w.heap.size, o, none⟩) hz61; have HB62 := Aside0.mk (below_next HB61.out hb62); have hz62 : w.heap.size < w62.heap.size := Nat.lt_of_lt_of_le hz61 hb62.size; clear hb62))
                go_ret
                exact ⟨by rw [HE.out]; rfl, HB62.out⟩
              | true =>
                go_enter Tryz.func19, Tryz.ntmps19
                go_wp2_with (go_at_call 54; refine HC.out.mono ?_; rintro e w' ⟨rfl, hb'⟩; obtain ⟨hc', hf'⟩ := bcell hb'; have hz : w.heap.size < w'.heap.size := Nat.lt_of_lt_of_le (by simp) hb'.size; have HB' := Aside0.mk (below_next HB.out hb'); clear hb')
                go_quiet (fail)
                go_wp2_with (first
                  | (go_at_call 57; refine (within_m _ _ _ _).mono ?_; rintro e w' ⟨rfl, rfl⟩; rw [← HIN.out])
                  | (go_at_call 58; refine (H58.out _ (pw_below_drewN HB'.out _)).mono ?_; rintro e w58 ⟨rfl, hb58⟩; have hc58 := fun o => hb58.cell (p := ⟨w.heap.size, o, none⟩) hz; have HB58 := Aside0.mk (below_next (pw_below_drewN HB'.out _) hb58); have hz58 : w.heap.size < w58.heap.size := Nat.lt_of_lt_of_le hz hb58.size; clear hb58)
                  | (go_at_call 61; refine (H61.out _ HB58.out).mono ?_; rintro e w61 ⟨rfl, hb61⟩; have hc61 := fun o => hb61.cell (p := ⟨w.heap.size, o, none⟩) hz58; have HB61 := Aside0.mk (below_next HB58.out hb61); have hz61 : w.heap.size < w61.heap.size := Nat.lt_of_lt_of_le hz58 hb61.size; clear hb61)
                  | (go_at_call 62; refine (H62.out _ HB61.out).mono ?_; rintro e w62 ⟨rfl, hb62⟩; have hc62 := fun o => hb62.cell (p := ⟨w.heap.size, o, none⟩) hz61; have HB62 := Aside0.mk (below_next HB61.out hb62); have hz62 : w.heap.size < w62.heap.size := Nat.lt_of_lt_of_le hz61 hb62.size; clear hb62))
                go_ret
                exact ⟨by rw [HE.out]; rfl, HB62.out⟩
    · have hE : logE ⟨ls, errs, sees, jn, rc⟩ = codeE ls := by simp only [logE]; rw [if_neg h1, if_pos (by simpa using h2)]
      rw [hE]
      have hd : (codeE ls != 0) = true := bne_iff_ne.2 h2
      dsimp only [logV] at *
      clear hE hL hb h1 h2 p1 p2 p3
      generalize codeE ls = q at *
      go_enter Tryz.func19, Tryz.ntmps19
      go_wp2_with (go_at_call 54; refine HC.out.mono ?_; rintro e w' ⟨rfl, hb'⟩; obtain ⟨hc', hf'⟩ := bcell hb'; have hz : w.heap.size < w'.heap.size := Nat.lt_of_lt_of_le (by simp) hb'.size; have HB' := Aside0.mk (below_next HB.out hb'); clear hb')
      go_ret
      exact ⟨rfl, HB'.out⟩
def askE (l : Lg) (n : Int) : Int := if logE l ≠ 0 then logE l else if inB n (l.rc.length - 1) = false then 2 else 0
theorem logE_len {l : Lg} (h : logE l = 0) : l.sees.length ≤ 4 ∧ l.jn.length ≤ 8 ∧ l.rc.length ≤ 6 := by
  unfold logE at h
  split at h
  · cases h
  · rename_i h1
    simp only [overB, Bool.or_eq_true, decide_eq_true_eq, not_or] at h1
    omega
set_option maxHeartbeats 2000000 in
set_option maxRecDepth 100000 in
theorem asked_any (a : LV) (l : Lg) (n : Int) (w : World) (hL : LogAt w a l) :
    Calls Tryz.prog 64 #[logV a l, .int .i64 n] w fun e w' => e = .returned (.int .i64 (askE l n)) ∧ Below w.heap.size w w' := by
  have hu := Tryz.underlying38
  have hb : Below w.heap.size w (w.alloc (.cells #[.slice a.A0 l.ls.length a.c0, .int .i64 l.errs, .slice a.A2 l.sees.length a.c2, .slice a.A3 l.jn.length a.c3, .slice a.A4 l.rc.length a.c4] 38)) := (Below.refl _ w).alloc (Nat.le_refl _) _
  have hcon := checkLog_any a l _ (hL.below hb)
  have hlen := fun h => (logE_len (l := l) h).2.2
  have hE : askE l n = if logE l ≠ 0 then logE l else if inB n (l.rc.length - 1) = false then 2 else 0 := rfl
  obtain ⟨A0, A2, A3, A4, c0, c2, c3, c4⟩ := a
  obtain ⟨ls, errs, sees, jn, rc⟩ := l
  dsimp only [logV] at *
  have HB := Aside0.mk hb
  have HC := Aside0.mk hcon
  have HE := Aside0.mk hE
  clear hb hcon hL hE
  generalize askE ⟨ls, errs, sees, jn, rc⟩ n = R at *
  generalize logE ⟨ls, errs, sees, jn, rc⟩ = q at *
  by_cases h0 : q = 0
  · subst h0
    have hl6 := hlen rfl
    clear hlen
    have hin : inB n (rc.length - 1) = (decide (0 ≤ n) && decide (n ≤ (rc.length : Int) - 1)) := rfl
    have HIN := Aside0.mk hin
    clear hin
    generalize inB n (rc.length - 1) = q2 at *
    cases q2 with
    | true =>
      go_enter Tryz.func64, Tryz.ntmps64
      go_wp2_with (first
        | (go_at_call 19; refine HC.out.mono ?_; rintro e w' ⟨rfl, hb'⟩; obtain ⟨hc', hf'⟩ := bcell hb'; have hz : w.heap.size < w'.heap.size := Nat.lt_of_lt_of_le (by simp) hb'.size; have HB' := Aside0.mk (below_next HB.out hb'); clear hb')
        | (go_at_call 57; refine (within_m _ _ _ _).mono ?_; rintro e w' ⟨rfl, rfl⟩; rw [← HIN.out]))
      go_ret
      exact ⟨by rw [HE.out]; rfl, HB'.out⟩
    | false =>
      go_enter Tryz.func64, Tryz.ntmps64
      go_wp2_with (first
        | (go_at_call 19; refine HC.out.mono ?_; rintro e w' ⟨rfl, hb'⟩; obtain ⟨hc', hf'⟩ := bcell hb'; have hz : w.heap.size < w'.heap.size := Nat.lt_of_lt_of_le (by simp) hb'.size; have HB' := Aside0.mk (below_next HB.out hb'); clear hb')
        | (go_at_call 57; refine (within_m _ _ _ _).mono ?_; rintro e w' ⟨rfl, rfl⟩; rw [← HIN.out]))
      go_ret
      exact ⟨by rw [HE.out]; rfl, HB'.out⟩
  · have hd : (q != 0) = true := bne_iff_ne.2 h0
    rw [if_pos h0] at HE
    clear hlen h0
    go_enter Tryz.func64, Tryz.ntmps64
    go_wp2_with (go_at_call 19; refine HC.out.mono ?_; rintro e w' ⟨rfl, hb'⟩; obtain ⟨hc', hf'⟩ := bcell hb'; have hz : w.heap.size < w'.heap.size := Nat.lt_of_lt_of_le (by simp) hb'.size; have HB' := Aside0.mk (below_next HB.out hb'); clear hb')
    go_ret
    exact ⟨by rw [HE.out]; rfl, HB'.out⟩
end Go.Proofs.YthgfhgjlilmieaaGreat.G
namespace Go.Proofs.YthgfhgjlilmieaaGreat.G
open Go.RowKit Go.Shelf Go.Proofs.YthgfhgjlilmieaaGreatW.PrintWords Go.Proofs.YthgfhgjlilmieaaGreatW.PrintLast Go.Proofs.YthgfhgjlilmieaaGreatW.PrintMore
open Go.Proofs.YthgfhgjlilmieaaGreat.B
attribute [local go_sem] Oper.semAt_some RunTo
set_option linter.unusedVariables false
set_option linter.unusedSimpArgs false
def partOf (t : List Int) (lo hi : Nat) : List Int := (t.take hi).drop lo
def highs (t : List Int) (lo hi : Nat) : List (List Int) := (List.range' hi (t.length + 1 - hi)).map (partOf t lo)
def lows (t : List Int) (lo : Nat) : List (List Int) := (List.range' lo (t.length - lo)).flatMap fun x => highs t x (x + 1)
def jns (l : Lg) (before : Int) (i : Nat) : List (List Int) := (l.jn.drop i).flatMap fun s => if heardB l s before = true then lows s.f2 0 else []
def partsL (l : Lg) (before : Int) : List (List Int) := jns l before 0
theorem highs_step {t : List Int} {lo hi : Nat} (h : hi ≤ t.length) : highs t lo hi = partOf t lo hi :: highs t lo (hi + 1) := by
  unfold highs
  rw [show t.length + 1 - hi = (t.length + 1 - (hi + 1)) + 1 by omega, List.range'_succ, List.map_cons]
theorem highs_end {t : List Int} {lo hi : Nat} (h : t.length < hi) : highs t lo hi = [] := by
  unfold highs
  rw [show t.length + 1 - hi = 0 by omega]; rfl
theorem lows_step {t : List Int} {lo : Nat} (h : lo < t.length) : lows t lo = highs t lo (lo + 1) ++ lows t (lo + 1) := by
  unfold lows
  rw [show t.length - lo = (t.length - (lo + 1)) + 1 by omega, List.range'_succ, List.flatMap_cons]
theorem lows_end {t : List Int} {lo : Nat} (h : t.length ≤ lo) : lows t lo = [] := by
  unfold lows
  rw [show t.length - lo = 0 by omega]; rfl
theorem jns_hit {l : Lg} {before : Int} {i : Nat} (h : i < l.jn.length) (hh : heardB l l.jn[i] before = true) : jns l before i = lows l.jn[i].f2 0 ++ jns l before (i + 1) := by
  unfold jns
  rw [List.drop_eq_getElem_cons h, List.flatMap_cons, if_pos hh]
theorem jns_miss {l : Lg} {before : Int} {i : Nat} (h : i < l.jn.length) (hh : heardB l l.jn[i] before = false) : jns l before i = jns l before (i + 1) := by
  unfold jns
  rw [List.drop_eq_getElem_cons h, List.flatMap_cons, if_neg (by rw [hh]; simp), List.nil_append]
theorem jns_end {l : Lg} {before : Int} {i : Nat} (h : l.jn.length ≤ i) : jns l before i = [] := by
  unfold jns
  rw [List.drop_eq_nil_of_le h]; rfl
structure PT where
  A : Option Addr
  c : Nat
  xs : List Int
abbrev PX (w : World) (l : Lg) (before : Int) := { p : PT // Kd.C (Kd.int .i64) w p.A p.xs.length p.xs ∧ p.xs.length ≤ p.c ∧ p.xs ∈ partsL l before }
def texts' {w : World} {l : Lg} {before : Int} (pre : List (PX w l before)) : List (List Int) := pre.map (·.1.xs)
theorem texts_snoc {w : World} {l : Lg} {before : Int} (pre : List (PX w l before)) (x : PX w l before) : texts' (pre ++ [x]) = texts' pre ++ [x.1.xs] := by simp [texts']
theorem alloc_new (W : World) (o : Obj) : (W.alloc o).heap[W.heap.size]? = some o := by
  show (W.heap.push o)[W.heap.size]? = some o
  simp
def KpP (n0 B1 B2 n1 : Nat) (W W' : World) : Prop := Below n0 W W' ∧ ∀ k c t f, t ≠ 25 → (k = B1 ∨ k = B2 ∨ n1 ≤ k) → W.heap[k]? = some (.cells c t f) → W'.heap[k]? = some (.cells c t f)
theorem KpP.t {n0 B1 B2 n1 : Nat} {X Y Z : World} (h : KpP n0 B1 B2 n1 X Y) (k : KpP n0 B1 B2 n1 Y Z) : KpP n0 B1 B2 n1 X Z := ⟨h.1.trans k.1, fun i c t f ht hi hc => k.2 i c t f ht hi (h.2 i c t f ht hi hc)⟩
theorem KpP.b {n0 B1 B2 n1 : Nat} (W : World) (l : Nat) (o o' : Obj) (hn : n0 ≤ l) (hl : W.heap[l]? = some o) (ho : o.isCells = false) : KpP n0 B1 B2 n1 W (W.putObj l o') := by
  have hg := grownBy_putObj' W l o'
  refine ⟨(Below.refl n0 W).grown hg (by have := (Array.getElem?_eq_some_iff.1 hl).1; omega) (fun k e => by cases e; exact hn), fun k c t f _ _ hc => (hg.block k (Array.getElem?_eq_some_iff.1 hc).1 (fun e => ?_)).trans hc⟩
  cases e
  rw [hl] at hc
  cases hc
  cases ho
theorem KpP.below {n0 B1 B2 n1 : Nat} {W W' : World} (h : Below W.heap.size W W') (hn : n0 ≤ W.heap.size) : KpP n0 B1 B2 n1 W W' := ⟨h.mono hn, fun k c t f _ _ hc => (h.block k (Array.getElem?_eq_some_iff.1 hc).1).trans hc⟩
set_option maxRecDepth 100000 in
set_option maxHeartbeats 8000000 in
theorem parts1_in (n lo_ B1 B2 n1 : Nat) (a : LV) (l : Lg) (before : Int) (w : World) (J Jx : List (PX w l before) → World → Prop) (W : World) (hn : 1 ≤ n) (hL : LogAt w a l) (hj : l.jn.length ≤ 8)
    (hst : ∀ s, s ∈ l.jn → 0 ≤ s.f1 ∧ s.f1 < l.sees.length ∧ s.f2.length ≤ 5)
    (hJ : AbidesFrom W.heap.size J) (hw : w.heap.size ≤ W.heap.size) (hn1 : n1 ≤ W.heap.size) (hbW : Below w.heap.size w W)
    (hY : ∀ pre x W1, J pre W1 → pre.length < (partsL l before).length → YieldAt Fence.wide (n - 1) Tryz.prog lo_ #[.slice x.1.A x.1.xs.length x.1.c] W1 fun e W' =>
      (e = .returned (.bool true) ∧ J (pre ++ [x]) W' ∧ KpP w.heap.size B1 B2 n1 W1 W') ∨ (e = .returned (.bool false) ∧ Jx (pre ++ [x]) W'))
    (hB1 : W.heap[B1]? = some (.cells #[.slice a.A0 l.ls.length a.c0, .int .i64 l.errs, .slice a.A2 l.sees.length a.c2, .slice a.A3 l.jn.length a.c3, .slice a.A4 l.rc.length a.c4] 38 (0, 0)))
    (hB2 : W.heap[B2]? = some (.cells #[.int .i64 before] 3 (0, 0))) (h0 : J [] W) :
    CallsIn Fence.wide n Tryz.prog 128 #[.func (.yield lo_) #[] #[], .pointer (some ⟨B1, 0, none⟩), .pointer (some ⟨B2, 0, none⟩)] W fun e W' => (∃ v, e = .returned v) ∧
      ((∃ ys, texts' ys = partsL l before ∧ J ys W') ∨ (∃ pre, True ∧ Jx pre W')) := by
  have HJ := Aside0.mk hJ
  have HY := Aside0.mk hY
  have HST := Aside0.mk hst
  have HL := Aside0.mk hL
  obtain ⟨A0, A2, A3, A4, c0, c2, c3, c4⟩ := a
  have HB1 := Aside0.mk hB1
  have HB2 := Aside0.mk hB2
  have HBW := Aside0.mk hbW
  dsimp only at *
  have hu := Tryz.underlying38
  have hu1 := Tryz.underlying76
  have hb1 : W.cell? ⟨B1, 3, none⟩ = some (.slice A3 l.jn.length c3) := by simp [World.cell?, hB1]
  have hlt1 : B1 < W.heap.size := (Array.getElem?_eq_some_iff.1 hB1).1
  have hlt2 : B2 < W.heap.size := (Array.getElem?_eq_some_iff.1 hB2).1
  have hfn : ∀ f, Fence.wide.fn f := fun _ => trivial
  clear hY hJ hst hL hB1 hB2 hbW
  refine callsIn_of_wp Tryz.func128 rfl trivial ?_ rfl
  simp only [Tryz.ntmps128, List.size_toArray, List.length_cons, List.length_nil, Nat.reduceAdd, Nat.reduceSub, Array.replicate_succ, Array.replicate_zero, List.push_toArray, List.append_toArray, List.nil_append, List.cons_append]
  gi_wp2
  gi_loopw [11] (fun v wr => ∃ (i : Nat) (pre : List (PX w l before)), i ≤ l.jn.length ∧ v = .int .i64 i ∧ Aside0 (texts' pre ++ jns l before i = partsL l before) ∧ Aside0 (J pre wr) ∧ Aside0 (wr.heap[B1]? = some (.cells #[.slice A0 l.ls.length c0, .int .i64 l.errs, .slice A2 l.sees.length c2, .slice A3 l.jn.length c3, .slice A4 l.rc.length c4] 38 (0, 0))) ∧ Aside0 (wr.heap[B2]? = some (.cells #[.int .i64 before] 3 (0, 0))) ∧ Aside0 (Below w.heap.size w wr) ∧ W.heap.size ≤ wr.heap.size)
    (fun v _ => l.jn.length - (intOf v).toNat)
  case atStart =>
    exact ⟨0, [], by omega, rfl, ⟨rfl⟩, ⟨h0⟩, HB1, HB2, HBW, Nat.le_refl _⟩
  case round =>
    obtain ⟨i, pre, hi, rfl, HP, HJk, HB1, HB2, HBW, hWr⟩ := hrel
    by_cases hlt : i < l.jn.length
    · have hsi := HST.out l.jn[i] (List.getElem_mem hlt)
      have hhit := fun h => jns_hit (l := l) (before := before) hlt h
      have hmiss := fun h => jns_miss (l := l) (before := before) hlt h
      obtain ⟨ad, A5, c5, e1, hx0, hx1, hx2, l5, g5⟩ := at_T76 HL.out.h3 (i : Int) (by omega) (by omega)
      dsimp only at e1
      cases e1
      have hxk : rd_T76 l.jn (i : Int) = l.jn[i] := by simp [rd_T76, hlt]
      rw [hxk, Int.toNat_natCast] at hx0 hx1 hx2
      rw [hxk] at l5 g5
      clear hxk
      generalize l.jn[i] = s at *
      obtain ⟨f0, f1, f2⟩ := s
      dsimp only at *
      have y0 := pw_cell_below HBW.out hx0
      have y1 := pw_cell_below HBW.out hx1
      have y2 := pw_cell_below HBW.out hx2
      have hltz : (i : Int) < (l.jn.length : Int) := by omega
      have hb1 : wr.cell? ⟨B1, 0, none⟩ = some (.slice A0 l.ls.length c0) ∧ wr.cell? ⟨B1, 1, none⟩ = some (.int .i64 l.errs) ∧ wr.cell? ⟨B1, 2, none⟩ = some (.slice A2 l.sees.length c2) ∧ wr.cell? ⟨B1, 3, none⟩ = some (.slice (some ad) l.jn.length c3) ∧ wr.cell? ⟨B1, 4, none⟩ = some (.slice A4 l.rc.length c4) := by simp [World.cell?, HB1.out]
      have hbl : ∀ (o : Obj) (k : Nat), k < wr.heap.size → ∀ j, (wr.alloc o).cell? ⟨k, j, none⟩ = wr.cell? ⟨k, j, none⟩ := fun o k hk j => ((Below.refl _ wr).alloc (Nat.le_refl _) o).cell (p := ⟨k, j, none⟩) (by simpa using hk)
      have zc : ∀ o : Obj, (wr.alloc o).cell? ⟨B1, 0, none⟩ = some (.slice A0 l.ls.length c0) ∧ (wr.alloc o).cell? ⟨B1, 1, none⟩ = some (.int .i64 l.errs) ∧ (wr.alloc o).cell? ⟨B1, 2, none⟩ = some (.slice A2 l.sees.length c2) ∧ (wr.alloc o).cell? ⟨B1, 3, none⟩ = some (.slice (some ad) l.jn.length c3) ∧ (wr.alloc o).cell? ⟨B1, 4, none⟩ = some (.slice A4 l.rc.length c4) ∧ (wr.alloc o).cell? ⟨B2, 0, none⟩ = some (.int .i64 before) := by
        intro o
        simp only [hbl o B1 (by omega), hbl o B2 (by omega), hb1, true_and]
        simp [World.cell?, HB2.out]
      have zc0 := fun o => (zc o).1
      have zc1 := fun o => (zc o).2.1
      have zc2 := fun o => (zc o).2.2.1
      have zc3 := fun o => (zc o).2.2.2.1
      have zc4 := fun o => (zc o).2.2.2.2.1
      have zc5 := fun o => (zc o).2.2.2.2.2
      clear zc hbl
      obtain ⟨z0, z1, z2, z3, z4⟩ := hb1
      have zb : wr.cell? ⟨B2, 0, none⟩ = some (.int .i64 before) := by simp [World.cell?, HB2.out]
      have hne1 : wr.heap.size ≠ B1 := by omega
      have hne2 : B1 ≠ wr.heap.size := by omega
      have hne3 : wr.heap.size ≠ B2 := by omega
      have hne4 : B2 ≠ wr.heap.size := by omega
      have ba : Below wr.heap.size wr (wr.alloc (.cells #[.int .i64 f0, .int .i64 f1, .slice A5 f2.length c5] 76)) := (Below.refl _ wr).alloc (Nat.le_refl _) _
      have hheard := heard_any ⟨A0, A2, some ad, A4, c0, c2, c3, c4⟩ l ⟨f0, f1, f2⟩ A5 c5 before _ (HL.out.below (below_next HBW.out ba)) hsi.1 hsi.2.1
      have HH := Aside0.mk hheard
      have BA := Aside0.mk ba
      have G5 := Aside0.mk g5
      have HHIT := Aside0.mk hhit
      have HMISS := Aside0.mk hmiss
      have HSI := Aside0.mk hsi.2.2
      clear hheard ba g5 hx0 hx1 hx2 hhit hmiss hsi
      dsimp only [logV] at HH
      cases hq : heardB l ⟨f0, f1, f2⟩ before with
      | false =>
        rw [hq] at HH
        have HQ := Aside0.mk hq
        clear hq
        gi_wp2_with (gi_at_call 129; refine (callsIn_wide.2 HH.out).mono ?_; rintro e w2 ⟨rfl, hb2⟩; have HB' := Aside0.mk hb2; clear hb2)
        have bw := below_next BA.out HB'.out
        go_roundw
        case rel => exact ⟨i + 1, pre, by omega, by go_num, ⟨by rw [← HMISS.out HQ.out]; exact HP.out⟩, ⟨HJ.out _ _ _ none HJk.out (grown_of_below bw none) (fun r e => by cases e)⟩, ⟨(bw.block B1 (by omega)).trans HB1.out⟩, ⟨(bw.block B2 (by omega)).trans HB2.out⟩, ⟨below_next HBW.out bw⟩, Nat.le_trans hWr bw.size⟩
        case measure => simp [intOf]; omega
      | true =>
        rw [hq] at HH
        have HQ := Aside0.mk hq
        clear hq
        have hp1 := HP.out
        rw [HHIT.out HQ.out] at hp1
        have HP1 := Aside0.mk hp1
        clear hp1
        gi_wp2_with (gi_at_call 129; refine (callsIn_wide.2 HH.out).mono ?_; rintro e w2 ⟨rfl, hb2⟩; have c52 : w2.cell? ⟨wr.heap.size, 2, none⟩ = some (.slice A5 f2.length c5) := (hb2.cell (p := ⟨wr.heap.size, 2, none⟩) (by simp)).trans (by simp); have HB' := Aside0.mk hb2; clear hb2)
        have bw := below_next BA.out HB'.out
        have hs1 : w2.heap[wr.heap.size]? = some (.cells #[.int .i64 f0, .int .i64 f1, .slice A5 f2.length c5] 76 (0, 0)) := (HB'.out.block wr.heap.size (by simp)).trans (alloc_new wr _)
        have hJ2 : J pre w2 := HJ.out _ _ _ none HJk.out (grown_of_below bw none) (fun r e => by cases e)
        have hc1 : w2.heap[B1]? = some (.cells #[.slice A0 l.ls.length c0, .int .i64 l.errs, .slice A2 l.sees.length c2, .slice (some ad) l.jn.length c3, .slice A4 l.rc.length c4] 38 (0, 0)) := (bw.block B1 (by omega)).trans HB1.out
        have hc2 : w2.heap[B2]? = some (.cells #[.int .i64 before] 3 (0, 0)) := (bw.block B2 (by omega)).trans HB2.out
        have hW2 : W.heap.size ≤ w2.heap.size := Nat.le_trans hWr bw.size
        have hbW2 := below_next HBW.out bw
        have HS1 := Aside0.mk hs1
        have HJ2 := Aside0.mk hJ2
        have HC1 := Aside0.mk hc1
        have HC2 := Aside0.mk hc2
        have HBW2 := Aside0.mk hbW2
        obtain ⟨s5, hs5⟩ : ∃ s5, s5 = wr.heap.size := ⟨_, rfl⟩
        have hs5n : n1 ≤ s5 := by omega
        have h5 : f2.length ≤ 5 := HSI.out
        have hs5w : w.heap.size ≤ s5 := by omega
        rw [← hs5] at HS1 c52
        rw [← hs5]
        have HS5 := Aside0.mk hs5
        clear hs5 hs1 hJ2 hc1 hc2 hbW2 bw HB' HB1 HB2 HJk HBW
        gi_loopw [23] (fun v W3 => ∃ (lo : Nat) (pre : List (PX w l before)), lo ≤ f2.length ∧ v = .int .i64 lo ∧ Aside0 (texts' pre ++ (lows f2 lo ++ jns l before (i + 1)) = partsL l before) ∧ Aside0 (J pre W3) ∧ Aside0 (W3.heap[s5]? = some (.cells #[.int .i64 f0, .int .i64 f1, .slice A5 f2.length c5] 76 (0, 0))) ∧ Aside0 (W3.heap[B1]? = some (.cells #[.slice A0 l.ls.length c0, .int .i64 l.errs, .slice A2 l.sees.length c2, .slice (some ad) l.jn.length c3, .slice A4 l.rc.length c4] 38 (0, 0))) ∧ Aside0 (W3.heap[B2]? = some (.cells #[.int .i64 before] 3 (0, 0))) ∧ Aside0 (Below w.heap.size w W3) ∧ W.heap.size ≤ W3.heap.size)
          (fun v _ => f2.length - (intOf v).toNat)
        case atStart =>
          exact ⟨0, pre, by omega, rfl, HP1, HJ2, HS1, HC1, HC2, HBW2, hW2⟩
        case round =>
          obtain ⟨lo, pre, hlo, rfl, HP, HJk, HS, HB1, HB2, HBW, hWr3⟩ := hrel
          have hx : wr.cell? ⟨s5, 2, none⟩ = some (.slice A5 f2.length c5) := by simp [World.cell?, HS.out]
          by_cases hlt2 : lo < f2.length
          · have hltz2 : (lo : Int) < (f2.length : Int) := by omega
            have hp := HP.out
            rw [lows_step hlt2, List.append_assoc] at hp
            have HP3 := Aside0.mk hp
            clear hp HP
            gi_wp2
            gi_loopw [7] (fun v W3 => ∃ (hj : Nat) (pre : List (PX w l before)), lo + 1 ≤ hj ∧ hj ≤ f2.length + 1 ∧ v = .int .i64 hj ∧ Aside0 (texts' pre ++ (highs f2 lo hj ++ (lows f2 (lo + 1) ++ jns l before (i + 1))) = partsL l before) ∧ Aside0 (J pre W3) ∧ Aside0 (W3.heap[s5]? = some (.cells #[.int .i64 f0, .int .i64 f1, .slice A5 f2.length c5] 76 (0, 0))) ∧ Aside0 (W3.heap[B1]? = some (.cells #[.slice A0 l.ls.length c0, .int .i64 l.errs, .slice A2 l.sees.length c2, .slice (some ad) l.jn.length c3, .slice A4 l.rc.length c4] 38 (0, 0))) ∧ Aside0 (W3.heap[B2]? = some (.cells #[.int .i64 before] 3 (0, 0))) ∧ Aside0 (Below w.heap.size w W3) ∧ W.heap.size ≤ W3.heap.size)
              (fun v _ => f2.length + 1 - (intOf v).toNat)
            case atStart =>
              exact ⟨lo + 1, pre, by omega, by omega, by go_num, HP3, HJk, HS, HB1, HB2, HBW, hWr3⟩
            case round =>
              obtain ⟨hk, pre, hk1, hk2, rfl, HP, HJk, HS, HB1, HB2, HBW, hWr3⟩ := hrel
              have hx : wr.cell? ⟨s5, 2, none⟩ = some (.slice A5 f2.length c5) := by simp [World.cell?, HS.out]
              by_cases hlt3 : hk ≤ f2.length
              · have hltz3 : (hk : Int) ≤ (f2.length : Int) := by omega
                have hp := HP.out
                rw [highs_step hlt3, List.cons_append] at hp
                have HP3 := Aside0.mk hp
                clear hp HP
                obtain ⟨i0, hi0, _, hsz, _⟩ := info_parts info3
                obtain ⟨A6, hcut, hA, hC⟩ := print_mid_int (P := Tryz.prog) (k := .i64) 25 3 Tryz.underlying25 hi0 hsz A5 c5 f2 (lo : Int) (hk : Int) (by omega) (by omega) (by omega) l5
                rw [Int.toNat_natCast, Int.toNat_natCast] at hcut hA hC
                have hC6 := Kd.C_of_reads (h1 := fun _ => rfl) (hA w (Kd.reads_of_C G5.out))
                have hx1 : (f2.take hk).drop lo ∈ partsL l before := by rw [← HP3.out]; simp [partOf]
                obtain ⟨x, hxe⟩ : ∃ x : PX w l before, x.1 = ⟨A6, c5 - lo, (f2.take hk).drop lo⟩ := ⟨⟨⟨A6, c5 - lo, (f2.take hk).drop lo⟩, hC6, hC, hx1⟩, rfl⟩
                have HX := Aside0.mk hxe
                obtain ⟨fn, tmps, assign, body, hy, hR⟩ := HY.out pre x wr HJk.out (by have := congrArg List.length HP3.out; simp [texts'] at this; omega)
                have HR := Aside0.mk hR
                rw [hxe] at hy
                dsimp only at hy
                rw [show ((f2.take hk).drop lo).length = hk - lo by rw [List.length_drop, List.length_take]; omega] at hy
                clear hR hA hC hC6 hx1 hi0 hsz hxe
                gi_wp2
                refine HR.out.mono ?_
                rintro e W4 (⟨rfl, hJ3, hk3⟩ | ⟨rfl, hJx3⟩)
                · have HJ3 := Aside0.mk hJ3
                  have HK3 := Aside0.mk hk3
                  clear hJ3 hk3
                  gi_wp2
                  go_roundw
                  case rel => exact ⟨hk + 1, _, by omega, by omega, by go_num, ⟨by rw [texts_snoc, HX.out]; simpa [partOf] using HP3.out⟩, HJ3, ⟨HK3.out.2 _ _ _ _ (by decide) (.inr (.inr hs5n)) HS.out⟩, ⟨HK3.out.2 _ _ _ _ (by decide) (.inl rfl) HB1.out⟩, ⟨HK3.out.2 _ _ _ _ (by decide) (.inr (.inl rfl)) HB2.out⟩, ⟨HBW.out.trans HK3.out.1⟩, Nat.le_trans hWr3 HK3.out.1.size⟩
                  case measure => simp [intOf]; omega
                · have HJx := Aside0.mk hJx3
                  clear hJx3
                  gi_wp2
                  refine bodyPost_ret (results_none rfl _ _ _) rfl ?_
                  exact ⟨⟨_, rfl⟩, .inr ⟨_, trivial, HJx.out⟩⟩
              · have hltz3 : ¬ (hk : Int) ≤ (f2.length : Int) := by omega
                have hp := HP.out
                rw [highs_end (by omega), List.nil_append] at hp
                have HP3 := Aside0.mk hp
                clear hp HP
                gi_wp2
                go_roundw
                case rel => exact ⟨lo + 1, pre, by omega, by go_num, HP3, HJk, HS, HB1, HB2, HBW, hWr3⟩
                case measure => simp [intOf]; omega
          · have hk : lo = f2.length := by omega
            subst hk
            have hp := HP.out
            rw [lows_end (Nat.le_refl _), List.nil_append] at hp
            have HP2 := Aside0.mk hp
            clear hp HP
            gi_wp2
            go_roundw
            case rel => exact ⟨i + 1, pre, by omega, by go_num, HP2, HJk, HB1, HB2, HBW, hWr3⟩
            case measure => simp [intOf]; omega
    · have hk : i = l.jn.length := by omega
      subst hk
      have hp := HP.out
      rw [jns_end (Nat.le_refl _), List.append_nil] at hp
      have HP2 := Aside0.mk hp
      clear hp
      gi_wp2
      go_end0
      exact ⟨⟨_, rfl⟩, .inl ⟨_, HP2.out, HJk.out⟩⟩
end Go.Proofs.YthgfhgjlilmieaaGreat.G
namespace Go.Proofs.YthgfhgjlilmieaaGreat.G
open Go.RowKit Go.Shelf Go.Proofs.YthgfhgjlilmieaaGreatW.PrintWords Go.Proofs.YthgfhgjlilmieaaGreatW.PrintLast Go.Proofs.YthgfhgjlilmieaaGreatW.PrintMore
open Go.Proofs.YthgfhgjlilmieaaGreat.B
set_option linter.unusedVariables false
set_option linter.unusedSimpArgs false
theorem alloc_old {W : World} {k i : Nat} {v : Value} (h : W.cell? ⟨k, i, none⟩ = some v) (hk : k < W.heap.size) (o : Obj) : (W.alloc o).cell? ⟨k, i, none⟩ = some v := (((Below.refl _ W).alloc (Nat.le_refl _) o).cell (p := ⟨k, i, none⟩) hk).trans h
set_option maxHeartbeats 1000000 in
theorem parts_any (a : LV) (l : Lg) (before : Int) (w : World) : Calls Tryz.prog 99 #[logV a l, .int .i64 before] w fun e w' => e = .returned (.func (.func 128) #[] #[.pointer (some ⟨w.heap.size, 0, none⟩), .pointer (some ⟨w.heap.size + 1, 0, none⟩)]) ∧
    w' = (w.alloc (.cells #[.slice a.A0 l.ls.length a.c0, .int .i64 l.errs, .slice a.A2 l.sees.length a.c2, .slice a.A3 l.jn.length a.c3, .slice a.A4 l.rc.length a.c4] 38)).alloc (.cells #[.int .i64 before] 3) := by
  have hu := Tryz.underlying38
  go_enter Tryz.func99, Tryz.ntmps99
  go_wp2
  go_ret
  exact ⟨rfl, rfl⟩
def hitB (l : Lg) (r : S75) (s : S76) : Bool := (s.f0 == r.f0 && s.f1 == r.f1) && readsB l s.f2 r.f2
def statK (l : Lg) (r : S75) (k : Nat) : List Int := ((List.range k).filter fun (i : Nat) => hitB l r (rd_T76 l.jn i)).map fun (i : Nat) => (i : Int)
def statL (l : Lg) (r : S75) : List Int := statK l r l.jn.length
theorem statK_hit {l : Lg} {r : S75} {k : Nat} (h : hitB l r (rd_T76 l.jn k) = true) : statK l r (k + 1) = statK l r k ++ [(k : Int)] := by
  simp [statK, List.range_succ, h]
theorem statK_miss {l : Lg} {r : S75} {k : Nat} (h : hitB l r (rd_T76 l.jn k) = false) : statK l r (k + 1) = statK l r k := by
  simp [statK, List.range_succ, h]
theorem statK_len (l : Lg) (r : S75) (k : Nat) : (statK l r k).length ≤ k := by
  simp only [statK, List.length_map]
  exact Nat.le_trans (List.length_filter_le _ _) (by simp)
set_option maxHeartbeats 4000000 in
set_option maxRecDepth 100000 in
theorem stations_any (a : LV) (l : Lg) (rec : Int) (w : World) (hL : LogAt w a l) (h0 : 0 ≤ rec) (h1 : rec < l.rc.length) (hj : l.jn.length ≤ 8) (hrs : ∀ r, r ∈ l.rc → r.f2.size ≤ 140737488351232) :
    Calls Tryz.prog 94 #[logV a l, .int .i64 rec] w fun e w' => ∃ v, e = .returned v ∧ Kd.R (Kd.int .i64) 3 w' w.heap.size (fun _ => True) v (statL l (rd_T75 l.rc rec)) ∧ Below w.heap.size w w' := by
  have hu := Tryz.underlying38
  have hu1 := Tryz.underlying76
  have hu2 := Tryz.underlying75
  have hr2 := hrs (rd_T75 l.rc rec) (by
    obtain ⟨n, rfl⟩ : ∃ n : Nat, rec = n := ⟨rec.toNat, by omega⟩
    have : n < l.rc.length := by omega
    simp [rd_T75, this])
  obtain ⟨A0, A2, A3, A4, c0, c2, c3, c4⟩ := a
  have hh4 := hL.h4
  have HL := Aside0.mk hL
  have HRS := Aside0.mk hr2
  clear hL hrs
  obtain ⟨ar, e0, x0, x1, x2⟩ := at_T75 hh4 rec h0 h1
  dsimp only [logV] at *
  cases e0
  clear hh4
  generalize rd_T75 l.rc rec = r at *
  obtain ⟨r0, r1, r2⟩ := r
  dsimp only at *
  have ba : Below w.heap.size w ((w.alloc (.cells #[.slice A0 l.ls.length c0, .int .i64 l.errs, .slice A2 l.sees.length c2, .slice A3 l.jn.length c3, .slice (some ar) l.rc.length c4] 38)).alloc (.cells #[.int .i64 r0, .int .i64 r1, .string r2] 75)) := ((Below.refl _ w).alloc (Nat.le_refl _) _).alloc (by simp) _
  have y0 := pw_cell_below (ba) x0
  have BA := Aside0.mk ba
  clear ba
  have hne1 : ∀ o : Obj, (w.alloc o).cell? (ar.add (rec.toNat * 3)) = some (.int .i64 r0) ∧ (w.alloc o).cell? ⟨(ar.add (rec.toNat * 3)).block, (ar.add (rec.toNat * 3)).off + 1, none⟩ = some (.int .i64 r1) ∧ (w.alloc o).cell? ⟨(ar.add (rec.toNat * 3)).block, (ar.add (rec.toNat * 3)).off + 2, none⟩ = some (.string r2) := fun o => ⟨pw_cell_below ((Below.refl _ w).alloc (Nat.le_refl _) o) x0, pw_cell_below ((Below.refl _ w).alloc (Nat.le_refl _) o) x1, pw_cell_below ((Below.refl _ w).alloc (Nat.le_refl _) o) x2⟩
  have k0 := fun o => (hne1 o).1
  have k1 := fun o => (hne1 o).2.1
  have k2 := fun o => (hne1 o).2.2
  clear hne1 x0 x1 x2 y0
  go_enter Tryz.func94, Tryz.ntmps94
  go_wp2
  go_loopg [4, 16] l.jn.length (fun gg v5 v10 wr => ∃ kk : Nat, kk ≤ l.jn.length ∧ l.jn.length - kk ≤ gg ∧ v10 = .int .i64 kk ∧ Aside0 (Kd.R (Kd.int .i64) 3 wr (w.heap.size + 2) (fun _ => True) v5 (statK l ⟨r0, r1, r2⟩ kk)) ∧ Aside0 (Below (w.heap.size + 2) ((w.alloc (.cells #[.slice A0 l.ls.length c0, .int .i64 l.errs, .slice A2 l.sees.length c2, .slice A3 l.jn.length c3, .slice (some ar) l.rc.length c4] 38)).alloc (.cells #[.int .i64 r0, .int .i64 r1, .string r2] 75)) wr))
  case atStart => exact ⟨0, Nat.zero_le _, by omega, rfl, ⟨Kd.R_nil _ _ _ _ _⟩, ⟨Below.refl _ _⟩⟩
  case round =>
    obtain ⟨kk, hkk, hg, rfl, HO, BW⟩ := hrel
    have hBW2 : Below w.heap.size w wr := BA.out.trans (BW.out.mono (by simp))
    have hsz : w.heap.size + 2 ≤ wr.heap.size := by have := BW.out.size; simpa using this
    have cB : ∀ i, i < 5 → wr.cell? ⟨w.heap.size, i, none⟩ = #[.slice A0 l.ls.length c0, .int .i64 l.errs, .slice A2 l.sees.length c2, .slice A3 l.jn.length c3, .slice (some ar) l.rc.length c4][i]? := fun i hi => (BW.out.cell (p := ⟨w.heap.size, i, none⟩) (by simp)).trans (by
      match i, hi with
      | 0, _ => simp
      | 1, _ => simp
      | 2, _ => simp
      | 3, _ => simp
      | 4, _ => simp)
    have b0 : wr.cell? ⟨w.heap.size, 0, none⟩ = some (.slice A0 l.ls.length c0) := cB 0 (by omega)
    have b1 : wr.cell? ⟨w.heap.size, 1, none⟩ = some (.int .i64 l.errs) := cB 1 (by omega)
    have b2 : wr.cell? ⟨w.heap.size, 2, none⟩ = some (.slice A2 l.sees.length c2) := cB 2 (by omega)
    have b3 : wr.cell? ⟨w.heap.size, 3, none⟩ = some (.slice A3 l.jn.length c3) := cB 3 (by omega)
    have b4 : wr.cell? ⟨w.heap.size, 4, none⟩ = some (.slice (some ar) l.rc.length c4) := cB 4 (by omega)
    have d0 : wr.cell? ⟨w.heap.size + 1, 0, none⟩ = some (.int .i64 r0) := (BW.out.cell (p := ⟨w.heap.size + 1, 0, none⟩) (by simp)).trans (by simp)
    have d1 : wr.cell? ⟨w.heap.size + 1, 1, none⟩ = some (.int .i64 r1) := (BW.out.cell (p := ⟨w.heap.size + 1, 1, none⟩) (by simp)).trans (by simp)
    have d2 : wr.cell? ⟨w.heap.size + 1, 2, none⟩ = some (.string r2) := (BW.out.cell (p := ⟨w.heap.size + 1, 2, none⟩) (by simp)).trans (by simp)
    clear cB
    have hs0 : w.heap.size < wr.heap.size := by omega
    have hs1 : w.heap.size + 1 < wr.heap.size := by omega
    have hs2 : w.heap.size < wr.heap.size + 1 := by omega
    have hs3 : w.heap.size + 1 < wr.heap.size + 1 := by omega
    have hs4 : w.heap.size ≠ wr.heap.size := by omega
    have hs5 : w.heap.size + 1 ≠ wr.heap.size := by omega
    have bb0 := alloc_old b0 hs0
    have bb1 := alloc_old b1 hs0
    have bb2 := alloc_old b2 hs0
    have bb3 := alloc_old b3 hs0
    have bb4 := alloc_old b4 hs0
    have dd0 := alloc_old d0 hs1
    have dd1 := alloc_old d1 hs1
    have dd2 := alloc_old d2 hs1
    by_cases hlt : kk < l.jn.length
    · have hltz : (kk : Int) < (l.jn.length : Int) := by omega
      obtain ⟨ad, A5, c5, e1, hx0, hx1, hx2, l5, g5⟩ := at_T76 (HL.out.below hBW2).h3 (kk : Int) (by omega) (by omega)
      dsimp only at e1
      cases e1
      rw [Int.toNat_natCast] at hx0 hx1 hx2
      have HHIT := Aside0.mk (fun h => statK_hit (l := l) (r := ⟨r0, r1, r2⟩) (k := kk) h)
      have HMISS := Aside0.mk (fun h => statK_miss (l := l) (r := ⟨r0, r1, r2⟩) (k := kk) h)
      generalize rd_T76 l.jn (kk : Int) = s at *
      obtain ⟨f0, f1, f2⟩ := s
      dsimp only at *
      have ba : Below wr.heap.size wr (wr.alloc (.cells #[.int .i64 f0, .int .i64 f1, .slice A5 f2.length c5] 76)) := (Below.refl _ wr).alloc (Nat.le_refl _) _
      have hreads := reads_any ⟨A0, A2, some ad, some ar, c0, c2, c3, c4⟩ l A5 c5 f2 r2 _ (HL.out.below (below_next hBW2 ba)) (Kd.C_below g5 ba) HRS.out
      have HRD := Aside0.mk hreads
      have HBA2 := Aside0.mk ba
      have hlen := statK_len l ⟨r0, r1, r2⟩ kk
      clear hreads ba g5
      dsimp only [logV] at HRD
      by_cases q0 : f0 = r0
      · subst q0
        by_cases q1 : f1 = r1
        · subst q1
          cases q2 : readsB l f2 r2 with
          | true =>
            have hh := HHIT.out (by simp [hitB, q2])
            rw [q2] at HRD
            have HH := Aside0.mk hh
            clear hh q2
            go_wp2_with (first
              | (go_at_call 69; refine HRD.out.mono ?_; rintro e w9 ⟨rfl, hb9⟩; obtain ⟨hc9, hf9⟩ := bcell hb9; have HB9 := Aside0.mk hb9; clear hb9)
              | ((with_reducible refine gate_builtin (b := .append) (xs := #[.tmp 41, .tmp 43]) rfl ?_); at_builtin; refine Kd.R_append (Kd.int .i64) (w0 := ((w.alloc (.cells #[.slice A0 l.ls.length c0, .int .i64 l.errs, .slice A2 l.sees.length c2, .slice (some ad) l.jn.length c3, .slice (some ar) l.rc.length c4] 38)).alloc (.cells #[.int .i64 f0, .int .i64 f1, .string r2] 75))) (w.heap.size + 2) rfl (.tmp 41) (.tmp 43) 25 3 (.int .i64 0) 8 rfl Tryz.underlying25 info3 rfl (by decide) (by omega) u4 (statK l ⟨f0, f1, r2⟩ kk) (kk : Int) [.int .i64 kk] (fun _ => True) (fun _ => False) rfl rfl ?aP (fun _ hk => hk.elim) ?aF ?aO ?aB ?aS ?aL ?_; (case aP => exact rfl); (case aB => exact BW.out.trans ((below_next HBA2.out HB9.out).mono hsz)); (case aF => exact (fun _ _ => trivial)); (case aO => exact Kd.R_below HO.out (below_next HBA2.out HB9.out)); (case aS => have := (below_next HBA2.out HB9.out).size; omega); (case aL => omega); intro v1 w1 ho hb hg hat; rw [← HH.out] at ho; have HO1 := Aside0.mk ho; have HB1 := Aside0.mk hb; clear ho hb hg hat))
            go_roundg (l.jn.length - (kk + 1))
            case measure => omega
            case rel => exact ⟨kk + 1, by omega, by omega, by go_num, HO1, HB1⟩
          | false =>
            have hh := HMISS.out (by simp [hitB, q2])
            rw [q2] at HRD
            have HH := Aside0.mk hh
            clear hh q2
            go_wp2_with (first
              | (go_at_call 69; refine HRD.out.mono ?_; rintro e w9 ⟨rfl, hb9⟩; obtain ⟨hc9, hf9⟩ := bcell hb9; have HB9 := Aside0.mk hb9; clear hb9))
            have hbn := BW.out.trans ((below_next HBA2.out HB9.out).mono hsz)
            go_roundg (l.jn.length - (kk + 1))
            case measure => omega
            case rel => exact ⟨kk + 1, by omega, by omega, by go_num, ⟨by rw [HH.out]; exact Kd.R_below HO.out (below_next HBA2.out HB9.out)⟩, ⟨hbn⟩⟩
        · have hh := HMISS.out (by simp [hitB, q1])
          have HH := Aside0.mk hh
          clear hh
          go_wp2_with (first
            | (go_at_call 69; refine HRD.out.mono ?_; rintro e w9 ⟨rfl, hb9⟩; obtain ⟨hc9, hf9⟩ := bcell hb9; have HB9 := Aside0.mk hb9; clear hb9))
          go_roundg (l.jn.length - (kk + 1))
          case measure => omega
          case rel => exact ⟨kk + 1, by omega, by omega, by go_num, ⟨by rw [HH.out]; exact Kd.R_below HO.out HBA2.out⟩, ⟨BW.out.trans (HBA2.out.mono hsz)⟩⟩
      · have hh := HMISS.out (by simp [hitB, q0])
        have HH := Aside0.mk hh
        clear hh
        go_wp2_with (first
          | (go_at_call 69; refine HRD.out.mono ?_; rintro e w9 ⟨rfl, hb9⟩; obtain ⟨hc9, hf9⟩ := bcell hb9; have HB9 := Aside0.mk hb9; clear hb9))
        go_roundg (l.jn.length - (kk + 1))
        case measure => omega
        case rel => exact ⟨kk + 1, by omega, by omega, by go_num, ⟨by rw [HH.out]; exact Kd.R_below HO.out HBA2.out⟩, ⟨BW.out.trans (HBA2.out.mono hsz)⟩⟩
    · have hk : kk = l.jn.length := by omega
      subst hk
      have hltz : ¬ (l.jn.length : Int) < (l.jn.length : Int) := by omega
      go_wp2
      go_ret
      exact ⟨_, rfl, Kd.R_lower HO.out (by omega), hBW2⟩
end Go.Proofs.YthgfhgjlilmieaaGreat.G
namespace Go.Proofs.YthgfhgjlilmieaaGreat.G
open Go.RowKit Go.Shelf Go.Proofs.YthgfhgjlilmieaaGreatW.PrintWords Go.Proofs.YthgfhgjlilmieaaGreatW.PrintLast Go.Proofs.YthgfhgjlilmieaaGreatW.PrintMore
open Go.Proofs.YthgfhgjlilmieaaGreat.B
attribute [local go_sem] Oper.semAt_some RunTo
set_option linter.unusedVariables false
set_option linter.unusedSimpArgs false
abbrev logC (a : LV) (l : Lg) : Obj := .cells #[.slice a.A0 l.ls.length a.c0, .int .i64 l.errs, .slice a.A2 l.sees.length a.c2, .slice a.A3 l.jn.length a.c3, .slice a.A4 l.rc.length a.c4] 38
theorem parts_stops (n B1 B2 n1 : Nat) (a : LV) (l : Lg) (before : Int) (w wS : World) (hn : 1 ≤ n) (hL : LogAt w a l) (hj : l.jn.length ≤ 8)
    (hst : ∀ s, s ∈ l.jn → 0 ≤ s.f1 ∧ s.f1 < l.sees.length ∧ s.f2.length ≤ 5) (hb : Below w.heap.size w wS) (hn1 : n1 ≤ wS.heap.size)
    (hB1 : wS.heap[B1]? = some (logC a l)) (hB2 : wS.heap[B2]? = some (.cells #[.int .i64 before] 3 (0, 0))) :
    SeqStopsK Fence.wide n Tryz.prog 128 #[.pointer (some ⟨B1, 0, none⟩), .pointer (some ⟨B2, 0, none⟩)] (fun x : PX w l before => #[.slice x.1.A x.1.xs.length x.1.c]) (KpP w.heap.size B1 B2 n1) (fun ys => texts' ys = partsL l before) (fun _ => True) (partsL l before).length wS := fun lo J Jx W hW hJ _ hY h0 =>
  parts1_in n lo B1 B2 n1 a l before w J Jx W hn hL hj hst hJ (Nat.le_trans hb.size hW.size) (Nat.le_trans hn1 hW.size) (below_next hb hW) hY ((hW.block B1 (Array.getElem?_eq_some_iff.1 hB1).1).trans hB1) ((hW.block B2 (Array.getElem?_eq_some_iff.1 hB2).1).trans hB2) h0
def anyB (l : Lg) (r : S75) : Bool := (partsL l r.f0).any fun t => readsB l t r.f2
def falL (l : Lg) (r : S75) : List Int := if anyB l r = true then [-1] else []
theorem heap_old {W : World} {k : Nat} {x : Obj} (h : W.heap[k]? = some x) (o : Obj) : (W.alloc o).heap[k]? = some x := (Below.heap_alloc W o k (Array.getElem?_eq_some_iff.1 h).1).trans h
theorem alloc_at (W : World) (o : Obj) {k : Nat} (h : k = W.heap.size) : (W.alloc o).heap[k]? = some o := by subst h; exact alloc_new W o
theorem R_one (w : World) (base b : Nat) (n : Int) (hb : base ≤ b) (h : w.heap[b]? = some (.cells #[.int .i64 n] 3 (0, 0))) : Kd.R (Kd.int .i64) 3 w base (fun _ => True) (.slice (some ⟨b, 0, none⟩) 1 1) [n] :=
  Kd.R_of_own ⟨rfl, .inr ⟨b, 1, _, rfl, hb, h, Nat.le_refl _, by simp [maxLen], rfl, rfl⟩⟩ (fun _ _ => trivial)
theorem run_loadVar25 (W : World) (g : Nat) (v : Value) (h : W.cell? ⟨g, 0, none⟩ = some v) : (loadVar 25 ⟨g, 0, none⟩).run Tryz.prog W = .ok v W := by
  have hu := Tryz.underlying25
  simp [loadVar, go_sem, hu, h]
theorem results_cell1 {fn : Func} {p : Tmp} {ty : TypeId} (h : fn.results = #[.cell p ty]) (tmps : Array Value) (w : World) (g : Nat) (v : Value)
    (hp : tmps.getD p undef = .pointer (some ⟨g, 0, none⟩)) (hl : (loadVar ty ⟨g, 0, none⟩).run Tryz.prog w = .ok v w) : (results fn tmps).run Tryz.prog w = .ok v w := by
  have hp' : tmps[p]?.getD undef = .pointer (some ⟨g, 0, none⟩) := by simpa using hp
  simp [results, h, hp', asAddr, hl]
def FalI (w : World) (a : LV) (l : Lg) (r : S75) (v : Value) (W : World) : Prop :=
  Boxed W (w.heap.size + 1) 25 v ∧ W.heap[w.heap.size]? = some (logC a l) ∧ W.heap[w.heap.size + 1 + 1]? = some (.cells #[.int .i64 r.f0, .int .i64 r.f1, .string r.f2] 75 (0, 0)) ∧ Below w.heap.size w W ∧ w.heap.size + 5 ≤ W.heap.size
theorem FalI.far {w : World} {a : LV} {l : Lg} {r : S75} {v : Value} {W W' : World} {row : Option Nat} (h : FalI w a l r v W) (hg : W.grownBy W' row) (hr : ∀ q, row = some q → w.heap.size + 5 ≤ q) : FalI w a l r v W' := by
  obtain ⟨h1, h2, h3, h4, h5⟩ := h
  have ne : ∀ k, k < w.heap.size + 5 → some k ≠ row := fun k hk e => by have := hr k e.symm; omega
  exact ⟨h1.kept hg (ne _ (by omega)), (hg.block _ (by omega) (ne _ (by omega))).trans h2, (hg.block _ (by omega) (ne _ (by omega))).trans h3, h4.grown hg h4.size (fun q e => by have := hr q e; omega), Nat.le_trans h5 hg.size⟩
def FalX (w : World) (a : LV) (l : Lg) (r : S75) (W : World) : Prop := anyB l r = true ∧ ∃ b, w.heap.size ≤ b ∧ W.heap[b]? = some (.cells #[.int .i64 (-1)] 3 (0, 0)) ∧ FalI w a l r (.slice (some ⟨b, 0, none⟩) 1 1) W
theorem FalX.own {w : World} {a : LV} {l : Lg} {r : S75} (B : Nat) (hB : w.heap.size + 5 ≤ B) : OwnFrom B (fun (_ : Unit) W => FalX w a l r W) := by
  rintro _ W W' row ⟨h1, b, h2, h3, h4⟩ hg hr
  refine ⟨h1, b, h2, (hg.block b (Array.getElem?_eq_some_iff.1 h3).1 (fun e => ?_)).trans h3, h4.far hg (fun q e => by have := (hr q e).1; omega)⟩
  obtain ⟨o, ho, hc⟩ := (hr b e.symm).2
  rw [h3] at ho
  cases ho
  cases hc
set_option maxHeartbeats 4000000 in
set_option maxRecDepth 100000 in
theorem falsely_any (a : LV) (l : Lg) (rec : Int) (w : World) (hL : LogAt w a l) (h0 : 0 ≤ rec) (h1 : rec < l.rc.length) (hj : l.jn.length ≤ 8)
    (hst : ∀ s, s ∈ l.jn → 0 ≤ s.f1 ∧ s.f1 < l.sees.length ∧ s.f2.length ≤ 5) (hrs : ∀ r, r ∈ l.rc → r.f2.size ≤ 140737488351232) :
    Calls Tryz.prog 95 #[logV a l, .int .i64 rec] w fun e w' => ∃ v, e = .returned v ∧ Kd.R (Kd.int .i64) 3 w' w.heap.size (fun _ => True) v (falL l (rd_T75 l.rc rec)) ∧ Below w.heap.size w w' := by
  have hu := Tryz.underlying38
  have hu2 := Tryz.underlying75
  have hr2 := hrs (rd_T75 l.rc rec) (by
    obtain ⟨n, rfl⟩ : ∃ n : Nat, rec = n := ⟨rec.toNat, by omega⟩
    have : n < l.rc.length := by omega
    simp [rd_T75, this])
  obtain ⟨A0, A2, A3, A4, c0, c2, c3, c4⟩ := a
  have hh4 := hL.h4
  have HL := Aside0.mk hL
  have HRS := Aside0.mk hr2
  have HST := Aside0.mk hst
  clear hL hrs hst
  obtain ⟨ar, e0, x0, x1, x2⟩ := at_T75 hh4 rec h0 h1
  dsimp only [logV] at *
  cases e0
  clear hh4
  generalize rd_T75 l.rc rec = r at *
  obtain ⟨r0, r1, r2⟩ := r
  dsimp only at *
  have hne1 : ∀ {W : World} (_ : Below w.heap.size w W), W.cell? (ar.add (rec.toNat * 3)) = some (.int .i64 r0) ∧ W.cell? ⟨(ar.add (rec.toNat * 3)).block, (ar.add (rec.toNat * 3)).off + 1, none⟩ = some (.int .i64 r1) ∧ W.cell? ⟨(ar.add (rec.toNat * 3)).block, (ar.add (rec.toNat * 3)).off + 2, none⟩ = some (.string r2) := fun h => ⟨pw_cell_below h x0, pw_cell_below h x1, pw_cell_below h x2⟩
  have ba := ((Below.refl w.heap.size w).alloc (Nat.le_refl _) (logC ⟨A0, A2, A3, some ar, c0, c2, c3, c4⟩ l)).alloc (by simp) (.cells #[.slice none 0 0] 25)
  obtain ⟨k0, k1, k2⟩ := hne1 ba
  clear hne1 x0 x1 x2 ba
  have hfn : ∀ f, Fence.wide.fn f := fun _ => trivial
  refine (callsIn_wide (n := 9)).1 ?_
  refine callsIn_of_wp_marks Tryz.func95 rfl trivial ?_ rfl
  simp only [Tryz.ntmps95, List.size_toArray, List.length_cons, List.length_nil, Nat.reduceAdd, Nat.reduceSub, Array.replicate_succ, Array.replicate_zero, List.push_toArray, List.append_toArray, List.nil_append, List.cons_append]
  gi_wp2_with (gi_at_call 99; refine (callsIn_wide.2 (parts_any ⟨A0, A2, A3, some ar, c0, c2, c3, c4⟩ l r0 _)).mono ?_; rintro e w' ⟨rfl, rfl⟩)
  refine wpIn_rangeFunc_ownH rfl (by omega) (gf := 128) (lb := #[.pointer (some ⟨w.heap.size + 1 + 1 + 1, 0, none⟩), .pointer (some ⟨w.heap.size + 1 + 1 + 1 + 1, 0, none⟩)]) rfl trivial (enters_of Tryz.func128 (by kernel_rfl) rfl)
    (parts_stops (9 - 1) (w.heap.size + 1 + 1 + 1) (w.heap.size + 1 + 1 + 1 + 1) (w.heap.size + 5) ⟨A0, A2, A3, some ar, c0, c2, c3, c4⟩ l r0 w _ (by omega) HL.out hj HST.out ?hB ?hn1 ?hB1 ?hB2) KpP.t ?hKb (Below.refl _ _) (fun _ => rfl)
    (fun pre W => (∀ t, t ∈ texts' pre → readsB l t r2 = false) ∧ FalI w ⟨A0, A2, A3, some ar, c0, c2, c3, c4⟩ l ⟨r0, r1, r2⟩ (.slice none 0 0) W) (fun c pre W => c = .ret ∧ FalX w ⟨A0, A2, A3, some ar, c0, c2, c3, c4⟩ l ⟨r0, r1, r2⟩ W) (fun pre W W' row h hg hr => ⟨h.1, h.2.far hg (fun q e => by have := (hr q e).1; simp at this; omega)⟩) (fun c pre W W' row h hg hr => ⟨h.1, FalX.own _ (by simp) () W W' row h.2 hg hr⟩) ?hI0
    (fun x a' W => a' = { tmps := #[.agg #[.slice A0 l.ls.length c0, .int .i64 l.errs, .slice A2 l.sees.length c2, .slice A3 l.jn.length c3, .slice (some ar) l.rc.length c4], .int .i64 rec, .pointer (some ⟨w.heap.size, 0, none⟩), undef, .pointer (some ⟨w.heap.size + 1, 0, none⟩), .pointer (some ⟨w.heap.size + 1 + 1, 0, none⟩), .slice x.1.A x.1.xs.length x.1.c, .pointer (some ⟨w.heap.size, 4, none⟩), .slice (some ar) l.rc.length c4, .int .i64 rec, .pointer (some (ar.add (rec.toNat * 3))), .agg #[.int .i64 r0, .int .i64 r1, .string r2], .agg #[.slice A0 l.ls.length c0, .int .i64 l.errs, .slice A2 l.sees.length c2, .slice A3 l.jn.length c3, .slice (some ar) l.rc.length c4], .pointer (some ⟨w.heap.size + 1 + 1, 0, none⟩), .int .i64 r0, .func (.func 128) #[] #[.pointer (some ⟨w.heap.size + 1 + 1 + 1, 0, none⟩), .pointer (some ⟨w.heap.size + 1 + 1 + 1 + 1, 0, none⟩)], .slice x.1.A x.1.xs.length x.1.c, undef, undef, undef, undef, undef, undef], defers := [] }) (fun x a' _ W W' row h _ _ => h) ?assign ?body ?done ?stop
  case hB => exact ((((Below.refl w.heap.size w).alloc (Nat.le_refl _) _).alloc (by simp) _).alloc (by simp; omega) _).alloc (by simp; omega) _ |>.alloc (by simp; omega) _
  case hn1 => simp
  case hB1 => exact heap_old (alloc_at _ _ (by simp)) _
  case hB2 => exact alloc_at _ _ (by simp)
  case hKb => exact fun W l o o' h hc ho _ => KpP.b W l o o' (by simp at h; omega) hc ho
  case hI0 =>
    refine ⟨fun t ht => by simp [texts'] at ht, ?_, ?_, ?_, ?_, by simp⟩
    · exact heap_old (heap_old (heap_old (alloc_at _ _ (by simp)) _) _) _
    · exact heap_old (heap_old (heap_old (heap_old (alloc_new _ _) _) _) _) _
    · exact heap_old (heap_old (alloc_at _ _ (by simp)) _) _
    · exact ((((Below.refl w.heap.size w).alloc (Nat.le_refl _) _).alloc (by simp) _).alloc (by simp; omega) _).alloc (by simp; omega) _ |>.alloc (by simp; omega) _
  case assign =>
    intro lo pre x W K hi hK
    have HK := Aside0.mk hK
    have HI := Aside0.mk hi
    clear hi hK
    gi_wp2
    exact HK.out _ _ (KeepsFrom.refl _ _) ⟨Below.refl _ _, fun _ _ _ _ _ _ h => h⟩ HI.out rfl
  case body =>
    rintro lo pre x a' W hl hrec ⟨hI, hF⟩ rfl hlen
    have hfl : ∀ f, (Fence.wide.inRound lo).fn f := fun _ => trivial
    have hFF := hF
    obtain ⟨h1, h2, h3, h4, h5⟩ := hFF
    have b0 : W.cell? ⟨w.heap.size, 0, none⟩ = some (.slice A0 l.ls.length c0) := by simp [World.cell?, h2]
    have b1 : W.cell? ⟨w.heap.size, 1, none⟩ = some (.int .i64 l.errs) := by simp [World.cell?, h2]
    have b2 : W.cell? ⟨w.heap.size, 2, none⟩ = some (.slice A2 l.sees.length c2) := by simp [World.cell?, h2]
    have b3 : W.cell? ⟨w.heap.size, 3, none⟩ = some (.slice A3 l.jn.length c3) := by simp [World.cell?, h2]
    have b4 : W.cell? ⟨w.heap.size, 4, none⟩ = some (.slice (some ar) l.rc.length c4) := by simp [World.cell?, h2]
    have d2 : W.cell? ⟨w.heap.size + 1 + 1, 2, none⟩ = some (.string r2) := by simp [World.cell?, h3]
    have hreads := reads_any ⟨A0, A2, A3, some ar, c0, c2, c3, c4⟩ l x.1.A x.1.c x.1.xs r2 W (HL.out.below h4) (Kd.C_below x.2.1 h4) HRS.out
    have hin := x.2.2.2
    have HRD := Aside0.mk hreads
    have HIN := Aside0.mk hin
    have HF := Aside0.mk hF
    have HI := Aside0.mk hI
    clear hreads hin h1 h2 h3 h4 hF hI hrec
    dsimp only [logV] at HRD
    cases q : readsB l x.1.xs r2 with
    | true =>
      rw [q] at HRD
      have HQ := Aside0.mk q
      clear q
      gi_wp2_with (gi_at_call 69; refine (CallsIn.inRound lo (callsIn_wide.2 HRD.out)).mono ?_; rintro e w9 ⟨rfl, hb9⟩; have c9 := ((HF.out.1.kept (grown_of_below hb9 none) (by simp)).alloc (.cells #[.int .i64 (-1)] 3)).cell; have f9 := ((HF.out.1.kept (grown_of_below hb9 none) (by simp)).alloc (.cells #[.int .i64 (-1)] 3)).frozen; have HB9 := Aside0.mk hb9; clear hb9)
      have hz9 := HB9.out.size
      have hg := (grown_of_below HB9.out none).trans (World.grownBy_alloc w9 (.cells #[.int .i64 (-1)] 3) none)
      have g2 := grownBy_setCell' (w9.alloc (.cells #[.int .i64 (-1)] 3)) (w.heap.size + 1) (.slice (some ⟨w9.heap.size, 0, none⟩) 1 1)
      obtain ⟨i1, i2, i3, i4, i5⟩ := HF.out.far hg (fun q e => by cases e)
      have ne : ∀ k, k ≠ w.heap.size + 1 → some k ≠ some (w.heap.size + 1) := fun k hk e => by cases e; exact hk rfl
      refine ⟨(KeepsFrom.of_grownBy hg (fun j e => by cases e)).trans (KeepsFrom.of_grownBy g2 (fun j e => by cases e; simp)), rfl, ?_, w9.heap.size, by omega, ?_, i1.set _, ?_, ?_, ?_, ?_⟩
      · unfold anyB
        rw [List.any_eq_true]
        exact ⟨_, HIN.out, HQ.out⟩
      · exact (g2.block _ (by simp) (ne _ (by omega))).trans (alloc_new _ _)
      · exact (g2.block _ (by omega) (ne _ (by omega))).trans i2
      · exact (g2.block _ (by omega) (ne _ (by omega))).trans i3
      · exact i4.grown g2 i4.size (fun q e => by cases e; omega)
      · exact Nat.le_trans i5 g2.size
    | false =>
      rw [q] at HRD
      have HQ := Aside0.mk q
      clear q
      gi_wp2_with (gi_at_call 69; refine (CallsIn.inRound lo (callsIn_wide.2 HRD.out)).mono ?_; rintro e w9 ⟨rfl, hb9⟩; have HB9 := Aside0.mk hb9; clear hb9)
      have hg := grown_of_below HB9.out none
      exact ⟨KeepsFrom.of_grownBy hg (fun j e => by cases e), KpP.below HB9.out (by omega), fun t ht => by
        rw [texts_snoc, List.mem_append, List.mem_singleton] at ht
        rcases ht with ht | rfl
        · exact HI.out t ht
        · exact HQ.out, HF.out.far hg (fun q e => by cases e)⟩
  case done =>
    rintro D ys W hD hys ⟨hI, hF⟩ hK
    have hfa : anyB l ⟨r0, r1, r2⟩ = false := by
      rw [hys] at hI
      unfold anyB
      rw [List.any_eq_false]
      exact fun t ht => by rw [hI t ht]; simp
    have hc := hF.1.cell
    have hfz := hF.1.frozen
    have HF := Aside0.mk hF
    have HK := Aside0.mk hK
    have HA := Aside0.mk hfa
    clear hI hF hK hfa
    gi_wp2
    have hDw : w.heap.size + 5 ≤ D := by simpa using hD
    have hne : D ≠ w.heap.size + 1 := by omega
    obtain ⟨i1, i2, i3, i4, i5⟩ := HF.out
    have j1 := i1.set (.slice none 0 0)
    have j2 : Below w.heap.size w (W.setCell ⟨w.heap.size + 1, 0, none⟩ (.slice none 0 0)) := i4.grown (grownBy_setCell' W (w.heap.size + 1) (.slice none 0 0)) i4.size (fun q e => by cases e; omega)
    have j3 : (W.setCell ⟨w.heap.size + 1, 0, none⟩ (.slice none 0 0)).heap[D]? = some (.deferred (some [])) := ((grownBy_setCell' W (w.heap.size + 1) (.slice none 0 0)).block D (Array.getElem?_eq_some_iff.1 HK.out).1 (fun e => by cases e; omega)).trans HK.out
    refine ⟨by simp, .inl ⟨_, _, rfl, run_takeDeferred j3, ?_⟩⟩
    have j4 := (j1.kept (grownBy_putObj' _ D (.deferred none)) (by intro e; cases e; exact hne rfl)).cell
    refine ⟨_, results_cell1 rfl _ _ (w.heap.size + 1) (.slice none 0 0) rfl (run_loadVar25 _ _ _ j4), _, rfl, ?_, ?_⟩
    · rw [show falL l ⟨r0, r1, r2⟩ = [] by simp [falL, HA.out]]
      exact Kd.R_nil _ _ _ _ _
    · exact j2.grown (grownBy_putObj' _ D _) j2.size (fun q e => by cases e; omega)
  case stop =>
    rintro D c pre W hD _ ⟨rfl, hX⟩ hK
    obtain ⟨hA, b, hb, hbb, i1, i2, i3, i4, i5⟩ := hX
    have hDw : w.heap.size + 5 ≤ D := by simpa using hD
    have hne : D ≠ w.heap.size + 1 := by omega
    have hne2 : b ≠ D := by
      rintro rfl
      rw [hbb] at hK
      cases hK
    have j4 := (i1.kept (grownBy_putObj' _ D (.deferred none)) (by intro e; cases e; exact hne rfl)).cell
    refine wpIn_ret ?_
    refine ⟨by simp, .inl ⟨_, _, rfl, run_takeDeferred hK, ?_⟩⟩
    refine ⟨_, results_cell1 rfl _ _ (w.heap.size + 1) _ rfl (run_loadVar25 _ _ _ j4), _, rfl, ?_, ?_⟩
    · rw [show falL l ⟨r0, r1, r2⟩ = [-1] by simp [falL, hA]]
      exact R_one _ _ b _ hb (((grownBy_putObj' W D _).block b (Array.getElem?_eq_some_iff.1 hbb).1 (by intro e; cases e; exact hne2 rfl)).trans hbb)
    · exact i4.grown (grownBy_putObj' _ D _) i4.size (fun q e => by cases e; omega)
end Go.Proofs.YthgfhgjlilmieaaGreat.G
namespace Go.Proofs.YthgfhgjlilmieaaGreat.G
open Go
section
variable {F : Fence} {n : Nat} {P : Program} {ops : Array Oper} {Q : Exit → Act → World → Prop} {md : Region.Mode}
def OpTo2 (P : Program) (ops : Array Oper) (S S' : World → Prop) (fin : Act) (o : Oper) : Prop :=
  ∀ w, S w → if Region.wanted o (yielded ops fin.tmps) = true then RunTo P S' o fin ((execOp fin.eval o).run P w) else (∀ d, o.dst = some d → undef = fin.tmps.getD d undef) ∧ S' w
def PureTo (P : Program) (ops : Array Oper) (S : World → Prop) (fin : Act) (o : Oper) : Prop :=
  ∀ w, S w → if Region.wanted o (yielded ops fin.tmps) = true then RunTo P (fun w' => w' = w) o fin ((execOp fin.eval o).run P w) else ∀ d, o.dst = some d → undef = fin.tmps.getD d undef
theorem RunTo.mono {S S' : World → Prop} {o : Oper} {fin : Act} {r : Result Next} (h : RunTo P S o fin r) (hS : ∀ w, S w → S' w) : RunTo P S' o fin r := by
  cases r with
  | ok x w' =>
    cases x <;> simp only [RunTo] at h ⊢
    case value v => exact ⟨h.1, hS _ h.2⟩
    case skip => exact ⟨h.1, hS _ h.2⟩
    case enter f args => exact h.mono (fun e w'' ⟨v, e1, e2, e3⟩ => ⟨v, e1, e2, hS _ e3⟩)
  | halt x w' => simp only [RunTo] at h
theorem PureTo.two {S S' : World → Prop} {o : Oper} {fin : Act} (h : PureTo P ops S fin o) (hS : ∀ w, S' w → S w) : OpTo2 P ops S' S' fin o := by
  intro w hw
  have h1 := h w (hS w hw)
  split at h1
  · rename_i hx
    rw [if_pos hx]
    exact h1.mono (fun w' e => by rw [e]; exact hw)
  · rename_i hx
    rw [if_neg hx]
    exact ⟨h1, hw⟩
theorem wpOpIn_agree2 {m i : Nat} {o : Oper} {fin a : Act} {listed : Array Bool} {S S' : World → Prop} (hF : OpenF F n P) (hL : looksB md ops m = true) (hpl : plainB ops m = true) (hi : i < m) (ho : ops[i]? = some o) (hA : Agr ops m fin listed a)
    (hall : ∀ e ∈ o.after, Region.binds md e = true → listed.getD e.on false = true) (hop : OpTo2 P ops S S' fin o) {w : World} (hS : S w) {K : Act → World → Prop}
    (hK : ∀ v w', (∀ d, o.dst = some d → v = fin.tmps.getD d undef) → S' w' → K (a.put o.dst v) w') : wpOpIn F n P ops Q i K a w := by
  have hl := looks_agree hL hi ho hA hall
  have hp := List.all_eq_true.1 hpl i (List.mem_range.2 hi)
  simp only [ho] at hp
  have hsel : ∀ cs b, o.op ≠ .select cs b := by
    intro cs b he
    rw [he] at hp
    cases hp
  have hdef : ∀ c, o.op ≠ .defer c := by
    intro c he
    rw [he] at hp
    cases hp
  have h1 := hop w hS
  rw [← wanted_agree hl, ← eval_agree hl hsel] at h1
  have hsem : o.semAt F.round a.eval = execOp a.eval o := by
    cases hr : F.round with
    | none => rw [Oper.semAt_none]
    | some l => rw [Oper.semAt_some l _ _ hdef]
  unfold Go.wpOpIn
  simp only [ho]
  by_cases hw : Region.wanted o (yielded ops a.tmps) = true
  · rw [if_pos hw] at h1
    rw [if_pos hw]
    unfold Oper.wpIn
    rw [hsem]
    refine ⟨fun f _ => hF.1 f, ?_⟩
    generalize (execOp a.eval o).run P w = r at h1
    cases r with
    | ok x w' =>
      cases x <;> simp only [RunTo] at h1 <;> simp only [Oper.uponIn]
      case value v => exact hK v w' h1.1 h1.2
      case skip => exact hK undef w' h1.1 h1.2
      case enter f args =>
        refine ⟨fun h => (by rw [hF.2.1] at h; cases h), hF.2.2 _ _ _ _ (h1.mono ?_)⟩
        rintro e w'' ⟨v, rfl, hv, hs⟩
        exact hK v w'' hv hs
    | halt x w' => simp only [RunTo] at h1
  · rw [if_neg hw] at h1
    rw [if_neg hw]
    exact ⟨fun f _ => hF.1 f, hK undef w h1.1 h1.2⟩
theorem wpAnyIn_phase2 {m : Nat} {fin : Act} {S : Array Bool → World → Prop} (hF : OpenF F n P) (hB : phaseB md ops m = true)
    (hop : ∀ i o listed, i < m → ops[i]? = some o → HeadInv md ops m listed → listed.getD i true = false → (∀ e ∈ o.after, Region.binds md e = true → listed.getD e.on false = true) → OpTo2 P ops (S listed) (S (listed.setIfInBounds i true)) fin o)
    (hrest : ∀ w, S (headList m ops.size) w → wpListIn F n P ops Q (ops.toList.drop m) fin w) :
    ∀ (c : Nat) (listed : Array Bool) (a : Act) (w : World), HeadInv md ops m listed → Agr ops m fin listed a → S listed w → ((List.range m).filter (fun i => !listed.getD i true)).length = c →
      wpAnyIn F n P md ops Q (c + (ops.size - m)) listed a w := by
  simp only [phaseB, Bool.and_eq_true, decide_eq_true_eq] at hB
  obtain ⟨⟨⟨⟨⟨⟨hL, hpl⟩, hbk⟩, hm⟩, hs⟩, hc⟩, hseq⟩ := hB
  intro c
  induction c with
  | zero =>
    intro listed a w inv hA hS hcnt
    have hall : ∀ i, i < m → listed.getD i true = true := by
      intro i hi
      cases hx : listed.getD i true with
      | true => rfl
      | false =>
        have : i ∈ (List.range m).filter (fun i => !listed.getD i true) := by
          rw [List.mem_filter]
          exact ⟨List.mem_range.2 hi, by rw [hx]; rfl⟩
        rw [List.eq_nil_of_length_eq_zero hcnt] at this
        cases this
    have e1 := head_done inv hm hall
    have e2 : a = fin := by
      have ht : a.tmps = fin.tmps := by
        apply Array.ext_getElem?
        intro t
        by_cases hx : ∃ i, i < m ∧ (ops[i]?).bind (·.dst) = some t
        · obtain ⟨i, hi, hd⟩ := hx
          have hlt : i < listed.size := by rw [inv.size]; omega
          exact hA.hit i hi (by have := hall i hi; simp [hlt] at this ⊢; exact this) t hd
        · exact hA.miss t (fun i hi hd => hx ⟨i, hi, hd⟩)
      have hd := hA.defers
      cases a; cases fin
      simp only at ht hd
      rw [ht, hd]
    subst e2
    subst e1
    have hlen : (ops.toList.drop m).length = ops.size - m := by simp
    have := wpAnyIn_of_seq (F := F) (n := n) (P := P) (Q := Q) (ops.toList.drop m) m (headList m ops.size) a w (fun j => by simp [List.getElem?_drop]) (by rw [hlen]; exact hseq) (hrest w hS)
    rw [hlen] at this
    rw [Nat.zero_add]
    exact this
  | succ c ih =>
    intro listed a w inv hA hS hcnt
    rw [show c + 1 + (ops.size - m) = (c + (ops.size - m)) + 1 by omega]
    have hex : ∃ i, i < m ∧ listed.getD i true = false := by
      cases hf : (List.range m).filter (fun i => !listed.getD i true) with
      | nil => rw [hf] at hcnt; cases hcnt
      | cons x xs =>
        have : x ∈ (List.range m).filter (fun i => !listed.getD i true) := by rw [hf]; exact List.mem_cons_self
        rw [List.mem_filter] at this
        exact ⟨x, List.mem_range.1 this.1, by simpa using this.2⟩
    obtain ⟨i0, hi0, hun0⟩ := hex
    have notail := tail_waits hs hc hm inv _ i0 rfl hi0 hun0
    refine ⟨fun hnil => ?_, fun i hi => ?_⟩
    · exfalso
      have : ∀ d i, i < m → d = i → listed.getD i true = true := by
        intro d
        induction d using Nat.strongRecOn with
        | _ d ihd =>
          intro i hi hd
          subst hd
          cases hx : listed.getD d true with
          | true => rfl
          | false =>
            exfalso
            have hlt : d < ops.size := by omega
            have hr : d ∈ Region.ready md ops listed := by
              rw [mem_ready]
              refine ⟨hx, ops[d], by simp [hlt], fun e he hb => ?_⟩
              have hlt2 := back_spec hbk hi (by simp [hlt] : ops[d]? = some ops[d]) e he hb
              have := ihd e.on hlt2 e.on (by omega) rfl
              have hs2 : e.on < listed.size := by rw [inv.size]; omega
              simp [hs2] at this ⊢
              exact this
            rw [hnil] at hr
            cases hr
      rw [this i0 i0 hi0 rfl] at hun0
      cases hun0
    · have him : i < m := by
        rcases Nat.lt_or_ge i m with h | h
        · exact h
        · exact absurd hi (notail i h)
      obtain ⟨hun, o, ho, hall⟩ := mem_ready.1 hi
      refine wpOpIn_agree2 hF hL hpl him ho hA hall (hop i o listed him ho inv hun hall) hS (fun v w' hv hS' => ?_)
      refine ih (listed.setIfInBounds i true) _ w' (inv.set hi him) (hA.put him ho hv) hS' ?_
      have := count_set listed i (by rw [inv.size]; omega) hun m
      rw [if_pos him, hcnt] at this
      omega
def S3 (b c : Nat) (S0 S1 S2 : World → Prop) (listed : Array Bool) (w : World) : Prop :=
  if listed.getD c false = true then S2 w else if listed.getD b false = true then S1 w else S0 w
def depB (md : Region.Mode) (ops : Array Oper) (b c : Nat) : Bool := match ops[c]? with
  | none => false
  | some o => o.after.any fun e => Region.binds md e && e.on == b
theorem dep_spec {b c : Nat} {o : Oper} (h : depB md ops b c = true) (ho : ops[c]? = some o) : ∃ e ∈ o.after, Region.binds md e = true ∧ e.on = b := by
  unfold depB at h
  simp only [ho] at h
  obtain ⟨i, hi, h2⟩ := Array.any_eq_true.1 h
  simp only [Bool.and_eq_true, beq_iff_eq] at h2
  exact ⟨_, Array.getElem_mem hi, h2.1, h2.2⟩
theorem wpIn_region_chain {id : Nat} {a : Act} {w : World} {l : List Oper} (m b c : Nat) (vs : List Value) (S S0 S1 S2 : World → Prop) (hF : OpenF F n P) (hmix : P.follows .mixedOrders = true) (hB : phaseB .any l.toArray m = true)
    (hbm : b < m) (hcm : c < m) (hbc : b ≠ c) (hdep : depB .any l.toArray b c = true) (h0 : ∀ w, S0 w → S w) (h1 : ∀ w, S1 w → S w) (h2 : ∀ w, S2 w → S w)
    (hS : S0 { w with drawn := w.drawn + 1 }) (hop : ∀ fin, fin = putAll (l.take m) vs a → ∀ i o, i < m → i ≠ b → i ≠ c → l[i]? = some o → PureTo P l.toArray S fin o)
    (hopb : ∀ fin, fin = putAll (l.take m) vs a → ∀ o, l[b]? = some o → OpTo2 P l.toArray S0 S1 fin o)
    (hopc : ∀ fin, fin = putAll (l.take m) vs a → ∀ o, l[c]? = some o → OpTo2 P l.toArray S1 S2 fin o)
    (hrest : ∀ fin, fin = putAll (l.take m) vs a → ∀ w, S2 w → wpListIn F n P l.toArray Q (l.drop m) fin w) : (Code.region id l.toArray true).wpIn F n P Q a w := by
  refine wpIn_region_any hmix ?_
  have hm : m < l.toArray.size := by
    have h := hB
    simp only [phaseB, Bool.and_eq_true, decide_eq_true_eq] at h
    exact h.1.1.1.2
  have inv0 : HeadInv .any l.toArray m (Array.replicate l.toArray.size false) :=
    ⟨by simp, fun j oj _ hl => (by rw [getD_replicate_false] at hl; cases hl), fun t _ ht => getD_in (by simpa using ht) (getD_replicate_false _ _)⟩
  have hcount : ((List.range m).filter (fun i => !(Array.replicate l.toArray.size false).getD i true)).length = m := by
    have : (List.range m).filter (fun i => !(Array.replicate l.toArray.size false).getD i true) = List.range m := by
      rw [List.filter_eq_self]
      intro i hi
      have := List.mem_range.1 hi
      have h2 : i < l.length := by simpa using Nat.lt_trans this hm
      simp [h2]
    rw [this, List.length_range]
  have hmiss : ∀ t, (∀ i, i < m → (l.toArray[i]?).bind (·.dst) ≠ some t) → a.tmps[t]? = (putAll (l.take m) vs a).tmps[t]? := by
    intro t ht
    refine (putAll_miss t _ _ _ (fun o ho hd => ?_)).symm
    obtain ⟨i, hi, e⟩ := List.getElem_of_mem ho
    have him : i < m := by simp at hi; omega
    refine ht i him ?_
    rw [List.getElem_take] at e
    have : l.toArray[i]? = some o := by rw [← e]; simp
    rw [this]
    exact hd
  have := wpAnyIn_phase2 (F := F) (n := n) (P := P) (Q := Q) (ops := l.toArray) (fin := putAll (l.take m) vs a) (S := S3 b c S0 S1 S2) hF hB
    (fun i o listed hi ho inv hun hall => by
      have ho' : l[i]? = some o := by simpa using ho
      have hsz : listed.size = l.toArray.size := inv.size
      have set_ne : ∀ k, k ≠ i → (listed.setIfInBounds i true).getD k false = listed.getD k false := fun k hk => getD_set_ne false (fun e => hk e.symm)
      have set_eq : (listed.setIfInBounds i true).getD i false = true := by
        have : i < listed.size := by rw [hsz]; omega
        simp [this]
      by_cases eb : i = b
      · subst eb
        have hcf : listed.getD c false = false := by
          cases hx : listed.getD c false with
          | false => rfl
          | true =>
            obtain ⟨e, he, hb, hon⟩ := dep_spec hdep (Array.getElem?_eq_getElem (show c < l.toArray.size by omega) : l.toArray[c]? = some l.toArray[c])
            have := inv.closed c _ (Array.getElem?_eq_getElem (show c < l.toArray.size by omega)) hx e he hb
            rw [hon] at this
            rw [getD_both hun] at this
            cases this
        have hbf := getD_both hun
        intro w hw
        have hw0 : S0 w := by simpa only [S3, hcf, hbf, Bool.false_eq_true, if_false] using hw
        have := hopb _ rfl o ho' w hw0
        have e : ∀ w, S3 i c S0 S1 S2 (listed.setIfInBounds i true) w = S1 w := fun w => by
          simp only [S3, set_ne c (fun h => hbc h.symm), hcf, set_eq, Bool.false_eq_true, if_false, if_true]
        rw [show S3 i c S0 S1 S2 (listed.setIfInBounds i true) = S1 from funext e]
        exact this
      · by_cases ec : i = c
        · subst ec
          have hbt : listed.getD b false = true := by
            obtain ⟨e, he, hb, hon⟩ := dep_spec hdep ho
            have := hall e he hb
            rwa [hon] at this
          have hcf := getD_both hun
          intro w hw
          have hw0 : S1 w := by simpa only [S3, hcf, hbt, Bool.false_eq_true, if_false, if_true] using hw
          have := hopc _ rfl o ho' w hw0
          have e : ∀ w, S3 b i S0 S1 S2 (listed.setIfInBounds i true) w = S2 w := fun w => by
            simp only [S3, set_eq, if_true]
          rw [show S3 b i S0 S1 S2 (listed.setIfInBounds i true) = S2 from funext e]
          exact this
        · have e : S3 b c S0 S1 S2 (listed.setIfInBounds i true) = S3 b c S0 S1 S2 listed := by
            funext w
            simp only [S3, set_ne b (fun h => eb h.symm), set_ne c (fun h => ec h.symm)]
          rw [e]
          refine (hop _ rfl i o hi eb ec ho').two (fun w hw => ?_)
          unfold S3 at hw
          split at hw
          · exact h2 w hw
          · split at hw
            · exact h1 w hw
            · exact h0 w hw)
    (fun w hS => by
      have hS' : S2 w := by
        have : (headList m l.toArray.size).getD c false = true := by
          have := headList_get m l.toArray.size c (by omega)
          have hml : m < l.length := by simpa using hm
          have hc2 : c < (headList m l.toArray.size).size := by
            have h8 : (headList m l.toArray.size).size = l.length := by simp [headList]
            rw [h8]
            omega
          rw [Array.getElem?_eq_getElem hc2] at this
          injection this with this
          simp only [Array.getD, hc2, dif_pos]
          show (headList m l.toArray.size)[c] = true
          rw [this]
          simp [hcm]
        simpa only [S3, this, if_true] using hS
      simpa using hrest _ rfl w hS') m (Array.replicate l.toArray.size false) a { w with drawn := w.drawn + 1 } inv0
    ⟨(putAll_size _ _ _).symm, (putAll_defers _ _ _).symm, fun i _ hl => (by rw [getD_replicate_false] at hl; cases hl), fun t ht => hmiss t ht⟩ (by
      have e1 : (Array.replicate l.toArray.size false).getD c false = false := getD_replicate_false _ _
      have e2 : (Array.replicate l.toArray.size false).getD b false = false := getD_replicate_false _ _
      simpa only [S3, e1, e2, Bool.false_eq_true, if_false] using hS) hcount
  rw [show m + (l.toArray.size - m) = l.toArray.size by omega] at this
  exact this
end
end Go.Proofs.YthgfhgjlilmieaaGreat.G
namespace Go.Proofs.YthgfhgjlilmieaaGreat.G
open Go.RowKit Go.Shelf Go.Proofs.YthgfhgjlilmieaaGreatW.PrintWords Go.Proofs.YthgfhgjlilmieaaGreatW.PrintLast Go.Proofs.YthgfhgjlilmieaaGreatW.PrintMore
open Go.Proofs.YthgfhgjlilmieaaGreat.B
set_option linter.unusedVariables false
set_option linter.unusedSimpArgs false
def ownOf (ES : List (Int × Int)) (x : Int) : List Int := (ES.filter fun p => p.1 == x && p.2 != -1).map (·.2)
def OwnM (base : Nat) (W : World) (g : Value → Option Value) (X : Int → List Int) (bad : Nat → Prop) : Prop :=
  (∀ x : Int, (g (.int .i64 x) = none ∧ X x = []) ∨ ∃ v, g (.int .i64 x) = some v ∧ Kd.R (Kd.int .i64) 3 W base (fun k => ¬ bad k) v (X x)) ∧
  ∀ x y v v', x ≠ y → g (.int .i64 x) = some v → g (.int .i64 y) = some v' → ∀ k, v.ownBlock = some k → v'.ownBlock ≠ some k
abbrev wkC (a : LV) (l : Lg) (bo bc : Nat) : Obj := .cells #[.slice a.A0 l.ls.length a.c0, .int .i64 l.errs, .slice a.A2 l.sees.length a.c2, .slice a.A3 l.jn.length a.c3, .slice a.A4 l.rc.length a.c4, .map (some bo), .map (some bc)] 96
def CanM (bc : Nat) (ES : List (Int × Int)) (W : World) : Prop := ∃ f, MapAt Tryz.prog 130 bc f W ∧ ∀ x y, f (.agg #[.int .i64 x, .int .i64 y]) = if (x, y) ∈ ES then some (.bool true) else none
structure WkAt (base b bo bc : Nat) (a : LV) (l : Lg) (ES EO : List (Int × Int)) (bad : Nat → Prop) (W : World) : Prop where
  box : W.heap[b]? = some (wkC a l bo bc)
  can : CanM bc ES W
  own : ∃ g, MapAt Tryz.prog 3 bo g W ∧ OwnM base W g (ownOf EO) bad
  ne : bo ≠ bc
theorem OwnM.step {base : Nat} {W W' : World} {g : Value → Option Value} {X : Int → List Int} {bad : Nat → Prop} (h : OwnM base W g X bad) {row : Option Nat} (hg : W.grownBy W' row)
    (hr : ∀ k, row = some k → bad k ∨ ∀ c f, W.heap[k]? ≠ some (.cells c 3 f)) : OwnM base W' g X bad := by
  refine ⟨fun x => ?_, h.2⟩
  rcases h.1 x with h1 | ⟨v, h1, h2⟩
  · exact .inl h1
  · refine .inr ⟨v, h1, Kd.R_mono (Kd.R_grown (Kd.R_bound h2) hg (fun k hk e => ?_)) (fun k hk => hk.1)⟩
    obtain ⟨k1, k2, k3, q, hq, cs, hc⟩ := hk
    have hq3 : q = 3 := by simpa [Kd.int, Kd.scalar] using hq
    subst hq3
    rcases hr k e.symm with hb | hb
    · exact k1 hb
    · exact hb _ _ hc
theorem OwnM.imp {base : Nat} {W : World} {g : Value → Option Value} {X : Int → List Int} {bad bad' : Nat → Prop} (h : OwnM base W g X bad) (hb : ∀ k, k < W.heap.size → bad' k → bad k) : OwnM base W g X bad' := by
  refine ⟨fun x => ?_, h.2⟩
  rcases h.1 x with h1 | ⟨v, h1, h2⟩
  · exact .inl h1
  · exact .inr ⟨v, h1, Kd.R_mono (Kd.R_bound h2) (fun k hk hb' => hk.1 (hb k hk.2.2.1 hb'))⟩
theorem WkAt.below {base b bo bc : Nat} {a : LV} {l : Lg} {ES EO : List (Int × Int)} {bad : Nat → Prop} {W W' : World} (h : WkAt base b bo bc a l ES EO bad W) (hb : Below W.heap.size W W') : WkAt base b bo bc a l ES EO bad W' := by
  obtain ⟨h1, ⟨f, hf, hf2⟩, ⟨g, hg, hg2⟩, h4⟩ := h
  exact ⟨(hb.block _ (Array.getElem?_eq_some_iff.1 h1).1).trans h1, ⟨f, hf.below hb, hf2⟩, ⟨g, hg.below hb, hg2.step (grown_of_below hb none) (fun k e => by cases e)⟩, h4⟩
theorem MapAt.notCells {P : Program} {k : TypeId} {b : Nat} {f : Value → Option Value} {w : World} (h : MapAt P k b f w) (c : Array Value) (t : TypeId) (fr : Nat × Nat) : w.heap[b]? ≠ some (.cells c t fr) := by
  obtain ⟨es, clk, hb, _⟩ := h
  rw [hb]
  intro e
  cases e
theorem WkAt.setCan {base b bo bc : Nat} {a : LV} {l : Lg} {ES EO : List (Int × Int)} {bad : Nat → Prop} {W W' : World} (h : WkAt base b bo bc a l ES EO bad W) (f f' : Value → Option Value) (x y : Int)
    (hf : MapAt Tryz.prog 130 bc f W) (hfe : ∀ x y, f (.agg #[.int .i64 x, .int .i64 y]) = if (x, y) ∈ ES then some (.bool true) else none)
    (hf' : ∀ k, (k = .agg #[.int .i64 x, .int .i64 y] → f' k = some (.bool true)) ∧ (k ≠ .agg #[.int .i64 x, .int .i64 y] → f' k = f k)) (hM : MapAt Tryz.prog 130 bc f' W') (hg : W.grownBy W' (some bc)) :
    WkAt base b bo bc a l (ES ++ [(x, y)]) EO bad W' := by
  obtain ⟨h1, h2, ⟨g, hgm, hg2⟩, h4⟩ := h
  have hne : b ≠ bc := by
    rintro rfl
    exact hf.notCells _ _ _ h1
  refine ⟨(hg.block _ (Array.getElem?_eq_some_iff.1 h1).1 (fun e => hne (by cases e; rfl))).trans h1, ⟨f', hM, fun x' y' => ?_⟩, ⟨g, hgm.same (hg.block _ hgm.lt (fun e => h4 (by cases e; rfl))), hg2.step hg (fun k e => by cases e; exact .inr (fun c fr => hf.notCells c 3 fr))⟩, h4⟩
  by_cases e : (x', y') = (x, y)
  · cases e
    rw [(hf' _).1 rfl, if_pos (by simp)]
  · have hk : (Value.agg #[.int .i64 x', .int .i64 y']) ≠ .agg #[.int .i64 x, .int .i64 y] := by
      intro h
      injection h with h
      simp at h
      exact e (by rw [h.1, h.2])
    rw [(hf' _).2 hk, hfe]
    have : (x', y') ∈ ES ++ [(x, y)] ↔ (x', y') ∈ ES := by simp only [List.mem_append, List.mem_singleton]; exact ⟨fun h => h.resolve_right e, .inl⟩
    by_cases hm : (x', y') ∈ ES
    · rw [if_pos hm, if_pos (this.2 hm)]
    · rw [if_neg hm, if_neg (fun h => hm (this.1 h))]
theorem ownOf_mask (ES : List (Int × Int)) (x : Int) : ownOf (ES ++ [(x, -1)]) = ownOf ES := by
  funext z
  simp [ownOf]
theorem ownOf_own (ES : List (Int × Int)) (x y z : Int) (hy : y ≠ -1) : ownOf (ES ++ [(x, y)]) z = if z = x then ownOf ES x ++ [y] else ownOf ES z := by
  by_cases e : z = x
  · subst e
    simp [ownOf, hy]
  · have e' : ¬ x = z := fun h => e h.symm
    simp [ownOf, hy, e, e']
theorem run_append1 (base : Nat) (W : World) (v : Value) (xs : List Int) (y : Int) (ok : Nat → Prop) (HO : Kd.R (Kd.int .i64) 3 W base ok v xs) (hbase : base ≤ W.heap.size) (hl : xs.length ≤ 1000000) (hok : ∀ k, W.heap.size ≤ k → ok k) :
    ∃ v1 w1, (Builtin.append_ #[25, 25] 25 #[v, .slice (some ⟨W.heap.size, 0, none⟩) 1 1]).run Tryz.prog (W.alloc (.cells #[.int .i64 y] 3)) = .ok v1 w1 ∧ Kd.R (Kd.int .i64) 3 w1 base ok v1 (xs ++ [y]) ∧ W.grownBy w1 v.ownBlock ∧ (v1.ownBlock = v.ownBlock ∨ ∃ b, v1.ownBlock = some b ∧ W.heap.size ≤ b) := by
  obtain ⟨h0, inner, hown, hr⟩ := HO
  obtain ⟨i0, hi, hzz⟩ := Option.map_eq_some_iff.1 info3
  simp only [Prod.mk.injEq] at hzz
  obtain ⟨hz0, hz1, hz2⟩ := hzz
  obtain ⟨v1, w1, e1, e2, e3, _, e5⟩ := run_append_own_at (P := Tryz.prog) (W.alloc (.cells #[.int .i64 y] 3)) base 25 25 3 i0 (.int .i64 0) 1 8 Tryz.underlying25 hi hz0 hz1 hz2 rfl (by decide) v xs.length inner (hown.alloc _) ⟨W.heap.size, 0, none⟩ 1 1 [.int .i64 y] rfl
    (by simpa using World.news_of_block (cs := #[.int .i64 y]) (t := 3) (fr := (0, 0)) (alloc_new W (.cells #[.int .i64 y] 3))) (by simp [Value.oneCell']) (by simp only [maxLen]; omega) (by omega) (by simp; omega)
  have hg := World.grownBy.trans (World.grownBy_alloc W (.cells #[.int .i64 y] 3) _) e3
  have hat : v1.ownBlock = v.ownBlock ∨ ∃ b, v1.ownBlock = some b ∧ W.heap.size ≤ b := e5.imp id (fun h => ⟨_, h, by simp⟩)
  exact ⟨v1, w1, e1, Kd.R_appended (d := Kd.int .i64) (okp := fun _ => False) (cs := [.int .i64 y]) h0 hr rfl (fun _ hk => hk.elim) hok e2 hg hat, hg, hat⟩
def rowOf (g : Value → Option Value) (x : Int) : Value := (g (.int .i64 x)).getD (.slice none 0 0)
theorem OwnM.row {base : Nat} {W : World} {g : Value → Option Value} {X : Int → List Int} {bad : Nat → Prop} (h : OwnM base W g X bad) (x : Int) : Kd.R (Kd.int .i64) 3 W base (fun k => ¬ bad k) (rowOf g x) (X x) := by
  rcases h.1 x with ⟨h1, h2⟩ | ⟨v, h1, h2⟩
  · rw [rowOf, h1, h2]
    exact Kd.R_nil _ _ _ _ _
  · rw [rowOf, h1]
    exact h2
theorem rowOf_some {g : Value → Option Value} {x : Int} {k : Nat} (h : (rowOf g x).ownBlock = some k) : g (.int .i64 x) = some (rowOf g x) := by
  unfold rowOf at h ⊢
  cases hg : g (.int .i64 x) with
  | none => rw [hg] at h; cases h
  | some v => rfl
theorem R_cells {W : World} {base : Nat} {ok : Nat → Prop} {v : Value} {xs : List Int} {k : Nat} (h : Kd.R (Kd.int .i64) 3 W base ok v xs) (hk : v.ownBlock = some k) : k < W.heap.size ∧ ∃ c, W.heap[k]? = some (.cells c 3 (0, 0)) := by
  obtain ⟨_, _, k3, q, hq, cs, hc⟩ := (Kd.R_bound h).1 k hk
  have hq3 : q = 3 := by simpa [Kd.int, Kd.scalar] using hq
  subst hq3
  exact ⟨k3, cs, hc⟩
theorem WkAt.setOwn {base b bo bc : Nat} {a : LV} {l : Lg} {ES EO : List (Int × Int)} {bad : Nat → Prop} {W w1 w2 : World} {g g' : Value → Option Value} {x y : Int} {v1 : Value}
    (hbox : W.heap[b]? = some (wkC a l bo bc)) (hcan : CanM bc ES W) (hgm : MapAt Tryz.prog 3 bo g W) (hg2 : OwnM base W g (ownOf EO) bad) (hne : bo ≠ bc) (hy : y ≠ -1)
    (hR : Kd.R (Kd.int .i64) 3 w1 base (fun k => ¬ bad k) v1 (ownOf EO x ++ [y])) (hgw : W.grownBy w1 (rowOf g x).ownBlock) (hat : v1.ownBlock = (rowOf g x).ownBlock ∨ ∃ b, v1.ownBlock = some b ∧ W.heap.size ≤ b)
    (hg' : ∀ k, (k = .int .i64 x → g' k = some v1) ∧ (k ≠ .int .i64 x → g' k = g k)) (hM : MapAt Tryz.prog 3 bo g' w2) (hgw2 : w1.grownBy w2 (some bo)) :
    WkAt base b bo bc a l ES (EO ++ [(x, y)]) bad w2 := by
  have hrow := hg2.row x
  have hcell : ∀ k, (rowOf g x).ownBlock = some k → ∃ c, W.heap[k]? = some (.cells c 3 (0, 0)) := fun k hk => (R_cells hrow hk).2
  obtain ⟨f, hf, hf2⟩ := hcan
  have hbbo : b ≠ bo := by
    rintro rfl
    exact hgm.notCells _ _ _ hbox
  have nb : some b ≠ (rowOf g x).ownBlock := fun e => by
    obtain ⟨c, hc⟩ := hcell b e.symm
    rw [hbox] at hc
    cases hc
  have nbc : some bc ≠ (rowOf g x).ownBlock := fun e => by
    obtain ⟨c, hc⟩ := hcell bc e.symm
    exact hf.notCells _ _ _ hc
  have nbo : some bo ≠ (rowOf g x).ownBlock := fun e => by
    obtain ⟨c, hc⟩ := hcell bo e.symm
    exact hgm.notCells _ _ _ hc
  have box1 := (hgw.block b (Array.getElem?_eq_some_iff.1 hbox).1 nb).trans hbox
  have bo1 : MapAt Tryz.prog 3 bo g w1 := hgm.same (hgw.block bo hgm.lt nbo)
  have bc1 : MapAt Tryz.prog 130 bc f w1 := hf.same (hgw.block bc hf.lt nbc)
  have ne2 : ∀ k, k ≠ bo → some k ≠ some bo := fun k hk e => by cases e; exact hk rfl
  have toW2 : ∀ {v : Value} {xs : List Int}, Kd.R (Kd.int .i64) 3 w1 base (fun k => ¬ bad k) v xs → Kd.R (Kd.int .i64) 3 w2 base (fun k => ¬ bad k) v xs := fun h =>
    Kd.R_mono (Kd.R_grown (Kd.R_bound h) hgw2 (fun k hk e => by
      obtain ⟨_, _, _, q, _, cs, hc⟩ := hk
      cases e
      exact bo1.notCells _ _ _ hc)) (fun k hk => hk.1)
  refine ⟨(hgw2.block b (Array.getElem?_eq_some_iff.1 box1).1 (ne2 b hbbo)).trans box1, ⟨f, bc1.same (hgw2.block bc bc1.lt (ne2 bc (fun e => hne e.symm))), hf2⟩, ⟨g', hM, fun z => ?_, ?_⟩, hne⟩
  · rw [ownOf_own _ _ _ _ hy]
    by_cases e : z = x
    · subst e
      rw [if_pos rfl]
      exact .inr ⟨v1, (hg' _).1 rfl, toW2 hR⟩
    · rw [if_neg e, (hg' _).2 (fun h => e (by injection h))]
      rcases hg2.1 z with h1 | ⟨v, h1, h2⟩
      · exact .inl h1
      · refine .inr ⟨v, h1, toW2 (Kd.R_mono (Kd.R_grown (Kd.R_tight2 rfl h2) hgw (fun k hk e' => ?_)) (fun k hk => hk.2))⟩
        exact hg2.2 z x v _ e h1 (rowOf_some e'.symm) k hk.1.symm e'.symm
  · have old : ∀ z v, g (.int .i64 z) = some v → ∀ k, v.ownBlock = some k → k < W.heap.size := fun z v hz k hk => by
      rcases hg2.1 z with ⟨h1, _⟩ | ⟨v', h1, h2⟩
      · rw [h1] at hz; cases hz
      · rw [h1] at hz
        cases hz
        exact (R_cells h2 hk).1
    intro z u v v' hzu hz hu k hk hk'
    by_cases ez : z = x
    · subst ez
      have hux : u ≠ z := fun e => hzu e.symm
      rw [(hg' _).1 rfl] at hz
      rw [(hg' _).2 (fun h => hux (by injection h))] at hu
      cases hz
      rcases hat with h | ⟨b', h, hb'⟩
      · rw [h] at hk
        exact hg2.2 u z v' _ hux hu (rowOf_some hk) k hk' hk
      · have e : b' = k := by rw [h] at hk; exact Option.some.inj hk
        have := old u v' hu k hk'
        omega
    · rw [(hg' _).2 (fun h => ez (by injection h))] at hz
      by_cases eu : u = x
      · subst eu
        rw [(hg' _).1 rfl] at hu
        cases hu
        rcases hat with h | ⟨b', h, hb'⟩
        · rw [h] at hk'
          exact hg2.2 z u v _ ez hz (rowOf_some hk') k hk hk'
        · have e : b' = k := by rw [h] at hk'; exact Option.some.inj hk'
          have := old z v hz k hk
          omega
      · rw [(hg' _).2 (fun h => eu (by injection h))] at hu
        exact hg2.2 z u v v' hzu hz hu k hk hk'
end Go.Proofs.YthgfhgjlilmieaaGreat.G
namespace Go.Proofs.YthgfhgjlilmieaaGreat.G
open Go.RowKit Go.Shelf Go.Proofs.YthgfhgjlilmieaaGreatW.PrintWords Go.Proofs.YthgfhgjlilmieaaGreatW.PrintLast Go.Proofs.YthgfhgjlilmieaaGreatW.PrintMore
open Go.Proofs.YthgfhgjlilmieaaGreat.B
attribute [local go_sem] Oper.semAt_some RunTo
set_option linter.unusedVariables false
set_option linter.unusedSimpArgs false
def srcL (l : Lg) (r i : Nat) : List Int := if i = 0 then statL l (rd_T75 l.rc r) else falL l (rd_T75 l.rc r)
def esR (l : Lg) (r i : Nat) : List (Int × Int) := ((List.range i).flatMap fun i => srcL l r i).map fun y => ((r : Int), y)
def esK (l : Lg) (r : Nat) : List (Int × Int) := (List.range r).flatMap fun r => esR l r 2
theorem esR_zero (l : Lg) (r : Nat) : esR l r 0 = [] := rfl
theorem esR_succ (l : Lg) (r i : Nat) : esR l r (i + 1) = esR l r i ++ (srcL l r i).map fun y => ((r : Int), y) := by simp [esR, List.range_succ]
theorem esK_succ (l : Lg) (r : Nat) : esK l (r + 1) = esK l r ++ esR l r 2 := by simp [esK, List.range_succ]
theorem falL_len (l : Lg) (r : S75) : (falL l r).length ≤ 1 := by unfold falL; split <;> simp
theorem srcL_len (l : Lg) (r i : Nat) : (srcL l r i).length ≤ l.jn.length + 1 := by
  unfold srcL
  split
  · have := statK_len l (rd_T75 l.rc r) l.jn.length
    unfold statL
    omega
  · have := falL_len l (rd_T75 l.rc r)
    omega
theorem statL_bd (l : Lg) (r : S75) : ∀ y, y ∈ statL l r → 0 ≤ y ∧ y < l.jn.length := by
  intro y hy
  simp only [statL, statK, List.mem_map, List.mem_filter, List.mem_range] at hy
  obtain ⟨i, ⟨hi, _⟩, rfl⟩ := hy
  omega
theorem falL_bd (l : Lg) (r : S75) : ∀ y, y ∈ falL l r → y = -1 := by
  intro y hy
  unfold falL at hy
  split at hy
  · simpa using hy
  · simp at hy
theorem srcL_bd (l : Lg) (r i : Nat) : ∀ y, y ∈ srcL l r i → -1 ≤ y ∧ y < l.jn.length := by
  intro y hy
  unfold srcL at hy
  split at hy
  · have := statL_bd l _ y hy
    omega
  · have := falL_bd l _ y hy
    omega
theorem srcs_any (a : LV) (l : Lg) (rec i : Nat) (w : World) (hL : LogAt w a l) (h1 : rec < l.rc.length) (hi : i < 2) (hj : l.jn.length ≤ 8)
    (hst : ∀ s, s ∈ l.jn → 0 ≤ s.f1 ∧ s.f1 < l.sees.length ∧ s.f2.length ≤ 5) (hrs : ∀ r, r ∈ l.rc → r.f2.size ≤ 140737488351232) :
    Calls Tryz.prog (94 + i) #[logV a l, .int .i64 rec] w fun e w' => ∃ v, e = .returned v ∧ Kd.R (Kd.int .i64) 3 w' w.heap.size (fun _ => True) v (srcL l rec i) ∧ Below w.heap.size w w' := by
  match i, hi with
  | 0, _ => exact stations_any a l rec w hL (by omega) (by omega) hj hrs
  | 1, _ => exact falsely_any a l rec w hL (by omega) (by omega) hj hst hrs
theorem enters_src : ∀ i, i < 2 → Enters (94 + i)
  | 0, _ => enters_of Tryz.func94 (by kernel_rfl) rfl
  | 1, _ => enters_of Tryz.func95 (by kernel_rfl) rfl
theorem MapAt.empty {P : Program} {k : TypeId} {b : Nat} {W : World} (h : W.heap[b]? = some (.map #[] 0)) : MapAt P k b (fun _ => none) W := ⟨#[], 0, h, by simp, by simp, by simp, by simp⟩
theorem R_grownMap {W W' : World} {base b : Nat} {ok : Nat → Prop} {v : Value} {xs : List Int} {P : Program} {k : TypeId} {f : Value → Option Value} (h : Kd.R (Kd.int .i64) 3 W base ok v xs) (hM : MapAt P k b f W) (hg : W.grownBy W' (some b)) : Kd.R (Kd.int .i64) 3 W' base ok v xs :=
  Kd.R_mono (Kd.R_grown (Kd.R_bound h) hg (fun k hk e => by
    obtain ⟨_, _, _, q, _, cs, hc⟩ := hk
    cases e
    exact hM.notCells _ _ _ hc)) (fun k hk => hk.1)
theorem esR_len (l : Lg) (r : Nat) (hj : l.jn.length ≤ 8) : ∀ i, (esR l r i).length ≤ i * 9
  | 0 => by simp [esR]
  | i + 1 => by
    have := esR_len l r hj i
    have := srcL_len l r i
    rw [esR_succ, List.length_append, List.length_map]
    omega
theorem esK_len (l : Lg) (hj : l.jn.length ≤ 8) : ∀ r, (esK l r).length ≤ r * 18
  | 0 => by simp [esK]
  | r + 1 => by
    have := esK_len l hj r
    have := esR_len l r hj 2
    rw [esK_succ, List.length_append]
    omega
theorem es_len (l : Lg) (r i j : Nat) (xs : List Int) (hj : l.jn.length ≤ 8) (hr : r ≤ 6) (hi : i ≤ 2) (hx : xs.length ≤ 9) : (ownOf (esK l r ++ esR l r i ++ (xs.take j).map fun y => ((r : Int), y)) r).length ≤ 1000000 := by
  have h1 := esK_len l hj r
  have h2 := esR_len l r hj i
  have h3 : (ownOf (esK l r ++ esR l r i ++ (xs.take j).map fun y => ((r : Int), y)) r).length ≤ (esK l r ++ esR l r i ++ (xs.take j).map fun y => ((r : Int), y)).length := by
    unfold ownOf
    rw [List.length_map]
    exact List.length_filter_le _ _
  rw [List.length_append, List.length_append, List.length_map, List.length_take] at h3
  omega
theorem keyOf3 (r : Int) (h : (Lit.int .i64 r).wf = true) : ∃ l, keyOf Tryz.prog 3 (.int .i64 r) = some l := by
  exact ⟨_, Maps.keyOf_int_mk Tryz.underlying3 h⟩
theorem opTo2_append {P : Program} {ops : Array Oper} {S S' : World → Prop} {fin : Act} {o : Oper} (s x : Operand) (t : TypeId) (ho : o.op = .call { callee := .builtin .append, args := #[s, x], argTypes := #[t, t] }) (hgd : o.guard = none)
    (d : Tmp) (hd : o.dst = some d) (v y v1 : Value) (hs : fin.eval s = v) (hx : fin.eval x = y) (hv : v1 = fin.tmps.getD d undef)
    (h : ∀ W, S W → ∃ w1, (Builtin.append_ #[t, t] o.type #[v, y]).run P W = .ok v1 w1 ∧ S' w1) : OpTo2 P ops S S' fin o := by
  intro W hW
  have hw : Region.wanted o (yielded ops fin.tmps) = true := by simp [Region.wanted, hgd]
  obtain ⟨w1, hr, hS⟩ := h W hW
  rw [if_pos hw]
  have e : (execOp fin.eval o).run P W = .ok (.value v1) w1 := by
    unfold execOp
    simp only [ho, resolve, invoke, builtin, Sem.run_bind, Sem.run_pure, Result.andThen_ok, List.map_toArray, List.map_cons, List.map_nil, hs, hx, hr]
  rw [e]
  exact ⟨fun d' hd' => by rw [hd] at hd'; cases hd'; exact hv, hS⟩
theorem own_base_of {W : World} {base : Nat} {ok : Nat → Prop} {v : Value} {xs : List Int} {k : Nat} (h : Kd.R (Kd.int .i64) 3 W base ok v xs) (hk : v.ownBlock = some k) : base ≤ k := ((Kd.R_bound h).1 k hk).2.1
def WkI (w : World) (a : LV) (l : Lg) (ES : List (Int × Int)) (bad : Nat → Prop) (W : World) : Prop :=
  W.heap[w.heap.size]? = some (logC a l) ∧ WkAt w.heap.size (w.heap.size + 3) (w.heap.size + 1) (w.heap.size + 2) a l ES ES bad W ∧ Below w.heap.size w W ∧ w.heap.size + 4 ≤ W.heap.size
theorem WkI.below {w : World} {a : LV} {l : Lg} {ES : List (Int × Int)} {bad : Nat → Prop} {W W' : World} (h : WkI w a l ES bad W) (hb : Below W.heap.size W W') : WkI w a l ES bad W' :=
  ⟨(hb.block _ (Array.getElem?_eq_some_iff.1 h.1).1).trans h.1, h.2.1.below hb, below_next h.2.2.1 hb, Nat.le_trans h.2.2.2 hb.size⟩
theorem WkI.setCan {w : World} {a : LV} {l : Lg} {ES : List (Int × Int)} {bad : Nat → Prop} {W W' : World} (h : WkI w a l ES bad W) (f f' : Value → Option Value) (x : Int)
    (hf : MapAt Tryz.prog 130 (w.heap.size + 2) f W) (hfe : ∀ x y, f (.agg #[.int .i64 x, .int .i64 y]) = if (x, y) ∈ ES then some (.bool true) else none)
    (hf' : ∀ k, (k = .agg #[.int .i64 x, .int .i64 (-1)] → f' k = some (.bool true)) ∧ (k ≠ .agg #[.int .i64 x, .int .i64 (-1)] → f' k = f k)) (hM : MapAt Tryz.prog 130 (w.heap.size + 2) f' W') (hg : W.grownBy W' (some (w.heap.size + 2))) :
    WkI w a l (ES ++ [(x, -1)]) bad W' := by
  obtain ⟨h1, h2, h3, h4⟩ := h
  have h5 := h2.setCan f f' x (-1) hf hfe hf' hM hg
  refine ⟨(hg.block _ (Array.getElem?_eq_some_iff.1 h1).1 (fun e => by injection e with e; omega)).trans h1, ⟨h5.box, h5.can, ?_, h5.ne⟩, h3.grown hg h3.size (fun q e => by cases e; omega), Nat.le_trans h4 hg.size⟩
  rw [ownOf_mask]
  exact h5.own
theorem WkI.imp {w : World} {a : LV} {l : Lg} {ES : List (Int × Int)} {bad bad' : Nat → Prop} {W : World} (h : WkI w a l ES bad W) (hb : ∀ k, k < W.heap.size → bad' k → bad k) : WkI w a l ES bad' W := by
  obtain ⟨h1, ⟨k1, k2, ⟨g, k3, k4⟩, k5⟩, h3, h4⟩ := h
  exact ⟨h1, ⟨k1, k2, ⟨g, k3, k4.imp hb⟩, k5⟩, h3, h4⟩
theorem wf_small (x : Int) (h0 : -1 ≤ x) (h1 : x ≤ 1000) : (Lit.int .i64 x).wf = true := by
  have e1 : IntKind.i64.min = -9223372036854775808 := by decide
  have e2 : IntKind.i64.max = 9223372036854775807 := by decide
  simp [Lit.wf, e1, e2]
  omega
set_option maxRecDepth 100000 in
set_option maxHeartbeats 8000000 in
theorem work_any (a : LV) (l : Lg) (w : World) (hL : LogAt w a l) (hj : l.jn.length ≤ 8) (hr6 : l.rc.length ≤ 6)
    (hst : ∀ s, s ∈ l.jn → 0 ≤ s.f1 ∧ s.f1 < l.sees.length ∧ s.f2.length ≤ 5) (hrs : ∀ r, r ∈ l.rc → r.f2.size ≤ 140737488351232) :
    Calls Tryz.prog 65 #[logV a l] w fun e w' => e = .returned (.pointer (some ⟨w.heap.size + 3, 0, none⟩)) ∧ WkI w a l (esK l l.rc.length) (fun _ => False) w' := by
  have hu := Tryz.underlying38
  have hu2 := Tryz.underlying127
  have hu3 := Tryz.underlying96
  have hu4 := Tryz.underlying130
  have hmm := @run_makeMap Tryz.prog
  have hfn : ∀ f, Fence.wide.fn f := fun _ => trivial
  obtain ⟨A0, A2, A3, A4, c0, c2, c3, c4⟩ := a
  have HL := Aside0.mk hL
  have HST := Aside0.mk hst
  have HRS := Aside0.mk hrs
  clear hL hst hrs
  refine (callsIn_wide (n := 9)).1 ?_
  refine callsIn_of_wp Tryz.func65 rfl trivial ?_ rfl
  simp only [Tryz.ntmps65, List.size_toArray, List.length_cons, List.length_nil, Nat.reduceAdd, Nat.reduceSub, Array.replicate_succ, Array.replicate_zero, List.push_toArray, List.append_toArray, List.nil_append, List.cons_append]
  gi_wp2
  gi_loopw [17] (fun v wr => ∃ r : Nat, r ≤ l.rc.length ∧ v = .int .i64 r ∧ Aside0 (WkI w ⟨A0, A2, A3, A4, c0, c2, c3, c4⟩ l (esK l r) (fun _ => False) wr))
    (fun v _ => l.rc.length - (intOf v).toNat)
  case atStart =>
    refine ⟨0, by omega, rfl, ⟨?_, ⟨?_, ?_, ?_, by omega⟩, ?_, by simp⟩⟩
    · exact heap_old (heap_old (heap_old (alloc_new _ _) _) _) _
    · exact alloc_at _ _ (by simp)
    · exact ⟨fun _ => none, MapAt.empty (heap_old (alloc_at _ _ (by simp)) _), fun x y => by simp [esK]⟩
    · exact ⟨fun _ => none, MapAt.empty (heap_old (heap_old (alloc_at _ _ (by simp)) _) _), fun x => .inl ⟨rfl, by simp [esK, ownOf]⟩, fun x y v v' _ h => by cases h⟩
    · exact ((((Below.refl w.heap.size w).alloc (Nat.le_refl _) _).alloc (by simp) _).alloc (by simp; omega) _).alloc (by simp; omega) _
  case round =>
    obtain ⟨r, hr, rfl, HW⟩ := hrel
    have hsz4 := HW.out.2.2.2
    have d0 : wr.cell? ⟨w.heap.size, 4, none⟩ = some (.slice A4 l.rc.length c4) := by simp [World.cell?, HW.out.1]
    by_cases hlt : r < l.rc.length
    · have hltz : (r : Int) < (l.rc.length : Int) := by omega
      gi_wp2
      obtain ⟨q, hq⟩ : ∃ q, q = wr.heap.size := ⟨_, rfl⟩
      have hq4 : w.heap.size + 4 ≤ q := by omega
      have hbq : Below wr.heap.size wr (wr.alloc (.cells #[.func (.func 94) #[] #[], .func (.func 95) #[] #[]] 127)) := (Below.refl _ wr).alloc (Nat.le_refl _) _
      have hW2 := HW.out.below hbq
      have hqc : (wr.alloc (.cells #[.func (.func 94) #[] #[], .func (.func 95) #[] #[]] 127)).heap[q]? = some (.cells #[.func (.func 94) #[] #[], .func (.func 95) #[] #[]] 127 (0, 0)) := alloc_at _ _ hq
      have HW2 := Aside0.mk hW2
      have HQC := Aside0.mk hqc
      rw [← hq]
      clear hbq hW2 hqc hq
      gi_loopw [24] (fun v W3 => ∃ i : Nat, i ≤ 2 ∧ v = .int .i64 i ∧ Aside0 (WkI w ⟨A0, A2, A3, A4, c0, c2, c3, c4⟩ l (esK l r ++ esR l r i) (fun _ => False) W3) ∧ Aside0 (W3.heap[q]? = some (.cells #[.func (.func 94) #[] #[], .func (.func 95) #[] #[]] 127 (0, 0))))
        (fun v _ => 2 - (intOf v).toNat)
      case atStart =>
        exact ⟨0, by omega, rfl, by rw [esR_zero, List.append_nil]; exact HW2, HQC⟩
      case round =>
        obtain ⟨i, hi, rfl, HW, HQC⟩ := hrel
        by_cases hlt2 : i < 2
        · have hltz2 : (i : Int) < 2 := by omega
          have hw := HW.out
          have q0 : wr.cell? ⟨q, i, none⟩ = some (.func (.func (94 + i)) #[] #[]) := by
            match i, hlt2 with
            | 0, _ => simp [World.cell?, HQC.out]
            | 1, _ => simp [World.cell?, HQC.out]
          have hlt1 : q < wr.heap.size := (Array.getElem?_eq_some_iff.1 HQC.out).1
          have hsz5 := hw.2.2.2
          have hs0 : w.heap.size < wr.heap.size := by omega
          have z0 := fun o => alloc_old (o := o) (show wr.cell? ⟨w.heap.size, 0, none⟩ = some (.slice A0 l.ls.length c0) by simp [World.cell?, hw.1]) hs0
          have z1 := fun o => alloc_old (o := o) (show wr.cell? ⟨w.heap.size, 1, none⟩ = some (.int .i64 l.errs) by simp [World.cell?, hw.1]) hs0
          have z2 := fun o => alloc_old (o := o) (show wr.cell? ⟨w.heap.size, 2, none⟩ = some (.slice A2 l.sees.length c2) by simp [World.cell?, hw.1]) hs0
          have z3 := fun o => alloc_old (o := o) (show wr.cell? ⟨w.heap.size, 3, none⟩ = some (.slice A3 l.jn.length c3) by simp [World.cell?, hw.1]) hs0
          have z4 := fun o => alloc_old (o := o) (show wr.cell? ⟨w.heap.size, 4, none⟩ = some (.slice A4 l.rc.length c4) by simp [World.cell?, hw.1]) hs0
          have eg := enters_src i hlt2
          unfold Enters at eg
          have ba : Below wr.heap.size wr (wr.alloc (.cells #[.func (.func (94 + i)) #[] #[]] 127)) := (Below.refl _ wr).alloc (Nat.le_refl _) _
          have hsrc := srcs_any ⟨A0, A2, A3, A4, c0, c2, c3, c4⟩ l r i _ (HL.out.below (below_next hw.2.2.1 ba)) hlt hlt2 hj HST.out HRS.out
          have HSRC := Aside0.mk hsrc
          have HES := Aside0.mk (esR_succ l r i)
          have HLEN := Aside0.mk (srcL_len l r i)
          have HBD := Aside0.mk (srcL_bd l r i)
          have HBA := Aside0.mk ba
          have hlt94 : i < 2 := hlt2
          generalize hg : 94 + i = g at *
          generalize srcL l r i = xs at *
          clear hw hsrc ba
          gi_wp2_with (fail)
          refine (callsIn_wide.2 HSRC.out).mono ?_
          rintro e w3 ⟨v, rfl, hR, hb3⟩
          obtain ⟨A7, c7, rfl, l7, hC7⟩ := Kd.R_reads hR
          have hb4 := below_next HBA.out hb3
          have hW3 : WkI w ⟨A0, A2, A3, A4, c0, c2, c3, c4⟩ l (esK l r ++ esR l r i) (fun k => some k = (Value.slice A7 xs.length c7).ownBlock) w3 := (HW.out.imp (fun k hk hb => by
            have := ((Kd.R_bound hR).1 k hb.symm).2.1
            simp at this
            omega)).below hb4
          have hR2 := Kd.R_lower hR (show w.heap.size ≤ _ by simp; omega)
          have hq3 := (hb4.block q hlt1).trans HQC.out
          have HW3 := Aside0.mk hW3
          have HR3 := Aside0.mk hR2
          have HQ3 := Aside0.mk hq3
          clear hR hb3 hC7 hb4 hW3 hR2 hq3 HSRC
          gi_wp2
          gi_loopw [34] (fun v W3 => ∃ j : Nat, j ≤ xs.length ∧ v = .int .i64 j ∧ Aside0 (WkI w ⟨A0, A2, A3, A4, c0, c2, c3, c4⟩ l (esK l r ++ esR l r i ++ (xs.take j).map fun y => ((r : Int), y)) (fun k => some k = (Value.slice A7 xs.length c7).ownBlock) W3) ∧ Aside0 (W3.heap[q]? = some (.cells #[.func (.func 94) #[] #[], .func (.func 95) #[] #[]] 127 (0, 0))) ∧ Aside0 (Kd.R (Kd.int .i64) 3 W3 w.heap.size (fun _ => True) (.slice A7 xs.length c7) xs))
            (fun v _ => xs.length - (intOf v).toNat)
          case atStart =>
            exact ⟨0, by omega, rfl, by rw [List.take_zero, List.map_nil, List.append_nil]; exact HW3, HQ3, HR3⟩
          case round =>
            obtain ⟨j, hj2, rfl, HW, HQC, HR⟩ := hrel
            have hsl := HLEN.out
            by_cases hlt3 : j < xs.length
            · have hltz3 : (j : Int) < (xs.length : Int) := by omega
              obtain ⟨A8, c8, e8, l8, hC8⟩ := Kd.R_reads HR.out
              obtain ⟨ad, e1, hx⟩ := Kd.at_int hC8 (j : Int) (by omega) hltz3
              cases e8
              cases e1
              have hxk : rd xs (j : Int) = xs[j] := by simp [rd, hlt3]
              rw [hxk, Int.toNat_natCast] at hx
              have hyb := HBD.out xs[j] (List.getElem_mem hlt3)
              have hstep : (xs.take (j + 1)).map (fun y => ((r : Int), y)) = (xs.take j).map (fun y => ((r : Int), y)) ++ [((r : Int), xs[j])] := by rw [List.take_succ_eq_append_getElem hlt3, List.map_append]; rfl
              have HSTEP := Aside0.mk hstep
              clear hxk hC8 hstep l8
              generalize xs[j] = y at *
              have hw := HW.out
              have b1 : wr.cell? ⟨w.heap.size + 3, 5, none⟩ = some (.map (some (w.heap.size + 1))) := by simp [World.cell?, hw.2.1.box]
              have b2 : wr.cell? ⟨w.heap.size + 3, 6, none⟩ = some (.map (some (w.heap.size + 2))) := by simp [World.cell?, hw.2.1.box]
              obtain ⟨f, hfm, hfe⟩ := hw.2.1.can
              obtain ⟨kl, hkl⟩ := keyOf130 (r : Int) y (wf_small _ (by omega) (by omega)) (wf_small _ (by omega) (by omega))
              have HF := Aside0.mk hfm
              have HFE := Aside0.mk hfe
              have HKL := Aside0.mk hkl
              clear hfm hfe hkl hw
              by_cases hy : y = -1
              · subst hy
                gi_wp2_with (gi_at_mapUpdate; refine wpListIn_mapUpd _ rfl _ _ _ 94 rfl 130 4 keyed130 Tryz.underlying94 (w.heap.size + 2) f rfl HF.out _ _ kl rfl rfl HKL.out ?_; intro w1 f3 hf3 hM3 hg3; have HM3 := Aside0.mk hM3; have HF3 := Aside0.mk hf3; have HG3 := Aside0.mk hg3; clear hM3 hf3 hg3)
                have hW9 := HW.out.setCan f f3 r HF.out HFE.out HF3.out HM3.out HG3.out
                have hR9 := R_grownMap HR.out HF.out HG3.out
                have hQ9 := (HG3.out.block q (Array.getElem?_eq_some_iff.1 HQC.out).1 (fun e => by cases e; omega)).trans HQC.out
                go_roundw
                case rel => exact ⟨j + 1, by omega, by go_num, ⟨by rw [HSTEP.out, ← List.append_assoc]; exact hW9⟩, ⟨hQ9⟩, ⟨hR9⟩⟩
                case measure => simp [intOf]; omega
              · gi_wp2_with (gi_at_mapUpdate; refine wpListIn_mapUpd _ rfl _ _ _ 94 rfl 130 4 keyed130 Tryz.underlying94 (w.heap.size + 2) f rfl HF.out _ _ kl rfl rfl HKL.out ?_; intro w1 f3 hf3 hM3 hg3; have HM3 := Aside0.mk hM3; have HF3 := Aside0.mk hf3; have HG3 := Aside0.mk hg3; clear hM3 hf3 hg3)
                have hwz := HW.out.2.2.2
                have hWk := (HW.out.2.1.setCan f f3 r y HF.out HFE.out HF3.out HM3.out HG3.out).below (W' := w1.drew) (below_drew (Below.refl _ _))
                have hR9 := Kd.R_below (R_grownMap HR.out HF.out HG3.out) (below_drew (Below.refl w1.heap.size w1))
                obtain ⟨hbox, hcan, ⟨g9, hgm, hg2⟩, hne⟩ := hWk
                have hsz9 : wr.heap.size ≤ w1.drew.heap.size := HG3.out.size
                obtain ⟨v1, wA, hrun, hRA, hgA, hatA⟩ := run_append1 w.heap.size w1.drew (rowOf g9 r) _ y _ (hg2.row r) (by have := HW.out.2.2.2; omega) (es_len l r i j xs hj (by omega) (by omega) (by omega)) (fun k hk e => by have := (R_cells hR9 e.symm).1; omega)
                have hkey3 : ∃ kl3, keyOf Tryz.prog 3 (.int .i64 r) = some kl3 := keyOf3 r (wf_small _ (by omega) (by omega))
                obtain ⟨kl3, hkey3⟩ := hkey3
                have HBOX := Aside0.mk hbox
                have HCAN := Aside0.mk hcan
                have HGM := Aside0.mk hgm
                have HG2 := Aside0.mk hg2
                have HRUN := Aside0.mk hrun
                have HRA := Aside0.mk hRA
                have HGA := Aside0.mk hgA
                have HAT := Aside0.mk hatA
                have HR9 := Aside0.mk hR9
                have HK3 := Aside0.mk hkey3
                clear hbox hcan hgm hg2 hrun hRA hgA hatA hR9 hkey3
                refine wpIn_region_chain 14 12 13 [.pointer (some ⟨w.heap.size + 3, 0, none⟩), .pointer (some ⟨w.heap.size + 3, 0, none⟩), .pointer (some ⟨w.heap.size + 3, 5, none⟩), .map (some (w.heap.size + 1)), .int .i64 r, .pointer (some ⟨w.heap.size + 3, 0, none⟩), .pointer (some ⟨w.heap.size + 3, 0, none⟩), .pointer (some ⟨w.heap.size + 3, 5, none⟩), .map (some (w.heap.size + 1)), .int .i64 r, rowOf g9 r, .int .i64 y, .slice (some ⟨w1.drew.heap.size, 0, none⟩) 1 1, v1]
                  (fun W => W.cell? ⟨w.heap.size + 3, 5, none⟩ = some (.map (some (w.heap.size + 1))) ∧ MapAt Tryz.prog 3 (w.heap.size + 1) g9 W) (fun W => W = w1.drew) (fun W => W = w1.drew.alloc (.cells #[.int .i64 y] 3)) (fun W => W = wA)
                  (openF_wide _ _) (by kernel_rfl) (by kernel_rfl) (by decide) (by decide) (by decide) (by kernel_rfl) ?_ ?_ ?_ rfl ?_ ?_ ?_ ?_
                · rintro W rfl
                  exact ⟨by simp [World.cell?, HBOX.out], HGM.out⟩
                · rintro W rfl
                  have hb9 := heap_old HBOX.out (.cells #[.int .i64 y] 3)
                  exact ⟨by simp [World.cell?, hb9], HGM.out.below ((Below.refl _ _).alloc (Nat.le_refl _) _)⟩
                · rintro W rfl
                  have hb9 := (HGA.out.block _ (Array.getElem?_eq_some_iff.1 HBOX.out).1 (fun e => by
                    obtain ⟨c, hc⟩ := (R_cells (HG2.out.row r) e.symm).2
                    rw [HBOX.out] at hc
                    cases hc)).trans HBOX.out
                  exact ⟨by simp [World.cell?, hb9], HGM.out.same (HGA.out.block _ HGM.out.lt (fun e => by
                    obtain ⟨c, hc⟩ := (R_cells (HG2.out.row r) e.symm).2
                    exact HGM.out.notCells _ _ _ hc))⟩
                · intro fin hfin i o hi hb hc ho
                  simp only [putAll, List.take_succ_cons, List.take_zero, Act.put] at hfin
                  simp only [List.setIfInBounds_toArray, List.set_cons_succ, List.set_cons_zero] at hfin
                  subst hfin
                  have hi' : i = 0 ∨ i = 1 ∨ i = 2 ∨ i = 3 ∨ i = 4 ∨ i = 5 ∨ i = 6 ∨ i = 7 ∨ i = 8 ∨ i = 9 ∨ i = 10 ∨ i = 11 := by omega
                  have hz : ∀ W, (zeroValue 25).run Tryz.prog W = .ok (.slice none 0 0) W := fun W => by kernel_rfl
                  rcases hi' with rfl | rfl | rfl | rfl | rfl | rfl | rfl | rfl | rfl | rfl | rfl | rfl
                  all_goals
                    cases ho
                    rintro W ⟨s1, s2⟩
                    have hlook := s2.look false keyed3 Tryz.underlying93 (hz W) HK3.out
                    clear s2 hz
                    go_simp
                    try rfl
                · intro fin hfin o ho
                  simp only [putAll, List.take_succ_cons, List.take_zero, Act.put] at hfin
                  simp only [List.setIfInBounds_toArray, List.set_cons_succ, List.set_cons_zero] at hfin
                  subst hfin
                  cases ho
                  rintro W rfl
                  go_simp
                · intro fin hfin o ho
                  simp only [putAll, List.take_succ_cons, List.take_zero, Act.put] at hfin
                  simp only [List.setIfInBounds_toArray, List.set_cons_succ, List.set_cons_zero] at hfin
                  subst hfin
                  cases ho
                  exact opTo2_append (.tmp 57) (.tmp 59) 25 rfl rfl 60 rfl _ _ v1 rfl rfl rfl (fun W hW => by subst hW; exact ⟨wA, HRUN.out, rfl⟩)
                · intro fin hfin W hW
                  simp only [putAll, List.take_succ_cons, List.take_zero, Act.put] at hfin
                  simp only [List.setIfInBounds_toArray, List.set_cons_succ, List.set_cons_zero] at hfin
                  subst hfin
                  subst hW
                  simp only [List.drop_succ_cons, List.drop_zero]
                  have hgmA := HGM.out.same (HGA.out.block _ HGM.out.lt (fun e => by
                    obtain ⟨c, hc⟩ := (R_cells (HG2.out.row r) e.symm).2
                    exact HGM.out.notCells _ _ _ hc))
                  have HGMA := Aside0.mk hgmA
                  clear hgmA
                  gi_wp2_with (gi_at_mapUpdate; refine wpListIn_mapUpd _ rfl _ _ _ 93 rfl 3 25 keyed3 Tryz.underlying93 (w.heap.size + 1) g9 rfl HGMA.out _ _ kl3 rfl rfl HK3.out ?_; intro w5 f5 hf5 hM5 hg5; have HM5 := Aside0.mk hM5; have HF5 := Aside0.mk hf5; have HG5 := Aside0.mk hg5; clear hM5 hf5 hg5)
                  have hWk5 := WkAt.setOwn HBOX.out HCAN.out HGM.out HG2.out hne hy HRA.out HGA.out HAT.out HF5.out HM5.out HG5.out
                  have hRA5 : Kd.R (Kd.int .i64) 3 w5 w.heap.size (fun _ => True) (.slice (some ad) xs.length c7) xs := by
                    have r1 := Kd.R_mono (Kd.R_grown (Kd.R_tight2 rfl HR9.out) HGA.out (fun k hk e => (HG2.out.row r).1 k e.symm hk.1)) (fun k hk => hk.2)
                    exact R_grownMap r1 HGMA.out HG5.out
                  have gAll : ∀ k c t f, k < w1.heap.size → w1.heap[k]? = some (.cells c t f) → t ≠ 3 → w5.heap[k]? = some (.cells c t f) := by
                    intro k c t f hk hc ht
                    have h1 : W.heap[k]? = some (.cells c t f) := (HGA.out.block k hk (fun e => by
                      obtain ⟨c', hc'⟩ := (R_cells (HG2.out.row r) e.symm).2
                      rw [show w1.drew.heap[k]? = w1.heap[k]? from rfl, hc] at hc'
                      cases hc'
                      exact ht rfl)).trans hc
                    exact (HG5.out.block k (Array.getElem?_eq_some_iff.1 h1).1 (fun e => by
                      cases e
                      exact HGMA.out.notCells _ _ _ h1)).trans h1
                  have hQ1 := (HG3.out.block q (Array.getElem?_eq_some_iff.1 HQC.out).1 (fun e => by injection e with e; omega)).trans HQC.out
                  have hQ5 := gAll q _ _ _ (Array.getElem?_eq_some_iff.1 hQ1).1 hQ1 (by decide)
                  have hS1 := (HG3.out.block w.heap.size (Array.getElem?_eq_some_iff.1 HW.out.1).1 (fun e => by injection e with e; omega)).trans HW.out.1
                  have hS5 := gAll _ _ _ _ (Array.getElem?_eq_some_iff.1 hS1).1 hS1 (by decide)
                  have hbA : Below w.heap.size w W := (below_drew (HW.out.2.2.1.grown HG3.out HW.out.2.2.1.size (fun q e => by injection e with e; omega))).grown HGA.out (by have := HW.out.2.2.1.size; omega) (fun q e => own_base_of (HG2.out.row r) e)
                  have hb5 : Below w.heap.size w w5 := hbA.grown HG5.out hbA.size (fun q e => by injection e with e; omega)
                  have hsz5 : w.heap.size + 4 ≤ w5.heap.size := by
                    have h1 := HGA.out.size
                    have h2 := HG5.out.size
                    omega
                  go_roundw
                  case rel => exact ⟨j + 1, by omega, by go_num, ⟨by rw [HSTEP.out, ← List.append_assoc]; exact ⟨hS5, hWk5, hb5, hsz5⟩⟩, ⟨hQ5⟩, ⟨hRA5⟩⟩
                  case measure => simp [intOf]; omega
            · have hk : j = xs.length := by omega
              subst hk
              have hW' : WkI w ⟨A0, A2, A3, A4, c0, c2, c3, c4⟩ l (esK l r ++ esR l r (i + 1)) (fun _ => False) wr := by
                rw [HES.out, ← List.append_assoc]
                have := HW.out
                rw [List.take_length] at this
                exact this.imp (fun k _ h => h.elim)
              have HW' := Aside0.mk hW'
              clear hW'
              gi_wp2
              go_roundw
              case rel => exact ⟨i + 1, by omega, by go_num, HW', HQC⟩
              case measure => simp [intOf]; omega
        · have hk : i = 2 := by omega
          subst hk
          gi_wp2
          go_roundw
          case rel => exact ⟨r + 1, by omega, by go_num, by rw [esK_succ]; exact HW⟩
          case measure => simp [intOf]; omega
    · have hk : r = l.rc.length := by omega
      subst hk
      gi_wp2
      go_ret
      exact ⟨rfl, HW.out⟩
end Go.Proofs.YthgfhgjlilmieaaGreat.G
namespace Go.Proofs.YthgfhgjlilmieaaGreat.G
open Go.RowKit Go.Shelf Go.Proofs.YthgfhgjlilmieaaGreatW.PrintWords Go.Proofs.YthgfhgjlilmieaaGreatW.PrintLast Go.Proofs.YthgfhgjlilmieaaGreatW.PrintMore
open Go.Proofs.YthgfhgjlilmieaaGreat.B
set_option linter.unusedVariables false
set_option linter.unusedSimpArgs false
abbrev uC (u : List Bool) : Array Value := #[.bool (u.getD 0 false), .bool (u.getD 1 false), .bool (u.getD 2 false), .bool (u.getD 3 false), .bool (u.getD 4 false), .bool (u.getD 5 false), .bool (u.getD 6 false), .bool (u.getD 7 false)]
def freeB (ES : List (Int × Int)) (u : List Bool) (r b : Int) : Bool := decide ((r, b) ∈ ES) && !(b != -1 && u.getD b.toNat false)
def freeU (ES : List (Int × Int)) (u : List Bool) (r b : Int) : List Bool := if freeB ES u r b = true ∧ b ≠ -1 then u.set b.toNat true else u
theorem size106 : (Tryz.prog.info? 106).map (·.size) = some 8 := by kernel_rfl
set_option maxRecDepth 100000 in
set_option maxHeartbeats 16000000 in
theorem free_walk (bc pb : Nat) (v0 v1 v2 v3 v4 v5 v6 v7 : Bool) (is : Bool) (r b : Int) (W : World) (hc2 : ((W.alloc (.cells #[.bool v0, .bool v1, .bool v2, .bool v3, .bool v4, .bool v5, .bool v6, .bool v7] 106)).alloc (.cells #[.bool false, .bool false, .bool false, .bool false, .bool false, .bool false, .bool false, .bool false] 106)).cell? ⟨pb, 6, none⟩ = some (.map (some bc)))
    (hlook : (Instr.lookup 94 (.map (some bc)) (.agg #[.int .i64 r, .int .i64 b]) false).run Tryz.prog ((W.alloc (.cells #[.bool v0, .bool v1, .bool v2, .bool v3, .bool v4, .bool v5, .bool v6, .bool v7] 106)).alloc (.cells #[.bool false, .bool false, .bool false, .bool false, .bool false, .bool false, .bool false, .bool false] 106)) = .ok (.bool is) ((W.alloc (.cells #[.bool v0, .bool v1, .bool v2, .bool v3, .bool v4, .bool v5, .bool v6, .bool v7] 106)).alloc (.cells #[.bool false, .bool false, .bool false, .bool false, .bool false, .bool false, .bool false, .bool false] 106))) (hb : -1 ≤ b ∧ b < 8) :
    Calls Tryz.prog 78 #[.pointer (some ⟨pb, 0, none⟩), .int .i64 r, .int .i64 b, .agg #[.bool v0, .bool v1, .bool v2, .bool v3, .bool v4, .bool v5, .bool v6, .bool v7]] W fun e w' => Below W.heap.size W w' ∧
      ((e = .returned (.tuple #[.agg #[.bool v0, .bool v1, .bool v2, .bool v3, .bool v4, .bool v5, .bool v6, .bool v7], .bool false]) ∧ (is = false ∨ (b ≠ -1 ∧ [v0, v1, v2, v3, v4, v5, v6, v7].getD b.toNat false = true))) ∨
       (e = .returned (.tuple #[.agg #[.bool v0, .bool v1, .bool v2, .bool v3, .bool v4, .bool v5, .bool v6, .bool v7], .bool true]) ∧ is = true ∧ b = -1) ∨
       (e = .returned (.tuple #[.agg (uC ([v0, v1, v2, v3, v4, v5, v6, v7].set b.toNat true)), .bool true]) ∧ is = true ∧ b ≠ -1 ∧ [v0, v1, v2, v3, v4, v5, v6, v7].getD b.toNat false = false)) := by
  have hu6 := Tryz.underlying106
  have hu3 := Tryz.underlying96
  have hu4 := Tryz.underlying130
  have hbw : Below W.heap.size W ((W.alloc (.cells #[.bool v0, .bool v1, .bool v2, .bool v3, .bool v4, .bool v5, .bool v6, .bool v7] 106)).alloc (.cells #[.bool false, .bool false, .bool false, .bool false, .bool false, .bool false, .bool false, .bool false] 106)) := ((Below.refl _ W).alloc (Nat.le_refl _) _).alloc (by simp) _
  cases is with
  | false =>
    go_enter Tryz.func78, Tryz.ntmps78
    go_wp2
    refine bodyPost_ret (results_ct rfl _ _ (W.heap.size + 1) 106 _ (0, 0) _ rfl (alloc_at _ _ (by simp)) hu6 rfl size106) rfl ?_
    exact ⟨((Below.refl _ W).alloc (Nat.le_refl _) _).alloc (by simp) _, .inl ⟨rfl, .inl trivial⟩⟩
  | true =>
    by_cases h1 : b = -1
    · subst h1
      go_enter Tryz.func78, Tryz.ntmps78
      go_wp2
      refine bodyPost_ret (results_ct rfl _ _ (W.heap.size + 1) 106 _ (0, 0) _ rfl (alloc_at _ _ (by simp)) hu6 rfl size106) rfl ?_
      exact ⟨((Below.refl _ W).alloc (Nat.le_refl _) _).alloc (by simp) _, .inr (.inl ⟨rfl, trivial, trivial⟩)⟩
    · have hb' : b = 0 ∨ b = 1 ∨ b = 2 ∨ b = 3 ∨ b = 4 ∨ b = 5 ∨ b = 6 ∨ b = 7 := by omega
      rcases hb' with rfl | rfl | rfl | rfl | rfl | rfl | rfl | rfl
      · cases v0 with
        | true =>
          go_enter Tryz.func78, Tryz.ntmps78
          go_wp2
          refine bodyPost_ret (results_ct rfl _ _ (W.heap.size + 1) 106 _ (0, 0) _ rfl (alloc_at _ _ (by simp)) hu6 rfl size106) rfl ?_
          exact ⟨((Below.refl _ W).alloc (Nat.le_refl _) _).alloc (by simp) _, .inl ⟨rfl, .inr ⟨h1, rfl⟩⟩⟩
        | false =>
          go_enter Tryz.func78, Tryz.ntmps78
          go_wp2
          refine bodyPost_ret (results_ct rfl _ _ (W.heap.size + 1) 106 _ (0, 0) _ rfl (alloc_at _ _ (by simp)) hu6 rfl size106) rfl ?_
          exact ⟨((Below.refl _ W).alloc (Nat.le_refl _) _).alloc (by simp) _, .inr (.inr ⟨rfl, trivial, h1, rfl⟩)⟩
      · cases v1 with
        | true =>
          go_enter Tryz.func78, Tryz.ntmps78
          go_wp2
          refine bodyPost_ret (results_ct rfl _ _ (W.heap.size + 1) 106 _ (0, 0) _ rfl (alloc_at _ _ (by simp)) hu6 rfl size106) rfl ?_
          exact ⟨((Below.refl _ W).alloc (Nat.le_refl _) _).alloc (by simp) _, .inl ⟨rfl, .inr ⟨h1, rfl⟩⟩⟩
        | false =>
          go_enter Tryz.func78, Tryz.ntmps78
          go_wp2
          refine bodyPost_ret (results_ct rfl _ _ (W.heap.size + 1) 106 _ (0, 0) _ rfl (alloc_at _ _ (by simp)) hu6 rfl size106) rfl ?_
          exact ⟨((Below.refl _ W).alloc (Nat.le_refl _) _).alloc (by simp) _, .inr (.inr ⟨rfl, trivial, h1, rfl⟩)⟩
      · cases v2 with
        | true =>
          go_enter Tryz.func78, Tryz.ntmps78
          go_wp2
          refine bodyPost_ret (results_ct rfl _ _ (W.heap.size + 1) 106 _ (0, 0) _ rfl (alloc_at _ _ (by simp)) hu6 rfl size106) rfl ?_
          exact ⟨((Below.refl _ W).alloc (Nat.le_refl _) _).alloc (by simp) _, .inl ⟨rfl, .inr ⟨h1, rfl⟩⟩⟩
        | false =>
          go_enter Tryz.func78, Tryz.ntmps78
          go_wp2
          refine bodyPost_ret (results_ct rfl _ _ (W.heap.size + 1) 106 _ (0, 0) _ rfl (alloc_at _ _ (by simp)) hu6 rfl size106) rfl ?_
          exact ⟨((Below.refl _ W).alloc (Nat.le_refl _) _).alloc (by simp) _, .inr (.inr ⟨rfl, trivial, h1, rfl⟩)⟩
      · cases v3 with
        | true =>
          go_enter Tryz.func78, Tryz.ntmps78
          go_wp2
          refine bodyPost_ret (results_ct rfl _ _ (W.heap.size + 1) 106 _ (0, 0) _ rfl (alloc_at _ _ (by simp)) hu6 rfl size106) rfl ?_
          exact ⟨((Below.refl _ W).alloc (Nat.le_refl _) _).alloc (by simp) _, .inl ⟨rfl, .inr ⟨h1, rfl⟩⟩⟩
        | false =>
          go_enter Tryz.func78, Tryz.ntmps78
          go_wp2
          refine bodyPost_ret (results_ct rfl _ _ (W.heap.size + 1) 106 _ (0, 0) _ rfl (alloc_at _ _ (by simp)) hu6 rfl size106) rfl ?_
          exact ⟨((Below.refl _ W).alloc (Nat.le_refl _) _).alloc (by simp) _, .inr (.inr ⟨rfl, trivial, h1, rfl⟩)⟩
      · cases v4 with
        | true =>
          go_enter Tryz.func78, Tryz.ntmps78
          go_wp2
          refine bodyPost_ret (results_ct rfl _ _ (W.heap.size + 1) 106 _ (0, 0) _ rfl (alloc_at _ _ (by simp)) hu6 rfl size106) rfl ?_
          exact ⟨((Below.refl _ W).alloc (Nat.le_refl _) _).alloc (by simp) _, .inl ⟨rfl, .inr ⟨h1, rfl⟩⟩⟩
        | false =>
          go_enter Tryz.func78, Tryz.ntmps78
          go_wp2
          refine bodyPost_ret (results_ct rfl _ _ (W.heap.size + 1) 106 _ (0, 0) _ rfl (alloc_at _ _ (by simp)) hu6 rfl size106) rfl ?_
          exact ⟨((Below.refl _ W).alloc (Nat.le_refl _) _).alloc (by simp) _, .inr (.inr ⟨rfl, trivial, h1, rfl⟩)⟩
      · cases v5 with
        | true =>
          go_enter Tryz.func78, Tryz.ntmps78
          go_wp2
          refine bodyPost_ret (results_ct rfl _ _ (W.heap.size + 1) 106 _ (0, 0) _ rfl (alloc_at _ _ (by simp)) hu6 rfl size106) rfl ?_
          exact ⟨((Below.refl _ W).alloc (Nat.le_refl _) _).alloc (by simp) _, .inl ⟨rfl, .inr ⟨h1, rfl⟩⟩⟩
        | false =>
          go_enter Tryz.func78, Tryz.ntmps78
          go_wp2
          refine bodyPost_ret (results_ct rfl _ _ (W.heap.size + 1) 106 _ (0, 0) _ rfl (alloc_at _ _ (by simp)) hu6 rfl size106) rfl ?_
          exact ⟨((Below.refl _ W).alloc (Nat.le_refl _) _).alloc (by simp) _, .inr (.inr ⟨rfl, trivial, h1, rfl⟩)⟩
      · cases v6 with
        | true =>
          go_enter Tryz.func78, Tryz.ntmps78
          go_wp2
          refine bodyPost_ret (results_ct rfl _ _ (W.heap.size + 1) 106 _ (0, 0) _ rfl (alloc_at _ _ (by simp)) hu6 rfl size106) rfl ?_
          exact ⟨((Below.refl _ W).alloc (Nat.le_refl _) _).alloc (by simp) _, .inl ⟨rfl, .inr ⟨h1, rfl⟩⟩⟩
        | false =>
          go_enter Tryz.func78, Tryz.ntmps78
          go_wp2
          refine bodyPost_ret (results_ct rfl _ _ (W.heap.size + 1) 106 _ (0, 0) _ rfl (alloc_at _ _ (by simp)) hu6 rfl size106) rfl ?_
          exact ⟨((Below.refl _ W).alloc (Nat.le_refl _) _).alloc (by simp) _, .inr (.inr ⟨rfl, trivial, h1, rfl⟩)⟩
      · cases v7 with
        | true =>
          go_enter Tryz.func78, Tryz.ntmps78
          go_wp2
          refine bodyPost_ret (results_ct rfl _ _ (W.heap.size + 1) 106 _ (0, 0) _ rfl (alloc_at _ _ (by simp)) hu6 rfl size106) rfl ?_
          exact ⟨((Below.refl _ W).alloc (Nat.le_refl _) _).alloc (by simp) _, .inl ⟨rfl, .inr ⟨h1, rfl⟩⟩⟩
        | false =>
          go_enter Tryz.func78, Tryz.ntmps78
          go_wp2
          refine bodyPost_ret (results_ct rfl _ _ (W.heap.size + 1) 106 _ (0, 0) _ rfl (alloc_at _ _ (by simp)) hu6 rfl size106) rfl ?_
          exact ⟨((Below.refl _ W).alloc (Nat.le_refl _) _).alloc (by simp) _, .inr (.inr ⟨rfl, trivial, h1, rfl⟩)⟩
end Go.Proofs.YthgfhgjlilmieaaGreat.G
namespace Go.Proofs.YthgfhgjlilmieaaGreat.G
open Go.RowKit Go.Shelf Go.Proofs.YthgfhgjlilmieaaGreatW.PrintWords Go.Proofs.YthgfhgjlilmieaaGreatW.PrintLast Go.Proofs.YthgfhgjlilmieaaGreatW.PrintMore
open Go.Proofs.YthgfhgjlilmieaaGreat.B
set_option linter.unusedVariables false
set_option linter.unusedSimpArgs false
theorem eight (u : List Bool) (h : u.length = 8) : u = [u.getD 0 false, u.getD 1 false, u.getD 2 false, u.getD 3 false, u.getD 4 false, u.getD 5 false, u.getD 6 false, u.getD 7 false] := by
  match u, h with
  | [a, b, c, d, e, f, g, i], _ => rfl
theorem free_any (ES : List (Int × Int)) (pb bc : Nat) (r b : Int) (u : List Bool) (W : World) (hc : W.cell? ⟨pb, 6, none⟩ = some (.map (some bc))) (hC : CanM bc ES W) (hr : -1 ≤ r ∧ r ≤ 1000) (hb : -1 ≤ b ∧ b < 8) (hu : u.length = 8) :
    Calls Tryz.prog 78 #[.pointer (some ⟨pb, 0, none⟩), .int .i64 r, .int .i64 b, .agg (uC u)] W fun e w' => e = .returned (.tuple #[.agg (uC (freeU ES u r b)), .bool (freeB ES u r b)]) ∧ Below W.heap.size W w' := by
  obtain ⟨f, hf, hfe⟩ := hC
  obtain ⟨kl, hkl⟩ := keyOf130 r b (wf_small _ hr.1 hr.2) (wf_small _ (by omega) (by omega))
  have hz : ∀ W, (zeroValue 4).run Tryz.prog W = .ok (.bool false) W := fun W => by kernel_rfl
  have hbw : Below W.heap.size W ((W.alloc (.cells (uC u) 106)).alloc (.cells #[.bool false, .bool false, .bool false, .bool false, .bool false, .bool false, .bool false, .bool false] 106)) := ((Below.refl _ W).alloc (Nat.le_refl _) _).alloc (by simp) _
  have hlook := (hf.below hbw).look false keyed130 Tryz.underlying94 (hz _) hkl
  rw [hfe] at hlook
  have hlook2 : ∀ is, is = decide ((r, b) ∈ ES) → (Instr.lookup 94 (.map (some bc)) (.agg #[.int .i64 r, .int .i64 b]) false).run Tryz.prog ((W.alloc (.cells (uC u) 106)).alloc (.cells #[.bool false, .bool false, .bool false, .bool false, .bool false, .bool false, .bool false, .bool false] 106)) = .ok (.bool is) ((W.alloc (.cells (uC u) 106)).alloc (.cells #[.bool false, .bool false, .bool false, .bool false, .bool false, .bool false, .bool false, .bool false] 106)) := by
    rintro is rfl
    rw [hlook]
    by_cases hm : (r, b) ∈ ES <;> simp [hm]
  have hw := free_walk bc pb _ _ _ _ _ _ _ _ (decide ((r, b) ∈ ES)) r b W (pw_cell_below hbw hc) (hlook2 _ rfl) hb
  rw [← eight u hu] at hw
  refine hw.mono ?_
  rintro e w' ⟨hbl, h⟩
  refine ⟨?_, hbl⟩
  rcases h with ⟨rfl, h⟩ | ⟨rfl, h, h2⟩ | ⟨rfl, h, h2, h3⟩
  · have e1 : freeB ES u r b = false := by
      rcases h with h | ⟨h, h2⟩
      · simp [freeB, h]
      · unfold freeB
        rw [h2]
        simp [h]
    rw [show freeU ES u r b = u by simp [freeU, e1], e1]
  · subst h2
    have e1 : freeB ES u r (-1) = true := by simp [freeB, h]
    rw [show freeU ES u r (-1) = u by simp [freeU], e1]
  · have e1 : freeB ES u r b = true := by
      unfold freeB
      rw [h, h3]
      simp
    rw [show freeU ES u r b = u.set b.toNat true by simp [freeU, e1, h2], e1]
def uB (u : List Bool) (i : Nat) : Bool := u.getD i false
abbrev uV (u : List Bool) : Array Value := #[.bool (uB u 0), .bool (uB u 1), .bool (uB u 2), .bool (uB u 3), .bool (uB u 4), .bool (uB u 5), .bool (uB u 6), .bool (uB u 7)]
theorem free_any' (ES : List (Int × Int)) (pb bc : Nat) (r b : Int) (u : List Bool) (W : World) (hc : W.cell? ⟨pb, 6, none⟩ = some (.map (some bc))) (hC : CanM bc ES W) (hr : -1 ≤ r ∧ r ≤ 1000) (hb : -1 ≤ b ∧ b < 8) (hu : u.length = 8) :
    Calls Tryz.prog 78 #[.pointer (some ⟨pb, 0, none⟩), .int .i64 r, .int .i64 b, .agg (uV u)] W fun e w' => e = .returned (.tuple #[.agg (uV (freeU ES u r b)), .bool (freeB ES u r b)]) ∧ Below W.heap.size W w' := free_any ES pb bc r b u W hc hC hr hb hu
theorem freeU_len (ES : List (Int × Int)) (u : List Bool) (r b : Int) : (freeU ES u r b).length = u.length := by unfold freeU; split <;> simp
theorem minimum3 (b c : Nat) (x y : Int) (w : World) (h0 : w.cell? ⟨b, 0, none⟩ = some (.int .i64 x)) (h1 : w.cell? ⟨b, 1, none⟩ = some (.int .i64 y)) :
    Calls Tryz.prog 107 #[.slice (some ⟨b, 0, none⟩) 2 c] w fun e w' => e = .returned (.int .i64 (min x y)) ∧ w = w' := by
  have hM := slices_Min b 0 2 c [x, y] w (by omega) (by simp) (by omega) (fun j hj => by
    match j, hj with
    | 0, _ => exact h0
    | 1, _ => exact h1)
  have e : Lib.minOf (([x, y] : List Int).take 2) = min x y := by simp [Lib.minOf]
  rw [e] at hM
  have HM := Aside0.mk hM
  clear hM e
  go_enter Tryz.func107, Tryz.ntmps107
  go_wp2_with (go_at_call 135; refine HM.out.mono ?_; rintro e w' ⟨rfl, rfl⟩)
  go_ret
  exact ⟨rfl, rfl⟩
theorem min_new (X : World) (x y : Int) : Calls Tryz.prog 107 #[.slice (some ⟨X.heap.size, 0, none⟩) 2 2] (X.alloc (.cells #[.int .i64 x, .int .i64 y] 3)) fun e w' => e = .returned (.int .i64 (min x y)) ∧ X.alloc (.cells #[.int .i64 x, .int .i64 y] 3) = w' :=
  minimum3 X.heap.size 2 x y _ (by simp) (by simp)
def bys (m : Nat) : List Int := (List.range (m + 1)).map fun (i : Nat) => (i : Int) - 1
def leastN (ES : List (Int × Int)) (J R : Nat) (out : List Int) : Nat → List Bool → Int
  | 0, _ => 0
  | n + 1, u => if (out.any fun x => ((R : Int) - (n + 1)) == x) = true then leastN ES J R out n u
    else (bys J).foldl (fun m b => if freeB ES u ((R : Int) - (n + 1)) b = true then min m (leastN ES J R out n (freeU ES u ((R : Int) - (n + 1)) b) + if b = -1 then 1 else 0) else m) 1024
theorem leastN_bd (ES : List (Int × Int)) (J R : Nat) (out : List Int) : ∀ n u, 0 ≤ leastN ES J R out n u ∧ leastN ES J R out n u ≤ 1024
  | 0, u => by simp [leastN]
  | n + 1, u => by
    unfold leastN
    split
    · exact leastN_bd ES J R out n u
    · have key : ∀ (l : List Int) (m : Int), 0 ≤ m ∧ m ≤ 1024 → 0 ≤ l.foldl (fun m b => if freeB ES u ((R : Int) - (n + 1)) b = true then min m (leastN ES J R out n (freeU ES u ((R : Int) - (n + 1)) b) + if b = -1 then 1 else 0) else m) m ∧ l.foldl (fun m b => if freeB ES u ((R : Int) - (n + 1)) b = true then min m (leastN ES J R out n (freeU ES u ((R : Int) - (n + 1)) b) + if b = -1 then 1 else 0) else m) m ≤ 1024 := by
        intro l
        induction l with
        | nil => intro m h; exact h
        | cons x l ih =>
          intro m h
          refine ih _ ?_
          have h1 := leastN_bd ES J R out n (freeU ES u ((R : Int) - (n + 1)) x)
          dsimp only
          split
          · split <;> omega
          · exact h
      exact key _ _ (by omega)
def lstep (ES : List (Int × Int)) (J R : Nat) (out : List Int) (n : Nat) (u : List Bool) (r : Int) (m b : Int) : Int := if freeB ES u r b = true then min m (leastN ES J R out n (freeU ES u r b) + if b = -1 then 1 else 0) else m
def lacc (ES : List (Int × Int)) (J R : Nat) (out : List Int) (n : Nat) (u : List Bool) (r : Int) (k : Nat) : Int := ((bys J).take k).foldl (lstep ES J R out n u r) 1024
theorem bys_get (J k : Nat) (h : k < J + 1) : (bys J)[k]? = some ((k : Int) - 1) := by
  simp [bys, h]
theorem lacc_succ (ES : List (Int × Int)) (J R : Nat) (out : List Int) (n : Nat) (u : List Bool) (r : Int) (k : Nat) (h : k < J + 1) :
    lacc ES J R out n u r (k + 1) = lstep ES J R out n u r (lacc ES J R out n u r k) ((k : Int) - 1) := by
  unfold lacc
  rw [List.take_add_one, bys_get J k h]
  simp [List.foldl_append]
theorem lacc_end (ES : List (Int × Int)) (J R : Nat) (out : List Int) (n : Nat) (u : List Bool) (h : (out.any fun x => ((R : Int) - (n + 1)) == x) = false) : lacc ES J R out n u ((R : Int) - (n + 1)) (J + 1) = leastN ES J R out (n + 1) u := by
  unfold lacc leastN
  rw [h]
  rw [List.take_of_length_le (by simp [bys])]
  rfl
theorem lacc_bd (ES : List (Int × Int)) (J R : Nat) (out : List Int) (n : Nat) (u : List Bool) (r : Int) (k : Nat) : 0 ≤ lacc ES J R out n u r k ∧ lacc ES J R out n u r k ≤ 1024 := by
  unfold lacc
  have key : ∀ (l : List Int) (m : Int), 0 ≤ m ∧ m ≤ 1024 → 0 ≤ l.foldl (lstep ES J R out n u r) m ∧ l.foldl (lstep ES J R out n u r) m ≤ 1024 := by
    intro l
    induction l with
    | nil => intro m h; exact h
    | cons x l ih =>
      intro m h
      refine ih _ ?_
      have h1 := leastN_bd ES J R out n (freeU ES u r x)
      unfold lstep
      split
      · split <;> omega
      · exact h
  exact key _ _ (by omega)
theorem CanM.below {bc : Nat} {ES : List (Int × Int)} {W W' : World} (h : CanM bc ES W) (hb : Below W.heap.size W W') : CanM bc ES W' := by
  obtain ⟨f, hf, h2⟩ := h
  exact ⟨f, hf.below hb, h2⟩
theorem uV_cells {W : World} {k : Nat} {u : List Bool} (h : W.heap[k]? = some (.cells (uV u) 106 (0, 0))) : W.cell? ⟨k, 0, none⟩ = some (.bool (uB u 0)) ∧ W.cell? ⟨k, 1, none⟩ = some (.bool (uB u 1)) ∧ W.cell? ⟨k, 2, none⟩ = some (.bool (uB u 2)) ∧ W.cell? ⟨k, 3, none⟩ = some (.bool (uB u 3)) ∧
    W.cell? ⟨k, 4, none⟩ = some (.bool (uB u 4)) ∧ W.cell? ⟨k, 5, none⟩ = some (.bool (uB u 5)) ∧ W.cell? ⟨k, 6, none⟩ = some (.bool (uB u 6)) ∧ W.cell? ⟨k, 7, none⟩ = some (.bool (uB u 7)) := by
  simp [World.cell?, h]
set_option maxRecDepth 100000 in
set_option maxHeartbeats 8000000 in
theorem least_any (ES : List (Int × Int)) (pb bo bc : Nat) (a : LV) (l : Lg) (A : Option Addr) (c : Nat) (out : List Int) (hj : l.jn.length ≤ 8) (hr6 : l.rc.length ≤ 6) :
    ∀ (n : Nat) (u : List Bool) (W : World), n ≤ l.rc.length → u.length = 8 → W.heap[pb]? = some (wkC a l bo bc) → CanM bc ES W → Kd.C (Kd.int .i64) W A out.length out →
    Calls Tryz.prog 74 #[.pointer (some ⟨pb, 0, none⟩), .int .i64 ((l.rc.length : Int) - n), .agg (uV u), .slice A out.length c] W fun e w' => e = .returned (.int .i64 (leastN ES l.jn.length l.rc.length out n u)) ∧ Below W.heap.size W w' := by
  intro n
  induction n with
  | zero =>
    intro u W hn hu hb hC ho
    have hu6 := Tryz.underlying106
    have hu3 := Tryz.underlying96
    have c4 : W.cell? ⟨pb, 4, none⟩ = some (.slice a.A4 l.rc.length a.c4) := by simp [World.cell?, hb]
    have bb : Below W.heap.size W (W.alloc (.cells (uV u) 106)) := (Below.refl _ W).alloc (Nat.le_refl _) _
    have c4' := pw_cell_below bb c4
    have hlt : ((l.rc.length : Int) - (0 : Nat) == (l.rc.length : Int)) = true := by simp
    rw [show ((l.rc.length : Int) - (0 : Nat)) = (l.rc.length : Int) by omega]
    go_enter Tryz.func74, Tryz.ntmps74
    go_wp2
    go_ret
    exact ⟨by simp [leastN], bb⟩
  | succ n ih =>
    intro u W hn hu hb hC ho
    have hu6 := Tryz.underlying106
    have hu3 := Tryz.underlying96
    have c4 : W.cell? ⟨pb, 4, none⟩ = some (.slice a.A4 l.rc.length a.c4) := by simp [World.cell?, hb]
    have bb : Below W.heap.size W (W.alloc (.cells (uV u) 106)) := (Below.refl _ W).alloc (Nat.le_refl _) _
    have c4' := pw_cell_below bb c4
    have IH := Aside0.mk ih
    have HB := Aside0.mk hb
    have HC := Aside0.mk hC
    have HO := Aside0.mk ho
    have HBB := Aside0.mk bb
    have hE := lacc_end ES l.jn.length l.rc.length out n u
    have HE := Aside0.mk hE
    rw [show ((l.rc.length : Int) - ((n + 1 : Nat) : Int)) = ((l.rc.length : Int) - (n + 1)) by omega]
    have hne : ((l.rc.length : Int) - (n + 1) == (l.rc.length : Int)) = false := by simp; omega
    have hne2 : ¬ ((l.rc.length : Int) - (n + 1) = (l.rc.length : Int)) := by omega
    have hnx : ((l.rc.length : Int) - (n + 1)) + 1 = (l.rc.length : Int) - n := by omega
    obtain ⟨r, hr⟩ : ∃ r, r = (l.rc.length : Int) - (n + 1) := ⟨_, rfl⟩
    rw [← hr] at hne hne2 hnx HE ⊢
    have hrb : 0 ≤ r ∧ r ≤ 6 := by omega
    have hcon := contains_int A c out r _ (Kd.C_below ho bb)
    have HCON := Aside0.mk hcon
    have HR := Aside0.mk hr
    have cc0 : (W.alloc (.cells (uV u) 106)).heap[W.heap.size]? = some (.cells (uV u) 106 (0, 0)) := alloc_new _ _
    have CC0 := Aside0.mk cc0
    clear ih hb hC ho hcon hE bb hr cc0
    cases hq : out.any fun x => r == x with
    | true =>
      rw [hq] at HCON
      have hres : leastN ES l.jn.length l.rc.length out (n + 1) u = leastN ES l.jn.length l.rc.length out n u := by
        conv => lhs; unfold leastN
        rw [if_pos (by rw [← HR.out]; exact hq)]
      rw [hres]
      clear hres hq
      have hrec : ∀ W', Below W.heap.size W W' → Calls Tryz.prog 74 #[.pointer (some ⟨pb, 0, none⟩), .int .i64 ((l.rc.length : Int) - n), .agg (uV u), .slice A out.length c] W' fun e w' => e = .returned (.int .i64 (leastN ES l.jn.length l.rc.length out n u)) ∧ Below W'.heap.size W' w' := fun W' hb' =>
        IH.out u W' (by omega) hu ((hb'.block pb (Array.getElem?_eq_some_iff.1 HB.out).1).trans HB.out) (HC.out.below hb') (Kd.C_below HO.out hb')
      have HREC := Aside0.mk hrec
      clear hrec
      go_enter Tryz.func74, Tryz.ntmps74
      go_wp2_with (first
        | (go_at_call 106; refine HCON.out.mono ?_; rintro e w1 ⟨rfl, hb1⟩; obtain ⟨g0, g1, g2, g3, g4, g5, g6, g7⟩ := uV_cells ((hb1.block W.heap.size (by simp)).trans CC0.out); have HB1 := Aside0.mk hb1; clear hb1)
        | (go_at_call 74; refine (HREC.out _ (below_next HBB.out HB1.out)).mono ?_; rintro e w2 ⟨rfl, hb2⟩; have HB2 := Aside0.mk hb2; clear hb2))
      go_ret
      exact ⟨rfl, below_next (below_next HBB.out HB1.out) HB2.out⟩
    | false =>
      rw [hq] at HCON
      rw [← HE.out hq]
      clear hq
      have hwrap : r + 1 = (l.rc.length : Int) - n := hnx
      go_enter Tryz.func74, Tryz.ntmps74
      go_wp2_with (first
        | (go_at_call 106; refine HCON.out.mono ?_; rintro e w1 ⟨rfl, hb1⟩; have HB1 := Aside0.mk hb1; clear hb1))
      have hbA := below_next HBB.out HB1.out
      have hcA := (HB1.out.block W.heap.size (by simp)).trans CC0.out
      have HBA := Aside0.mk hbA
      have HCA := Aside0.mk hcA
      clear hbA hcA
      go_loopg [9, 10] (l.jn.length + 1) (fun gg v9 v10 wr => ∃ k : Nat, k ≤ l.jn.length + 1 ∧ l.jn.length + 1 - k ≤ gg ∧ v10 = .int .i64 ((k : Int) - 1) ∧ v9 = .int .i64 (lacc ES l.jn.length l.rc.length out n u r k) ∧ Aside0 (Below W.heap.size W wr) ∧ Aside0 (wr.heap[W.heap.size]? = some (.cells (uV u) 106 (0, 0))))
      case atStart => exact ⟨0, Nat.zero_le _, by omega, by go_num, by simp [lacc], HBA, HCA⟩
      case round =>
        obtain ⟨k, hk, hg, rfl, rfl, BW, CW⟩ := hrel
        have hbx := (BW.out.block pb (Array.getElem?_eq_some_iff.1 HB.out).1).trans HB.out
        have c3 : wr.cell? ⟨pb, 3, none⟩ = some (.slice a.A3 l.jn.length a.c3) := by simp [World.cell?, hbx]
        have c6 : wr.cell? ⟨pb, 6, none⟩ = some (.map (some bc)) := by simp [World.cell?, hbx]
        obtain ⟨g0, g1, g2, g3, g4, g5, g6, g7⟩ := uV_cells CW.out
        have hslt : W.heap.size < wr.heap.size := (Array.getElem?_eq_some_iff.1 CW.out).1
        clear hbx
        by_cases hlt : k < l.jn.length + 1
        · have hltz : (k : Int) - 1 < (l.jn.length : Int) := by omega
          have hfree := free_any' ES pb bc r ((k : Int) - 1) u wr c6 (HC.out.below BW.out) (by omega) (by omega) hu
          have hst := lacc_succ ES l.jn.length l.rc.length out n u r k hlt
          have hrec : ∀ W' u', u'.length = 8 → Below W.heap.size W W' → Calls Tryz.prog 74 #[.pointer (some ⟨pb, 0, none⟩), .int .i64 ((l.rc.length : Int) - n), .agg (uV u'), .slice A out.length c] W' fun e w' => e = .returned (.int .i64 (leastN ES l.jn.length l.rc.length out n u')) ∧ Below W'.heap.size W' w' := fun W' u' hu' hb' =>
            IH.out u' W' (by omega) hu' ((hb'.block pb (Array.getElem?_eq_some_iff.1 HB.out).1).trans HB.out) (HC.out.below hb') (Kd.C_below HO.out hb')
          have hu' := freeU_len ES u r ((k : Int) - 1)
          have hbd := lacc_bd ES l.jn.length l.rc.length out n u r k
          have hbd2 := leastN_bd ES l.jn.length l.rc.length out n (freeU ES u r ((k : Int) - 1))
          unfold lstep at hst
          have HFR := Aside0.mk hfree
          have HST := Aside0.mk hst
          have HREC := Aside0.mk (hrec · (freeU ES u r ((k : Int) - 1)) (by rw [hu', hu]))
          clear hfree hst hrec hu'
          generalize freeU ES u r ((k : Int) - 1) = u' at *
          generalize freeB ES u r ((k : Int) - 1) = fr at *
          generalize leastN ES l.jn.length l.rc.length out n u' = m at *
          generalize lacc ES l.jn.length l.rc.length out n u r k = ac at *
          cases fr with
          | false =>
            go_wp2_with (first
              | (go_at_call 78; refine HFR.out.mono ?_; rintro e w2 ⟨rfl, hb2⟩; have HB2 := Aside0.mk hb2; clear hb2))
            have hb3 : Below wr.heap.size wr (w2.alloc (.cells (uV u') 106)) := below_next HB2.out ((Below.refl _ _).alloc (Nat.le_refl _) _)
            go_roundg (l.jn.length + 1 - (k + 1))
            case measure => omega
            case rel => exact ⟨k + 1, by omega, by omega, by go_num, by rw [HST.out]; simp, ⟨below_next BW.out hb3⟩, ⟨(hb3.block _ hslt).trans CW.out⟩⟩
          | true =>
            by_cases hk0 : k = 0
            · subst hk0
              go_wp2_with (first
                | (go_at_call 78; refine HFR.out.mono ?_; rintro e w2 ⟨rfl, hb2⟩; have HB2 := Aside0.mk hb2; have hb3 : Below wr.heap.size wr (w2.alloc (.cells (uV u') 106)) := below_next hb2 ((Below.refl _ _).alloc (Nat.le_refl _) _); have HB3 := Aside0.mk hb3; clear hb2 hb3)
                | (go_at_call 74; refine (HREC.out _ (below_next BW.out HB3.out)).mono ?_; rintro e w3 ⟨rfl, hb4⟩; have HB4 := Aside0.mk hb4; clear hb4)
                | (go_at_call 107; refine (min_new _ _ _).mono ?_; rintro e w5 ⟨rfl, rfl⟩))
              have hb5 := below_next HB3.out (below_next HB4.out ((Below.refl w3.heap.size w3).alloc (Nat.le_refl _) (.cells #[.int .i64 ac, .int .i64 (m + 1)] 3)))
              go_roundg (l.jn.length + 1 - (0 + 1))
              case measure => omega
              case rel => exact ⟨0 + 1, by omega, by omega, by go_num, by rw [HST.out]; simp , ⟨below_next BW.out hb5⟩, ⟨(hb5.block _ hslt).trans CW.out⟩⟩
            · have hne1 : ¬ ((k : Int) - 1 = -1) := by omega
              have hne3 : ((k : Int) - 1 == -1) = false := by simp; omega
              go_wp2_with (first
                | (go_at_call 78; refine HFR.out.mono ?_; rintro e w2 ⟨rfl, hb2⟩; have HB2 := Aside0.mk hb2; have hb3 : Below wr.heap.size wr (w2.alloc (.cells (uV u') 106)) := below_next hb2 ((Below.refl _ _).alloc (Nat.le_refl _) _); have HB3 := Aside0.mk hb3; clear hb2 hb3)
                | (go_at_call 74; refine (HREC.out _ (below_next BW.out HB3.out)).mono ?_; rintro e w3 ⟨rfl, hb4⟩; have HB4 := Aside0.mk hb4; clear hb4)
                | (go_at_call 107; refine (min_new _ _ _).mono ?_; rintro e w5 ⟨rfl, rfl⟩))
              have hb5 := below_next HB3.out (below_next HB4.out ((Below.refl w3.heap.size w3).alloc (Nat.le_refl _) (.cells #[.int .i64 ac, .int .i64 m] 3)))
              go_roundg (l.jn.length + 1 - (k + 1))
              case measure => omega
              case rel => exact ⟨k + 1, by omega, by omega, by go_num, by rw [HST.out]; simp [hne1], ⟨below_next BW.out hb5⟩, ⟨(hb5.block _ hslt).trans CW.out⟩⟩
        · have hk2 : k = l.jn.length + 1 := by omega
          subst hk2
          have hltz : ¬ ((l.jn.length + 1 : Nat) : Int) - 1 < (l.jn.length : Int) := by omega
          go_wp2
          go_ret
          exact ⟨rfl, BW.out⟩
end Go.Proofs.YthgfhgjlilmieaaGreat.G
namespace Go.Proofs.YthgfhgjlilmieaaGreat.G
open Go.RowKit Go.Shelf Go.Proofs.YthgfhgjlilmieaaGreatW.PrintWords Go.Proofs.YthgfhgjlilmieaaGreatW.PrintLast Go.Proofs.YthgfhgjlilmieaaGreatW.PrintMore
open Go.Proofs.YthgfhgjlilmieaaGreat.B
set_option linter.unusedVariables false
set_option linter.unusedSimpArgs false
theorem logE_sent {l : Lg} (h : logE l = 0) : ∀ s, s ∈ l.jn → 0 ≤ s.f1 ∧ s.f1 < l.sees.length ∧ s.f2.length ≤ 5 := by
  intro s hs
  unfold logE at h
  split at h
  · cases h
  · split at h
    · contradiction
    · split at h
      · cases h
      · rename_i hb
        have hall : l.jn.all (sentB l) = true := by
          cases hx : l.jn.all (sentB l) with
          | true => rfl
          | false => exact absurd (by simp [badB, hx]) hb
        have hsb := List.all_eq_true.1 hall s hs
        simp only [sentB, atB, Bool.and_eq_true, beq_iff_eq] at hsb
        obtain ⟨⟨⟨_, h1⟩, _⟩, h2⟩ := hsb
        simp only [inB, Bool.and_eq_true, decide_eq_true_eq] at h1
        refine ⟨by omega, by omega, ?_⟩
        unfold sendE at h2
        split at h2
        · contradiction
        · split at h2
          · cases h2
          · omega
theorem ownOf_append (E1 E2 : List (Int × Int)) (x : Int) : ownOf (E1 ++ E2) x = ownOf E1 x ++ ownOf E2 x := by simp [ownOf]
theorem ownOf_esR (l : Lg) (r : Nat) (x : Int) : ownOf (esR l r 2) x = if x = r then statL l (rd_T75 l.rc r) else [] := by
  have e : esR l r 2 = (statL l (rd_T75 l.rc r)).map (fun y => ((r : Int), y)) ++ (falL l (rd_T75 l.rc r)).map (fun y => ((r : Int), y)) := by
    simp [esR, List.range_succ, srcL]
  rw [e, ownOf_append]
  by_cases h : x = r
  · subst h
    rw [if_pos rfl]
    have h1 : ownOf ((statL l (rd_T75 l.rc r)).map fun y => ((r : Int), y)) r = statL l (rd_T75 l.rc r) := by
      unfold ownOf
      rw [List.filter_eq_self.2, List.map_map]
      · exact List.map_id _
      · intro p hp
        obtain ⟨y, hy, rfl⟩ := List.mem_map.1 hp
        have := statL_bd l _ y hy
        simp
        omega
    have h2 : ownOf ((falL l (rd_T75 l.rc r)).map fun y => ((r : Int), y)) r = [] := by
      unfold ownOf
      rw [List.filter_eq_nil_iff.2]
      · rfl
      · intro p hp
        obtain ⟨y, hy, rfl⟩ := List.mem_map.1 hp
        have := falL_bd l _ y hy
        simp [this]
    rw [h1, h2, List.append_nil]
  · rw [if_neg h]
    unfold ownOf
    rw [List.filter_eq_nil_iff.2, List.filter_eq_nil_iff.2]
    · rfl
    · intro p hp
      obtain ⟨y, hy, rfl⟩ := List.mem_map.1 hp
      simp
      intro e
      exact absurd e.symm h
    · intro p hp
      obtain ⟨y, hy, rfl⟩ := List.mem_map.1 hp
      simp
      intro e
      exact absurd e.symm h
theorem ownOf_esK (l : Lg) : ∀ (n r : Nat), ownOf (esK l n) r = if r < n then statL l (rd_T75 l.rc r) else []
  | 0, r => by simp [esK, ownOf]
  | n + 1, r => by
    rw [esK_succ, ownOf_append, ownOf_esK l n r, ownOf_esR]
    by_cases h1 : r < n
    · have h2 : ¬ ((r : Int) = n) := by omega
      simp [h1, h2, show r < n + 1 by omega]
    · by_cases h2 : r = n
      · subst h2
        simp
      · have h3 : ¬ ((r : Int) = n) := by omega
        simp [h1, h3, show ¬ r < n + 1 by omega]
theorem askE_ok {l : Lg} {n : Int} (h : askE l n = 0) : logE l = 0 ∧ 0 ≤ n ∧ n < l.rc.length := by
  unfold askE at h
  split at h
  · rename_i hx
    exact absurd h hx
  · rename_i hx
    split at h
    · cases h
    · rename_i hy
      refine ⟨by omega, ?_⟩
      simp [inB] at hy
      omega
def ownL (l : Lg) (n : Int) : List Int := if askE l n = 0 then statL l (rd_T75 l.rc n) else []
set_option maxRecDepth 100000 in
set_option maxHeartbeats 4000000 in
theorem own_any (a : LV) (l : Lg) (n : Int) (w : World) (hL : LogAt w a l) :
    Calls Tryz.prog 21 #[logV a l, .int .i64 n] w fun e w' => ∃ v, e = .returned (.tuple #[v, .int .i64 (askE l n)]) ∧ Kd.R (Kd.int .i64) 3 w' w.heap.size (fun _ => True) v (ownL l n) ∧ Below w.heap.size w w' := by
  have hu := Tryz.underlying38
  have hu3 := Tryz.underlying96
  have hb : Below w.heap.size w (w.alloc (logC a l)) := (Below.refl _ w).alloc (Nat.le_refl _) _
  have hask := asked_any a l n _ (hL.below hb)
  have HASK := Aside0.mk hask
  have HB := Aside0.mk hb
  by_cases h0 : askE l n = 0
  · obtain ⟨hl0, hn0, hn1⟩ := askE_ok h0
    obtain ⟨hsl, hjl, hrl⟩ := logE_len (l := l) hl0
    have hst := logE_sent hl0
    have hwork : ∀ W, Below w.heap.size w W → Calls Tryz.prog 65 #[logV a l] W fun e w' => e = .returned (.pointer (some ⟨W.heap.size + 3, 0, none⟩)) ∧ WkI W a l (esK l l.rc.length) (fun _ => False) w' := fun W hW => work_any a l W (hL.below hW) hjl hrl hst hL.z4
    have HW := Aside0.mk hwork
    have hown : ownL l n = statL l (rd_T75 l.rc n) := by simp [ownL, h0]
    obtain ⟨m, hm⟩ : ∃ m : Nat, n = m := ⟨n.toNat, by omega⟩
    subst hm
    obtain ⟨kl, hkl⟩ := keyOf3 (m : Int) (wf_small _ (by omega) (by omega))
    have HKL := Aside0.mk hkl
    have hz : ∀ W, (zeroValue 25).run Tryz.prog W = .ok (.slice none 0 0) W := fun W => by kernel_rfl
    rw [h0] at HASK
    rw [hown, h0]
    obtain ⟨A0, A2, A3, A4, c0, c2, c3, c4⟩ := a
    dsimp only [logV] at *
    clear hL hask hb hwork h0 hst hkl hown hl0
    go_enter Tryz.func21, Tryz.ntmps21
    go_wp2_with (first
      | (go_at_call 64; refine HASK.out.mono ?_; rintro e w1 ⟨rfl, hb1⟩; obtain ⟨hc1, hf1⟩ := bcell hb1; have HB1 := Aside0.mk hb1; clear hb1))
    refine (HW.out _ (below_next HB.out HB1.out)).mono ?_
    rintro e w2 ⟨rfl, hW2⟩
    obtain ⟨k1, k2, k3, k4⟩ := hW2
    obtain ⟨q1, q2, ⟨g, q3, q4⟩, q5⟩ := k2
    have hlook := q3.look false keyed3 Tryz.underlying93 (hz _) HKL.out
    have hcl : w2.cell? ⟨w1.heap.size + 3, 5, none⟩ = some (.map (some (w1.heap.size + 1))) := by simp [World.cell?, q1]
    have K3 := Aside0.mk k3
    have Q4 := Aside0.mk q4
    clear k1 k3 q1 q2 q3 q4
    go_wp2
    go_ret2
    have hr := Kd.R_mono (Q4.out.row (m : Int)) (ok' := fun _ => True) (fun _ _ => trivial)
    rw [ownOf_esK, if_pos (by omega)] at hr
    have hsz := (below_next HB.out HB1.out).size
    exact ⟨_, rfl, Kd.R_lower hr hsz, below_next (below_next HB.out HB1.out) K3.out⟩
  · have hd : (askE l n = 0) = False := eq_false h0
    have hd2 : (askE l n == 0) = false := by simp [h0]
    have hown : ownL l n = [] := by simp [ownL, h0]
    rw [hown]
    obtain ⟨A0, A2, A3, A4, c0, c2, c3, c4⟩ := a
    dsimp only [logV] at *
    clear hL hask hb h0 hown
    generalize askE l n = E at *
    go_enter Tryz.func21, Tryz.ntmps21
    go_wp2_with (first
      | (go_at_call 64; refine HASK.out.mono ?_; rintro e w1 ⟨rfl, hb1⟩; obtain ⟨hc1, hf1⟩ := bcell hb1; have HB1 := Aside0.mk hb1; clear hb1))
    go_ret2
    exact ⟨_, rfl, Kd.R_nil _ _ _ _ _, below_next HB.out HB1.out⟩
end Go.Proofs.YthgfhgjlilmieaaGreat.G
namespace Go.Proofs.YthgfhgjlilmieaaGreat.G
open Go.RowKit Go.Shelf Go.Proofs.YthgfhgjlilmieaaGreatW.PrintWords Go.Proofs.YthgfhgjlilmieaaGreatW.PrintLast Go.Proofs.YthgfhgjlilmieaaGreatW.PrintMore
open Go.Proofs.YthgfhgjlilmieaaGreat.B
set_option linter.unusedVariables false
set_option linter.unusedSimpArgs false
abbrev u0 : List Bool := [false, false, false, false, false, false, false, false]
theorem bel_setRow {B g : Nat} {w0 w : World} (hb : Below B w0 w) (hBg : B ≤ g) (cs : Array Value) : Below B w0 (w.setRow g cs) :=
  hb.trans ⟨rfl, rfl, rfl, by simp [World.setRow], fun k hk => setRow_other w g k cs (by omega)⟩
theorem uV_ok (u : List Bool) : (uV u).all (·.oneCell') = true := by simp [Value.oneCell']
end Go.Proofs.YthgfhgjlilmieaaGreat.G
namespace Go.Proofs.YthgfhgjlilmieaaGreat.G
open Go.RowKit Go.Shelf Go.Proofs.YthgfhgjlilmieaaGreatW.PrintWords Go.Proofs.YthgfhgjlilmieaaGreatW.PrintLast Go.Proofs.YthgfhgjlilmieaaGreatW.PrintMore
open Go.Proofs.YthgfhgjlilmieaaGreat.B
set_option linter.unusedVariables false
set_option linter.unusedSimpArgs false
def possN (ES : List (Int × Int)) (J R : Nat) (rec : Int) (fal : Bool) : Nat → List Bool → Bool
  | 0, _ => true
  | n + 1, u => (bys J).any fun b => (freeB ES u ((R : Int) - (n + 1)) b && (((R : Int) - (n + 1) != rec) || ((b == -1) == fal))) && possN ES J R rec fal n (freeU ES u ((R : Int) - (n + 1)) b)
def pstep (ES : List (Int × Int)) (J R : Nat) (rec : Int) (fal : Bool) (n : Nat) (u : List Bool) (r b : Int) : Bool := (freeB ES u r b && ((r != rec) || ((b == -1) == fal))) && possN ES J R rec fal n (freeU ES u r b)
def pacc (ES : List (Int × Int)) (J R : Nat) (rec : Int) (fal : Bool) (n : Nat) (u : List Bool) (r : Int) (k : Nat) : Bool := ((bys J).take k).any (pstep ES J R rec fal n u r)
theorem pacc_succ (ES : List (Int × Int)) (J R : Nat) (rec : Int) (fal : Bool) (n : Nat) (u : List Bool) (r : Int) (k : Nat) (h : k < J + 1) :
    pacc ES J R rec fal n u r (k + 1) = (pacc ES J R rec fal n u r k || pstep ES J R rec fal n u r ((k : Int) - 1)) := by
  unfold pacc
  rw [List.take_add_one, bys_get J k h]
  simp [List.any_append]
theorem pacc_end (ES : List (Int × Int)) (J R : Nat) (rec : Int) (fal : Bool) (n : Nat) (u : List Bool) : pacc ES J R rec fal n u ((R : Int) - (n + 1)) (J + 1) = possN ES J R rec fal (n + 1) u := by
  unfold pacc
  rw [List.take_of_length_le (by simp [bys])]
  rfl
theorem pacc_true (ES : List (Int × Int)) (J R : Nat) (rec : Int) (fal : Bool) (n : Nat) (u : List Bool) (r : Int) (k : Nat) (h : pacc ES J R rec fal n u r k = true) : pacc ES J R rec fal n u r (J + 1) = true := by
  unfold pacc at *
  rw [List.any_eq_true] at *
  obtain ⟨x, hx, h2⟩ := h
  refine ⟨x, ?_, h2⟩
  rw [List.take_of_length_le (by simp [bys])]
  exact List.mem_of_mem_take hx
theorem enters109 : Enters 109 := enters_of Tryz.func109 (by kernel_rfl) rfl
def PossW (pb bo bc B3 B4 B5 B8 : Nat) (a : LV) (l : Lg) (ES : List (Int × Int)) (rec : Int) (fal : Bool) (W : World) : Prop :=
  W.heap[pb]? = some (wkC a l bo bc) ∧ CanM bc ES W ∧ W.heap[B3]? = some (.cells #[.pointer (some ⟨pb, 0, none⟩)] 97 (0, 0)) ∧ W.heap[B4]? = some (.cells #[.int .i64 rec] 3 (0, 0)) ∧ W.heap[B5]? = some (.cells #[.bool fal] 4 (0, 0)) ∧
    W.heap[B8]? = some (.cells #[.func (.func 109) #[] #[.pointer (some ⟨B3, 0, none⟩), .pointer (some ⟨B4, 0, none⟩), .pointer (some ⟨B5, 0, none⟩), .pointer (some ⟨B8, 0, none⟩)]] 144 (0, 0))
theorem PossW.below {pb bo bc B3 B4 B5 B8 : Nat} {a : LV} {l : Lg} {ES : List (Int × Int)} {rec : Int} {fal : Bool} {W W' : World} (h : PossW pb bo bc B3 B4 B5 B8 a l ES rec fal W) (hb : Below W.heap.size W W') : PossW pb bo bc B3 B4 B5 B8 a l ES rec fal W' := by
  obtain ⟨h1, h2, h3, h4, h5, h6⟩ := h
  have bl : ∀ {k : Nat} {o : Obj}, W.heap[k]? = some o → W'.heap[k]? = some o := fun h => (hb.block _ (Array.getElem?_eq_some_iff.1 h).1).trans h
  exact ⟨bl h1, h2.below hb, bl h3, bl h4, bl h5, bl h6⟩
theorem PossW.cells {pb bo bc B3 B4 B5 B8 : Nat} {a : LV} {l : Lg} {ES : List (Int × Int)} {rec : Int} {fal : Bool} {W : World} (h : PossW pb bo bc B3 B4 B5 B8 a l ES rec fal W) :
    W.cell? ⟨pb, 3, none⟩ = some (.slice a.A3 l.jn.length a.c3) ∧ W.cell? ⟨pb, 4, none⟩ = some (.slice a.A4 l.rc.length a.c4) ∧ W.cell? ⟨pb, 6, none⟩ = some (.map (some bc)) ∧ W.cell? ⟨B3, 0, none⟩ = some (.pointer (some ⟨pb, 0, none⟩)) ∧ W.cell? ⟨B4, 0, none⟩ = some (.int .i64 rec) ∧ W.cell? ⟨B5, 0, none⟩ = some (.bool fal) ∧
    W.cell? ⟨B8, 0, none⟩ = some (.func (.func 109) #[] #[.pointer (some ⟨B3, 0, none⟩), .pointer (some ⟨B4, 0, none⟩), .pointer (some ⟨B5, 0, none⟩), .pointer (some ⟨B8, 0, none⟩)]) := by
  obtain ⟨h1, h2, h3, h4, h5, h6⟩ := h
  refine ⟨?_, ?_, ?_, ?_, ?_, ?_, ?_⟩
  · simp [World.cell?, h1]
  · simp [World.cell?, h1]
  · simp [World.cell?, h1]
  · simp [World.cell?, h3]
  · simp [World.cell?, h4]
  · simp [World.cell?, h5]
  · simp [World.cell?, h6]
set_option maxRecDepth 100000 in
set_option maxHeartbeats 8000000 in
theorem poss_any (ES : List (Int × Int)) (pb bo bc B3 B4 B5 B8 : Nat) (a : LV) (l : Lg) (rec : Int) (fal : Bool) (hj : l.jn.length ≤ 8) (hr6 : l.rc.length ≤ 6) :
    ∀ (n : Nat) (u : List Bool) (W : World), n ≤ l.rc.length → u.length = 8 → PossW pb bo bc B3 B4 B5 B8 a l ES rec fal W →
    Calls Tryz.prog 109 #[.int .i64 ((l.rc.length : Int) - n), .agg (uV u), .pointer (some ⟨B3, 0, none⟩), .pointer (some ⟨B4, 0, none⟩), .pointer (some ⟨B5, 0, none⟩), .pointer (some ⟨B8, 0, none⟩)] W fun e w' => e = .returned (.bool (possN ES l.jn.length l.rc.length rec fal n u)) ∧ Below W.heap.size W w' := by
  intro n
  induction n with
  | zero =>
    intro u W hn hu hP
    have hu6 := Tryz.underlying106
    have hu3 := Tryz.underlying96
    have bb : Below W.heap.size W (W.alloc (.cells (uV u) 106)) := (Below.refl _ W).alloc (Nat.le_refl _) _
    obtain ⟨x0, x1, x2, x3, x4, x5, x6⟩ := (hP.below bb).cells
    have hlt : ((l.rc.length : Int) - (0 : Nat) == (l.rc.length : Int)) = true := by simp
    rw [show ((l.rc.length : Int) - (0 : Nat)) = (l.rc.length : Int) by omega]
    clear hP
    go_enter Tryz.func109, Tryz.ntmps109
    go_wp2
    go_ret
    exact ⟨by simp [possN], bb⟩
  | succ n ih =>
    intro u W hn hu hP
    have hu6 := Tryz.underlying106
    have hu3 := Tryz.underlying96
    have eg := enters109
    unfold Enters at eg
    have bb : Below W.heap.size W (W.alloc (.cells (uV u) 106)) := (Below.refl _ W).alloc (Nat.le_refl _) _
    have hP1 := hP.below bb
    obtain ⟨x0, x1, x2, x3, x4, x5, x6⟩ := hP1.cells
    have IH := Aside0.mk ih
    have HP1 := Aside0.mk hP1
    have HBB := Aside0.mk bb
    have hE := pacc_end ES l.jn.length l.rc.length rec fal n u
    rw [show ((l.rc.length : Int) - ((n + 1 : Nat) : Int)) = ((l.rc.length : Int) - (n + 1)) by omega]
    have hne : ((l.rc.length : Int) - (n + 1) == (l.rc.length : Int)) = false := by simp; omega
    have hne2 : ¬ ((l.rc.length : Int) - (n + 1) = (l.rc.length : Int)) := by omega
    have hnx : ((l.rc.length : Int) - (n + 1)) + 1 = (l.rc.length : Int) - n := by omega
    obtain ⟨r, hr⟩ : ∃ r, r = (l.rc.length : Int) - (n + 1) := ⟨_, rfl⟩
    rw [← hr] at hne hne2 hnx hE ⊢
    have hrb : 0 ≤ r ∧ r ≤ 6 := by omega
    rw [← hE]
    have cc0 : (W.alloc (.cells (uV u) 106)).heap[W.heap.size]? = some (.cells (uV u) 106 (0, 0)) := alloc_new _ _
    have CC0 := Aside0.mk cc0
    clear ih hP hE bb hr cc0 hP1
    go_enter Tryz.func109, Tryz.ntmps109
    go_wp2
    go_loopg [9] (l.jn.length + 1) (fun gg v9 wr => ∃ k : Nat, k ≤ l.jn.length + 1 ∧ l.jn.length + 1 - k ≤ gg ∧ v9 = .int .i64 ((k : Int) - 1) ∧ Aside0 (pacc ES l.jn.length l.rc.length rec fal n u r k = false) ∧ Aside0 (Below W.heap.size W wr) ∧ Aside0 (PossW pb bo bc B3 B4 B5 B8 a l ES rec fal wr) ∧ Aside0 (wr.heap[W.heap.size]? = some (.cells (uV u) 106 (0, 0))))
    case atStart => exact ⟨0, Nat.zero_le _, by omega, by go_num, ⟨by simp [pacc]⟩, HBB, HP1, CC0⟩
    case round =>
      obtain ⟨k, hk, hg, rfl, HA, BW, HP, CW⟩ := hrel
      clear x0 x1 x2 x3 x4 x5 x6
      obtain ⟨x0, x1, x2, x3, x4, x5, x6⟩ := HP.out.cells
      obtain ⟨g0, g1, g2, g3, g4, g5, g6, g7⟩ := uV_cells CW.out
      have hslt : W.heap.size < wr.heap.size := (Array.getElem?_eq_some_iff.1 CW.out).1
      by_cases hlt : k < l.jn.length + 1
      · have hltz : (k : Int) - 1 < (l.jn.length : Int) := by omega
        have hfree := free_any' ES pb bc r ((k : Int) - 1) u wr x2 HP.out.2.1 (by omega) (by omega) hu
        have hst := pacc_succ ES l.jn.length l.rc.length rec fal n u r k hlt
        rw [HA.out, Bool.false_or] at hst
        have htr := pacc_true ES l.jn.length l.rc.length rec fal n u r (k + 1)
        have hrec : ∀ W' u', u'.length = 8 → Below wr.heap.size wr W' → Calls Tryz.prog 109 #[.int .i64 ((l.rc.length : Int) - n), .agg (uV u'), .pointer (some ⟨B3, 0, none⟩), .pointer (some ⟨B4, 0, none⟩), .pointer (some ⟨B5, 0, none⟩), .pointer (some ⟨B8, 0, none⟩)] W' fun e w' => e = .returned (.bool (possN ES l.jn.length l.rc.length rec fal n u')) ∧ Below W'.heap.size W' w' := fun W' u' hu' hb' =>
          IH.out u' W' (by omega) hu' (HP.out.below hb')
        have hu' := freeU_len ES u r ((k : Int) - 1)
        unfold pstep at hst
        have HFR := Aside0.mk hfree
        have HST := Aside0.mk hst
        have HTR := Aside0.mk htr
        have HREC := Aside0.mk (hrec · (freeU ES u r ((k : Int) - 1)) (by rw [hu', hu]))
        clear hfree hst hrec hu' htr
        generalize freeU ES u r ((k : Int) - 1) = u' at *
        generalize freeB ES u r ((k : Int) - 1) = fr at *
        generalize possN ES l.jn.length l.rc.length rec fal n u' = p at *
        cases fr with
        | false =>
          go_wp2_with (first
            | (go_at_call 78; refine HFR.out.mono ?_; rintro e w2 ⟨rfl, hb2⟩; have HB2 := Aside0.mk hb2; have hb3 : Below wr.heap.size wr (w2.alloc (.cells (uV u') 106)) := below_next hb2 ((Below.refl _ _).alloc (Nat.le_refl _) _); have HB3 := Aside0.mk hb3; obtain ⟨q0, q1, q2, q3, q4, q5, q6⟩ := (HP.out.below hb3).cells; obtain ⟨y0, y1, y2, y3, y4, y5, y6⟩ := (HP.out.below hb2).cells; clear hb2 hb3))
          go_roundg (l.jn.length + 1 - (k + 1))
          case measure => omega
          case rel => exact ⟨k + 1, by omega, by omega, by go_num, ⟨by rw [HST.out]; simp ⟩, ⟨below_next BW.out HB3.out⟩, ⟨HP.out.below HB3.out⟩, ⟨(HB3.out.block _ hslt).trans CW.out⟩⟩
        | true =>
          by_cases hre : r = rec
          · have hre2 : (r != rec) = false := by simp [hre]
            subst hre
            by_cases hk0 : k = 0
            · subst hk0
              cases fal with
              | true =>
                cases p with
                | true =>
                  go_wp2_with (first
                    | (go_at_call 78; refine HFR.out.mono ?_; rintro e w2 ⟨rfl, hb2⟩; have HB2 := Aside0.mk hb2; have hb3 : Below wr.heap.size wr (w2.alloc (.cells (uV u') 106)) := below_next hb2 ((Below.refl _ _).alloc (Nat.le_refl _) _); have HB3 := Aside0.mk hb3; obtain ⟨q0, q1, q2, q3, q4, q5, q6⟩ := (HP.out.below hb3).cells; obtain ⟨y0, y1, y2, y3, y4, y5, y6⟩ := (HP.out.below hb2).cells; clear hb2 hb3)
                    | (go_at_call 109; refine (HREC.out _ HB3.out).mono ?_; rintro e w3 ⟨rfl, hb4⟩; have HB4 := Aside0.mk hb4; clear hb4))
                  go_ret
                  exact ⟨by rw [HTR.out (by rw [HST.out]; simp )]; rfl, below_next BW.out (below_next HB3.out HB4.out)⟩
                | false =>
                  go_wp2_with (first
                    | (go_at_call 78; refine HFR.out.mono ?_; rintro e w2 ⟨rfl, hb2⟩; have HB2 := Aside0.mk hb2; have hb3 : Below wr.heap.size wr (w2.alloc (.cells (uV u') 106)) := below_next hb2 ((Below.refl _ _).alloc (Nat.le_refl _) _); have HB3 := Aside0.mk hb3; obtain ⟨q0, q1, q2, q3, q4, q5, q6⟩ := (HP.out.below hb3).cells; obtain ⟨y0, y1, y2, y3, y4, y5, y6⟩ := (HP.out.below hb2).cells; clear hb2 hb3)
                    | (go_at_call 109; refine (HREC.out _ HB3.out).mono ?_; rintro e w3 ⟨rfl, hb4⟩; have HB4 := Aside0.mk hb4; clear hb4))
                  have hb5 := below_next HB3.out HB4.out
                  go_roundg (l.jn.length + 1 - (0 + 1))
                  case measure => omega
                  case rel => exact ⟨0 + 1, by omega, by omega, by go_num, ⟨by rw [HST.out]; simp ⟩, ⟨below_next BW.out hb5⟩, ⟨HP.out.below hb5⟩, ⟨(hb5.block _ hslt).trans CW.out⟩⟩
              | false =>
                go_wp2_with (first
                  | (go_at_call 78; refine HFR.out.mono ?_; rintro e w2 ⟨rfl, hb2⟩; have HB2 := Aside0.mk hb2; have hb3 : Below wr.heap.size wr (w2.alloc (.cells (uV u') 106)) := below_next hb2 ((Below.refl _ _).alloc (Nat.le_refl _) _); have HB3 := Aside0.mk hb3; obtain ⟨q0, q1, q2, q3, q4, q5, q6⟩ := (HP.out.below hb3).cells; obtain ⟨y0, y1, y2, y3, y4, y5, y6⟩ := (HP.out.below hb2).cells; clear hb2 hb3))
                go_roundg (l.jn.length + 1 - (0 + 1))
                case measure => omega
                case rel => exact ⟨0 + 1, by omega, by omega, by go_num, ⟨by rw [HST.out]; simp ⟩, ⟨below_next BW.out HB3.out⟩, ⟨HP.out.below HB3.out⟩, ⟨(HB3.out.block _ hslt).trans CW.out⟩⟩
            · have hne1 : ¬ ((k : Int) - 1 = -1) := by omega
              have hne3 : ((k : Int) - 1 == -1) = false := by simp; omega
              cases fal with
              | true =>
                go_wp2_with (first
                  | (go_at_call 78; refine HFR.out.mono ?_; rintro e w2 ⟨rfl, hb2⟩; have HB2 := Aside0.mk hb2; have hb3 : Below wr.heap.size wr (w2.alloc (.cells (uV u') 106)) := below_next hb2 ((Below.refl _ _).alloc (Nat.le_refl _) _); have HB3 := Aside0.mk hb3; obtain ⟨q0, q1, q2, q3, q4, q5, q6⟩ := (HP.out.below hb3).cells; obtain ⟨y0, y1, y2, y3, y4, y5, y6⟩ := (HP.out.below hb2).cells; clear hb2 hb3))
                go_roundg (l.jn.length + 1 - (k + 1))
                case measure => omega
                case rel => exact ⟨k + 1, by omega, by omega, by go_num, ⟨by rw [HST.out]; simp [hne1, hne3]⟩, ⟨below_next BW.out HB3.out⟩, ⟨HP.out.below HB3.out⟩, ⟨(HB3.out.block _ hslt).trans CW.out⟩⟩
              | false =>
                cases p with
                | true =>
                  go_wp2_with (first
                    | (go_at_call 78; refine HFR.out.mono ?_; rintro e w2 ⟨rfl, hb2⟩; have HB2 := Aside0.mk hb2; have hb3 : Below wr.heap.size wr (w2.alloc (.cells (uV u') 106)) := below_next hb2 ((Below.refl _ _).alloc (Nat.le_refl _) _); have HB3 := Aside0.mk hb3; obtain ⟨q0, q1, q2, q3, q4, q5, q6⟩ := (HP.out.below hb3).cells; obtain ⟨y0, y1, y2, y3, y4, y5, y6⟩ := (HP.out.below hb2).cells; clear hb2 hb3)
                    | (go_at_call 109; refine (HREC.out _ HB3.out).mono ?_; rintro e w3 ⟨rfl, hb4⟩; have HB4 := Aside0.mk hb4; clear hb4))
                  go_ret
                  exact ⟨by rw [HTR.out (by rw [HST.out]; simp [hne1, hne3])]; rfl, below_next BW.out (below_next HB3.out HB4.out)⟩
                | false =>
                  go_wp2_with (first
                    | (go_at_call 78; refine HFR.out.mono ?_; rintro e w2 ⟨rfl, hb2⟩; have HB2 := Aside0.mk hb2; have hb3 : Below wr.heap.size wr (w2.alloc (.cells (uV u') 106)) := below_next hb2 ((Below.refl _ _).alloc (Nat.le_refl _) _); have HB3 := Aside0.mk hb3; obtain ⟨q0, q1, q2, q3, q4, q5, q6⟩ := (HP.out.below hb3).cells; obtain ⟨y0, y1, y2, y3, y4, y5, y6⟩ := (HP.out.below hb2).cells; clear hb2 hb3)
                    | (go_at_call 109; refine (HREC.out _ HB3.out).mono ?_; rintro e w3 ⟨rfl, hb4⟩; have HB4 := Aside0.mk hb4; clear hb4))
                  have hb5 := below_next HB3.out HB4.out
                  go_roundg (l.jn.length + 1 - (k + 1))
                  case measure => omega
                  case rel => exact ⟨k + 1, by omega, by omega, by go_num, ⟨by rw [HST.out]; simp [hne1, hne3]⟩, ⟨below_next BW.out hb5⟩, ⟨HP.out.below hb5⟩, ⟨(hb5.block _ hslt).trans CW.out⟩⟩
          · have hre2 : (r != rec) = true := by simp [hre]
            cases p with
            | true =>
              go_wp2_with (first
                | (go_at_call 78; refine HFR.out.mono ?_; rintro e w2 ⟨rfl, hb2⟩; have HB2 := Aside0.mk hb2; have hb3 : Below wr.heap.size wr (w2.alloc (.cells (uV u') 106)) := below_next hb2 ((Below.refl _ _).alloc (Nat.le_refl _) _); have HB3 := Aside0.mk hb3; obtain ⟨q0, q1, q2, q3, q4, q5, q6⟩ := (HP.out.below hb3).cells; obtain ⟨y0, y1, y2, y3, y4, y5, y6⟩ := (HP.out.below hb2).cells; clear hb2 hb3)
                | (go_at_call 109; refine (HREC.out _ HB3.out).mono ?_; rintro e w3 ⟨rfl, hb4⟩; have HB4 := Aside0.mk hb4; clear hb4))
              go_ret
              exact ⟨by rw [HTR.out (by rw [HST.out]; simp [hre2])]; rfl, below_next BW.out (below_next HB3.out HB4.out)⟩
            | false =>
              go_wp2_with (first
                | (go_at_call 78; refine HFR.out.mono ?_; rintro e w2 ⟨rfl, hb2⟩; have HB2 := Aside0.mk hb2; have hb3 : Below wr.heap.size wr (w2.alloc (.cells (uV u') 106)) := below_next hb2 ((Below.refl _ _).alloc (Nat.le_refl _) _); have HB3 := Aside0.mk hb3; obtain ⟨q0, q1, q2, q3, q4, q5, q6⟩ := (HP.out.below hb3).cells; obtain ⟨y0, y1, y2, y3, y4, y5, y6⟩ := (HP.out.below hb2).cells; clear hb2 hb3)
                | (go_at_call 109; refine (HREC.out _ HB3.out).mono ?_; rintro e w3 ⟨rfl, hb4⟩; have HB4 := Aside0.mk hb4; clear hb4))
              have hb5 := below_next HB3.out HB4.out
              go_roundg (l.jn.length + 1 - (k + 1))
              case measure => omega
              case rel => exact ⟨k + 1, by omega, by omega, by go_num, ⟨by rw [HST.out]; simp [hre2]⟩, ⟨below_next BW.out hb5⟩, ⟨HP.out.below hb5⟩, ⟨(hb5.block _ hslt).trans CW.out⟩⟩
      · have hk2 : k = l.jn.length + 1 := by omega
        subst hk2
        have hltz : ¬ ((l.jn.length + 1 : Nat) : Int) - 1 < (l.jn.length : Int) := by omega
        go_wp2
        go_ret
        exact ⟨by rw [HA.out]; rfl, BW.out⟩
end Go.Proofs.YthgfhgjlilmieaaGreat.G
