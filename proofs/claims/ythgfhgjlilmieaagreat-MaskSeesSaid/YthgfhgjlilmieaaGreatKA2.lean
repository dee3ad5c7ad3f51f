/- texts of this claim, merged by a program of this session out of its own texts and the print's words -/
import Derived.BigQuiet
import Derived.Deep.QuietTactic
import Derived.Ground.SlsfProg
import Derived.IntWalk
import Derived.Lib.SliceRun
import Derived.Shelf.SlSortCmp.NoneTotal
import Derived.Test.YthgfhgjlilmieaaGreatProg
import Derived.WalkMore
import Derived.Test.YthgfhgjlilmieaaGreatKA0
import Derived.Test.YthgfhgjlilmieaaGreatKA1
namespace Go.Proofs.YthgfhgjlilmieaaGreat.G
open Go.RowKit Go.Shelf Go.Proofs.YthgfhgjlilmieaaGreatW.PrintWords Go.Proofs.YthgfhgjlilmieaaGreatW.PrintLast Go.Proofs.YthgfhgjlilmieaaGreatW.PrintMore
open Go.Proofs.YthgfhgjlilmieaaGreat.B
set_option linter.unusedVariables false
set_option linter.unusedSimpArgs false
def possB (l : Lg) (rec : Int) (fal : Bool) : Bool := possN (esK l l.rc.length) l.jn.length l.rc.length rec fal l.rc.length u0
set_option maxRecDepth 100000 in
set_option maxHeartbeats 4000000 in
theorem possible_any (pb bo bc : Nat) (a : LV) (l : Lg) (rec : Int) (fal : Bool) (W : World) (hj : l.jn.length ≤ 8) (hr6 : l.rc.length ≤ 6) (hb : W.heap[pb]? = some (wkC a l bo bc)) (hC : CanM bc (esK l l.rc.length) W) :
    Calls Tryz.prog 77 #[.pointer (some ⟨pb, 0, none⟩), .int .i64 rec, .bool fal] W fun e w' => e = .returned (.bool (possB l rec fal)) ∧ Below W.heap.size W w' := by
  have eg := enters109
  unfold Enters at eg
  obtain ⟨W1, hW1⟩ : ∃ W1, W1 = (((W.alloc (.cells #[.pointer (some ⟨pb, 0, none⟩)] 97)).alloc (.cells #[.int .i64 rec] 3)).alloc (.cells #[.bool fal] 4)).alloc (.cells #[.func (.func 109) #[] #[.pointer (some ⟨W.heap.size, 0, none⟩), .pointer (some ⟨W.heap.size + 1, 0, none⟩), .pointer (some ⟨W.heap.size + 1 + 1, 0, none⟩), .pointer (some ⟨W.heap.size + 1 + 1 + 1, 0, none⟩)]] 144) := ⟨_, rfl⟩
  have bb : Below W.heap.size W W1 := by
    rw [hW1]
    exact ((((Below.refl _ W).alloc (Nat.le_refl _) _).alloc (by simp) _).alloc (by simp; omega) _).alloc (by simp; omega) _
  have hP : PossW pb bo bc W.heap.size (W.heap.size + 1) (W.heap.size + 1 + 1) (W.heap.size + 1 + 1 + 1) a l (esK l l.rc.length) rec fal W1 := by
    refine ⟨(bb.block _ (Array.getElem?_eq_some_iff.1 hb).1).trans hb, hC.below bb, ?_, ?_, ?_, ?_⟩
    · rw [hW1]
      exact heap_old (heap_old (heap_old (alloc_new _ _) _) _) _
    · rw [hW1]
      exact heap_old (heap_old (alloc_at _ _ (by simp)) _) _
    · rw [hW1]
      exact heap_old (alloc_at _ _ (by simp)) _
    · rw [hW1]
      exact alloc_at _ _ (by simp)
  have hcall := poss_any (esK l l.rc.length) pb bo bc _ _ _ _ a l rec fal hj hr6 l.rc.length u0 W1 (Nat.le_refl _) rfl hP
  rw [show ((l.rc.length : Int) - (l.rc.length : Nat)) = 0 by omega] at hcall
  rw [hW1] at hcall bb
  have HC := Aside0.mk hcall
  have HB := Aside0.mk bb
  clear hcall bb hP hW1 hb hC
  go_enter Tryz.func77, Tryz.ntmps77
  go_wp2_with (first
    | (go_at_call 109; refine HC.out.mono ?_; rintro e w1 ⟨rfl, hb1⟩; have HB1 := Aside0.mk hb1; clear hb1))
  go_ret
  exact ⟨rfl, below_next HB.out HB1.out⟩
def verdV (l : Lg) (r : Nat) : Option Int := if possB l r false = true then (if possB l r true = true then some 3 else some 1) else if possB l r true = true then some 2 else none
def verdK (l : Lg) : Nat → Option (List Int)
  | 0 => some []
  | k + 1 => (verdK l k).bind fun xs => (verdV l k).map fun v => xs ++ [v]
theorem verdK_none (l : Lg) (k : Nat) (h : verdK l k = none) : ∀ m, k ≤ m → verdK l m = none
  | 0, hm => by rw [show k = 0 by omega] at h; exact h
  | m + 1, hm => by
    by_cases e : k = m + 1
    · rw [← e]; exact h
    · simp [verdK, verdK_none l k h m (by omega)]
theorem verdK_len (l : Lg) : ∀ k xs, verdK l k = some xs → xs.length = k
  | 0, xs, h => by cases h; rfl
  | k + 1, xs, h => by
    simp only [verdK, Option.bind_eq_some_iff, Option.map_eq_some_iff] at h
    obtain ⟨ys, h1, v, _, rfl⟩ := h
    simp [verdK_len l k ys h1]
def verdE (l : Lg) : Int := if logE l ≠ 0 then logE l else if (verdK l l.rc.length).isSome = true then 0 else 11
def verdL (l : Lg) : List Int := if logE l ≠ 0 then [] else (verdK l l.rc.length).getD []
set_option maxRecDepth 100000 in
set_option maxHeartbeats 8000000 in
theorem verdicts_any (a : LV) (l : Lg) (w : World) (hL : LogAt w a l) :
    Calls Tryz.prog 35 #[logV a l] w fun e w' => ∃ v, e = .returned (.tuple #[v, .int .i64 (verdE l)]) ∧ Kd.R (Kd.int .i64) 3 w' w.heap.size (fun _ => True) v (verdL l) ∧ Below w.heap.size w w' := by
  have hu := Tryz.underlying38
  have hb : Below w.heap.size w (w.alloc (logC a l)) := (Below.refl _ w).alloc (Nat.le_refl _) _
  have hcl := checkLog_any a l _ (hL.below hb)
  have HCL := Aside0.mk hcl
  have HB := Aside0.mk hb
  by_cases h0 : logE l = 0
  · obtain ⟨hsl, hjl, hrl⟩ := logE_len (l := l) h0
    have hst := logE_sent h0
    have hwork : ∀ W, Below w.heap.size w W → Calls Tryz.prog 65 #[logV a l] W fun e w' => e = .returned (.pointer (some ⟨W.heap.size + 3, 0, none⟩)) ∧ WkI W a l (esK l l.rc.length) (fun _ => False) w' := fun W hW => work_any a l W (hL.below hW) hjl hrl hst hL.z4
    have HW := Aside0.mk hwork
    have hvE : verdE l = if (verdK l l.rc.length).isSome = true then 0 else 11 := by simp [verdE, h0]
    have hvL : verdL l = (verdK l l.rc.length).getD [] := by simp [verdL, h0]
    have HVE := Aside0.mk hvE
    have HVL := Aside0.mk hvL
    rw [h0] at HCL
    obtain ⟨A0, A2, A3, A4, c0, c2, c3, c4⟩ := a
    dsimp only [logV] at *
    clear hL hcl hb hwork h0 hst hvE hvL
    go_enter Tryz.func35, Tryz.ntmps35
    go_wp2_with (first
      | (go_at_call 19; refine HCL.out.mono ?_; rintro e w1 ⟨rfl, hb1⟩; obtain ⟨hc1, hf1⟩ := bcell hb1; have HB1 := Aside0.mk hb1; clear hb1))
    refine (HW.out _ (below_next HB.out HB1.out)).mono ?_
    rintro e w2 ⟨rfl, hW2⟩
    obtain ⟨k1, k2, k3, k4⟩ := hW2
    obtain ⟨q1, q2, _, _⟩ := k2
    obtain ⟨pb, hpb⟩ : ∃ pb, pb = w1.heap.size + 3 := ⟨_, rfl⟩
    obtain ⟨bc, hbc⟩ : ∃ bc, bc = w1.heap.size + 2 := ⟨_, rfl⟩
    rw [← hpb] at q1 ⊢
    rw [← hbc] at q1 q2
    generalize w1.heap.size + 1 = bo at q1
    have hb2 := below_next (below_next HB.out HB1.out) k3
    have hs3 : w2.heap[w.heap.size]? = some (logC ⟨A0, A2, A3, A4, c0, c2, c3, c4⟩ l) := ((below_next HB1.out k3).block w.heap.size (by simp)).trans (alloc_new _ _)
    have d4 : w2.cell? ⟨w.heap.size, 4, none⟩ = some (.slice A4 l.rc.length c4) := by simp [World.cell?, hs3]
    have J1 := Aside0.mk hb2
    have J3 := Aside0.mk q1
    have J4 := Aside0.mk q2
    have hz6 : w.heap.size ≤ w2.heap.size := hb2.size
    clear k1 k3 k4 q1 q2 hb2 hs3 hpb hbc
    go_wp2
    go_loopg [6, 20] l.rc.length (fun gg v6 v20 wr => ∃ (k : Nat) (xs : List Int), k ≤ l.rc.length ∧ l.rc.length - k ≤ gg ∧ v20 = .int .i64 k ∧ Aside0 (verdK l k = some xs) ∧ Aside0 (Kd.R (Kd.int .i64) 3 wr w2.heap.size (fun _ => True) v6 xs) ∧ Aside0 (Below w2.heap.size w2 wr))
    case atStart => exact ⟨0, [], Nat.zero_le _, by omega, by go_num, ⟨rfl⟩, ⟨Kd.R_nil _ _ _ _ _⟩, ⟨Below.refl _ _⟩⟩
    case round =>
      obtain ⟨k, xs, hk, hg, rfl, HV, HR, BW⟩ := hrel
      by_cases hlt : k < l.rc.length
      · have hltz : (k : Int) < (l.rc.length : Int) := by omega
        have hpA : ∀ W, Below w2.heap.size w2 W → ∀ fal, Calls Tryz.prog 77 #[.pointer (some ⟨pb, 0, none⟩), .int .i64 k, .bool fal] W fun e w' => e = .returned (.bool (possB l k fal)) ∧ Below W.heap.size W w' := fun W hW fal =>
          possible_any pb bo bc _ l k fal W hjl hrl ((hW.block _ (Array.getElem?_eq_some_iff.1 J3.out).1).trans J3.out) (J4.out.below hW)
        have hva : ∀ v, verdV l k = some v → verdK l (k + 1) = some (xs ++ [v]) := fun v hv => by simp [verdK, HV.out, hv]
        have hvn : verdV l k = none → verdK l (k + 1) = none := fun hv => by simp [verdK, HV.out, hv]
        have hxl := verdK_len l k xs HV.out
        have P1 := Aside0.mk (hpA wr BW.out false)
        have P2 := Aside0.mk hpA
        have HVA := Aside0.mk hva
        have HVN := Aside0.mk hvn
        clear hpA hva hvn
        cases hf : possB l k false with
        | true =>
          rw [hf] at P1
          cases ht : possB l k true with
          | true =>
            have P3 : Aside0 (∀ W, Below w2.heap.size w2 W → Calls Tryz.prog 77 #[.pointer (some ⟨pb, 0, none⟩), .int .i64 k, .bool true] W fun e w' => e = .returned (.bool true) ∧ Below W.heap.size W w') := ⟨fun W hW => by have := P2.out W hW true; rwa [ht] at this⟩
            have hx := HVA.out 3 (by simp [verdV, hf, ht])
            have HX := Aside0.mk hx
            clear hx hf ht
            go_wp2_with (fail)
            refine P1.out.mono ?_
            rintro e w3 ⟨rfl, hb3⟩
            have HB3 := Aside0.mk hb3
            clear hb3
            go_wp2_with (fail)
            refine (P3.out _ (below_next BW.out HB3.out)).mono ?_
            rintro e w4 ⟨rfl, hb4⟩
            have HB4 := Aside0.mk (below_next HB3.out hb4)
            clear hb4
            go_wp2_with (first
              | fail
              | ((with_reducible refine gate_builtin (b := .append) (xs := #[.tmp 34, .tmp 35]) rfl ?_); at_builtin; refine Kd.R_append (Kd.int .i64) (w0 := w2) w2.heap.size rfl (.tmp 34) (.tmp 35) 25 3 (.int .i64 0) 8 rfl Tryz.underlying25 info3 rfl (by decide) (by omega) u6 xs 3 [.int .i64 3] (fun _ => True) (fun _ => False) rfl rfl ?aP (fun _ hk => hk.elim) ?aF ?aO ?aB ?aS ?aL ?_; (case aP => exact rfl); (case aB => exact below_next BW.out HB4.out); (case aF => exact (fun _ _ => trivial)); (case aO => exact Kd.R_below HR.out HB4.out); (case aS => exact (below_next BW.out HB4.out).size); (case aL => omega); intro v1 w5 ho hb hg hat; have HO1 := Aside0.mk ho; have HB5 := Aside0.mk hb; clear ho hb hg hat))
            go_roundg (l.rc.length - (k + 1))
            case measure => omega
            case rel => exact ⟨k + 1, _, by omega, by omega, by go_num, HX, HO1, HB5⟩
          | false =>
            have P3 : Aside0 (∀ W, Below w2.heap.size w2 W → Calls Tryz.prog 77 #[.pointer (some ⟨pb, 0, none⟩), .int .i64 k, .bool true] W fun e w' => e = .returned (.bool false) ∧ Below W.heap.size W w') := ⟨fun W hW => by have := P2.out W hW true; rwa [ht] at this⟩
            have hx := HVA.out 1 (by simp [verdV, hf, ht])
            have HX := Aside0.mk hx
            clear hx hf ht
            go_wp2_with (fail)
            refine P1.out.mono ?_
            rintro e w3 ⟨rfl, hb3⟩
            have HB3 := Aside0.mk hb3
            clear hb3
            go_wp2_with (fail)
            refine (P3.out _ (below_next BW.out HB3.out)).mono ?_
            rintro e w4 ⟨rfl, hb4⟩
            have HB4 := Aside0.mk (below_next HB3.out hb4)
            clear hb4
            go_wp2_with (first
              | fail
              | ((with_reducible refine gate_builtin (b := .append) (xs := #[.tmp 39, .tmp 40]) rfl ?_); at_builtin; refine Kd.R_append (Kd.int .i64) (w0 := w2) w2.heap.size rfl (.tmp 39) (.tmp 40) 25 3 (.int .i64 0) 8 rfl Tryz.underlying25 info3 rfl (by decide) (by omega) u6 xs 1 [.int .i64 1] (fun _ => True) (fun _ => False) rfl rfl ?aP (fun _ hk => hk.elim) ?aF ?aO ?aB ?aS ?aL ?_; (case aP => exact rfl); (case aB => exact below_next BW.out HB4.out); (case aF => exact (fun _ _ => trivial)); (case aO => exact Kd.R_below HR.out HB4.out); (case aS => exact (below_next BW.out HB4.out).size); (case aL => omega); intro v1 w5 ho hb hg hat; have HO1 := Aside0.mk ho; have HB5 := Aside0.mk hb; clear ho hb hg hat))
            go_roundg (l.rc.length - (k + 1))
            case measure => omega
            case rel => exact ⟨k + 1, _, by omega, by omega, by go_num, HX, HO1, HB5⟩
        | false =>
          rw [hf] at P1
          cases ht : possB l k true with
          | true =>
            have P3 : Aside0 (∀ W, Below w2.heap.size w2 W → Calls Tryz.prog 77 #[.pointer (some ⟨pb, 0, none⟩), .int .i64 k, .bool true] W fun e w' => e = .returned (.bool true) ∧ Below W.heap.size W w') := ⟨fun W hW => by have := P2.out W hW true; rwa [ht] at this⟩
            have hx := HVA.out 2 (by simp [verdV, hf, ht])
            have HX := Aside0.mk hx
            clear hx hf ht
            go_wp2_with (fail)
            refine P1.out.mono ?_
            rintro e w3 ⟨rfl, hb3⟩
            have HB3 := Aside0.mk hb3
            clear hb3
            go_wp2_with (fail)
            refine (P3.out _ (below_next BW.out HB3.out)).mono ?_
            rintro e w4 ⟨rfl, hb4⟩
            have HB4 := Aside0.mk (below_next HB3.out hb4)
            clear hb4
            go_wp2_with (first
              | fail
              | ((with_reducible refine gate_builtin (b := .append) (xs := #[.tmp 44, .tmp 45]) rfl ?_); at_builtin; refine Kd.R_append (Kd.int .i64) (w0 := w2) w2.heap.size rfl (.tmp 44) (.tmp 45) 25 3 (.int .i64 0) 8 rfl Tryz.underlying25 info3 rfl (by decide) (by omega) u6 xs 2 [.int .i64 2] (fun _ => True) (fun _ => False) rfl rfl ?aP (fun _ hk => hk.elim) ?aF ?aO ?aB ?aS ?aL ?_; (case aP => exact rfl); (case aB => exact below_next BW.out HB4.out); (case aF => exact (fun _ _ => trivial)); (case aO => exact Kd.R_below HR.out HB4.out); (case aS => exact (below_next BW.out HB4.out).size); (case aL => omega); intro v1 w5 ho hb hg hat; have HO1 := Aside0.mk ho; have HB5 := Aside0.mk hb; clear ho hb hg hat))
            go_roundg (l.rc.length - (k + 1))
            case measure => omega
            case rel => exact ⟨k + 1, _, by omega, by omega, by go_num, HX, HO1, HB5⟩
          | false =>
            have P3 : Aside0 (∀ W, Below w2.heap.size w2 W → Calls Tryz.prog 77 #[.pointer (some ⟨pb, 0, none⟩), .int .i64 k, .bool true] W fun e w' => e = .returned (.bool false) ∧ Below W.heap.size W w') := ⟨fun W hW => by have := P2.out W hW true; rwa [ht] at this⟩
            have hx := verdK_none l (k + 1) (HVN.out (by simp [verdV, hf, ht])) l.rc.length (by omega)
            have HX := Aside0.mk hx
            clear hx hf ht
            go_wp2_with (fail)
            refine P1.out.mono ?_
            rintro e w3 ⟨rfl, hb3⟩
            have HB3 := Aside0.mk hb3
            clear hb3
            go_wp2_with (fail)
            refine (P3.out _ (below_next BW.out HB3.out)).mono ?_
            rintro e w4 ⟨rfl, hb4⟩
            have HB4 := Aside0.mk (below_next HB3.out hb4)
            clear hb4
            go_wp2_with (first
              | fail)
            go_ret2
            exact ⟨_, by rw [HVE.out, HX.out]; rfl, by rw [HVL.out, HX.out]; exact Kd.R_nil _ _ _ _ _, below_next J1.out (below_next BW.out HB4.out)⟩
      · have hk2 : k = l.rc.length := by omega
        subst hk2
        have hltz : ¬ (l.rc.length : Int) < (l.rc.length : Int) := by omega
        go_wp2
        go_ret2
        exact ⟨_, by rw [HVE.out, HV.out]; rfl, by rw [HVL.out, HV.out]; exact Kd.R_lower HR.out hz6, below_next J1.out BW.out⟩
  · have hvE : verdE l = logE l := by simp [verdE, h0]
    have hvL : verdL l = [] := by simp [verdL, h0]
    have hd : (logE l = 0) = False := eq_false h0
    have hd2 : (logE l == 0) = false := by simp [h0]
    rw [hvE, hvL]
    obtain ⟨A0, A2, A3, A4, c0, c2, c3, c4⟩ := a
    dsimp only [logV] at *
    clear hL hcl hb h0 hvE hvL
    generalize logE l = E at *
    go_enter Tryz.func35, Tryz.ntmps35
    go_wp2_with (first
      | (go_at_call 19; refine HCL.out.mono ?_; rintro e w1 ⟨rfl, hb1⟩; obtain ⟨hc1, hf1⟩ := bcell hb1; have HB1 := Aside0.mk hb1; clear hb1))
    go_ret2
    exact ⟨_, rfl, Kd.R_nil _ _ _ _ _, below_next HB.out HB1.out⟩
end Go.Proofs.YthgfhgjlilmieaaGreat.G
namespace Go.Proofs.YthgfhgjlilmieaaGreat.G
open Go.RowKit Go.Shelf Go.Proofs.YthgfhgjlilmieaaGreatW.PrintWords Go.Proofs.YthgfhgjlilmieaaGreatW.PrintLast Go.Proofs.YthgfhgjlilmieaaGreatW.PrintMore
open Go.Proofs.YthgfhgjlilmieaaGreat.B
attribute [local go_sem] Oper.semAt_some RunTo
set_option linter.unusedVariables false
set_option linter.unusedSimpArgs false
theorem C_nil (W : World) : Kd.C (Kd.int .i64) W none ([] : List Int).length [] := Kd.C_of_reads (d := (0 : Int)) (h1 := fun _ => rfl) ⟨rfl, by simp, fun h => absurd h (by simp)⟩
theorem stepI_append {F : Fence} {nF : Nat} {P : Program} {ops : Array Oper} {o : Oper} {a : Act} {W : World} {K : Act → World → Prop} {Q : Exit → Act → World → Prop} (s x : Operand) (t : TypeId) (ho : o.op = .call { callee := .builtin .append, args := #[s, x], argTypes := #[t, t] }) (hgd : o.guard = none)
    (hfn : ∀ f, F.fn f) (v y v1 : Value) (w1 : World) (hs : a.eval s = v) (hx : a.eval x = y) (hr : (Builtin.append_ #[t, t] o.type #[v, y]).run P W = .ok v1 w1) (hK : K (a.put o.dst v1) w1) :
    if Region.wanted o (yielded ops a.tmps) = true then Oper.wpIn F nF P o a W K Q else (∀ f, o.about P W a.eval = some f → F.fn f) ∧ K (a.put o.dst undef) W := by
  have hw : Region.wanted o (yielded ops a.tmps) = true := by simp [Region.wanted, hgd]
  rw [if_pos hw]
  unfold Oper.wpIn
  refine ⟨fun f _ => hfn f, ?_⟩
  rw [Oper.semAt_plain F _ _ (by rw [ho]; intro c hc'; cases hc')]
  unfold execOp
  simp only [ho, resolve, invoke, builtin, Sem.run_bind, Sem.run_pure, Result.andThen_ok, List.map_toArray, List.map_cons, List.map_nil, hs, hx, hr]
  exact hK
theorem stepI_store {F : Fence} {nF : Nat} {P : Program} {ops : Array Oper} {o : Oper} {a : Act} {w : World} {K : Act → World → Prop} {Q : Exit → Act → World → Prop} (ty : TypeId) (x y : Operand) (ho : o.op = .store ty x y) (hgd : o.guard = none)
    (g : Nat) (cells : Array Value) (hx : a.eval x = .pointer (some ⟨g, 0, none⟩)) (hy : a.eval y = .agg cells)
    (t : TypeId) (old : Array Value) (hg : w.heap[g]? = some (.cells old t (0, 0))) (hi : (P.info? ty).map (·.size) = some cells.size)
    (hold : old.size = cells.size) (h1 : cells.all (·.oneCell') = true) (hK : K (a.put o.dst undef) (w.setRow g cells)) :
    if Region.wanted o (yielded ops a.tmps) = true then Oper.wpIn F nF P o a w K Q else (∀ f, o.about P w a.eval = some f → F.fn f) ∧ K (a.put o.dst undef) w := by
  have hw : Region.wanted o (yielded ops a.tmps) = true := by simp [Region.wanted, hgd]
  rw [if_pos hw]
  unfold Oper.wpIn
  refine ⟨by simp [Oper.about, ho], ?_⟩
  rw [Oper.semAt_plain F _ _ (by rw [ho]; intro c hc'; cases hc')]
  simp only [execOp, ho, hx, hy, Instr.storeAt, Instr.sureAddr, Sem.run_bind, Sem.run_pure, Result.andThen_ok, run_storeVar_row w g t ty old cells hg hi hold h1]
  exact hK
def asgF (ES : List (Int × Int)) (J R r : Nat) (u : List Bool) (left b : Int) : Bool := freeB ES u r b && decide (leastN ES J R [] (R - (r + 1)) (freeU ES u r b) = left - if b = -1 then 1 else 0)
structure AS where
  out : List Int
  u : List Bool
  left : Int
def asgS (ES : List (Int × Int)) (J R r : Nat) (s : AS) : AS := match (bys J).find? (asgF ES J R r s.u s.left) with
  | none => s
  | some b => ⟨s.out ++ [b], freeU ES s.u r b, s.left - if b = -1 then 1 else 0⟩
def asgK (ES : List (Int × Int)) (J R : Nat) : Nat → AS
  | 0 => ⟨[], u0, leastN ES J R [] R u0⟩
  | k + 1 => asgS ES J R k (asgK ES J R k)
theorem find_take (f : Int → Bool) : ∀ (xs : List Int) (k : Nat) (x : Int), ((xs.take k).find? f) = none → xs[k]? = some x → f x = true → xs.find? f = some x
  | [], k, x, _, h, _ => by simp at h
  | y :: ys, 0, x, h0, h, hf => by
    simp at h
    subst h
    simp [List.find?, hf]
  | y :: ys, k + 1, x, h0, h, hf => by
    rw [List.take_succ_cons, List.find?_cons] at h0
    cases hy : f y with
    | true => rw [hy] at h0; cases h0
    | false =>
      rw [hy] at h0
      rw [List.find?_cons, hy]
      exact find_take f ys k x h0 (by simpa using h) hf
theorem find_miss (f : Int → Bool) (xs : List Int) (k : Nat) (x : Int) (h0 : ((xs.take k).find? f) = none) (h : xs[k]? = some x) (hf : f x = false) : (xs.take (k + 1)).find? f = none := by
  rw [List.take_add_one, h, List.find?_append, h0]
  simp [hf]
theorem asgS_inv (ES : List (Int × Int)) (J R r : Nat) (s : AS) (h : s.u.length = 8 ∧ 0 ≤ s.left ∧ s.left ≤ 1024 ∧ s.out.length ≤ r) : (asgS ES J R r s).u.length = 8 ∧ 0 ≤ (asgS ES J R r s).left ∧ (asgS ES J R r s).left ≤ 1024 ∧ (asgS ES J R r s).out.length ≤ r + 1 := by
  unfold asgS
  cases hf : (bys J).find? (asgF ES J R r s.u s.left) with
  | none => exact ⟨h.1, h.2.1, h.2.2.1, by simp; omega⟩
  | some b =>
    have hb := List.find?_some hf
    simp only [asgF, Bool.and_eq_true, decide_eq_true_eq] at hb
    have hbd := leastN_bd ES J R [] (R - (r + 1)) (freeU ES s.u r b)
    rw [hb.2] at hbd
    exact ⟨by rw [freeU_len]; exact h.1, hbd.1, hbd.2, by simp; omega⟩
theorem asgK_inv (ES : List (Int × Int)) (J R : Nat) : ∀ k, (asgK ES J R k).u.length = 8 ∧ 0 ≤ (asgK ES J R k).left ∧ (asgK ES J R k).left ≤ 1024 ∧ (asgK ES J R k).out.length ≤ k
  | 0 => ⟨rfl, (leastN_bd _ _ _ _ _ _).1, (leastN_bd _ _ _ _ _ _).2, Nat.le_refl _⟩
  | k + 1 => asgS_inv ES J R k _ (asgK_inv ES J R k)
def leftL (l : Lg) : Int := leastN (esK l l.rc.length) l.jn.length l.rc.length [] l.rc.length u0
def asgE (l : Lg) : Int := if logE l ≠ 0 then logE l else if 1024 ≤ leftL l then 11 else 0
def asgL (l : Lg) : List Int := if logE l ≠ 0 then [] else if 1024 ≤ leftL l then [] else (asgK (esK l l.rc.length) l.jn.length l.rc.length l.rc.length).out
set_option maxRecDepth 100000 in
set_option maxHeartbeats 8000000 in
theorem assign_any (a : LV) (l : Lg) (w : World) (hL : LogAt w a l) :
    Calls Tryz.prog 36 #[logV a l] w fun e w' => ∃ v, e = .returned (.tuple #[v, .int .i64 (asgE l)]) ∧ Kd.R (Kd.int .i64) 3 w' w.heap.size (fun _ => True) v (asgL l) ∧ Below w.heap.size w w' := by
  have hu := Tryz.underlying38
  have hu6 := Tryz.underlying106
  have hb : Below w.heap.size w (w.alloc (logC a l)) := (Below.refl _ w).alloc (Nat.le_refl _) _
  have hcl := checkLog_any a l _ (hL.below hb)
  have hfn : ∀ f, Fence.wide.fn f := fun _ => trivial
  have HCL := Aside0.mk hcl
  have HB := Aside0.mk hb
  by_cases h0 : logE l = 0
  · obtain ⟨hsl, hjl, hrl⟩ := logE_len (l := l) h0
    have hst := logE_sent h0
    have hwork : ∀ W, Below w.heap.size w W → Calls Tryz.prog 65 #[logV a l] W fun e w' => e = .returned (.pointer (some ⟨W.heap.size + 3, 0, none⟩)) ∧ WkI W a l (esK l l.rc.length) (fun _ => False) w' := fun W hW => work_any a l W (hL.below hW) hjl hrl hst hL.z4
    have HW := Aside0.mk hwork
    rw [h0] at HCL
    have hasE : asgE l = if 1024 ≤ leftL l then 11 else 0 := by simp [asgE, h0]
    have hasL : asgL l = if 1024 ≤ leftL l then [] else (asgK (esK l l.rc.length) l.jn.length l.rc.length l.rc.length).out := by simp [asgL, h0]
    have HE := Aside0.mk hasE
    have HO := Aside0.mk hasL
    have hlb := leastN_bd (esK l l.rc.length) l.jn.length l.rc.length [] l.rc.length u0
    have hlq : leftL l = leastN (esK l l.rc.length) l.jn.length l.rc.length [] l.rc.length u0 := rfl
    rw [← hlq] at hlb
    have HLQ := Aside0.mk hlq
    have hk0 : asgK (esK l l.rc.length) l.jn.length l.rc.length 0 = ⟨[], u0, leftL l⟩ := rfl
    have HK0 := Aside0.mk hk0
    have hleast : ∀ (n : Nat) (u : List Bool) (pb bo bc : Nat) (W : World), n ≤ l.rc.length → u.length = 8 → W.heap[pb]? = some (wkC a l bo bc) → CanM bc (esK l l.rc.length) W →
        Calls Tryz.prog 74 #[.pointer (some ⟨pb, 0, none⟩), .int .i64 ((l.rc.length : Int) - n), .agg (uV u), .slice none 0 0] W fun e w' => e = .returned (.int .i64 (leastN (esK l l.rc.length) l.jn.length l.rc.length [] n u)) ∧ Below W.heap.size W w' := fun n u pb bo bc W hn hu hb hC =>
      least_any _ pb bo bc a l none 0 [] hjl hrl n u W hn hu hb hC (C_nil W)
    have HLS := Aside0.mk hleast
    obtain ⟨A0, A2, A3, A4, c0, c2, c3, c4⟩ := a
    dsimp only [logV] at *
    clear hL hcl hb hwork h0 hst hasE hasL hk0 hleast hlq
    generalize leftL l = left at *
    generalize esK l l.rc.length = ES at *
    refine (callsIn_wide (n := 9)).1 ?_
    refine callsIn_of_wp Tryz.func36 rfl trivial ?_ rfl
    simp only [Tryz.ntmps36, List.size_toArray, List.length_cons, List.length_nil, Nat.reduceAdd, Nat.reduceSub, Array.replicate_succ, Array.replicate_zero, List.push_toArray, List.append_toArray, List.nil_append, List.cons_append]
    gi_wp2_with (first
      | (gi_at_call 19; refine (callsIn_wide.2 HCL.out).mono ?_; rintro e w1 ⟨rfl, hb1⟩; obtain ⟨hc1, hf1⟩ := bcell hb1; have HB1 := Aside0.mk hb1; clear hb1))
    refine (callsIn_wide.2 (HW.out _ (below_next HB.out HB1.out))).mono ?_
    rintro e w2 ⟨rfl, hW2⟩
    obtain ⟨k1, k2, k3, k4⟩ := hW2
    obtain ⟨q1, q2, _, _⟩ := k2
    obtain ⟨pb, hpb⟩ : ∃ pb, pb = w1.heap.size + 3 := ⟨_, rfl⟩
    obtain ⟨bc, hbc⟩ : ∃ bc, bc = w1.heap.size + 2 := ⟨_, rfl⟩
    rw [← hpb] at q1 ⊢
    rw [← hbc] at q1 q2
    generalize w1.heap.size + 1 = bo at q1
    have hb2 := below_next (below_next HB.out HB1.out) k3
    have hs3 : w2.heap[w.heap.size]? = some (logC ⟨A0, A2, A3, A4, c0, c2, c3, c4⟩ l) := ((below_next HB1.out k3).block w.heap.size (by simp)).trans (alloc_new _ _)
    have J1 := Aside0.mk hb2
    have J2 := Aside0.mk hs3
    have J3 := Aside0.mk q1
    have J4 := Aside0.mk q2
    have hz6 : w.heap.size ≤ w2.heap.size := hb2.size
    have hcall := HLS.out l.rc.length u0 pb bo bc w2 (Nat.le_refl _) rfl q1 q2
    rw [show ((l.rc.length : Int) - (l.rc.length : Nat)) = 0 by omega, ← HLQ.out] at hcall
    have HCA := Aside0.mk hcall
    clear k1 k3 k4 q1 q2 hb2 hs3 hpb hbc hcall
    by_cases hle : 1024 ≤ left
    · have hres := HE.out
      have hres2 := HO.out
      rw [if_pos hle] at hres hres2
      have hd1 : decide ((1024 : Int) ≤ left) = true := decide_eq_true hle
      have HR1 := Aside0.mk hres
      have HR2 := Aside0.mk hres2
      clear hres hres2
      gi_wp2_with (first
        | (gi_at_call 74; refine (callsIn_wide.2 HCA.out).mono ?_; rintro e w3 ⟨rfl, hb3⟩; have HB3 := Aside0.mk hb3; clear hb3))
      go_ret2
      exact ⟨_, by rw [HR1.out]; rfl, by rw [HR2.out]; exact Kd.R_nil _ _ _ _ _, below_next J1.out HB3.out⟩
    · have hres := HE.out
      have hres2 := HO.out
      rw [if_neg hle] at hres hres2
      have hd1 : decide ((1024 : Int) ≤ left) = false := decide_eq_false hle
      have HR1 := Aside0.mk hres
      have HR2 := Aside0.mk hres2
      clear hres hres2
      gi_wp2_with (fail)
      refine (callsIn_wide.2 HCA.out).mono ?_
      rintro e w3 ⟨rfl, hb3⟩
      have hs4 := (hb3.block _ (Array.getElem?_eq_some_iff.1 J2.out).1).trans J2.out
      have hsl4 := (Array.getElem?_eq_some_iff.1 hs4).1
      have hba : Below w3.heap.size w3 (w3.alloc (.cells (uV u0) 106)) := (Below.refl _ w3).alloc (Nat.le_refl _) _
      have d4 := alloc_old (show w3.cell? ⟨w.heap.size, 4, none⟩ = some (.slice A4 l.rc.length c4) by simp [World.cell?, hs4]) hsl4 (.cells #[.bool false, .bool false, .bool false, .bool false, .bool false, .bool false, .bool false, .bool false] 106)
      have hp4 := (hb3.block _ (Array.getElem?_eq_some_iff.1 J3.out).1).trans J3.out
      have K1 := Aside0.mk (below_next (below_next J1.out hb3) hba)
      have K2 := Aside0.mk ((hba.block _ hsl4).trans hs4)
      have K3 := Aside0.mk ((hba.block _ (Array.getElem?_eq_some_iff.1 hp4).1).trans hp4)
      have K4 := Aside0.mk ((J4.out.below hb3).below hba)
      have K5 := Aside0.mk (alloc_new w3 (.cells (uV u0) 106))
      have hz7 : w.heap.size ≤ w3.heap.size := by have := hb3.size; omega
      clear hb3 hs4 hba hp4 hsl4
      gi_wp2
      obtain ⟨q8, hq8⟩ : ∃ q8, q8 = w3.heap.size := ⟨_, rfl⟩
      rw [← hq8] at K5 hz7 ⊢
      clear hq8
      gi_loopw [6, 7, 29] (fun v6 v7 v29 wr => ∃ k : Nat, k ≤ l.rc.length ∧ v29 = .int .i64 k ∧ v6 = .int .i64 (asgK ES l.jn.length l.rc.length k).left ∧ Aside0 (Kd.R (Kd.int .i64) 3 wr w.heap.size (fun _ => True) v7 (asgK ES l.jn.length l.rc.length k).out) ∧ Aside0 (Below w.heap.size w wr) ∧ Aside0 (wr.heap[w.heap.size]? = some (logC ⟨A0, A2, A3, A4, c0, c2, c3, c4⟩ l)) ∧ Aside0 (wr.heap[pb]? = some (wkC ⟨A0, A2, A3, A4, c0, c2, c3, c4⟩ l bo bc)) ∧ Aside0 (CanM bc ES wr) ∧ Aside0 (wr.heap[q8]? = some (.cells (uV (asgK ES l.jn.length l.rc.length k).u) 106 (0, 0))))
        (fun _ _ v29 _ => l.rc.length - (intOf v29).toNat)
      case atStart => exact ⟨0, Nat.zero_le _, rfl, by rw [HK0.out], ⟨by rw [HK0.out]; exact Kd.R_nil _ _ _ _ _⟩, K1, K2, K3, K4, ⟨by rw [HK0.out]; exact K5.out⟩⟩
      case round =>
        obtain ⟨k, hk, rfl, rfl, HR, BW, HS, HP, HC, HQ⟩ := hrel
        by_cases hlt : k < l.rc.length
        · have hltz : (k : Int) < (l.rc.length : Int) := by omega
          have hinv := asgK_inv ES l.jn.length l.rc.length k
          have hsucc : asgK ES l.jn.length l.rc.length (k + 1) = asgS ES l.jn.length l.rc.length k (asgK ES l.jn.length l.rc.length k) := rfl
          have HSU := Aside0.mk hsucc
          clear hsucc
          generalize asgK ES l.jn.length l.rc.length k = st at *
          obtain ⟨out, u, lf⟩ := st
          dsimp only at *
          gi_wp2
          gi_loopw [6, 7, 10] (fun v6 v7 v10 W3 => ∃ j : Nat, j ≤ l.jn.length + 1 ∧ v10 = .int .i64 ((j : Int) - 1) ∧ v6 = .int .i64 lf ∧ Aside0 (((bys l.jn.length).take j).find? (asgF ES l.jn.length l.rc.length k u lf) = none) ∧ Aside0 (Kd.R (Kd.int .i64) 3 W3 w.heap.size (fun _ => True) v7 out) ∧ Aside0 (Below w.heap.size w W3) ∧ Aside0 (W3.heap[w.heap.size]? = some (logC ⟨A0, A2, A3, A4, c0, c2, c3, c4⟩ l)) ∧ Aside0 (W3.heap[pb]? = some (wkC ⟨A0, A2, A3, A4, c0, c2, c3, c4⟩ l bo bc)) ∧ Aside0 (CanM bc ES W3) ∧ Aside0 (W3.heap[q8]? = some (.cells (uV u) 106 (0, 0))))
            (fun _ _ v10 _ => l.jn.length + 1 - (intOf v10 + 1).toNat)
          case atStart => exact ⟨0, Nat.zero_le _, by go_num, rfl, ⟨by simp⟩, HR, BW, HS, HP, HC, HQ⟩
          case round =>
            obtain ⟨j, hjk, rfl, rfl, HN, HR, BW, HS, HP, HC, HQ⟩ := hrel
            have z3 : wr.cell? ⟨w.heap.size, 3, none⟩ = some (.slice A3 l.jn.length c3) := by simp [World.cell?, HS.out]
            have c6 : wr.cell? ⟨pb, 6, none⟩ = some (.map (some bc)) := by simp [World.cell?, HP.out]
            obtain ⟨g0, g1, g2, g3, g4, g5, g6, g7⟩ := uV_cells HQ.out
            have hqlt : q8 < wr.heap.size := (Array.getElem?_eq_some_iff.1 HQ.out).1
            by_cases hlt2 : j < l.jn.length + 1
            · have hltz2 : (j : Int) - 1 < (l.jn.length : Int) := by omega
              have hfree := free_any' ES pb bc k ((j : Int) - 1) u wr c6 HC.out (by omega) (by omega) hinv.1
              have hul := freeU_len ES u k ((j : Int) - 1)
              have hls : ∀ W', Below wr.heap.size wr W' → Calls Tryz.prog 74 #[.pointer (some ⟨pb, 0, none⟩), .int .i64 ((k : Int) + 1), .agg (uV (freeU ES u k ((j : Int) - 1))), .slice none 0 0] W' fun e w' => e = .returned (.int .i64 (leastN ES l.jn.length l.rc.length [] (l.rc.length - (k + 1)) (freeU ES u k ((j : Int) - 1)))) ∧ Below W'.heap.size W' w' := fun W' hb' => by
                have := HLS.out (l.rc.length - (k + 1)) (freeU ES u k ((j : Int) - 1)) pb bo bc W' (by omega) (by rw [hul]; exact hinv.1) ((hb'.block _ (Array.getElem?_eq_some_iff.1 HP.out).1).trans HP.out) (HC.out.below hb')
                rwa [show ((l.rc.length : Int) - ((l.rc.length - (k + 1) : Nat) : Int)) = (k : Int) + 1 by omega] at this
              have hF : asgF ES l.jn.length l.rc.length k u lf ((j : Int) - 1) = (freeB ES u k ((j : Int) - 1) && decide (leastN ES l.jn.length l.rc.length [] (l.rc.length - (k + 1)) (freeU ES u k ((j : Int) - 1)) = lf - if (j : Int) - 1 = -1 then 1 else 0)) := rfl
              have hmis := find_miss (asgF ES l.jn.length l.rc.length k u lf) _ j _ HN.out (bys_get l.jn.length j hlt2)
              have hhit := fun h => find_take (asgF ES l.jn.length l.rc.length k u lf) _ j _ HN.out (bys_get l.jn.length j hlt2) h
              have hhit2 : asgF ES l.jn.length l.rc.length k u lf ((j : Int) - 1) = true → asgK ES l.jn.length l.rc.length (k + 1) = ⟨out ++ [(j : Int) - 1], freeU ES u k ((j : Int) - 1), lf - if (j : Int) - 1 = -1 then 1 else 0⟩ := fun h => by
                rw [HSU.out]
                unfold asgS
                dsimp only
                rw [hhit h]
              have HFR := Aside0.mk hfree
              have HL7 := Aside0.mk hls
              have HF := Aside0.mk hF
              have HMIS := Aside0.mk hmis
              have HHIT := Aside0.mk hhit2
              have hul8 : (freeU ES u k ((j : Int) - 1)).length = 8 := by rw [hul]; exact hinv.1
              clear hfree hls hF hmis hhit hhit2 hul c6
              generalize freeU ES u k ((j : Int) - 1) = u' at *
              generalize freeB ES u k ((j : Int) - 1) = fr at *
              generalize leastN ES l.jn.length l.rc.length [] (l.rc.length - (k + 1)) u' = m at *
              cases fr with
              | false =>
                gi_wp2_with (first
                  | (gi_at_call 78; refine (callsIn_wide.2 HFR.out).mono ?_; rintro e w4 ⟨rfl, hb2⟩; have hb3 : Below wr.heap.size wr (w4.alloc (.cells (uV u') 106)) := below_next hb2 ((Below.refl _ _).alloc (Nat.le_refl _) _); have HB3 := Aside0.mk hb3; clear hb2 hb3))
                go_roundw
                case rel => exact ⟨j + 1, by omega, by go_num, rfl, ⟨HMIS.out (by rw [HF.out]; rfl)⟩, ⟨Kd.R_below HR.out HB3.out⟩, ⟨below_next BW.out HB3.out⟩, ⟨(HB3.out.block _ (Array.getElem?_eq_some_iff.1 HS.out).1).trans HS.out⟩, ⟨(HB3.out.block _ (Array.getElem?_eq_some_iff.1 HP.out).1).trans HP.out⟩, ⟨HC.out.below HB3.out⟩, ⟨(HB3.out.block _ hqlt).trans HQ.out⟩⟩
                case measure => simp [intOf] <;> omega
              | true =>
                by_cases hj0 : j = 0
                · subst hj0
                  by_cases hm : m = lf - 1
                  · have hx := HHIT.out (by rw [HF.out]; simp [hm ])
                    have HX := Aside0.mk hx
                    clear hx
                    subst hm
                    gi_wp2_with (first
                      | (gi_at_call 78; refine (callsIn_wide.2 HFR.out).mono ?_; rintro e w4 ⟨rfl, hb2⟩; have hb3 : Below wr.heap.size wr (w4.alloc (.cells (uV u') 106)) := below_next hb2 ((Below.refl _ _).alloc (Nat.le_refl _) _); have HB3 := Aside0.mk hb3; clear hb2 hb3)
                      | (gi_at_call 74; refine (callsIn_wide.2 (HL7.out _ HB3.out)).mono ?_; rintro e w5 ⟨rfl, hb4⟩; have HB4 := Aside0.mk hb4; clear hb4))
                    have hN5 := (HB4.out.block w4.heap.size (by simp)).trans (alloc_new w4 (.cells (uV u') 106))
                    have hb5 := below_next HB3.out HB4.out
                    have hS5 := (hb5.block _ (Array.getElem?_eq_some_iff.1 HS.out).1).trans HS.out
                    have hP5 := (hb5.block _ (Array.getElem?_eq_some_iff.1 HP.out).1).trans HP.out
                    have hQ5 := (hb5.block _ hqlt).trans HQ.out
                    have hC5 := HC.out.below hb5
                    have hR5 := Kd.R_below (Kd.R_below HR.out hb5) (below_drew (Below.refl w5.heap.size w5))
                    have hB5 := below_drew (below_next BW.out hb5)
                    have hsz5 : w.heap.size ≤ w5.drew.heap.size := hB5.size
                    obtain ⟨v1, wA, hrun, hRA, hgA, hatA⟩ := run_append1 w.heap.size w5.drew u7 _ (-1) _ hR5 hsz5 (by have := hinv.2.2.2; omega) (fun _ _ => trivial)
                    have keepA : ∀ {k : Nat} {c : Array Value} {t : TypeId} {f : Nat × Nat}, w5.heap[k]? = some (.cells c t f) → t ≠ 3 → wA.heap[k]? = some (.cells c t f) := fun {k c t f} h ht => (hgA.block k (Array.getElem?_eq_some_iff.1 h).1 (fun e => by
                      obtain ⟨c', hc'⟩ := (R_cells hR5 e.symm).2
                      rw [show w5.drew.heap[k]? = w5.heap[k]? from rfl, h] at hc'
                      cases hc'
                      exact ht rfl)).trans h
                    have hbo : w4.heap.size < w5.heap.size := (Array.getElem?_eq_some_iff.1 hN5).1
                    have HN0 : Aside0 (w5.drew.heap[w4.heap.size]? = some (.cells (uV u') 106 (0, 0))) := ⟨hN5⟩
                    have HN1 : Aside0 ((w5.alloc (.cells #[.int .i64 (-1)] 3)).drew.heap[w4.heap.size]? = some (.cells (uV u') 106 (0, 0))) := ⟨heap_old HN0.out (.cells #[.int .i64 (-1)] 3)⟩
                    have HN2 := Aside0.mk (keepA hN5 (by decide))
                    have HQA := Aside0.mk (keepA hQ5 (by decide))
                    have HSA := Aside0.mk (keepA hS5 (by decide))
                    have HPA := Aside0.mk (keepA hP5 (by decide))
                    have hCA : CanM bc ES wA := by
                      obtain ⟨f, hf, hf2⟩ := hC5
                      exact ⟨f, hf.same (hgA.block bc hf.lt (fun e => by
                        obtain ⟨c', hc'⟩ := (R_cells hR5 e.symm).2
                        exact hf.notCells _ _ _ hc')), hf2⟩
                    have hBA : Below w.heap.size w wA := hB5.grown hgA hB5.size (fun q e => own_base_of hR5 e)
                    have hpq : pb ≠ q8 := by rintro rfl; rw [hQ5] at hP5; cases hP5
                    have hsq : w.heap.size ≠ q8 := by intro e; rw [e, hQ5] at hS5; cases hS5
                    have hCF : CanM bc ES (wA.setRow q8 (uV u')) := by
                      obtain ⟨f, hf, hf2⟩ := hCA
                      exact ⟨f, hf.same (by rw [setRow_other _ _ _ _ (fun e => hf.notCells _ _ _ (by rw [e]; exact HQA.out))]), hf2⟩
                    have hRF : Kd.R (Kd.int .i64) 3 (wA.setRow q8 (uV u')) w.heap.size (fun _ => True) v1 (out ++ [-1]) :=
                      Kd.R_mono (Kd.R_step (Kd.R_bound hRA) (fun k hk _ => setRow_other _ _ _ _ (fun e => by
                        obtain ⟨_, _, _, q, hq, cs, hc⟩ := hk
                        have hq3 : q = 3 := by simpa [Kd.int, Kd.scalar] using hq
                        rw [e, HQA.out] at hc
                        cases hc
                        cases hq3))) (fun _ _ => trivial)
                    have HRF := Aside0.mk hRF
                    have HCF := Aside0.mk hCF
                    have HBF := Aside0.mk (bel_setRow hBA hz7 (uV u'))
                    have HRUN := Aside0.mk hrun
                    have HSF : Aside0 ((wA.setRow q8 (uV u')).heap[w.heap.size]? = _) := ⟨(setRow_other _ _ _ _ hsq).trans HSA.out⟩
                    have HPF : Aside0 ((wA.setRow q8 (uV u')).heap[pb]? = _) := ⟨(setRow_other _ _ _ _ hpq).trans HPA.out⟩
                    have HQF := Aside0.mk (setRow_heap wA q8 _ (uV u') 106 _ HQA.out)
                    clear hN5 hb5 hS5 hP5 hQ5 hC5 hR5 hB5 hsz5 hRA hgA hatA keepA hbo hCA hBA hpq hsq hCF hRF hrun
                    refine wpIn_region_any (by kernel_rfl) ?_
                    change wpAnyIn _ _ _ _ _ _ _ _ _ (World.drew _)
                    refine wpAnyIn_take (i := 0) (v := u7) rfl rfl (by kernel_rfl) (by kernel_rfl) (by kernel_rfl) (fun _ _ _ h => h) ⟨Or.inl ⟨by rfl, fun w => by go_simp⟩, fun _ => rfl⟩ ?_
                    refine wpAnyIn_take (i := 1) (v := .int .i64 (-1)) rfl rfl (by kernel_rfl) (by kernel_rfl) (by kernel_rfl) (fun _ _ _ h => h) ⟨Or.inl ⟨by rfl, fun w => by go_simp⟩, fun _ => rfl⟩ ?_
                    refine wpAnyIn_take (i := 5) (v := .int .i64 (lf - 1)) rfl rfl (by kernel_rfl) (by kernel_rfl) (by kernel_rfl) (fun _ _ _ h => h) ⟨Or.inl ⟨by rfl, fun w => by go_simp⟩, fun _ => rfl⟩ ?_
                    refine wpAnyIn_ready (rs := [2, 4]) (by kernel_rfl) (by simp) ?_
                    refine (AllReadyIn.cons rfl (fun K hK => ?_) (AllReadyIn.cons rfl (fun K hK => ?_) AllReadyIn.nil))
                    · go_simp
                      refine hK _ _ ?_
                      clear hK K
                      refine wpAnyIn_ready (rs := [3, 4]) (by kernel_rfl) (by simp) ?_
                      refine (AllReadyIn.cons rfl (fun K hK => ?_) (AllReadyIn.cons rfl (fun K hK => ?_) AllReadyIn.nil))
                      · refine stepI_append (.tmp 61) (.tmp 63) 25 rfl rfl hfn u7 (.slice (some ⟨w5.drew.heap.size, 0, none⟩) 1 1) v1 wA rfl rfl HRUN.out (hK _ _ ?_)
                        clear hK K
                        refine wpAnyIn_ready (rs := [4, 6]) (by kernel_rfl) (by simp) ?_
                        refine (AllReadyIn.cons rfl (fun K hK => ?_) (AllReadyIn.cons rfl (fun K hK => ?_) AllReadyIn.nil))
                        · obtain ⟨y0, y1, y2, y3, y4, y5, y6, y7⟩ := uV_cells HN2.out
                          go_simp
                          refine hK _ _ ?_
                          clear hK K y0 y1 y2 y3 y4 y5 y6 y7
                          refine wpAnyIn_ready (rs := [6]) (by kernel_rfl) (by simp) ?_
                          refine (AllReadyIn.cons rfl (fun K hK => ?_) AllReadyIn.nil)
                          · go_simp
                            refine hK _ _ ?_
                            clear hK K
                            refine wpAnyIn_ready (rs := [7]) (by kernel_rfl) (by simp) ?_
                            refine (AllReadyIn.cons rfl (fun K hK => ?_) AllReadyIn.nil)
                            · refine stepI_store 106 (.tmp 8) (.tmp 65) rfl rfl q8 (uV u') rfl rfl 106 (uV u) HQA.out size106 rfl (uV_ok u') (hK _ _ ?_)
                              clear hK K
                              refine wpAnyIn_ready (rs := [8]) (by kernel_rfl) (by simp) ?_
                              refine (AllReadyIn.cons rfl (fun K hK => ?_) AllReadyIn.nil)
                              · go_simp
                                refine hK _ _ ?_
                                clear hK K
                                refine wpAnyIn_done (by kernel_rfl) ?_ _
                                gi_wp2
                                go_roundw
                                case rel => exact ⟨k + 1, by omega, by go_num, by rw [HX.out]; simp , ⟨by rw [HX.out]; exact HRF.out⟩, HBF, HSF, HPF, HCF, ⟨by rw [HX.out]; exact HQF.out⟩⟩
                                case measure => simp [intOf] <;> omega
                        · go_simp
                          refine hK _ _ ?_
                          clear hK K
                          refine wpAnyIn_ready (rs := [4]) (by kernel_rfl) (by simp) ?_
                          refine (AllReadyIn.cons rfl (fun K hK => ?_) AllReadyIn.nil)
                          · obtain ⟨y0, y1, y2, y3, y4, y5, y6, y7⟩ := uV_cells HN2.out
                            go_simp
                            refine hK _ _ ?_
                            clear hK K y0 y1 y2 y3 y4 y5 y6 y7
                            refine wpAnyIn_ready (rs := [7]) (by kernel_rfl) (by simp) ?_
                            refine (AllReadyIn.cons rfl (fun K hK => ?_) AllReadyIn.nil)
                            · refine stepI_store 106 (.tmp 8) (.tmp 65) rfl rfl q8 (uV u') rfl rfl 106 (uV u) HQA.out size106 rfl (uV_ok u') (hK _ _ ?_)
                              clear hK K
                              refine wpAnyIn_ready (rs := [8]) (by kernel_rfl) (by simp) ?_
                              refine (AllReadyIn.cons rfl (fun K hK => ?_) AllReadyIn.nil)
                              · go_simp
                                refine hK _ _ ?_
                                clear hK K
                                refine wpAnyIn_done (by kernel_rfl) ?_ _
                                gi_wp2
                                go_roundw
                                case rel => exact ⟨k + 1, by omega, by go_num, by rw [HX.out]; simp , ⟨by rw [HX.out]; exact HRF.out⟩, HBF, HSF, HPF, HCF, ⟨by rw [HX.out]; exact HQF.out⟩⟩
                                case measure => simp [intOf] <;> omega
                      · obtain ⟨y0, y1, y2, y3, y4, y5, y6, y7⟩ := uV_cells HN1.out
                        go_simp
                        refine hK _ _ ?_
                        clear hK K y0 y1 y2 y3 y4 y5 y6 y7
                        refine wpAnyIn_ready (rs := [3]) (by kernel_rfl) (by simp) ?_
                        refine (AllReadyIn.cons rfl (fun K hK => ?_) AllReadyIn.nil)
                        · refine stepI_append (.tmp 61) (.tmp 63) 25 rfl rfl hfn u7 (.slice (some ⟨w5.drew.heap.size, 0, none⟩) 1 1) v1 wA rfl rfl HRUN.out (hK _ _ ?_)
                          clear hK K
                          refine wpAnyIn_ready (rs := [6]) (by kernel_rfl) (by simp) ?_
                          refine (AllReadyIn.cons rfl (fun K hK => ?_) AllReadyIn.nil)
                          · go_simp
                            refine hK _ _ ?_
                            clear hK K
                            refine wpAnyIn_ready (rs := [7]) (by kernel_rfl) (by simp) ?_
                            refine (AllReadyIn.cons rfl (fun K hK => ?_) AllReadyIn.nil)
                            · refine stepI_store 106 (.tmp 8) (.tmp 65) rfl rfl q8 (uV u') rfl rfl 106 (uV u) HQA.out size106 rfl (uV_ok u') (hK _ _ ?_)
                              clear hK K
                              refine wpAnyIn_ready (rs := [8]) (by kernel_rfl) (by simp) ?_
                              refine (AllReadyIn.cons rfl (fun K hK => ?_) AllReadyIn.nil)
                              · go_simp
                                refine hK _ _ ?_
                                clear hK K
                                refine wpAnyIn_done (by kernel_rfl) ?_ _
                                gi_wp2
                                go_roundw
                                case rel => exact ⟨k + 1, by omega, by go_num, by rw [HX.out]; simp , ⟨by rw [HX.out]; exact HRF.out⟩, HBF, HSF, HPF, HCF, ⟨by rw [HX.out]; exact HQF.out⟩⟩
                                case measure => simp [intOf] <;> omega
                    · obtain ⟨y0, y1, y2, y3, y4, y5, y6, y7⟩ := uV_cells HN0.out
                      go_simp
                      refine hK _ _ ?_
                      clear hK K y0 y1 y2 y3 y4 y5 y6 y7
                      refine wpAnyIn_ready (rs := [2]) (by kernel_rfl) (by simp) ?_
                      refine (AllReadyIn.cons rfl (fun K hK => ?_) AllReadyIn.nil)
                      · go_simp
                        refine hK _ _ ?_
                        clear hK K
                        refine wpAnyIn_ready (rs := [3]) (by kernel_rfl) (by simp) ?_
                        refine (AllReadyIn.cons rfl (fun K hK => ?_) AllReadyIn.nil)
                        · refine stepI_append (.tmp 61) (.tmp 63) 25 rfl rfl hfn u7 (.slice (some ⟨w5.drew.heap.size, 0, none⟩) 1 1) v1 wA rfl rfl HRUN.out (hK _ _ ?_)
                          clear hK K
                          refine wpAnyIn_ready (rs := [6]) (by kernel_rfl) (by simp) ?_
                          refine (AllReadyIn.cons rfl (fun K hK => ?_) AllReadyIn.nil)
                          · go_simp
                            refine hK _ _ ?_
                            clear hK K
                            refine wpAnyIn_ready (rs := [7]) (by kernel_rfl) (by simp) ?_
                            refine (AllReadyIn.cons rfl (fun K hK => ?_) AllReadyIn.nil)
                            · refine stepI_store 106 (.tmp 8) (.tmp 65) rfl rfl q8 (uV u') rfl rfl 106 (uV u) HQA.out size106 rfl (uV_ok u') (hK _ _ ?_)
                              clear hK K
                              refine wpAnyIn_ready (rs := [8]) (by kernel_rfl) (by simp) ?_
                              refine (AllReadyIn.cons rfl (fun K hK => ?_) AllReadyIn.nil)
                              · go_simp
                                refine hK _ _ ?_
                                clear hK K
                                refine wpAnyIn_done (by kernel_rfl) ?_ _
                                gi_wp2
                                go_roundw
                                case rel => exact ⟨k + 1, by omega, by go_num, by rw [HX.out]; simp , ⟨by rw [HX.out]; exact HRF.out⟩, HBF, HSF, HPF, HCF, ⟨by rw [HX.out]; exact HQF.out⟩⟩
                                case measure => simp [intOf] <;> omega
                  · have hm2 : (m == lf - 1) = false := by simp [hm]
                    have hx := HMIS.out (by rw [HF.out]; simp [hm ])
                    have HX := Aside0.mk hx
                    clear hx
                    gi_wp2_with (first
                      | (gi_at_call 78; refine (callsIn_wide.2 HFR.out).mono ?_; rintro e w4 ⟨rfl, hb2⟩; have hb3 : Below wr.heap.size wr (w4.alloc (.cells (uV u') 106)) := below_next hb2 ((Below.refl _ _).alloc (Nat.le_refl _) _); have HB3 := Aside0.mk hb3; clear hb2 hb3)
                      | (gi_at_call 74; refine (callsIn_wide.2 (HL7.out _ HB3.out)).mono ?_; rintro e w5 ⟨rfl, hb4⟩; have HB4 := Aside0.mk hb4; clear hb4))
                    have hb5 := below_next HB3.out HB4.out
                    go_roundw
                    case rel => exact ⟨0 + 1, by omega, by go_num, rfl, HX, ⟨Kd.R_below HR.out hb5⟩, ⟨below_next BW.out hb5⟩, ⟨(hb5.block _ (Array.getElem?_eq_some_iff.1 HS.out).1).trans HS.out⟩, ⟨(hb5.block _ (Array.getElem?_eq_some_iff.1 HP.out).1).trans HP.out⟩, ⟨HC.out.below hb5⟩, ⟨(hb5.block _ hqlt).trans HQ.out⟩⟩
                    case measure => simp [intOf] <;> omega
                · have hne1 : ¬ ((j : Int) - 1 = -1) := by omega
                  have hne3 : ((j : Int) - 1 == -1) = false := by simp; omega
                  by_cases hm : m = lf
                  · have hx := HHIT.out (by rw [HF.out]; simp [hm , hne1])
                    have HX := Aside0.mk hx
                    clear hx
                    subst hm
                    gi_wp2_with (first
                      | (gi_at_call 78; refine (callsIn_wide.2 HFR.out).mono ?_; rintro e w4 ⟨rfl, hb2⟩; have hb3 : Below wr.heap.size wr (w4.alloc (.cells (uV u') 106)) := below_next hb2 ((Below.refl _ _).alloc (Nat.le_refl _) _); have HB3 := Aside0.mk hb3; clear hb2 hb3)
                      | (gi_at_call 74; refine (callsIn_wide.2 (HL7.out _ HB3.out)).mono ?_; rintro e w5 ⟨rfl, hb4⟩; have HB4 := Aside0.mk hb4; clear hb4))
                    have hN5 := (HB4.out.block w4.heap.size (by simp)).trans (alloc_new w4 (.cells (uV u') 106))
                    have hb5 := below_next HB3.out HB4.out
                    have hS5 := (hb5.block _ (Array.getElem?_eq_some_iff.1 HS.out).1).trans HS.out
                    have hP5 := (hb5.block _ (Array.getElem?_eq_some_iff.1 HP.out).1).trans HP.out
                    have hQ5 := (hb5.block _ hqlt).trans HQ.out
                    have hC5 := HC.out.below hb5
                    have hR5 := Kd.R_below (Kd.R_below HR.out hb5) (below_drew (Below.refl w5.heap.size w5))
                    have hB5 := below_drew (below_next BW.out hb5)
                    have hsz5 : w.heap.size ≤ w5.drew.heap.size := hB5.size
                    obtain ⟨v1, wA, hrun, hRA, hgA, hatA⟩ := run_append1 w.heap.size w5.drew u7 _ ((j : Int) - 1) _ hR5 hsz5 (by have := hinv.2.2.2; omega) (fun _ _ => trivial)
                    have keepA : ∀ {k : Nat} {c : Array Value} {t : TypeId} {f : Nat × Nat}, w5.heap[k]? = some (.cells c t f) → t ≠ 3 → wA.heap[k]? = some (.cells c t f) := fun {k c t f} h ht => (hgA.block k (Array.getElem?_eq_some_iff.1 h).1 (fun e => by
                      obtain ⟨c', hc'⟩ := (R_cells hR5 e.symm).2
                      rw [show w5.drew.heap[k]? = w5.heap[k]? from rfl, h] at hc'
                      cases hc'
                      exact ht rfl)).trans h
                    have hbo : w4.heap.size < w5.heap.size := (Array.getElem?_eq_some_iff.1 hN5).1
                    have HN0 : Aside0 (w5.drew.heap[w4.heap.size]? = some (.cells (uV u') 106 (0, 0))) := ⟨hN5⟩
                    have HN1 : Aside0 ((w5.alloc (.cells #[.int .i64 ((j : Int) - 1)] 3)).drew.heap[w4.heap.size]? = some (.cells (uV u') 106 (0, 0))) := ⟨heap_old HN0.out (.cells #[.int .i64 ((j : Int) - 1)] 3)⟩
                    have HN2 := Aside0.mk (keepA hN5 (by decide))
                    have HQA := Aside0.mk (keepA hQ5 (by decide))
                    have HSA := Aside0.mk (keepA hS5 (by decide))
                    have HPA := Aside0.mk (keepA hP5 (by decide))
                    have hCA : CanM bc ES wA := by
                      obtain ⟨f, hf, hf2⟩ := hC5
                      exact ⟨f, hf.same (hgA.block bc hf.lt (fun e => by
                        obtain ⟨c', hc'⟩ := (R_cells hR5 e.symm).2
                        exact hf.notCells _ _ _ hc')), hf2⟩
                    have hBA : Below w.heap.size w wA := hB5.grown hgA hB5.size (fun q e => own_base_of hR5 e)
                    have hpq : pb ≠ q8 := by rintro rfl; rw [hQ5] at hP5; cases hP5
                    have hsq : w.heap.size ≠ q8 := by intro e; rw [e, hQ5] at hS5; cases hS5
                    have hCF : CanM bc ES (wA.setRow q8 (uV u')) := by
                      obtain ⟨f, hf, hf2⟩ := hCA
                      exact ⟨f, hf.same (by rw [setRow_other _ _ _ _ (fun e => hf.notCells _ _ _ (by rw [e]; exact HQA.out))]), hf2⟩
                    have hRF : Kd.R (Kd.int .i64) 3 (wA.setRow q8 (uV u')) w.heap.size (fun _ => True) v1 (out ++ [(j : Int) - 1]) :=
                      Kd.R_mono (Kd.R_step (Kd.R_bound hRA) (fun k hk _ => setRow_other _ _ _ _ (fun e => by
                        obtain ⟨_, _, _, q, hq, cs, hc⟩ := hk
                        have hq3 : q = 3 := by simpa [Kd.int, Kd.scalar] using hq
                        rw [e, HQA.out] at hc
                        cases hc
                        cases hq3))) (fun _ _ => trivial)
                    have HRF := Aside0.mk hRF
                    have HCF := Aside0.mk hCF
                    have HBF := Aside0.mk (bel_setRow hBA hz7 (uV u'))
                    have HRUN := Aside0.mk hrun
                    have HSF : Aside0 ((wA.setRow q8 (uV u')).heap[w.heap.size]? = _) := ⟨(setRow_other _ _ _ _ hsq).trans HSA.out⟩
                    have HPF : Aside0 ((wA.setRow q8 (uV u')).heap[pb]? = _) := ⟨(setRow_other _ _ _ _ hpq).trans HPA.out⟩
                    have HQF := Aside0.mk (setRow_heap wA q8 _ (uV u') 106 _ HQA.out)
                    clear hN5 hb5 hS5 hP5 hQ5 hC5 hR5 hB5 hsz5 hRA hgA hatA keepA hbo hCA hBA hpq hsq hCF hRF hrun
                    refine wpIn_region_any (by kernel_rfl) ?_
                    change wpAnyIn _ _ _ _ _ _ _ _ _ (World.drew _)
                    refine wpAnyIn_take (i := 0) (v := u7) rfl rfl (by kernel_rfl) (by kernel_rfl) (by kernel_rfl) (fun _ _ _ h => h) ⟨Or.inl ⟨by rfl, fun w => by go_simp⟩, fun _ => rfl⟩ ?_
                    refine wpAnyIn_take (i := 1) (v := .int .i64 ((j : Int) - 1)) rfl rfl (by kernel_rfl) (by kernel_rfl) (by kernel_rfl) (fun _ _ _ h => h) ⟨Or.inl ⟨by rfl, fun w => by go_simp⟩, fun _ => rfl⟩ ?_
                    refine wpAnyIn_take (i := 5) (v := .int .i64 (m)) rfl rfl (by kernel_rfl) (by kernel_rfl) (by kernel_rfl) (fun _ _ _ h => h) ⟨Or.inl ⟨by rfl, fun w => by go_simp⟩, fun _ => rfl⟩ ?_
                    refine wpAnyIn_ready (rs := [2, 4]) (by kernel_rfl) (by simp) ?_
                    refine (AllReadyIn.cons rfl (fun K hK => ?_) (AllReadyIn.cons rfl (fun K hK => ?_) AllReadyIn.nil))
                    · go_simp
                      refine hK _ _ ?_
                      clear hK K
                      refine wpAnyIn_ready (rs := [3, 4]) (by kernel_rfl) (by simp) ?_
                      refine (AllReadyIn.cons rfl (fun K hK => ?_) (AllReadyIn.cons rfl (fun K hK => ?_) AllReadyIn.nil))
                      · refine stepI_append (.tmp 61) (.tmp 63) 25 rfl rfl hfn u7 (.slice (some ⟨w5.drew.heap.size, 0, none⟩) 1 1) v1 wA rfl rfl HRUN.out (hK _ _ ?_)
                        clear hK K
                        refine wpAnyIn_ready (rs := [4, 6]) (by kernel_rfl) (by simp) ?_
                        refine (AllReadyIn.cons rfl (fun K hK => ?_) (AllReadyIn.cons rfl (fun K hK => ?_) AllReadyIn.nil))
                        · obtain ⟨y0, y1, y2, y3, y4, y5, y6, y7⟩ := uV_cells HN2.out
                          go_simp
                          refine hK _ _ ?_
                          clear hK K y0 y1 y2 y3 y4 y5 y6 y7
                          refine wpAnyIn_ready (rs := [6]) (by kernel_rfl) (by simp) ?_
                          refine (AllReadyIn.cons rfl (fun K hK => ?_) AllReadyIn.nil)
                          · go_simp
                            refine hK _ _ ?_
                            clear hK K
                            refine wpAnyIn_ready (rs := [7]) (by kernel_rfl) (by simp) ?_
                            refine (AllReadyIn.cons rfl (fun K hK => ?_) AllReadyIn.nil)
                            · refine stepI_store 106 (.tmp 8) (.tmp 65) rfl rfl q8 (uV u') rfl rfl 106 (uV u) HQA.out size106 rfl (uV_ok u') (hK _ _ ?_)
                              clear hK K
                              refine wpAnyIn_ready (rs := [8]) (by kernel_rfl) (by simp) ?_
                              refine (AllReadyIn.cons rfl (fun K hK => ?_) AllReadyIn.nil)
                              · go_simp
                                refine hK _ _ ?_
                                clear hK K
                                refine wpAnyIn_done (by kernel_rfl) ?_ _
                                gi_wp2
                                go_roundw
                                case rel => exact ⟨k + 1, by omega, by go_num, by rw [HX.out]; simp [hne1], ⟨by rw [HX.out]; exact HRF.out⟩, HBF, HSF, HPF, HCF, ⟨by rw [HX.out]; exact HQF.out⟩⟩
                                case measure => simp [intOf] <;> omega
                        · go_simp
                          refine hK _ _ ?_
                          clear hK K
                          refine wpAnyIn_ready (rs := [4]) (by kernel_rfl) (by simp) ?_
                          refine (AllReadyIn.cons rfl (fun K hK => ?_) AllReadyIn.nil)
                          · obtain ⟨y0, y1, y2, y3, y4, y5, y6, y7⟩ := uV_cells HN2.out
                            go_simp
                            refine hK _ _ ?_
                            clear hK K y0 y1 y2 y3 y4 y5 y6 y7
                            refine wpAnyIn_ready (rs := [7]) (by kernel_rfl) (by simp) ?_
                            refine (AllReadyIn.cons rfl (fun K hK => ?_) AllReadyIn.nil)
                            · refine stepI_store 106 (.tmp 8) (.tmp 65) rfl rfl q8 (uV u') rfl rfl 106 (uV u) HQA.out size106 rfl (uV_ok u') (hK _ _ ?_)
                              clear hK K
                              refine wpAnyIn_ready (rs := [8]) (by kernel_rfl) (by simp) ?_
                              refine (AllReadyIn.cons rfl (fun K hK => ?_) AllReadyIn.nil)
                              · go_simp
                                refine hK _ _ ?_
                                clear hK K
                                refine wpAnyIn_done (by kernel_rfl) ?_ _
                                gi_wp2
                                go_roundw
                                case rel => exact ⟨k + 1, by omega, by go_num, by rw [HX.out]; simp [hne1], ⟨by rw [HX.out]; exact HRF.out⟩, HBF, HSF, HPF, HCF, ⟨by rw [HX.out]; exact HQF.out⟩⟩
                                case measure => simp [intOf] <;> omega
                      · obtain ⟨y0, y1, y2, y3, y4, y5, y6, y7⟩ := uV_cells HN1.out
                        go_simp
                        refine hK _ _ ?_
                        clear hK K y0 y1 y2 y3 y4 y5 y6 y7
                        refine wpAnyIn_ready (rs := [3]) (by kernel_rfl) (by simp) ?_
                        refine (AllReadyIn.cons rfl (fun K hK => ?_) AllReadyIn.nil)
                        · refine stepI_append (.tmp 61) (.tmp 63) 25 rfl rfl hfn u7 (.slice (some ⟨w5.drew.heap.size, 0, none⟩) 1 1) v1 wA rfl rfl HRUN.out (hK _ _ ?_)
                          clear hK K
                          refine wpAnyIn_ready (rs := [6]) (by kernel_rfl) (by simp) ?_
                          refine (AllReadyIn.cons rfl (fun K hK => ?_) AllReadyIn.nil)
                          · go_simp
                            refine hK _ _ ?_
                            clear hK K
                            refine wpAnyIn_ready (rs := [7]) (by kernel_rfl) (by simp) ?_
                            refine (AllReadyIn.cons rfl (fun K hK => ?_) AllReadyIn.nil)
                            · refine stepI_store 106 (.tmp 8) (.tmp 65) rfl rfl q8 (uV u') rfl rfl 106 (uV u) HQA.out size106 rfl (uV_ok u') (hK _ _ ?_)
                              clear hK K
                              refine wpAnyIn_ready (rs := [8]) (by kernel_rfl) (by simp) ?_
                              refine (AllReadyIn.cons rfl (fun K hK => ?_) AllReadyIn.nil)
                              · go_simp
                                refine hK _ _ ?_
                                clear hK K
                                refine wpAnyIn_done (by kernel_rfl) ?_ _
                                gi_wp2
                                go_roundw
                                case rel => exact ⟨k + 1, by omega, by go_num, by rw [HX.out]; simp [hne1], ⟨by rw [HX.out]; exact HRF.out⟩, HBF, HSF, HPF, HCF, ⟨by rw [HX.out]; exact HQF.out⟩⟩
                                case measure => simp [intOf] <;> omega
                    · obtain ⟨y0, y1, y2, y3, y4, y5, y6, y7⟩ := uV_cells HN0.out
                      go_simp
                      refine hK _ _ ?_
                      clear hK K y0 y1 y2 y3 y4 y5 y6 y7
                      refine wpAnyIn_ready (rs := [2]) (by kernel_rfl) (by simp) ?_
                      refine (AllReadyIn.cons rfl (fun K hK => ?_) AllReadyIn.nil)
                      · go_simp
                        refine hK _ _ ?_
                        clear hK K
                        refine wpAnyIn_ready (rs := [3]) (by kernel_rfl) (by simp) ?_
                        refine (AllReadyIn.cons rfl (fun K hK => ?_) AllReadyIn.nil)
                        · refine stepI_append (.tmp 61) (.tmp 63) 25 rfl rfl hfn u7 (.slice (some ⟨w5.drew.heap.size, 0, none⟩) 1 1) v1 wA rfl rfl HRUN.out (hK _ _ ?_)
                          clear hK K
                          refine wpAnyIn_ready (rs := [6]) (by kernel_rfl) (by simp) ?_
                          refine (AllReadyIn.cons rfl (fun K hK => ?_) AllReadyIn.nil)
                          · go_simp
                            refine hK _ _ ?_
                            clear hK K
                            refine wpAnyIn_ready (rs := [7]) (by kernel_rfl) (by simp) ?_
                            refine (AllReadyIn.cons rfl (fun K hK => ?_) AllReadyIn.nil)
                            · refine stepI_store 106 (.tmp 8) (.tmp 65) rfl rfl q8 (uV u') rfl rfl 106 (uV u) HQA.out size106 rfl (uV_ok u') (hK _ _ ?_)
                              clear hK K
                              refine wpAnyIn_ready (rs := [8]) (by kernel_rfl) (by simp) ?_
                              refine (AllReadyIn.cons rfl (fun K hK => ?_) AllReadyIn.nil)
                              · go_simp
                                refine hK _ _ ?_
                                clear hK K
                                refine wpAnyIn_done (by kernel_rfl) ?_ _
                                gi_wp2
                                go_roundw
                                case rel => exact ⟨k + 1, by omega, by go_num, by rw [HX.out]; simp [hne1], ⟨by rw [HX.out]; exact HRF.out⟩, HBF, HSF, HPF, HCF, ⟨by rw [HX.out]; exact HQF.out⟩⟩
                                case measure => simp [intOf] <;> omega
                  · have hm2 : (m == lf) = false := by simp [hm]
                    have hx := HMIS.out (by rw [HF.out]; simp [hm , hne1])
                    have HX := Aside0.mk hx
                    clear hx
                    gi_wp2_with (first
                      | (gi_at_call 78; refine (callsIn_wide.2 HFR.out).mono ?_; rintro e w4 ⟨rfl, hb2⟩; have hb3 : Below wr.heap.size wr (w4.alloc (.cells (uV u') 106)) := below_next hb2 ((Below.refl _ _).alloc (Nat.le_refl _) _); have HB3 := Aside0.mk hb3; clear hb2 hb3)
                      | (gi_at_call 74; refine (callsIn_wide.2 (HL7.out _ HB3.out)).mono ?_; rintro e w5 ⟨rfl, hb4⟩; have HB4 := Aside0.mk hb4; clear hb4))
                    have hb5 := below_next HB3.out HB4.out
                    go_roundw
                    case rel => exact ⟨j + 1, by omega, by go_num, rfl, HX, ⟨Kd.R_below HR.out hb5⟩, ⟨below_next BW.out hb5⟩, ⟨(hb5.block _ (Array.getElem?_eq_some_iff.1 HS.out).1).trans HS.out⟩, ⟨(hb5.block _ (Array.getElem?_eq_some_iff.1 HP.out).1).trans HP.out⟩, ⟨HC.out.below hb5⟩, ⟨(hb5.block _ hqlt).trans HQ.out⟩⟩
                    case measure => simp [intOf] <;> omega
            · have hk2 : j = l.jn.length + 1 := by omega
              subst hk2
              have hltz2 : ¬ ((l.jn.length + 1 : Nat) : Int) - 1 < (l.jn.length : Int) := by omega
              have hnone : asgK ES l.jn.length l.rc.length (k + 1) = ⟨out, u, lf⟩ := by
                rw [HSU.out]
                unfold asgS
                dsimp only
                have := HN.out
                rw [List.take_of_length_le (by simp [bys])] at this
                rw [this]
              have HNO := Aside0.mk hnone
              clear hnone
              gi_wp2
              go_roundw
              case rel => exact ⟨k + 1, by omega, by go_num, by rw [HNO.out], ⟨by rw [HNO.out]; exact HR.out⟩, BW, HS, HP, HC, ⟨by rw [HNO.out]; exact HQ.out⟩⟩
              case measure => simp [intOf] <;> omega
        · have hk2 : k = l.rc.length := by omega
          subst hk2
          have hltz : ¬ (l.rc.length : Int) < (l.rc.length : Int) := by omega
          gi_wp2
          go_ret2
          exact ⟨_, by rw [HR1.out]; rfl, by rw [HR2.out]; exact HR.out, BW.out⟩
  · have hvE : asgE l = logE l := by simp [asgE, h0]
    have hvL : asgL l = [] := by simp [asgL, h0]
    have hd : (logE l = 0) = False := eq_false h0
    have hd2 : (logE l == 0) = false := by simp [h0]
    rw [hvE, hvL]
    obtain ⟨A0, A2, A3, A4, c0, c2, c3, c4⟩ := a
    dsimp only [logV] at *
    clear hL hcl hb h0 hvE hvL
    generalize logE l = E at *
    go_enter Tryz.func36, Tryz.ntmps36
    go_wp2_with (first
      | (go_at_call 19; refine HCL.out.mono ?_; rintro e w1 ⟨rfl, hb1⟩; obtain ⟨hc1, hf1⟩ := bcell hb1; have HB1 := Aside0.mk hb1; clear hb1))
    go_ret2
    exact ⟨_, rfl, Kd.R_nil _ _ _ _ _, below_next HB.out HB1.out⟩
end Go.Proofs.YthgfhgjlilmieaaGreat.G
namespace Go.Proofs.YthgfhgjlilmieaaGreat.G
open Go.RowKit Go.Shelf Go.Proofs.YthgfhgjlilmieaaGreatW.PrintWords Go.Proofs.YthgfhgjlilmieaaGreatW.PrintLast Go.Proofs.YthgfhgjlilmieaaGreatW.PrintMore
open Go.Proofs.YthgfhgjlilmieaaGreat.B
attribute [local go_sem] Oper.semAt_some RunTo
set_option linter.unusedVariables false
set_option linter.unusedSimpArgs false
theorem clone_any (A : Option Addr) (c : Nat) (xs : List Int) (W : World) (hr : Kd.C (Kd.int .i64) W A xs.length xs) (hl : xs.length ≤ 1000000) :
    Calls Tryz.prog 75 #[.slice A xs.length c] W fun e w' => ∃ v, e = .returned v ∧ Kd.R (Kd.int .i64) 3 w' W.heap.size (fun _ => True) v xs ∧ Below W.heap.size W w' := by
  cases A with
  | none =>
    have h0 : xs = [] := by
      cases xs with
      | nil => rfl
      | cons x xs =>
        obtain ⟨ad, e, _⟩ := Kd.at_int hr 0 (by omega) (by simp)
        cases e
    subst h0
    refine (Tryz.slices_Clone_int_nil _ c W).mono ?_
    rintro e w' ⟨rfl, rfl⟩
    exact ⟨_, rfl, Kd.R_nil _ _ _ _ _, Below.refl _ _⟩
  | some ad =>
    cases xs with
    | nil =>
      refine (Tryz.slices_Clone_int_zero ad c W).mono ?_
      rintro e w' ⟨v, rfl, ho, _, hb⟩
      exact ⟨v, rfl, Kd.R_of_own ho (fun _ _ => trivial), hb⟩
    | cons x ys =>
      obtain ⟨ad', e, hx⟩ := Kd.at_int hr 0 (by omega) (by simp)
      cases e
      obtain ⟨b, off, spot⟩ := ad
      have hsp : spot = none := by
        cases spot with
        | none => rfl
        | some s =>
          exfalso
          simp only [Int.toNat_zero, Addr.add, if_true, World.cell?] at hx
          split at hx <;> simp at hx
      subst hsp
      refine (Tryz.slices_Clone_int b off (x :: ys).length c (x :: ys) W (Nat.le_refl _) (by omega) (fun j hj => ?_)).mono ?_
      · obtain ⟨ad', e, hx'⟩ := Kd.at_int hr (j : Int) (by omega) (by omega)
        cases e
        rw [show (⟨b, off, none⟩ : Addr).add (j : Int).toNat = ⟨b, off + j, none⟩ by rw [Int.toNat_natCast]; unfold Addr.add; split <;> simp_all] at hx'
        rw [hx']
        simp [rd, List.getD_eq_getElem?_getD]
      · rintro e w' ⟨v, rfl, ho, _, hb⟩
        rw [List.take_length] at ho
        exact ⟨v, rfl, Kd.R_of_own ho (fun _ _ => trivial), hb⟩
def leaveP (ES : List (Int × Int)) (J R : Nat) : Nat → List Int → Nat → Option (List Int)
  | 0, out, _ => if leastN ES J R out R u0 < 1024 then some out else none
  | many + 1, out, from_ => (List.range' from_ (R - from_)).findSome? fun (r : Nat) => leaveP ES J R many (out ++ [(r : Int)]) (r + 1)
end Go.Proofs.YthgfhgjlilmieaaGreat.G
namespace Go.Proofs.YthgfhgjlilmieaaGreat.G
open Go.RowKit Go.Shelf Go.Proofs.YthgfhgjlilmieaaGreatW.PrintWords Go.Proofs.YthgfhgjlilmieaaGreatW.PrintLast Go.Proofs.YthgfhgjlilmieaaGreatW.PrintMore
open Go.Proofs.YthgfhgjlilmieaaGreat.B
attribute [local go_sem] Oper.semAt_some RunTo
set_option linter.unusedVariables false
set_option linter.unusedSimpArgs false
theorem run_append2 (base : Nat) (W : World) (v : Value) (xs : List Int) (y : Int) (bx : Nat) (ok : Nat → Prop) (HO : Kd.R (Kd.int .i64) 3 W base ok v xs) (hx : W.cell? ⟨bx, 0, none⟩ = some (.int .i64 y)) (hbase : base ≤ W.heap.size) (hl : xs.length ≤ 1000000) (hok : ∀ k, W.heap.size ≤ k → ok k) :
    ∃ v1 w1, (Builtin.append_ #[25, 25] 25 #[v, .slice (some ⟨bx, 0, none⟩) 1 1]).run Tryz.prog W = .ok v1 w1 ∧ Kd.R (Kd.int .i64) 3 w1 base ok v1 (xs ++ [y]) ∧ W.grownBy w1 v.ownBlock := by
  obtain ⟨h0, inner, hown, hr⟩ := HO
  obtain ⟨i0, hi, hzz⟩ := Option.map_eq_some_iff.1 info3
  simp only [Prod.mk.injEq] at hzz
  obtain ⟨hz0, hz1, hz2⟩ := hzz
  obtain ⟨v1, w1, e1, e2, e3, _, e5⟩ := run_append_own_at (P := Tryz.prog) W base 25 25 3 i0 (.int .i64 0) 1 8 Tryz.underlying25 hi hz0 hz1 hz2 rfl (by decide) v xs.length inner hown ⟨bx, 0, none⟩ 1 1 [.int .i64 y] rfl
    (fun j u hj => by
      match j, hj with
      | 0, hj => cases hj; exact hx) (by simp [Value.oneCell']) (by simp only [maxLen]; omega) (by omega) hbase
  have hat : v1.ownBlock = v.ownBlock ∨ ∃ b, v1.ownBlock = some b ∧ W.heap.size ≤ b := e5.imp id (fun h => ⟨_, h, Nat.le_refl _⟩)
  exact ⟨v1, w1, e1, Kd.R_appended (d := Kd.int .i64) (okp := fun _ => False) (cs := [.int .i64 y]) h0 hr rfl (fun _ hk => hk.elim) hok e2 e3 hat, e3⟩
abbrev lvF (B3 B4 B5 B6 : Nat) : Value := .func (.func 73) #[] #[.pointer (some ⟨B3, 0, none⟩), .pointer (some ⟨B4, 0, none⟩), .pointer (some ⟨B5, 0, none⟩), .pointer (some ⟨B6, 0, none⟩)]
structure LvW (pb bo bc B3 B4 B5 B6 : Nat) (a : LV) (l : Lg) (ES : List (Int × Int)) (W : World) : Prop where
  wk : W.heap[pb]? = some (wkC a l bo bc)
  can : CanM bc ES W
  b3 : ∃ vf, W.heap[B3]? = some (.cells #[vf] 25 (0, 0))
  b4 : W.heap[B4]? = some (.cells #[.pointer (some ⟨pb, 0, none⟩)] 97 (0, 0))
  b5 : W.heap[B5]? = some (logC a l)
  b6 : W.heap[B6]? = some (.cells #[lvF B3 B4 B5 B6] 103 (0, 0))
theorem LvW.grown {pb bo bc B3 B4 B5 B6 : Nat} {a : LV} {l : Lg} {ES : List (Int × Int)} {W W' : World} (h : LvW pb bo bc B3 B4 B5 B6 a l ES W) (hg : W.grownBy W' (some B3)) (h3 : ∃ vf, W'.heap[B3]? = some (.cells #[vf] 25 (0, 0))) : LvW pb bo bc B3 B4 B5 B6 a l ES W' := by
  obtain ⟨h1, ⟨f, hf, hf2⟩, ⟨vf, h3'⟩, h4, h5, h6⟩ := h
  have bl : ∀ {k : Nat} {c : Array Value} {t : TypeId} {fr : Nat × Nat}, W.heap[k]? = some (.cells c t fr) → t ≠ 25 → W'.heap[k]? = some (.cells c t fr) := fun {k c t fr} h ht => (hg.block _ (Array.getElem?_eq_some_iff.1 h).1 (fun e => by
    cases e
    rw [h3'] at h
    cases h
    exact ht rfl)).trans h
  exact ⟨bl h1 (by decide), ⟨f, hf.same (hg.block _ hf.lt (fun e => by cases e; exact hf.notCells _ _ _ h3')), hf2⟩, h3, bl h4 (by decide), bl h5 (by decide), bl h6 (by decide)⟩
theorem LvW.below {pb bo bc B3 B4 B5 B6 : Nat} {a : LV} {l : Lg} {ES : List (Int × Int)} {W W' : World} (h : LvW pb bo bc B3 B4 B5 B6 a l ES W) (hb : Below W.heap.size W W') : LvW pb bo bc B3 B4 B5 B6 a l ES W' := by
  obtain ⟨vf, h3⟩ := h.b3
  exact h.grown (grown_of_below hb _) ⟨vf, (hb.block _ (Array.getElem?_eq_some_iff.1 h3).1).trans h3⟩
theorem R_grown3 {B3 base : Nat} {W W' : World} {v vf : Value} {xs : List Int} (h : Kd.R (Kd.int .i64) 3 W base (fun _ => True) v xs) (h3 : W.heap[B3]? = some (.cells #[vf] 25 (0, 0))) (hg : W.grownBy W' (some B3)) : Kd.R (Kd.int .i64) 3 W' base (fun _ => True) v xs :=
  Kd.R_mono (Kd.R_grown (Kd.R_bound h) hg (fun k hk e => by
    obtain ⟨_, _, _, q, hq, cs, hc⟩ := hk
    have hq3 : q = 3 := by simpa [Kd.int, Kd.scalar] using hq
    cases e
    rw [h3] at hc
    cases hc
    cases hq3)) (fun _ _ => trivial)
def LvPost (B3 base : Nat) (res : Option (List Int)) (W : World) (e : Ending) (w' : World) : Prop :=
  e = .returned (.bool res.isSome) ∧ W.grownBy w' (some B3) ∧ ∃ vf, w'.heap[B3]? = some (.cells #[vf] 25 (0, 0)) ∧ ∀ xs, res = some xs → Kd.R (Kd.int .i64) 3 w' base (fun _ => True) vf xs
theorem lv6 {pb bo bc B3 B4 B5 B6 : Nat} {a : LV} {l : Lg} {ES : List (Int × Int)} {W W' : World} (h : LvW pb bo bc B3 B4 B5 B6 a l ES W) (hb : Below W.heap.size W W') : W'.cell? ⟨B6, 0, none⟩ = some (lvF B3 B4 B5 B6) := by
  have := (hb.block _ (Array.getElem?_eq_some_iff.1 h.b6).1).trans h.b6
  simp [World.cell?, this]
theorem enters73 : Enters 73 := enters_of Tryz.func73 (by kernel_rfl) rfl
def lvFind (ES : List (Int × Int)) (J R many : Nat) (out : List Int) (from_ n : Nat) : Option (List Int) := (List.range' from_ n).findSome? fun (r : Nat) => leaveP ES J R many (out ++ [(r : Int)]) (r + 1)
theorem lvFind_succ (ES : List (Int × Int)) (J R many : Nat) (out : List Int) (from_ n : Nat) (h : lvFind ES J R many out from_ n = none) : lvFind ES J R many out from_ (n + 1) = leaveP ES J R many (out ++ [((from_ + n : Nat) : Int)]) (from_ + n + 1) := by
  unfold lvFind at *
  rw [List.range'_concat, List.findSome?_append, h]
  simp
theorem lvFind_some (ES : List (Int × Int)) (J R many : Nat) (out : List Int) (from_ n m : Nat) (xs : List Int) (hm : n ≤ m) (h : lvFind ES J R many out from_ n = some xs) : lvFind ES J R many out from_ m = some xs := by
  unfold lvFind at *
  obtain ⟨d, rfl⟩ : ∃ d, m = n + d := ⟨m - n, by omega⟩
  rw [← List.range'_append_1, List.findSome?_append, h]
  rfl
set_option maxRecDepth 100000 in
set_option maxHeartbeats 8000000 in
theorem leave_any (ES : List (Int × Int)) (pb bo bc B3 B4 B5 B6 base : Nat) (a : LV) (l : Lg) (hj : l.jn.length ≤ 8) (hr6 : l.rc.length ≤ 6) :
    ∀ (many : Nat) (out : List Int) (v0 : Value) (from_ : Nat) (W : World), many ≤ 100 → out.length + many ≤ 1000 → from_ ≤ l.rc.length → base ≤ W.heap.size → LvW pb bo bc B3 B4 B5 B6 a l ES W → Kd.R (Kd.int .i64) 3 W base (fun _ => True) v0 out →
    Calls Tryz.prog 73 #[v0, .int .i64 from_, .int .i64 many, .pointer (some ⟨B3, 0, none⟩), .pointer (some ⟨B4, 0, none⟩), .pointer (some ⟨B5, 0, none⟩), .pointer (some ⟨B6, 0, none⟩)] W (LvPost B3 base (leaveP ES l.jn.length l.rc.length many out from_) W) := by
  intro many
  induction many with
  | zero =>
    intro out v0 from_ W hm hol hf hbase hW hR
    have hu6 := Tryz.underlying106
    obtain ⟨vf, h3⟩ := hW.b3
    obtain ⟨A0, c0, rfl, hl0, hC0⟩ := Kd.R_reads hR
    have hb3 : Boxed W B3 25 vf := h3
    have g1 := grownBy_setCell' W B3 (.slice A0 out.length c0)
    have hW1 := hW.grown g1 ⟨_, hb3.set (.slice A0 out.length c0)⟩
    have hR1 := R_grown3 hR h3 g1
    obtain ⟨A1, c1, e1, _, hC1⟩ := Kd.R_reads hR1
    cases e1
    have hcall := least_any ES pb bo bc a l A0 c0 out hj hr6 l.rc.length u0 _ (Nat.le_refl _) rfl hW1.wk hW1.can hC1
    rw [show ((l.rc.length : Int) - (l.rc.length : Nat)) = 0 by omega] at hcall
    have c3 := hb3.cell
    have f3 := hb3.frozen
    have c4 : (W.setCell ⟨B3, 0, none⟩ (.slice A0 out.length c0)).cell? ⟨B4, 0, none⟩ = some (.pointer (some ⟨pb, 0, none⟩)) := by simp [World.cell?, hW1.b4]
    have HCA := Aside0.mk hcall
    have HB := Aside0.mk (hb3.set (.slice A0 out.length c0))
    have HG := Aside0.mk g1
    have HR1 := Aside0.mk hR1
    clear hW hW1 hR hC0 hC1 hcall hb3 g1 hR1 h3
    have hres : leaveP ES l.jn.length l.rc.length 0 out from_ = if leastN ES l.jn.length l.rc.length out l.rc.length u0 < 1024 then some out else none := rfl
    have HRES := Aside0.mk hres
    clear hres
    generalize leastN ES l.jn.length l.rc.length out l.rc.length u0 = m at *
    go_enter Tryz.func73, Tryz.ntmps73
    go_wp2_with (fail)
    refine HCA.out.mono ?_
    rintro e w1 ⟨rfl, hb1⟩
    have HB1 := Aside0.mk hb1
    clear hb1
    go_wp2
    go_ret
    refine ⟨?_, ?_, _, (HB1.out.block B3 HB.out.lt).trans HB.out, fun xs hxs => ?_⟩
    · rw [HRES.out]
      by_cases h : m < 1024 <;> simp [h]
    · exact World.grownBy.trans HG.out (grown_of_below HB1.out _)
    · rw [HRES.out] at hxs
      by_cases h : m < 1024
      · rw [if_pos h] at hxs
        cases hxs
        exact Kd.R_below HR1.out HB1.out
      · rw [if_neg h] at hxs
        cases hxs
  | succ many ih =>
    intro out v0 from_ W hm hol hf hbase hW hR
    have hu := Tryz.underlying38
    have eg := enters73
    unfold Enters at eg
    have hfn : ∀ f, Fence.wide.fn f := fun _ => trivial
    obtain ⟨A0, c0, rfl, hl0, hC0⟩ := Kd.R_reads hR
    have IH := Aside0.mk ih
    have HW := Aside0.mk hW
    have HR := Aside0.mk hR
    obtain ⟨mm, hmm⟩ : ∃ mm : Int, mm = ((many + 1 : Nat) : Int) := ⟨_, rfl⟩
    rw [← hmm]
    have hmz : ¬ mm = 0 := by omega
    have hmz2 : (mm == 0) = false := by simp; omega
    have hmm1 : mm - 1 = (many : Int) := by omega
    clear hmm
    have hres : leaveP ES l.jn.length l.rc.length (many + 1) out from_ = lvFind ES l.jn.length l.rc.length many out from_ (l.rc.length - from_) := rfl
    have HRES := Aside0.mk hres
    clear ih hW hR hC0 hl0 hres
    refine (callsIn_wide (n := 9)).1 ?_
    refine callsIn_of_wp Tryz.func73 rfl trivial ?_ rfl
    simp only [Tryz.ntmps73, List.size_toArray, List.length_cons, List.length_nil, Nat.reduceAdd, Nat.reduceSub, Array.replicate_succ, Array.replicate_zero, List.push_toArray, List.append_toArray, List.nil_append, List.cons_append]
    gi_wp2
    gi_loopw [11] (fun v11 wr => ∃ r : Nat, from_ ≤ r ∧ r ≤ l.rc.length ∧ v11 = .int .i64 r ∧ Aside0 (lvFind ES l.jn.length l.rc.length many out from_ (r - from_) = none) ∧ Aside0 (LvW pb bo bc B3 B4 B5 B6 a l ES wr) ∧ Aside0 (Kd.R (Kd.int .i64) 3 wr base (fun _ => True) (.slice A0 out.length c0) out) ∧ Aside0 (W.grownBy wr (some B3)))
      (fun v11 _ => l.rc.length - (intOf v11).toNat)
    case atStart => exact ⟨from_, Nat.le_refl _, hf, rfl, ⟨by simp [lvFind]⟩, HW, HR, ⟨⟨rfl, rfl, rfl, Nat.le_refl _, fun _ _ _ => rfl⟩⟩⟩
    case round =>
      obtain ⟨r, hr1, hr2, rfl, HN, HLV, HR, HG⟩ := hrel
      have z4 : wr.cell? ⟨B5, 4, none⟩ = some (.slice a.A4 l.rc.length a.c4) := by simp [World.cell?, HLV.out.b5]
      have hbr : base ≤ wr.heap.size := Nat.le_trans hbase HG.out.size
      by_cases hlt : r < l.rc.length
      · have hltz : (r : Int) < (l.rc.length : Int) := by omega
        obtain ⟨A1, c1, e1, hl1, hC1⟩ := Kd.R_reads HR.out
        cases e1
        have HC0 := Aside0.mk hC1
        have hrec : ∀ v1 W', Below wr.heap.size wr W' → Kd.R (Kd.int .i64) 3 W' base (fun _ => True) v1 (out ++ [(r : Int)]) →
            Calls Tryz.prog 73 #[v1, .int .i64 ((r : Int) + 1), .int .i64 many, .pointer (some ⟨B3, 0, none⟩), .pointer (some ⟨B4, 0, none⟩), .pointer (some ⟨B5, 0, none⟩), .pointer (some ⟨B6, 0, none⟩)] W' (LvPost B3 base (leaveP ES l.jn.length l.rc.length many (out ++ [(r : Int)]) (r + 1)) W') := fun v1 W' hb hR =>
          IH.out _ v1 (r + 1) W' (by omega) (by rw [List.length_append]; simp; omega) (by omega) (Nat.le_trans hbr hb.size) (HLV.out.below hb) hR
        have HREC := Aside0.mk hrec
        have HB0 : Aside0 (Below wr.heap.size wr wr.drew) := ⟨below_drew (Below.refl _ _)⟩
        have hst := lvFind_succ ES l.jn.length l.rc.length many out from_ (r - from_) HN.out
        rw [show from_ + (r - from_) = r by omega, show r - from_ + 1 = r + 1 - from_ by omega] at hst
        have HST := Aside0.mk hst
        clear hC1 hrec hst
        gi_wp2
        refine wpIn_region_any (by kernel_rfl) ?_
        change wpAnyIn _ _ _ _ _ _ _ _ _ (World.drew _)
        refine wpAnyIn_take (i := 1) (v := .slice A0 out.length c0) rfl rfl (by kernel_rfl) (by kernel_rfl) (by kernel_rfl) (fun _ _ _ h => h) ⟨Or.inl ⟨by rfl, fun w => by go_simp⟩, fun _ => rfl⟩ ?_
        refine wpAnyIn_take (i := 3) (v := .int .i64 r) rfl rfl (by kernel_rfl) (by kernel_rfl) (by kernel_rfl) (fun _ _ _ h => h) ⟨Or.inl ⟨by rfl, fun w => by go_simp⟩, fun _ => rfl⟩ ?_
        refine wpAnyIn_take (i := 6) (v := .int .i64 r) rfl rfl (by kernel_rfl) (by kernel_rfl) (by kernel_rfl) (fun _ _ _ h => h) ⟨Or.inl ⟨by rfl, fun w => by go_simp⟩, fun _ => rfl⟩ ?_
        refine wpAnyIn_take (i := 7) (v := .int .i64 ((r : Int) + 1)) rfl rfl (by kernel_rfl) (by kernel_rfl) (by kernel_rfl) (fun _ _ _ h => h) ⟨Or.inl ⟨by rfl, fun w => by go_simp; exact IntWalk.i64_in _ (by omega)⟩, fun _ => rfl⟩ ?_
        refine wpAnyIn_take (i := 8) (v := .int .i64 mm) rfl rfl (by kernel_rfl) (by kernel_rfl) (by kernel_rfl) (fun _ _ _ h => h) ⟨Or.inl ⟨by rfl, fun w => by go_simp⟩, fun _ => rfl⟩ ?_
        refine wpAnyIn_take (i := 9) (v := .int .i64 many) rfl rfl (by kernel_rfl) (by kernel_rfl) (by kernel_rfl) (fun _ _ _ h => h) ⟨Or.inl ⟨by rfl, fun w => by go_simp; first | exact IntWalk.i64_in _ (by omega) | (rw [hmm1]; exact IntWalk.i64_in _ (by omega))⟩, fun _ => rfl⟩ ?_
        refine wpAnyIn_ready (rs := [0, 2, 4]) (by kernel_rfl) (by simp) ?_
        refine (AllReadyIn.cons rfl (fun K hK => ?_) (AllReadyIn.cons rfl (fun K hK => ?_) (AllReadyIn.cons rfl (fun K hK => ?_) AllReadyIn.nil)))
        · have ld := lv6 HLV.out HB0.out
          go_simp
          refine hK _ _ ?_
          clear hK K ld
          refine wpAnyIn_ready (rs := [2, 4]) (by kernel_rfl) (by simp) ?_
          refine (AllReadyIn.cons rfl (fun K hK => ?_) (AllReadyIn.cons rfl (fun K hK => ?_) AllReadyIn.nil))
          · go_simp
            refine (callsIn_wide.2 (clone_any _ _ out _ (Kd.C_below HC0.out HB0.out) (by omega))).mono ?_
            rintro e w2 ⟨v2, rfl, hR2, hb2⟩
            have HR2 := Aside0.mk (Kd.R_lower hR2 (Nat.le_trans hbr HB0.out.size))
            have HOB := Aside0.mk (fun k (hk : v2.ownBlock = some k) => Nat.le_trans HB0.out.size (own_base_of hR2 hk))
            have HBC := Aside0.mk (below_next HB0.out hb2)
            clear hR2 hb2
            refine hK _ _ ?_
            clear hK K
            refine wpAnyIn_ready (rs := [4]) (by kernel_rfl) (by simp) ?_
            refine (AllReadyIn.cons rfl (fun K hK => ?_) AllReadyIn.nil)
            · go_simp
              refine hK _ _ ?_
              clear hK K
              have HBD := Aside0.mk (below_next HBC.out ((Below.refl w2.heap.size w2).alloc (Nat.le_refl _) (.cells #[.int .i64 r] 3)))
              have HX : Aside0 ((w2.alloc (.cells #[.int .i64 r] 3)).cell? ⟨w2.heap.size, 0, none⟩ = some (.int .i64 r)) := ⟨by simp⟩
              have HR2 := Aside0.mk (Kd.R_below HR2.out ((Below.refl w2.heap.size w2).alloc (Nat.le_refl _) (.cells #[.int .i64 r] 3)))
              refine wpAnyIn_ready (rs := [5]) (by kernel_rfl) (by simp) ?_
              refine (AllReadyIn.cons rfl (fun K hK => ?_) AllReadyIn.nil)
              · obtain ⟨v1, wA, hrun, hRA, hgA⟩ := run_append2 base _ v2 out (r : Int) (w2.heap.size) _ HR2.out HX.out (Nat.le_trans hbr HBD.out.size) (by omega) (fun _ _ => trivial)
                have HBA := Aside0.mk (HBD.out.grown hgA HBD.out.size (fun q e => HOB.out q e))
                have HRA := Aside0.mk hRA
                clear hRA hgA
                refine stepI_append (.tmp 30) (.tmp 32) 25 rfl rfl hfn v2 (.slice (some ⟨w2.heap.size, 0, none⟩) 1 1) v1 wA rfl rfl hrun (hK _ _ ?_)
                clear hK K hrun
                refine wpAnyIn_ready (rs := [10]) (by kernel_rfl) (by simp) ?_
                refine (AllReadyIn.cons rfl (fun K hK => ?_) AllReadyIn.nil)
                · go_simp
                  refine (callsIn_wide.2 (HREC.out _ _ HBA.out HRA.out)).mono ?_
                  rintro e w6 ⟨rfl, hg6, vf6, h36, hx6⟩
                  have HG6 := Aside0.mk hg6
                  have H36 := Aside0.mk h36
                  have HX6 := Aside0.mk hx6
                  clear hg6 h36 hx6
                  refine hK _ _ ?_
                  clear hK K
                  refine wpAnyIn_done (by kernel_rfl) ?_ _
                  obtain ⟨vf0, h30⟩ := HLV.out.b3
                  have gAll := (grown_of_below HBA.out (some B3)).trans HG6.out
                  have hLV6 := HLV.out.grown gAll ⟨vf6, H36.out⟩
                  have hR6 := R_grown3 HR.out h30 gAll
                  have HLV6 := Aside0.mk hLV6
                  have HR6 := Aside0.mk hR6
                  have HGA := Aside0.mk gAll
                  clear h30 gAll hLV6 hR6
                  cases hp : leaveP ES l.jn.length l.rc.length many (out ++ [(r : Int)]) (r + 1) with
                  | none =>
                    have HP := Aside0.mk hp
                    clear hp
                    simp only [Option.isSome_none]
                    gi_wp2
                    go_roundw
                    case rel => exact ⟨r + 1, by omega, by omega, by go_num, ⟨by rw [HST.out]; exact HP.out⟩, HLV6, HR6, ⟨World.grownBy.trans HG.out HGA.out⟩⟩
                    case measure => simp [intOf] <;> omega
                  | some ys =>
                    have HP := Aside0.mk hp
                    clear hp
                    simp only [Option.isSome_some]
                    gi_wp2
                    go_ret
                    have hfin : leaveP ES l.jn.length l.rc.length (many + 1) out from_ = some ys := by
                      rw [HRES.out]
                      exact lvFind_some _ _ _ _ _ _ (r + 1 - from_) _ _ (by omega) (HST.out.trans HP.out)
                    exact ⟨by rw [hfin]; rfl, World.grownBy.trans HG.out HGA.out, vf6, H36.out, fun xs hxs => by rw [hfin] at hxs; cases hxs; exact HX6.out _ HP.out⟩
          · go_simp
            refine hK _ _ ?_
            clear hK K
            have HBD : Aside0 (Below wr.heap.size wr ((wr.alloc (.cells #[.int .i64 r] 3)).drew)) := ⟨below_drew ((Below.refl wr.heap.size wr).alloc (Nat.le_refl _) (.cells #[.int .i64 r] 3))⟩
            have HX0 : Aside0 (((wr.alloc (.cells #[.int .i64 r] 3)).drew).cell? ⟨wr.heap.size, 0, none⟩ = some (.int .i64 r)) := ⟨by simp⟩
            refine wpAnyIn_ready (rs := [2]) (by kernel_rfl) (by simp) ?_
            refine (AllReadyIn.cons rfl (fun K hK => ?_) AllReadyIn.nil)
            · go_simp
              refine (callsIn_wide.2 (clone_any _ _ out _ (Kd.C_below HC0.out HBD.out) (by omega))).mono ?_
              rintro e w2 ⟨v2, rfl, hR2, hb2⟩
              have HR2 := Aside0.mk (Kd.R_lower hR2 (Nat.le_trans hbr HBD.out.size))
              have HOB := Aside0.mk (fun k (hk : v2.ownBlock = some k) => Nat.le_trans HBD.out.size (own_base_of hR2 hk))
              have HBC := Aside0.mk (below_next HBD.out hb2)
              have HX := Aside0.mk ((hb2.cell (p := ⟨wr.heap.size, 0, none⟩) (by simp)).trans HX0.out)
              clear hR2 hb2
              refine hK _ _ ?_
              clear hK K
              refine wpAnyIn_ready (rs := [5]) (by kernel_rfl) (by simp) ?_
              refine (AllReadyIn.cons rfl (fun K hK => ?_) AllReadyIn.nil)
              · obtain ⟨v1, wA, hrun, hRA, hgA⟩ := run_append2 base _ v2 out (r : Int) (wr.heap.size) _ HR2.out HX.out (Nat.le_trans hbr HBC.out.size) (by omega) (fun _ _ => trivial)
                have HBA := Aside0.mk (HBC.out.grown hgA HBC.out.size (fun q e => HOB.out q e))
                have HRA := Aside0.mk hRA
                clear hRA hgA
                refine stepI_append (.tmp 30) (.tmp 32) 25 rfl rfl hfn v2 (.slice (some ⟨wr.heap.size, 0, none⟩) 1 1) v1 wA rfl rfl hrun (hK _ _ ?_)
                clear hK K hrun
                refine wpAnyIn_ready (rs := [10]) (by kernel_rfl) (by simp) ?_
                refine (AllReadyIn.cons rfl (fun K hK => ?_) AllReadyIn.nil)
                · go_simp
                  refine (callsIn_wide.2 (HREC.out _ _ HBA.out HRA.out)).mono ?_
                  rintro e w6 ⟨rfl, hg6, vf6, h36, hx6⟩
                  have HG6 := Aside0.mk hg6
                  have H36 := Aside0.mk h36
                  have HX6 := Aside0.mk hx6
                  clear hg6 h36 hx6
                  refine hK _ _ ?_
                  clear hK K
                  refine wpAnyIn_done (by kernel_rfl) ?_ _
                  obtain ⟨vf0, h30⟩ := HLV.out.b3
                  have gAll := (grown_of_below HBA.out (some B3)).trans HG6.out
                  have hLV6 := HLV.out.grown gAll ⟨vf6, H36.out⟩
                  have hR6 := R_grown3 HR.out h30 gAll
                  have HLV6 := Aside0.mk hLV6
                  have HR6 := Aside0.mk hR6
                  have HGA := Aside0.mk gAll
                  clear h30 gAll hLV6 hR6
                  cases hp : leaveP ES l.jn.length l.rc.length many (out ++ [(r : Int)]) (r + 1) with
                  | none =>
                    have HP := Aside0.mk hp
                    clear hp
                    simp only [Option.isSome_none]
                    gi_wp2
                    go_roundw
                    case rel => exact ⟨r + 1, by omega, by omega, by go_num, ⟨by rw [HST.out]; exact HP.out⟩, HLV6, HR6, ⟨World.grownBy.trans HG.out HGA.out⟩⟩
                    case measure => simp [intOf] <;> omega
                  | some ys =>
                    have HP := Aside0.mk hp
                    clear hp
                    simp only [Option.isSome_some]
                    gi_wp2
                    go_ret
                    have hfin : leaveP ES l.jn.length l.rc.length (many + 1) out from_ = some ys := by
                      rw [HRES.out]
                      exact lvFind_some _ _ _ _ _ _ (r + 1 - from_) _ _ (by omega) (HST.out.trans HP.out)
                    exact ⟨by rw [hfin]; rfl, World.grownBy.trans HG.out HGA.out, vf6, H36.out, fun xs hxs => by rw [hfin] at hxs; cases hxs; exact HX6.out _ HP.out⟩
        · go_simp
          refine (callsIn_wide.2 (clone_any _ _ out _ (Kd.C_below HC0.out HB0.out) (by omega))).mono ?_
          rintro e w2 ⟨v2, rfl, hR2, hb2⟩
          have HR2 := Aside0.mk (Kd.R_lower hR2 (Nat.le_trans hbr HB0.out.size))
          have HOB := Aside0.mk (fun k (hk : v2.ownBlock = some k) => Nat.le_trans HB0.out.size (own_base_of hR2 hk))
          have HBC := Aside0.mk (below_next HB0.out hb2)
          clear hR2 hb2
          refine hK _ _ ?_
          clear hK K
          refine wpAnyIn_ready (rs := [0, 4]) (by kernel_rfl) (by simp) ?_
          refine (AllReadyIn.cons rfl (fun K hK => ?_) (AllReadyIn.cons rfl (fun K hK => ?_) AllReadyIn.nil))
          · have ld := lv6 HLV.out HBC.out
            go_simp
            refine hK _ _ ?_
            clear hK K ld
            refine wpAnyIn_ready (rs := [4]) (by kernel_rfl) (by simp) ?_
            refine (AllReadyIn.cons rfl (fun K hK => ?_) AllReadyIn.nil)
            · go_simp
              refine hK _ _ ?_
              clear hK K
              have HBD := Aside0.mk (below_next HBC.out ((Below.refl w2.heap.size w2).alloc (Nat.le_refl _) (.cells #[.int .i64 r] 3)))
              have HX : Aside0 ((w2.alloc (.cells #[.int .i64 r] 3)).cell? ⟨w2.heap.size, 0, none⟩ = some (.int .i64 r)) := ⟨by simp⟩
              have HR2 := Aside0.mk (Kd.R_below HR2.out ((Below.refl w2.heap.size w2).alloc (Nat.le_refl _) (.cells #[.int .i64 r] 3)))
              refine wpAnyIn_ready (rs := [5]) (by kernel_rfl) (by simp) ?_
              refine (AllReadyIn.cons rfl (fun K hK => ?_) AllReadyIn.nil)
              · obtain ⟨v1, wA, hrun, hRA, hgA⟩ := run_append2 base _ v2 out (r : Int) (w2.heap.size) _ HR2.out HX.out (Nat.le_trans hbr HBD.out.size) (by omega) (fun _ _ => trivial)
                have HBA := Aside0.mk (HBD.out.grown hgA HBD.out.size (fun q e => HOB.out q e))
                have HRA := Aside0.mk hRA
                clear hRA hgA
                refine stepI_append (.tmp 30) (.tmp 32) 25 rfl rfl hfn v2 (.slice (some ⟨w2.heap.size, 0, none⟩) 1 1) v1 wA rfl rfl hrun (hK _ _ ?_)
                clear hK K hrun
                refine wpAnyIn_ready (rs := [10]) (by kernel_rfl) (by simp) ?_
                refine (AllReadyIn.cons rfl (fun K hK => ?_) AllReadyIn.nil)
                · go_simp
                  refine (callsIn_wide.2 (HREC.out _ _ HBA.out HRA.out)).mono ?_
                  rintro e w6 ⟨rfl, hg6, vf6, h36, hx6⟩
                  have HG6 := Aside0.mk hg6
                  have H36 := Aside0.mk h36
                  have HX6 := Aside0.mk hx6
                  clear hg6 h36 hx6
                  refine hK _ _ ?_
                  clear hK K
                  refine wpAnyIn_done (by kernel_rfl) ?_ _
                  obtain ⟨vf0, h30⟩ := HLV.out.b3
                  have gAll := (grown_of_below HBA.out (some B3)).trans HG6.out
                  have hLV6 := HLV.out.grown gAll ⟨vf6, H36.out⟩
                  have hR6 := R_grown3 HR.out h30 gAll
                  have HLV6 := Aside0.mk hLV6
                  have HR6 := Aside0.mk hR6
                  have HGA := Aside0.mk gAll
                  clear h30 gAll hLV6 hR6
                  cases hp : leaveP ES l.jn.length l.rc.length many (out ++ [(r : Int)]) (r + 1) with
                  | none =>
                    have HP := Aside0.mk hp
                    clear hp
                    simp only [Option.isSome_none]
                    gi_wp2
                    go_roundw
                    case rel => exact ⟨r + 1, by omega, by omega, by go_num, ⟨by rw [HST.out]; exact HP.out⟩, HLV6, HR6, ⟨World.grownBy.trans HG.out HGA.out⟩⟩
                    case measure => simp [intOf] <;> omega
                  | some ys =>
                    have HP := Aside0.mk hp
                    clear hp
                    simp only [Option.isSome_some]
                    gi_wp2
                    go_ret
                    have hfin : leaveP ES l.jn.length l.rc.length (many + 1) out from_ = some ys := by
                      rw [HRES.out]
                      exact lvFind_some _ _ _ _ _ _ (r + 1 - from_) _ _ (by omega) (HST.out.trans HP.out)
                    exact ⟨by rw [hfin]; rfl, World.grownBy.trans HG.out HGA.out, vf6, H36.out, fun xs hxs => by rw [hfin] at hxs; cases hxs; exact HX6.out _ HP.out⟩
          · go_simp
            refine hK _ _ ?_
            clear hK K
            have HBD := Aside0.mk (below_next HBC.out ((Below.refl w2.heap.size w2).alloc (Nat.le_refl _) (.cells #[.int .i64 r] 3)))
            have HX : Aside0 ((w2.alloc (.cells #[.int .i64 r] 3)).cell? ⟨w2.heap.size, 0, none⟩ = some (.int .i64 r)) := ⟨by simp⟩
            have HR2 := Aside0.mk (Kd.R_below HR2.out ((Below.refl w2.heap.size w2).alloc (Nat.le_refl _) (.cells #[.int .i64 r] 3)))
            refine wpAnyIn_ready (rs := [0, 5]) (by kernel_rfl) (by simp) ?_
            refine (AllReadyIn.cons rfl (fun K hK => ?_) (AllReadyIn.cons rfl (fun K hK => ?_) AllReadyIn.nil))
            · have ld := lv6 HLV.out HBD.out
              go_simp
              refine hK _ _ ?_
              clear hK K ld
              refine wpAnyIn_ready (rs := [5]) (by kernel_rfl) (by simp) ?_
              refine (AllReadyIn.cons rfl (fun K hK => ?_) AllReadyIn.nil)
              · obtain ⟨v1, wA, hrun, hRA, hgA⟩ := run_append2 base _ v2 out (r : Int) (w2.heap.size) _ HR2.out HX.out (Nat.le_trans hbr HBD.out.size) (by omega) (fun _ _ => trivial)
                have HBA := Aside0.mk (HBD.out.grown hgA HBD.out.size (fun q e => HOB.out q e))
                have HRA := Aside0.mk hRA
                clear hRA hgA
                refine stepI_append (.tmp 30) (.tmp 32) 25 rfl rfl hfn v2 (.slice (some ⟨w2.heap.size, 0, none⟩) 1 1) v1 wA rfl rfl hrun (hK _ _ ?_)
                clear hK K hrun
                refine wpAnyIn_ready (rs := [10]) (by kernel_rfl) (by simp) ?_
                refine (AllReadyIn.cons rfl (fun K hK => ?_) AllReadyIn.nil)
                · go_simp
                  refine (callsIn_wide.2 (HREC.out _ _ HBA.out HRA.out)).mono ?_
                  rintro e w6 ⟨rfl, hg6, vf6, h36, hx6⟩
                  have HG6 := Aside0.mk hg6
                  have H36 := Aside0.mk h36
                  have HX6 := Aside0.mk hx6
                  clear hg6 h36 hx6
                  refine hK _ _ ?_
                  clear hK K
                  refine wpAnyIn_done (by kernel_rfl) ?_ _
                  obtain ⟨vf0, h30⟩ := HLV.out.b3
                  have gAll := (grown_of_below HBA.out (some B3)).trans HG6.out
                  have hLV6 := HLV.out.grown gAll ⟨vf6, H36.out⟩
                  have hR6 := R_grown3 HR.out h30 gAll
                  have HLV6 := Aside0.mk hLV6
                  have HR6 := Aside0.mk hR6
                  have HGA := Aside0.mk gAll
                  clear h30 gAll hLV6 hR6
                  cases hp : leaveP ES l.jn.length l.rc.length many (out ++ [(r : Int)]) (r + 1) with
                  | none =>
                    have HP := Aside0.mk hp
                    clear hp
                    simp only [Option.isSome_none]
                    gi_wp2
                    go_roundw
                    case rel => exact ⟨r + 1, by omega, by omega, by go_num, ⟨by rw [HST.out]; exact HP.out⟩, HLV6, HR6, ⟨World.grownBy.trans HG.out HGA.out⟩⟩
                    case measure => simp [intOf] <;> omega
                  | some ys =>
                    have HP := Aside0.mk hp
                    clear hp
                    simp only [Option.isSome_some]
                    gi_wp2
                    go_ret
                    have hfin : leaveP ES l.jn.length l.rc.length (many + 1) out from_ = some ys := by
                      rw [HRES.out]
                      exact lvFind_some _ _ _ _ _ _ (r + 1 - from_) _ _ (by omega) (HST.out.trans HP.out)
                    exact ⟨by rw [hfin]; rfl, World.grownBy.trans HG.out HGA.out, vf6, H36.out, fun xs hxs => by rw [hfin] at hxs; cases hxs; exact HX6.out _ HP.out⟩
            · obtain ⟨v1, wA, hrun, hRA, hgA⟩ := run_append2 base _ v2 out (r : Int) (w2.heap.size) _ HR2.out HX.out (Nat.le_trans hbr HBD.out.size) (by omega) (fun _ _ => trivial)
              have HBA := Aside0.mk (HBD.out.grown hgA HBD.out.size (fun q e => HOB.out q e))
              have HRA := Aside0.mk hRA
              clear hRA hgA
              refine stepI_append (.tmp 30) (.tmp 32) 25 rfl rfl hfn v2 (.slice (some ⟨w2.heap.size, 0, none⟩) 1 1) v1 wA rfl rfl hrun (hK _ _ ?_)
              clear hK K hrun
              refine wpAnyIn_ready (rs := [0]) (by kernel_rfl) (by simp) ?_
              refine (AllReadyIn.cons rfl (fun K hK => ?_) AllReadyIn.nil)
              · have ld := lv6 HLV.out HBA.out
                go_simp
                refine hK _ _ ?_
                clear hK K ld
                refine wpAnyIn_ready (rs := [10]) (by kernel_rfl) (by simp) ?_
                refine (AllReadyIn.cons rfl (fun K hK => ?_) AllReadyIn.nil)
                · go_simp
                  refine (callsIn_wide.2 (HREC.out _ _ HBA.out HRA.out)).mono ?_
                  rintro e w6 ⟨rfl, hg6, vf6, h36, hx6⟩
                  have HG6 := Aside0.mk hg6
                  have H36 := Aside0.mk h36
                  have HX6 := Aside0.mk hx6
                  clear hg6 h36 hx6
                  refine hK _ _ ?_
                  clear hK K
                  refine wpAnyIn_done (by kernel_rfl) ?_ _
                  obtain ⟨vf0, h30⟩ := HLV.out.b3
                  have gAll := (grown_of_below HBA.out (some B3)).trans HG6.out
                  have hLV6 := HLV.out.grown gAll ⟨vf6, H36.out⟩
                  have hR6 := R_grown3 HR.out h30 gAll
                  have HLV6 := Aside0.mk hLV6
                  have HR6 := Aside0.mk hR6
                  have HGA := Aside0.mk gAll
                  clear h30 gAll hLV6 hR6
                  cases hp : leaveP ES l.jn.length l.rc.length many (out ++ [(r : Int)]) (r + 1) with
                  | none =>
                    have HP := Aside0.mk hp
                    clear hp
                    simp only [Option.isSome_none]
                    gi_wp2
                    go_roundw
                    case rel => exact ⟨r + 1, by omega, by omega, by go_num, ⟨by rw [HST.out]; exact HP.out⟩, HLV6, HR6, ⟨World.grownBy.trans HG.out HGA.out⟩⟩
                    case measure => simp [intOf] <;> omega
                  | some ys =>
                    have HP := Aside0.mk hp
                    clear hp
                    simp only [Option.isSome_some]
                    gi_wp2
                    go_ret
                    have hfin : leaveP ES l.jn.length l.rc.length (many + 1) out from_ = some ys := by
                      rw [HRES.out]
                      exact lvFind_some _ _ _ _ _ _ (r + 1 - from_) _ _ (by omega) (HST.out.trans HP.out)
                    exact ⟨by rw [hfin]; rfl, World.grownBy.trans HG.out HGA.out, vf6, H36.out, fun xs hxs => by rw [hfin] at hxs; cases hxs; exact HX6.out _ HP.out⟩
        · go_simp
          refine hK _ _ ?_
          clear hK K
          have HBD : Aside0 (Below wr.heap.size wr ((wr.alloc (.cells #[.int .i64 r] 3)).drew)) := ⟨below_drew ((Below.refl wr.heap.size wr).alloc (Nat.le_refl _) (.cells #[.int .i64 r] 3))⟩
          have HX0 : Aside0 (((wr.alloc (.cells #[.int .i64 r] 3)).drew).cell? ⟨wr.heap.size, 0, none⟩ = some (.int .i64 r)) := ⟨by simp⟩
          refine wpAnyIn_ready (rs := [0, 2]) (by kernel_rfl) (by simp) ?_
          refine (AllReadyIn.cons rfl (fun K hK => ?_) (AllReadyIn.cons rfl (fun K hK => ?_) AllReadyIn.nil))
          · have ld := lv6 HLV.out HBD.out
            go_simp
            refine hK _ _ ?_
            clear hK K ld
            refine wpAnyIn_ready (rs := [2]) (by kernel_rfl) (by simp) ?_
            refine (AllReadyIn.cons rfl (fun K hK => ?_) AllReadyIn.nil)
            · go_simp
              refine (callsIn_wide.2 (clone_any _ _ out _ (Kd.C_below HC0.out HBD.out) (by omega))).mono ?_
              rintro e w2 ⟨v2, rfl, hR2, hb2⟩
              have HR2 := Aside0.mk (Kd.R_lower hR2 (Nat.le_trans hbr HBD.out.size))
              have HOB := Aside0.mk (fun k (hk : v2.ownBlock = some k) => Nat.le_trans HBD.out.size (own_base_of hR2 hk))
              have HBC := Aside0.mk (below_next HBD.out hb2)
              have HX := Aside0.mk ((hb2.cell (p := ⟨wr.heap.size, 0, none⟩) (by simp)).trans HX0.out)
              clear hR2 hb2
              refine hK _ _ ?_
              clear hK K
              refine wpAnyIn_ready (rs := [5]) (by kernel_rfl) (by simp) ?_
              refine (AllReadyIn.cons rfl (fun K hK => ?_) AllReadyIn.nil)
              · obtain ⟨v1, wA, hrun, hRA, hgA⟩ := run_append2 base _ v2 out (r : Int) (wr.heap.size) _ HR2.out HX.out (Nat.le_trans hbr HBC.out.size) (by omega) (fun _ _ => trivial)
                have HBA := Aside0.mk (HBC.out.grown hgA HBC.out.size (fun q e => HOB.out q e))
                have HRA := Aside0.mk hRA
                clear hRA hgA
                refine stepI_append (.tmp 30) (.tmp 32) 25 rfl rfl hfn v2 (.slice (some ⟨wr.heap.size, 0, none⟩) 1 1) v1 wA rfl rfl hrun (hK _ _ ?_)
                clear hK K hrun
                refine wpAnyIn_ready (rs := [10]) (by kernel_rfl) (by simp) ?_
                refine (AllReadyIn.cons rfl (fun K hK => ?_) AllReadyIn.nil)
                · go_simp
                  refine (callsIn_wide.2 (HREC.out _ _ HBA.out HRA.out)).mono ?_
                  rintro e w6 ⟨rfl, hg6, vf6, h36, hx6⟩
                  have HG6 := Aside0.mk hg6
                  have H36 := Aside0.mk h36
                  have HX6 := Aside0.mk hx6
                  clear hg6 h36 hx6
                  refine hK _ _ ?_
                  clear hK K
                  refine wpAnyIn_done (by kernel_rfl) ?_ _
                  obtain ⟨vf0, h30⟩ := HLV.out.b3
                  have gAll := (grown_of_below HBA.out (some B3)).trans HG6.out
                  have hLV6 := HLV.out.grown gAll ⟨vf6, H36.out⟩
                  have hR6 := R_grown3 HR.out h30 gAll
                  have HLV6 := Aside0.mk hLV6
                  have HR6 := Aside0.mk hR6
                  have HGA := Aside0.mk gAll
                  clear h30 gAll hLV6 hR6
                  cases hp : leaveP ES l.jn.length l.rc.length many (out ++ [(r : Int)]) (r + 1) with
                  | none =>
                    have HP := Aside0.mk hp
                    clear hp
                    simp only [Option.isSome_none]
                    gi_wp2
                    go_roundw
                    case rel => exact ⟨r + 1, by omega, by omega, by go_num, ⟨by rw [HST.out]; exact HP.out⟩, HLV6, HR6, ⟨World.grownBy.trans HG.out HGA.out⟩⟩
                    case measure => simp [intOf] <;> omega
                  | some ys =>
                    have HP := Aside0.mk hp
                    clear hp
                    simp only [Option.isSome_some]
                    gi_wp2
                    go_ret
                    have hfin : leaveP ES l.jn.length l.rc.length (many + 1) out from_ = some ys := by
                      rw [HRES.out]
                      exact lvFind_some _ _ _ _ _ _ (r + 1 - from_) _ _ (by omega) (HST.out.trans HP.out)
                    exact ⟨by rw [hfin]; rfl, World.grownBy.trans HG.out HGA.out, vf6, H36.out, fun xs hxs => by rw [hfin] at hxs; cases hxs; exact HX6.out _ HP.out⟩
          · go_simp
            refine (callsIn_wide.2 (clone_any _ _ out _ (Kd.C_below HC0.out HBD.out) (by omega))).mono ?_
            rintro e w2 ⟨v2, rfl, hR2, hb2⟩
            have HR2 := Aside0.mk (Kd.R_lower hR2 (Nat.le_trans hbr HBD.out.size))
            have HOB := Aside0.mk (fun k (hk : v2.ownBlock = some k) => Nat.le_trans HBD.out.size (own_base_of hR2 hk))
            have HBC := Aside0.mk (below_next HBD.out hb2)
            have HX := Aside0.mk ((hb2.cell (p := ⟨wr.heap.size, 0, none⟩) (by simp)).trans HX0.out)
            clear hR2 hb2
            refine hK _ _ ?_
            clear hK K
            refine wpAnyIn_ready (rs := [0, 5]) (by kernel_rfl) (by simp) ?_
            refine (AllReadyIn.cons rfl (fun K hK => ?_) (AllReadyIn.cons rfl (fun K hK => ?_) AllReadyIn.nil))
            · have ld := lv6 HLV.out HBC.out
              go_simp
              refine hK _ _ ?_
              clear hK K ld
              refine wpAnyIn_ready (rs := [5]) (by kernel_rfl) (by simp) ?_
              refine (AllReadyIn.cons rfl (fun K hK => ?_) AllReadyIn.nil)
              · obtain ⟨v1, wA, hrun, hRA, hgA⟩ := run_append2 base _ v2 out (r : Int) (wr.heap.size) _ HR2.out HX.out (Nat.le_trans hbr HBC.out.size) (by omega) (fun _ _ => trivial)
                have HBA := Aside0.mk (HBC.out.grown hgA HBC.out.size (fun q e => HOB.out q e))
                have HRA := Aside0.mk hRA
                clear hRA hgA
                refine stepI_append (.tmp 30) (.tmp 32) 25 rfl rfl hfn v2 (.slice (some ⟨wr.heap.size, 0, none⟩) 1 1) v1 wA rfl rfl hrun (hK _ _ ?_)
                clear hK K hrun
                refine wpAnyIn_ready (rs := [10]) (by kernel_rfl) (by simp) ?_
                refine (AllReadyIn.cons rfl (fun K hK => ?_) AllReadyIn.nil)
                · go_simp
                  refine (callsIn_wide.2 (HREC.out _ _ HBA.out HRA.out)).mono ?_
                  rintro e w6 ⟨rfl, hg6, vf6, h36, hx6⟩
                  have HG6 := Aside0.mk hg6
                  have H36 := Aside0.mk h36
                  have HX6 := Aside0.mk hx6
                  clear hg6 h36 hx6
                  refine hK _ _ ?_
                  clear hK K
                  refine wpAnyIn_done (by kernel_rfl) ?_ _
                  obtain ⟨vf0, h30⟩ := HLV.out.b3
                  have gAll := (grown_of_below HBA.out (some B3)).trans HG6.out
                  have hLV6 := HLV.out.grown gAll ⟨vf6, H36.out⟩
                  have hR6 := R_grown3 HR.out h30 gAll
                  have HLV6 := Aside0.mk hLV6
                  have HR6 := Aside0.mk hR6
                  have HGA := Aside0.mk gAll
                  clear h30 gAll hLV6 hR6
                  cases hp : leaveP ES l.jn.length l.rc.length many (out ++ [(r : Int)]) (r + 1) with
                  | none =>
                    have HP := Aside0.mk hp
                    clear hp
                    simp only [Option.isSome_none]
                    gi_wp2
                    go_roundw
                    case rel => exact ⟨r + 1, by omega, by omega, by go_num, ⟨by rw [HST.out]; exact HP.out⟩, HLV6, HR6, ⟨World.grownBy.trans HG.out HGA.out⟩⟩
                    case measure => simp [intOf] <;> omega
                  | some ys =>
                    have HP := Aside0.mk hp
                    clear hp
                    simp only [Option.isSome_some]
                    gi_wp2
                    go_ret
                    have hfin : leaveP ES l.jn.length l.rc.length (many + 1) out from_ = some ys := by
                      rw [HRES.out]
                      exact lvFind_some _ _ _ _ _ _ (r + 1 - from_) _ _ (by omega) (HST.out.trans HP.out)
                    exact ⟨by rw [hfin]; rfl, World.grownBy.trans HG.out HGA.out, vf6, H36.out, fun xs hxs => by rw [hfin] at hxs; cases hxs; exact HX6.out _ HP.out⟩
            · obtain ⟨v1, wA, hrun, hRA, hgA⟩ := run_append2 base _ v2 out (r : Int) (wr.heap.size) _ HR2.out HX.out (Nat.le_trans hbr HBC.out.size) (by omega) (fun _ _ => trivial)
              have HBA := Aside0.mk (HBC.out.grown hgA HBC.out.size (fun q e => HOB.out q e))
              have HRA := Aside0.mk hRA
              clear hRA hgA
              refine stepI_append (.tmp 30) (.tmp 32) 25 rfl rfl hfn v2 (.slice (some ⟨wr.heap.size, 0, none⟩) 1 1) v1 wA rfl rfl hrun (hK _ _ ?_)
              clear hK K hrun
              refine wpAnyIn_ready (rs := [0]) (by kernel_rfl) (by simp) ?_
              refine (AllReadyIn.cons rfl (fun K hK => ?_) AllReadyIn.nil)
              · have ld := lv6 HLV.out HBA.out
                go_simp
                refine hK _ _ ?_
                clear hK K ld
                refine wpAnyIn_ready (rs := [10]) (by kernel_rfl) (by simp) ?_
                refine (AllReadyIn.cons rfl (fun K hK => ?_) AllReadyIn.nil)
                · go_simp
                  refine (callsIn_wide.2 (HREC.out _ _ HBA.out HRA.out)).mono ?_
                  rintro e w6 ⟨rfl, hg6, vf6, h36, hx6⟩
                  have HG6 := Aside0.mk hg6
                  have H36 := Aside0.mk h36
                  have HX6 := Aside0.mk hx6
                  clear hg6 h36 hx6
                  refine hK _ _ ?_
                  clear hK K
                  refine wpAnyIn_done (by kernel_rfl) ?_ _
                  obtain ⟨vf0, h30⟩ := HLV.out.b3
                  have gAll := (grown_of_below HBA.out (some B3)).trans HG6.out
                  have hLV6 := HLV.out.grown gAll ⟨vf6, H36.out⟩
                  have hR6 := R_grown3 HR.out h30 gAll
                  have HLV6 := Aside0.mk hLV6
                  have HR6 := Aside0.mk hR6
                  have HGA := Aside0.mk gAll
                  clear h30 gAll hLV6 hR6
                  cases hp : leaveP ES l.jn.length l.rc.length many (out ++ [(r : Int)]) (r + 1) with
                  | none =>
                    have HP := Aside0.mk hp
                    clear hp
                    simp only [Option.isSome_none]
                    gi_wp2
                    go_roundw
                    case rel => exact ⟨r + 1, by omega, by omega, by go_num, ⟨by rw [HST.out]; exact HP.out⟩, HLV6, HR6, ⟨World.grownBy.trans HG.out HGA.out⟩⟩
                    case measure => simp [intOf] <;> omega
                  | some ys =>
                    have HP := Aside0.mk hp
                    clear hp
                    simp only [Option.isSome_some]
                    gi_wp2
                    go_ret
                    have hfin : leaveP ES l.jn.length l.rc.length (many + 1) out from_ = some ys := by
                      rw [HRES.out]
                      exact lvFind_some _ _ _ _ _ _ (r + 1 - from_) _ _ (by omega) (HST.out.trans HP.out)
                    exact ⟨by rw [hfin]; rfl, World.grownBy.trans HG.out HGA.out, vf6, H36.out, fun xs hxs => by rw [hfin] at hxs; cases hxs; exact HX6.out _ HP.out⟩
      · have hk2 : r = l.rc.length := by omega
        subst hk2
        have hltz : ¬ (l.rc.length : Int) < (l.rc.length : Int) := by omega
        gi_wp2
        go_ret
        obtain ⟨vf, h3⟩ := HLV.out.b3
        exact ⟨by rw [HRES.out, HN.out]; rfl, HG.out, vf, h3, fun xs hxs => by rw [HRES.out, HN.out] at hxs; cases hxs⟩
end Go.Proofs.YthgfhgjlilmieaaGreat.G
namespace Go.Proofs.YthgfhgjlilmieaaGreat.G
open Go.RowKit Go.Shelf Go.Proofs.YthgfhgjlilmieaaGreatW.PrintWords Go.Proofs.YthgfhgjlilmieaaGreatW.PrintLast Go.Proofs.YthgfhgjlilmieaaGreatW.PrintMore
open Go.Proofs.YthgfhgjlilmieaaGreat.B
set_option linter.unusedVariables false
set_option linter.unusedSimpArgs false
def upTo (n : Nat) : List Int := (List.range n).map fun (i : Nat) => (i : Int)
theorem upTo_succ (n : Nat) : upTo (n + 1) = upTo n ++ [(n : Int)] := by simp [upTo, List.range_succ]
theorem least_all (ES : List (Int × Int)) (J R : Nat) : ∀ n u, n ≤ R → leastN ES J R (upTo R) n u = 0
  | 0, u, _ => rfl
  | n + 1, u, h => by
    have hm : ((upTo R).any fun x => ((R : Int) - (n + 1)) == x) = true := by
      rw [List.any_eq_true]
      refine ⟨((R - (n + 1) : Nat) : Int), ?_, by simp; omega⟩
      simp only [upTo, List.mem_map, List.mem_range]
      exact ⟨R - (n + 1), by omega, rfl⟩
    unfold leastN
    rw [if_pos hm]
    exact least_all ES J R n u (by omega)
theorem leave_all (ES : List (Int × Int)) (J R : Nat) : ∀ m from_, from_ + m = R → leaveP ES J R m (upTo from_) from_ = some (upTo R)
  | 0, from_, h => by
    have e : from_ = R := by omega
    subst e
    unfold leaveP
    rw [least_all ES J from_ from_ u0 (Nat.le_refl _)]
    rfl
  | m + 1, from_, h => by
    unfold leaveP
    rw [show R - from_ = m + 1 by omega, List.range'_succ, List.findSome?_cons, ← upTo_succ, leave_all ES J R m (from_ + 1) (by omega)]
def sizeFind (ES : List (Int × Int)) (J R n : Nat) : Option (List Int) := (List.range n).findSome? fun m => leaveP ES J R m [] 0
theorem sizeFind_succ (ES : List (Int × Int)) (J R n : Nat) (h : sizeFind ES J R n = none) : sizeFind ES J R (n + 1) = leaveP ES J R n [] 0 := by
  unfold sizeFind at *
  rw [List.range_succ, List.findSome?_append, h]
  simp
theorem sizeFind_some (ES : List (Int × Int)) (J R n m : Nat) (xs : List Int) (hm : n ≤ m) (h : sizeFind ES J R n = some xs) : sizeFind ES J R m = some xs := by
  induction m with
  | zero => rw [show n = 0 by omega] at h; exact h
  | succ m ih =>
    by_cases e : n = m + 1
    · rw [← e]; exact h
    · have := ih (by omega)
      unfold sizeFind at *
      rw [List.range_succ, List.findSome?_append, this]
      rfl
theorem sizeFind_end (ES : List (Int × Int)) (J R : Nat) (h : sizeFind ES J R (R + 1) = none) : False := by
  by_cases h0 : sizeFind ES J R R = none
  · rw [sizeFind_succ _ _ _ _ h0] at h
    have := leave_all ES J R R 0 (by omega)
    rw [show upTo 0 = [] from rfl, h] at this
    cases this
  · cases hx : sizeFind ES J R R with
    | none => exact h0 hx
    | some xs =>
      rw [sizeFind_some _ _ _ _ (R + 1) xs (by omega) hx] at h
      cases h
def leaveE (l : Lg) : Int := logE l
def leaveL (l : Lg) : List Int := if logE l ≠ 0 then [] else (sizeFind (esK l l.rc.length) l.jn.length l.rc.length (l.rc.length + 1)).getD []
set_option maxRecDepth 100000 in
set_option maxHeartbeats 8000000 in
theorem leave32_any (a : LV) (l : Lg) (w : World) (hL : LogAt w a l) :
    Calls Tryz.prog 32 #[logV a l] w fun e w' => ∃ v, e = .returned (.tuple #[v, .int .i64 (leaveE l)]) ∧ Kd.R (Kd.int .i64) 3 w' w.heap.size (fun _ => True) v (leaveL l) ∧ Below w.heap.size w w' := by
  have hu := Tryz.underlying38
  have eg := enters73
  unfold Enters at eg
  have hb : Below w.heap.size w (w.alloc (logC a l)) := (Below.refl _ w).alloc (Nat.le_refl _) _
  have hcl := checkLog_any a l _ (hL.below hb)
  have HCL := Aside0.mk hcl
  have HB := Aside0.mk hb
  by_cases h0 : logE l = 0
  · obtain ⟨hsl, hjl, hrl⟩ := logE_len (l := l) h0
    have hst := logE_sent h0
    have hwork : ∀ W, Below w.heap.size w W → Calls Tryz.prog 65 #[logV a l] W fun e w' => e = .returned (.pointer (some ⟨W.heap.size + 3, 0, none⟩)) ∧ WkI W a l (esK l l.rc.length) (fun _ => False) w' := fun W hW => work_any a l W (hL.below hW) hjl hrl hst hL.z4
    have HW := Aside0.mk hwork
    have hvE : leaveE l = 0 := h0
    have hvL : leaveL l = (sizeFind (esK l l.rc.length) l.jn.length l.rc.length (l.rc.length + 1)).getD [] := by simp [leaveL, h0]
    have HVE := Aside0.mk hvE
    have HVL := Aside0.mk hvL
    rw [h0] at HCL
    obtain ⟨A0, A2, A3, A4, c0, c2, c3, c4⟩ := a
    dsimp only [logV] at *
    clear hL hcl hb hwork h0 hst hvE hvL
    generalize esK l l.rc.length = ES at *
    go_enter Tryz.func32, Tryz.ntmps32
    go_wp2
    go_step3
    go_wp2_with (first
      | (go_at_call 19; refine HCL.out.mono ?_; rintro e w1 ⟨rfl, hb1⟩; obtain ⟨hc1, hf1⟩ := bcell hb1; have HB1 := Aside0.mk hb1; clear hb1))
    refine (HW.out _ (below_next HB.out HB1.out)).mono ?_
    rintro e w2 ⟨rfl, hW2⟩
    obtain ⟨k1, k2, k3, k4⟩ := hW2
    obtain ⟨q1, q2, _, _⟩ := k2
    obtain ⟨pb, hpb⟩ : ∃ pb, pb = w1.heap.size + 3 := ⟨_, rfl⟩
    obtain ⟨bc, hbc⟩ : ∃ bc, bc = w1.heap.size + 2 := ⟨_, rfl⟩
    rw [← hpb] at q1 ⊢
    rw [← hbc] at q1 q2
    generalize w1.heap.size + 1 = bo at q1
    have hb2 := below_next (below_next HB.out HB1.out) k3
    have hs3 : w2.heap[w.heap.size]? = some (logC ⟨A0, A2, A3, A4, c0, c2, c3, c4⟩ l) := ((below_next HB1.out k3).block w.heap.size (by simp)).trans (alloc_new _ _)
    obtain ⟨W3, hW3⟩ : ∃ W3, W3 = ((w2.alloc (.cells #[.pointer (some ⟨pb, 0, none⟩)] 97)).alloc (.cells #[.slice none 0 0] 25)).alloc (.cells #[lvF (w2.heap.size + 1) w2.heap.size w.heap.size (w2.heap.size + 1 + 1)] 103) := ⟨_, rfl⟩
    have hb3 : Below w2.heap.size w2 W3 := by
      rw [hW3]
      exact (((Below.refl _ w2).alloc (Nat.le_refl _) _).alloc (by simp) _).alloc (by simp; omega) _
    have hLW : LvW pb bo bc (w2.heap.size + 1) w2.heap.size w.heap.size (w2.heap.size + 1 + 1) ⟨A0, A2, A3, A4, c0, c2, c3, c4⟩ l ES W3 := by
      refine ⟨(hb3.block _ (Array.getElem?_eq_some_iff.1 q1).1).trans q1, q2.below hb3, ⟨.slice none 0 0, ?_⟩, ?_, (hb3.block _ (Array.getElem?_eq_some_iff.1 hs3).1).trans hs3, ?_⟩
      · rw [hW3]
        exact heap_old (alloc_at _ _ (by simp)) _
      · rw [hW3]
        exact heap_old (heap_old (alloc_new _ _) _) _
      · rw [hW3]
        exact alloc_at _ _ (by simp)
    have hz6 : w.heap.size ≤ w2.heap.size := hb2.size
    have d4 : W3.cell? ⟨w.heap.size, 4, none⟩ = some (.slice A4 l.rc.length c4) := by simp [World.cell?, hLW.b5]
    rw [hW3] at d4
    have J1 := Aside0.mk hb2
    have J2 := Aside0.mk hb3
    have J3 := Aside0.mk hLW
    have JW := Aside0.mk hW3
    clear k1 k3 k4 q1 q2 hb2 hs3 hpb hbc hb3 hLW hW3
    go_wp2
    go_step3
    go_wp2
    rw [← JW.out]
    have hz8 := J2.out.size
    go_loopg [21] (l.rc.length + 1) (fun gg v21 wr => ∃ k : Nat, k ≤ l.rc.length + 1 ∧ l.rc.length + 1 - k ≤ gg ∧ v21 = .int .i64 k ∧ Aside0 (sizeFind ES l.jn.length l.rc.length k = none) ∧ Aside0 (LvW pb bo bc (w2.heap.size + 1) w2.heap.size w.heap.size (w2.heap.size + 1 + 1) ⟨A0, A2, A3, A4, c0, c2, c3, c4⟩ l ES wr) ∧ Aside0 (W3.grownBy wr (some (w2.heap.size + 1))))
    case atStart => exact ⟨0, by omega, by omega, by go_num, ⟨rfl⟩, J3, ⟨⟨rfl, rfl, rfl, Nat.le_refl _, fun _ _ _ => rfl⟩⟩⟩
    case round =>
      obtain ⟨k, hk, hg, rfl, HN, HLV, HG⟩ := hrel
      by_cases hlt : k < l.rc.length + 1
      · have hltz : (k : Int) < (l.rc.length : Int) + 1 := by omega
        have ld := lv6 HLV.out (Below.refl _ _)
        have hcall := leave_any ES pb bo bc (w2.heap.size + 1) w2.heap.size w.heap.size (w2.heap.size + 1 + 1) w.heap.size ⟨A0, A2, A3, A4, c0, c2, c3, c4⟩ l hjl hrl k [] (.slice none 0 0) 0 wr (by omega) (by simp; omega) (by omega) (by have := HG.out.size; omega) HLV.out (Kd.R_nil _ _ _ _ _)
        have HCA := Aside0.mk hcall
        have HST := Aside0.mk (sizeFind_succ ES l.jn.length l.rc.length k HN.out)
        clear hcall
        go_wp2_with (fail)
        refine HCA.out.mono ?_
        rintro e w6 ⟨rfl, hg6, vf6, h36, hx6⟩
        have gAll := World.grownBy.trans HG.out hg6
        have hLV6 := HLV.out.grown hg6 ⟨vf6, h36⟩
        have HX6 := Aside0.mk hx6
        have HLV6 := Aside0.mk hLV6
        have HGA := Aside0.mk gAll
        have hb6 : Below w.heap.size w w6 := (below_next J1.out J2.out).grown gAll (by omega) (fun q e => by cases e; omega)
        have HB6 := Aside0.mk hb6
        have c36 : w6.cell? ⟨w2.heap.size + 1, 0, none⟩ = some vf6 := by simp [World.cell?, h36]
        clear hx6 hLV6 gAll h36 hg6 ld hb6
        cases hp : leaveP ES l.jn.length l.rc.length k [] 0 with
        | none =>
          have HP := Aside0.mk hp
          clear hp
          simp only [Option.isSome_none]
          go_wp2
          go_roundg (l.rc.length + 1 - (k + 1))
          case measure => omega
          case rel => exact ⟨k + 1, by omega, by omega, by go_num, ⟨by rw [HST.out]; exact HP.out⟩, HLV6, HGA⟩
        | some ys =>
          have HP := Aside0.mk hp
          clear hp
          simp only [Option.isSome_some]
          have hfin := sizeFind_some ES l.jn.length l.rc.length (k + 1) (l.rc.length + 1) ys (by omega) (HST.out.trans HP.out)
          have HF := Aside0.mk hfin
          clear hfin
          go_wp2
          rw [Exit.noGoto_ret]
          go_ret2
          exact ⟨_, by rw [HVE.out]; rfl, by rw [HVL.out, HF.out]; exact HX6.out _ HP.out, HB6.out⟩
      · have hk2 : k = l.rc.length + 1 := by omega
        subst hk2
        exact (sizeFind_end _ _ _ HN.out).elim
  · have hvE : leaveE l = logE l := rfl
    have hvL : leaveL l = [] := by simp [leaveL, h0]
    have hd : (logE l = 0) = False := eq_false h0
    have hd2 : (logE l == 0) = false := by simp [h0]
    rw [hvE, hvL]
    obtain ⟨A0, A2, A3, A4, c0, c2, c3, c4⟩ := a
    dsimp only [logV] at *
    clear hL hcl hb h0 hvE hvL
    generalize logE l = E at *
    go_enter Tryz.func32, Tryz.ntmps32
    go_wp2
    go_step3
    go_wp2_with (first
      | (go_at_call 19; refine HCL.out.mono ?_; rintro e w1 ⟨rfl, hb1⟩; obtain ⟨hc1, hf1⟩ := bcell hb1; have HB1 := Aside0.mk hb1; clear hb1))
    rw [Exit.noGoto_ret]
    go_ret2
    exact ⟨_, rfl, Kd.R_nil _ _ _ _ _, below_next HB.out HB1.out⟩
end Go.Proofs.YthgfhgjlilmieaaGreat.G
namespace Go.Proofs.YthgfhgjlilmieaaGreat.G
open Go.RowKit Go.Shelf Go.Proofs.YthgfhgjlilmieaaGreatW.PrintWords Go.Proofs.YthgfhgjlilmieaaGreatW.PrintLast Go.Proofs.YthgfhgjlilmieaaGreatW.PrintMore
open Go.Proofs.YthgfhgjlilmieaaGreat.B
set_option linter.unusedVariables false
set_option linter.unusedSimpArgs false
def cmp3 (x y : Int) : Int := if x < y then -1 else if y < x then 1 else 0
set_option maxHeartbeats 2000000 in
theorem cmp_any (x y : Int) (w : World) : Calls Tryz.prog 132 #[.int .i64 x, .int .i64 y] w fun e w' => e = .returned (.int .i64 (cmp3 x y)) ∧ w = w' := by
  by_cases h1 : x < y
  · have e1 : cmp3 x y = -1 := by simp [cmp3, h1]
    rw [e1]
    have hne : ¬ y < x := by omega
    go_enter Tryz.func132, Tryz.ntmps132
    go_wp2
    go_ret
    exact ⟨rfl, rfl⟩
  · by_cases h2 : y < x
    · have e1 : cmp3 x y = 1 := by simp [cmp3, h1, h2]
      rw [e1]
      go_enter Tryz.func132, Tryz.ntmps132
      go_wp2
      go_ret
      exact ⟨rfl, rfl⟩
    · have e1 : cmp3 x y = 0 := by simp [cmp3, h1, h2]
      rw [e1]
      go_enter Tryz.func132, Tryz.ntmps132
      go_wp2
      go_ret
      exact ⟨rfl, rfl⟩
theorem belowN (W : World) (n : Nat) : Below W.heap.size W (W.drewN n) := ⟨rfl, rfl, rfl, Nat.le_refl _, fun _ _ => rfl⟩
end Go.Proofs.YthgfhgjlilmieaaGreat.G
namespace Go.Proofs.YthgfhgjlilmieaaGreat.G
open Go.RowKit Go.Shelf Go.Proofs.YthgfhgjlilmieaaGreatW.PrintWords Go.Proofs.YthgfhgjlilmieaaGreatW.PrintLast Go.Proofs.YthgfhgjlilmieaaGreatW.PrintMore
open Go.Proofs.YthgfhgjlilmieaaGreat.B
set_option linter.unusedVariables false
set_option linter.unusedSimpArgs false
def cmpL : List Int → List Int → Int
  | [], [] => 0
  | [], _ :: _ => -1
  | _ :: _, [] => 1
  | x :: xs, y :: ys => if cmp3 x y ≠ 0 then cmp3 x y else cmpL xs ys
set_option maxRecDepth 100000 in
set_option maxHeartbeats 4000000 in
theorem compare_any (A B : Option Addr) (c d : Nat) (xs ys : List Int) (w : World) (hx : Kd.C (Kd.int .i64) w A xs.length xs) (hy : Kd.C (Kd.int .i64) w B ys.length ys) :
    Calls Tryz.prog 102 #[.slice A xs.length c, .slice B ys.length d] w fun e w' => e = .returned (.int .i64 (cmpL xs ys)) ∧ w = w' := by
  have hmax : (xs.length : Int) ≤ 9223372036854775807 := by have := hx.2.1; omega
  have hmax2 : (ys.length : Int) ≤ 9223372036854775807 := by have := hy.2.1; omega
  have HX := Aside0.mk hx
  have HY := Aside0.mk hy
  clear hx hy
  go_enter Tryz.func102, Tryz.ntmps102
  go_wp2
  go_loopg [11] xs.length (fun gg v11 wr => ∃ k : Nat, k ≤ xs.length ∧ k ≤ ys.length ∧ xs.length - k ≤ gg ∧ v11 = .int .i64 k ∧ Aside0 (cmpL (xs.drop k) (ys.drop k) = cmpL xs ys) ∧ wr = w)
  case atStart => exact ⟨0, by omega, by omega, by omega, by go_num, ⟨by simp⟩, rfl⟩
  case round =>
    obtain ⟨k, hk, hk2, hg, rfl, HE, rfl⟩ := hrel
    by_cases hlt : k < xs.length
    · have hltz : (k : Int) < (xs.length : Int) := by omega
      obtain ⟨ax, e1, cx⟩ := Kd.at_int HX.out (k : Int) (by omega) hltz
      cases e1
      have hxk : rd xs (k : Int) = xs[k] := by simp [rd, hlt]
      rw [hxk, Int.toNat_natCast] at cx
      have d1 := List.drop_eq_getElem_cons hlt
      have D1 := Aside0.mk d1
      clear hxk d1
      by_cases hlt2 : k < ys.length
      · have hltz2 : (k : Int) < (ys.length : Int) := by omega
        have hltz3 : ¬ (ys.length : Int) ≤ (k : Int) := by omega
        obtain ⟨ay, e2, cy⟩ := Kd.at_int HY.out (k : Int) (by omega) hltz2
        cases e2
        have hyk : rd ys (k : Int) = ys[k] := by simp [rd, hlt2]
        rw [hyk, Int.toNat_natCast] at cy
        have d2 := List.drop_eq_getElem_cons hlt2
        have D2 := Aside0.mk d2
        clear hyk d2
        generalize xs[k] = x at *
        generalize ys[k] = y at *
        have HC := Aside0.mk (fun W => cmp_any x y W)
        have hres : cmpL xs ys = if cmp3 x y ≠ 0 then cmp3 x y else cmpL (xs.drop (k + 1)) (ys.drop (k + 1)) := by
          rw [← HE.out, D1.out, D2.out]; rfl
        have HRES := Aside0.mk hres
        clear hres
        generalize cmp3 x y = q at *
        by_cases hq : q = 0
        · subst hq
          go_wp2_with (go_at_call 132; refine (HC.out _).mono ?_; rintro e w' ⟨rfl, rfl⟩)
          go_roundg (xs.length - (k + 1))
          case measure => omega
          case rel => exact ⟨k + 1, by omega, by omega, by omega, by go_num, ⟨by rw [HRES.out]; simp⟩, rfl⟩
        · have hq2 : (q != 0) = true := by simp [hq]
          go_wp2_with (go_at_call 132; refine (HC.out _).mono ?_; rintro e w' ⟨rfl, rfl⟩)
          go_ret
          exact ⟨by rw [HRES.out]; simp [hq], rfl⟩
      · have hltz3 : (ys.length : Int) ≤ (k : Int) := by omega
        have hres : cmpL xs ys = 1 := by
          rw [← HE.out, D1.out, List.drop_eq_nil_of_le (by omega : ys.length ≤ k)]; rfl
        have HRES := Aside0.mk hres
        clear hres
        go_wp2
        go_ret
        exact ⟨by rw [HRES.out]; rfl, rfl⟩
    · have hk3 : k = xs.length := by omega
      subst hk3
      have hltz : ¬ (xs.length : Int) < (xs.length : Int) := by omega
      have he := HE.out
      rw [List.drop_length] at he
      by_cases hll : xs.length < ys.length
      · have hll2 : (xs.length : Int) < (ys.length : Int) := by omega
        have hres : cmpL xs ys = -1 := by
          rw [← he]
          cases hd : ys.drop xs.length with
          | nil => have := congrArg List.length hd; simp at this; omega
          | cons y t => rfl
        have HRES := Aside0.mk hres
        clear hres he
        go_wp2
        go_ret
        exact ⟨by rw [HRES.out]; rfl, rfl⟩
      · have hll2 : ¬ (xs.length : Int) < (ys.length : Int) := by omega
        have hres : cmpL xs ys = 0 := by
          rw [← he, List.drop_eq_nil_of_le (by omega)]; rfl
        have HRES := Aside0.mk hres
        clear hres he
        go_wp2
        go_ret
        exact ⟨by rw [HRES.out]; rfl, rfl⟩
end Go.Proofs.YthgfhgjlilmieaaGreat.G
namespace Go.Proofs.YthgfhgjlilmieaaGreat.G
open Go.RowKit Go.Shelf Go.Proofs.YthgfhgjlilmieaaGreatW.PrintWords Go.Proofs.YthgfhgjlilmieaaGreatW.PrintLast Go.Proofs.YthgfhgjlilmieaaGreatW.PrintMore
open Go.Proofs.YthgfhgjlilmieaaGreat.B
set_option linter.unusedVariables false
set_option linter.unusedSimpArgs false
def cmpT (xs ys : List Int) : Int := if xs.length ≠ ys.length then (xs.length : Int) - ys.length else cmpL xs ys
set_option maxHeartbeats 2000000 in
theorem textCmp_any (A B : Option Addr) (c d : Nat) (xs ys : List Int) (w : World) (hx : Kd.C (Kd.int .i64) w A xs.length xs) (hy : Kd.C (Kd.int .i64) w B ys.length ys) :
    Calls Tryz.prog 101 #[.slice A xs.length c, .slice B ys.length d] w fun e w' => e = .returned (.int .i64 (cmpT xs ys)) ∧ w = w' := by
  have hmax : (xs.length : Int) ≤ 9223372036854775807 := by have := hx.2.1; omega
  have hmax2 : (ys.length : Int) ≤ 9223372036854775807 := by have := hy.2.1; omega
  have HC := Aside0.mk (compare_any A B c d xs ys w hx hy)
  clear hx hy
  by_cases hl : xs.length = ys.length
  · have hd : ((xs.length : Int) != (ys.length : Int)) = false := by simp [hl]
    have hres : cmpT xs ys = cmpL xs ys := by simp [cmpT, hl]
    rw [hres]
    clear hres hl
    go_enter Tryz.func101, Tryz.ntmps101
    go_wp2_with (go_at_call 102; refine HC.out.mono ?_; rintro e w' ⟨rfl, rfl⟩)
    go_ret
    exact ⟨rfl, rfl⟩
  · have hd : ((xs.length : Int) != (ys.length : Int)) = true := by simp; omega
    have hd2 : ¬ (xs.length : Int) = (ys.length : Int) := by omega
    have hres : cmpT xs ys = (xs.length : Int) - ys.length := by simp [cmpT, hl]
    rw [hres]
    clear hres
    go_enter Tryz.func101, Tryz.ntmps101
    go_wp2
    go_ret
    exact ⟨rfl, rfl⟩
end Go.Proofs.YthgfhgjlilmieaaGreat.G
namespace Go.Proofs.YthgfhgjlilmieaaGreat.G
open Go.RowKit Go.Shelf Go.Proofs.YthgfhgjlilmieaaGreatW.PrintWords Go.Proofs.YthgfhgjlilmieaaGreatW.PrintLast Go.Proofs.YthgfhgjlilmieaaGreatW.PrintMore
open Go.Proofs.YthgfhgjlilmieaaGreat.B
set_option linter.unusedVariables false
set_option linter.unusedSimpArgs false
set_option maxRecDepth 100000 in
set_option maxHeartbeats 4000000 in
theorem equal_q (A B : Option Addr) (c d : Nat) (xs ys : List Int) (w : World) (hx : Kd.C (Kd.int .i64) w A xs.length xs) (hy : Kd.C (Kd.int .i64) w B ys.length ys) :
    Calls Tryz.prog 104 #[.slice A xs.length c, .slice B ys.length d] w fun e w' => e = .returned (.bool (xs == ys)) ∧ ∃ m, w' = w.drewN m := by
  by_cases hl : xs.length = ys.length
  · have hmax : (xs.length : Int) ≤ 9223372036854775807 := by have := hx.2.1; omega
    have hd : ((xs.length : Int) != (ys.length : Int)) = false := by simp [hl]
    have HX := Aside0.mk hx
    have HY := Aside0.mk hy
    have HL := Aside0.mk hl
    clear hx hy hl
    go_enter Tryz.func104, Tryz.ntmps104
    go_wp2
    go_loopg [13] xs.length (fun gg v13 wr => ∃ k m : Nat, k ≤ xs.length ∧ xs.length - k ≤ gg ∧ v13 = .int .i64 k ∧ Aside0 (xs.take k = ys.take k) ∧ wr = w.drewN m)
    case atStart => exact ⟨0, 0, by omega, by omega, by go_num, ⟨by simp⟩, rfl⟩
    case round =>
      obtain ⟨k, m, hk, hg, rfl, HE, rfl⟩ := hrel
      by_cases hlt : k < xs.length
      · have hltz : (k : Int) < (xs.length : Int) := by omega
        have hlt2 : k < ys.length := by have := HL.out; omega
        have hltz2 : (k : Int) < (ys.length : Int) := by omega
        obtain ⟨ax, e1, cx⟩ := Kd.at_int HX.out (k : Int) (by omega) hltz
        obtain ⟨ay, e2, cy⟩ := Kd.at_int HY.out (k : Int) (by omega) hltz2
        cases e1
        cases e2
        have hxk : rd xs (k : Int) = xs[k] := by simp [rd, hlt]
        have hyk : rd ys (k : Int) = ys[k] := by simp [rd, hlt2]
        rw [hxk, Int.toNat_natCast] at cx
        rw [hyk, Int.toNat_natCast] at cy
        have t1 := List.take_succ_eq_append_getElem hlt
        have t2 := List.take_succ_eq_append_getElem hlt2
        have T1 := Aside0.mk t1
        have T2 := Aside0.mk t2
        have hneq : xs[k] ≠ ys[k] → (xs == ys) = false := fun h => by
          rw [beq_eq_false_iff_ne]
          rintro rfl
          exact h rfl
        have HNE := Aside0.mk hneq
        clear hxk hyk t1 t2 hneq
        generalize xs[k] = x at *
        generalize ys[k] = y at *
        by_cases hxy : x = y
        · subst hxy
          go_wp2
          go_quiet (fail)
          go_wp2
          go_roundg (xs.length - (k + 1))
          case measure => omega
          case rel => exact ⟨k + 1, _, by omega, by omega, by go_num, ⟨by rw [T1.out, T2.out, HE.out]⟩, rfl⟩
        · have hxy2 : (x != y) = true := by simp [hxy]
          have HF := Aside0.mk (HNE.out hxy)
          go_wp2
          go_quiet (fail)
          go_wp2
          go_ret
          exact ⟨by rw [HF.out]; rfl, _, World.drewN_drewN _ _ _⟩
      · have hk2 : k = xs.length := by omega
        subst hk2
        have hltz : ¬ (xs.length : Int) < (xs.length : Int) := by omega
        have hfin : (xs == ys) = true := by
          have := HE.out
          rw [List.take_length, HL.out, List.take_length] at this
          simp [this]
        have HF := Aside0.mk hfin
        clear hfin
        go_wp2
        go_ret
        exact ⟨by rw [HF.out]; rfl, m, rfl⟩
  · have hd : ((xs.length : Int) != (ys.length : Int)) = true := by simp; omega
    have hd2 : ¬ (xs.length : Int) = (ys.length : Int) := by omega
    have hfin : (xs == ys) = false := by
      rw [beq_eq_false_iff_ne]
      rintro rfl
      exact hl rfl
    rw [hfin]
    clear hfin hx hy
    go_enter Tryz.func104, Tryz.ntmps104
    go_wp2
    go_ret
    exact ⟨rfl, 0, rfl⟩
def keepT (tss : List (List Int)) (j : Nat) : Bool := j == 0 || !(tss.getD j [] == tss.getD (j - 1) [])
def idxT (tss : List (List Int)) (m : Nat) : List Nat := (List.range m).filter (keepT tss)
def compT (tss : List (List Int)) : List (List Int) := (idxT tss tss.length).map (tss.getD · [])
theorem idxT_keep {tss : List (List Int)} {m : Nat} (h : keepT tss m = true) : idxT tss (m + 1) = idxT tss m ++ [m] := by simp [idxT, List.range_succ, h]
theorem idxT_skip {tss : List (List Int)} {m : Nat} (h : keepT tss m = false) : idxT tss (m + 1) = idxT tss m := by simp [idxT, List.range_succ, h]
theorem idxT_all {tss : List (List Int)} {m : Nat} (h : ∀ j, j < m → keepT tss j = true) : idxT tss m = List.range m := by
  unfold idxT
  exact List.filter_eq_self.2 fun j hj => h j (List.mem_range.1 hj)
theorem map_range_getD {α : Type} (l : List α) (d : α) : (List.range l.length).map (l.getD · d) = l := by
  apply List.ext_getElem
  · simp
  · intro i h1 h2
    simp [List.getD_eq_getElem?_getD, h2]
theorem keepT_pos {tss : List (List Int)} {j : Nat} (h : (tss.getD j [] == tss.getD (j - 1) []) = false) : keepT tss j = true := by unfold keepT; rw [h]; simp
theorem keepT_neg {tss : List (List Int)} {j : Nat} (h0 : 0 < j) (h : (tss.getD j [] == tss.getD (j - 1) []) = true) : keepT tss j = false := by
  unfold keepT
  rw [h]
  simp
  omega
theorem heap_setCell_at {W : World} {b i : Nat} {c : Array Value} {t : TypeId} {f : Nat × Nat} {v : Value} (h : W.heap[b]? = some (.cells c t f)) : (W.setCell ⟨b, i, none⟩ v).heap[b]? = some (.cells (c.setIfInBounds i v) t f) := by
  simp [World.setCell, Array.getElem?_modify, h]
theorem grownBy_setC (W : World) (b i : Nat) (v : Value) : W.grownBy (W.setCell ⟨b, i, none⟩ v) (some b) :=
  ⟨rfl, rfl, rfl, by simp [World.setCell], fun k hk hne => Below.heap_setCell _ _ _ _ (fun e => hne (by rw [e]))⟩
theorem grownBy_setCells (b : Nat) : ∀ (vs : List Value) (i : Nat) (W : World), W.grownBy (W.setCells b i vs) (some b)
  | [], _, W => World.grownBy.refl W _
  | v :: r, i, W => (grownBy_setC W b i v).trans (grownBy_setCells b r (i + 1) _)
theorem heap_setCells_at (b : Nat) (t : TypeId) (f : Nat × Nat) : ∀ (vs : List Value) (i : Nat) (W : World) (c : Array Value), W.heap[b]? = some (.cells c t f) → ∃ c', (W.setCells b i vs).heap[b]? = some (.cells c' t f) ∧ c'.size = c.size ∧ ∀ j, j < i → c'[j]? = c[j]?
  | [], _, W, c, h => ⟨c, h, rfl, fun _ _ => rfl⟩
  | v :: r, i, W, c, h => by
    obtain ⟨c', h1, h2, h3⟩ := heap_setCells_at b t f r (i + 1) _ _ (heap_setCell_at (i := i) (v := v) h)
    refine ⟨c', h1, by rw [h2]; simp, fun j hj => ?_⟩
    rw [h3 j (by omega), Array.getElem?_setIfInBounds, if_neg (by omega)]
theorem grownBy_drewN (W : World) (n : Nat) (row : Option Nat) : W.grownBy (W.drewN n) row := grown_of_below (belowN W n) row
theorem cell_of_block {W : World} {b i : Nat} {c : Array Value} {t : TypeId} {f : Nat × Nat} {v : Value} (h : W.heap[b]? = some (.cells c t f)) (hv : c[i]? = some v) : W.cell? ⟨b, i, none⟩ = some v := by simp [World.cell?, h, hv]
theorem frozen_of_block {W : World} {b i : Nat} {c : Array Value} {t : TypeId} (h : W.heap[b]? = some (.cells c t (0, 0))) : W.frozen? ⟨b, i, none⟩ = false := by simp [World.frozen?, h]
end Go.Proofs.YthgfhgjlilmieaaGreat.G
namespace Go.Proofs.YthgfhgjlilmieaaGreat.G
open Go.RowKit Go.Shelf Go.Proofs.YthgfhgjlilmieaaGreatW.PrintWords Go.Proofs.YthgfhgjlilmieaaGreatW.PrintLast Go.Proofs.YthgfhgjlilmieaaGreatW.PrintMore
open Go.Proofs.YthgfhgjlilmieaaGreat.B
set_option linter.unusedVariables false
set_option linter.unusedSimpArgs false
structure TRow (w : World) (base : Nat) (ok : Nat → Prop) (b cap : Nat) (cur : Array Value) (tss : List (List Int)) : Prop where
  hb : base ≤ b
  blk : w.heap[b]? = some (.cells cur 25 (0, 0))
  nc : tss.length ≤ cap
  capm : cap ≤ maxLen
  cs : cur.size = cap
  okb : ok b
  el : ∀ j, j < tss.length → ∃ A c, cur[j]? = some (.slice A (tss.getD j []).length c) ∧ (Kd.slice 3 (Kd.int .i64)).M w base (fun k => ok k ∧ k ≠ b) (tss.getD j []) [.slice A (tss.getD j []).length c]
theorem TRow.of {w : World} {base : Nat} {ok : Nat → Prop} {v : Value} {tss : List (List Int)} (h : Kd.R (Kd.slice 3 (Kd.int .i64)) 25 w base ok v tss) :
    (v = .slice none 0 0 ∧ tss = []) ∨ ∃ b cap cur, v = .slice (some ⟨b, 0, none⟩) tss.length cap ∧ TRow w base ok b cap cur tss := by
  obtain ⟨h0, inner, ⟨hl, hown⟩, hr⟩ := h
  rcases hown with ⟨rfl, hz⟩ | ⟨b, cap, cur, rfl, hb, hblk, hnc, hcap, hcs, htake⟩
  · exact .inl ⟨rfl, List.eq_nil_of_length_eq_zero hz⟩
  · refine .inr ⟨b, cap, cur, rfl, hb, hblk, hnc, hcap, by simpa [Kd.slice] using hcs, h0 b (by simp [Value.ownBlock]), fun j hj => ?_⟩
    have hsz : (Kd.slice 3 (Kd.int .i64)).sz = 1 := rfl
    have h2 := hr.2 j _ (List.getElem?_eq_getElem hj)
    have hl1 : inner.length = tss.length := by rw [hl, hsz, Nat.mul_one]
    have hj2 : j < inner.length := by omega
    rw [hsz, Nat.mul_one, List.drop_eq_getElem_cons hj2, List.take_succ_cons, List.take_zero] at h2
    have hm := h2
    obtain ⟨v, hv, hR⟩ := h2
    obtain ⟨A, c, rfl⟩ := Kd.R_slice hR
    have hg : tss.getD j [] = tss[j] := by simp [List.getD_eq_getElem?_getD, hj]
    rw [hg]
    refine ⟨A, c, ?_, ?_⟩
    · have e1 : inner[j]? = some inner[j] := List.getElem?_eq_getElem hj2
      have e2 : inner[j] = .slice A tss[j].length c := by simpa using hv
      rw [e2] at e1
      have e3 : (List.take (tss.length * (Kd.slice 3 (Kd.int .i64)).sz) cur.toList)[j]? = some (.slice A tss[j].length c) := by rw [htake]; exact e1
      rw [hsz, Nat.mul_one, List.getElem?_take, if_pos hj, Array.getElem?_toList] at e3
      exact e3
    · rw [hv] at hm
      exact (Kd.slice 3 (Kd.int .i64)).M_mono (fun k hk => ⟨hk.1, fun e => hk.2 (by simp [Value.ownBlock, e])⟩) hm
theorem TRow.grown {w w1 : World} {base : Nat} {ok : Nat → Prop} {b cap : Nat} {cur ck : Array Value} {tss us : List (List Int)} (h : TRow w base ok b cap cur tss) (hg : w.grownBy w1 (some b)) (hk : w1.heap[b]? = some (.cells ck 25 (0, 0)))
    (hs : ck.size = cap) (hl : us.length ≤ cap) (he : ∀ j, j < us.length → ∃ i, i < tss.length ∧ us.getD j [] = tss.getD i [] ∧ ck[j]? = cur[i]?) : TRow w1 base ok b cap ck us :=
  ⟨h.hb, hk, hl, h.capm, hs, h.okb, fun j hj => by
    obtain ⟨i, hi, h1, h2⟩ := he j hj
    obtain ⟨A, c, h3, h4⟩ := h.el i hi
    rw [h1]
    exact ⟨A, c, h2.trans h3, Kd.M_grown h4 hg (fun k hk e => hk.2 (by cases e; rfl))⟩⟩
theorem TRow.toR {w : World} {base : Nat} {ok : Nat → Prop} {b cap : Nat} {cur : Array Value} {tss : List (List Int)} (h : TRow w base ok b cap cur tss) : Kd.R (Kd.slice 3 (Kd.int .i64)) 25 w base ok (.slice (some ⟨b, 0, none⟩) tss.length cap) tss := by
  have hsz : (Kd.slice 3 (Kd.int .i64)).sz = 1 := rfl
  refine ⟨fun k hk => ?_, cur.toList.take tss.length, ⟨?_, .inr ⟨b, cap, cur, rfl, h.hb, h.blk, h.nc, h.capm, by rw [hsz, Nat.mul_one]; exact h.cs, by rw [hsz, Nat.mul_one]⟩⟩, ?_, ?_⟩
  · simp [Value.ownBlock] at hk
    exact hk ▸ h.okb
  · have := h.nc
    have := h.cs
    rw [hsz]
    simp
    omega
  · have := h.nc
    have := h.cs
    rw [hsz]
    simp
    omega
  · intro j p hj
    obtain ⟨hj1, hj2⟩ := List.getElem?_eq_some_iff.1 hj
    obtain ⟨A, c, h3, h4⟩ := h.el j hj1
    have hg : tss.getD j [] = p := by simp [List.getD_eq_getElem?_getD, hj1, hj2]
    rw [hg] at h3 h4
    have hl : j < (cur.toList.take tss.length).length := by have := h.nc; have := h.cs; simp; omega
    have hx : (cur.toList.take tss.length)[j] = .slice A p.length c := by
      have : (cur.toList.take tss.length)[j]? = some (.slice A p.length c) := by
        rw [List.getElem?_take, if_pos hj1, Array.getElem?_toList]
        exact h3
      exact (List.getElem?_eq_some_iff.1 this).2
    rw [hsz, Nat.mul_one, List.drop_eq_getElem_cons hl, List.take_succ_cons, List.take_zero, hx]
    exact (Kd.slice 3 (Kd.int .i64)).M_mono (fun k hk => ⟨hk.1, fun e => hk.2 (by simpa [Value.ownBlock] using e)⟩) h4
structure CRel (w wr : World) (b cap : Nat) (cur ck : Array Value) (tss : List (List Int)) (m kk : Nat) : Prop where
  g : w.grownBy wr (some b)
  blk : wr.heap[b]? = some (.cells ck 25 (0, 0))
  sz : ck.size = cur.size
  kk_ : (idxT tss m).length = kk
  lt : kk < m
  low : ∀ (j i : Nat), (idxT tss m)[j]? = some i → ck[j]? = cur[i]?
  high : ∀ j : Nat, kk ≤ j → ck[j]? = cur[j]?
theorem CRel.skip {w wr : World} {b cap : Nat} {cur ck : Array Value} {tss : List (List Int)} {m kk : Nat} (h : CRel w wr b cap cur ck tss m kk) (hk : keepT tss m = false) (n : Nat) : CRel w (wr.drewN n) b cap cur ck tss (m + 1) kk :=
  ⟨h.g.trans (grownBy_drewN _ _ _), h.blk, h.sz, by rw [idxT_skip hk]; exact h.kk_, by have := h.lt; omega, by rw [idxT_skip hk]; exact h.low, h.high⟩
theorem CRel.keep {w wr : World} {b cap : Nat} {cur ck : Array Value} {tss : List (List Int)} {m kk : Nat} (h : CRel w wr b cap cur ck tss m kk) (hk : keepT tss m = true) (hm : m < cur.size) (v : Value) (hv : cur[m]? = some v) (n : Nat) :
    CRel w ((wr.drewN n).setCell ⟨b, kk, none⟩ v) b cap cur (ck.setIfInBounds kk v) tss (m + 1) (kk + 1) := by
  refine ⟨(h.g.trans (grownBy_drewN _ _ _)).trans (grownBy_setC _ _ _ _), heap_setCell_at (by exact h.blk), by simp [h.sz], by rw [idxT_keep hk]; simp [h.kk_], by have := h.lt; omega, fun j i hj => ?_, fun j hj => ?_⟩
  · rw [idxT_keep hk] at hj
    have hkk := h.kk_
    have hlt := h.lt
    have hsz := h.sz
    by_cases e : j = kk
    · subst e
      rw [List.getElem?_append_right (by omega), hkk, Nat.sub_self] at hj
      cases hj
      rw [Array.getElem?_setIfInBounds, if_pos rfl, if_pos (by omega), hv]
    · have hj2 : j < kk := by
        have := (List.getElem?_eq_some_iff.1 hj).1
        simp at this
        omega
      rw [List.getElem?_append_left (by omega)] at hj
      rw [Array.getElem?_setIfInBounds, if_neg (by omega)]
      exact h.low j i hj
  · rw [Array.getElem?_setIfInBounds, if_neg (by omega)]
    exact h.high j (by omega)
theorem compT_len (tss : List (List Int)) : (compT tss).length = (idxT tss tss.length).length := by simp [compT]
theorem compT_get {tss : List (List Int)} {j i : Nat} (h : (idxT tss tss.length)[j]? = some i) : (compT tss).getD j [] = tss.getD i [] := by
  simp [compT, List.getD_eq_getElem?_getD, h]
theorem compT_all {tss : List (List Int)} (h : ∀ j, j < tss.length → keepT tss j = true) : compT tss = tss := by
  unfold compT
  rw [idxT_all h]
  exact map_range_getD tss []
theorem TRow.comp {w wr : World} {base : Nat} {ok : Nat → Prop} {b cap : Nat} {cur ck ck' : Array Value} {tss : List (List Int)} {kk : Nat} (h : TRow w base ok b cap cur tss) (hC : CRel w wr b cap cur ck tss tss.length kk) {w1 : World} (hg : w.grownBy w1 (some b))
    (hk : w1.heap[b]? = some (.cells ck' 25 (0, 0))) (hs : ck'.size = ck.size) (hlow : ∀ j, j < kk → ck'[j]? = ck[j]?) : TRow w1 base ok b cap ck' (compT tss) := by
  have h1 := hC.kk_
  have h2 := hC.lt
  have h3 := h.nc
  refine h.grown hg hk (by rw [hs, hC.sz]; exact h.cs) (by rw [compT_len]; omega) fun j hj => ?_
  rw [compT_len] at hj
  have hx := List.getElem?_eq_getElem hj
  have hi : (idxT tss tss.length)[j] < tss.length := by
    have := List.mem_of_getElem? hx
    unfold idxT at this
    have := (List.mem_filter.1 this).1
    exact List.mem_range.1 this
  exact ⟨_, hi, compT_get hx, (hlow j (by omega)).trans (hC.low j _ hx)⟩
theorem enters104 : ∀ args w, (callFunc 104 args).run Tryz.prog w = .ok (.enter 104 args) w := enters_of Tryz.func104 (by kernel_rfl) rfl
set_option maxRecDepth 100000 in
set_option maxHeartbeats 4000000 in
theorem compact_any (base : Nat) (ok : Nat → Prop) (v : Value) (tss : List (List Int)) (w : World) (hR : Kd.R (Kd.slice 3 (Kd.int .i64)) 25 w base ok v tss) (hbw : base ≤ w.heap.size) :
    Calls Tryz.prog 103 #[v, .func (.func 104) #[] #[]] w fun e w' => ∃ v', e = .returned v' ∧ Kd.R (Kd.slice 3 (Kd.int .i64)) 25 w' base ok v' (compT tss) ∧ w.grownBy w' v.ownBlock := by
  rcases TRow.of hR with ⟨rfl, rfl⟩ | ⟨b, cap, cur, rfl, hT⟩
  · have HR := Aside0.mk hR
    clear hR
    go_enter Tryz.func103, Tryz.ntmps103
    go_wp2
    go_ret
    exact ⟨_, rfl, Kd.R_nil _ _ _ _ _, World.grownBy.refl _ _⟩
  · have hmax : (tss.length : Int) ≤ 9223372036854775807 := by have := hT.nc; have := hT.capm; unfold maxLen at this; omega
    have hcapm : (cap : Int) ≤ 9223372036854775807 := by have := hT.capm; unfold maxLen at this; omega
    have hnc := hT.nc
    have same : ∀ q, (∀ j, j < tss.length → keepT tss j = true) → Kd.R (Kd.slice 3 (Kd.int .i64)) 25 (w.drewN q) base ok (.slice (some ⟨b, 0, none⟩) tss.length cap) (compT tss) := fun q h => by
      rw [compT_all h]
      exact Kd.R_below hR (belowN w q)
    have HS := Aside0.mk same
    have HT := Aside0.mk hT
    clear same hR hT
    by_cases h2 : tss.length < 2
    · have h2z : (tss.length : Int) < 2 := by omega
      go_enter Tryz.func103, Tryz.ntmps103
      go_wp2
      go_ret
      exact ⟨_, rfl, HS.out 0 (fun j hj => by
        have : j = 0 := by omega
        subst this
        rfl), World.grownBy.refl _ _⟩
    · have h2z : ¬ (tss.length : Int) < 2 := by omega
      go_enter Tryz.func103, Tryz.ntmps103
      go_wp2
      go_loopg [5] tss.length (fun gg v5 wr => ∃ k q : Nat, 1 ≤ k ∧ k ≤ tss.length ∧ tss.length - k ≤ gg ∧ v5 = .int .i64 k ∧ wr = w.drewN q ∧ Aside0 (∀ j, j < k → keepT tss j = true))
      case atStart => exact ⟨1, 0, by omega, by omega, by omega, by go_num, rfl, ⟨fun j hj => by
        have : j = 0 := by omega
        subst this
        rfl⟩⟩
      case round =>
        obtain ⟨k, q, hk1, hk, hg, rfl, rfl, hall⟩ := hrel
        by_cases hlt : k < tss.length
        · have hltz : (k : Int) < (tss.length : Int) := by omega
          obtain ⟨A1, c1, e1, m1⟩ := HT.out.el k hlt
          obtain ⟨A0, c0, e0, m0⟩ := HT.out.el (k - 1) (by omega)
          have x1 : w.cell? ⟨b, k, none⟩ = some (.slice A1 (tss.getD k []).length c1) := cell_of_block HT.out.blk e1
          have x0 : w.cell? ⟨b, k - 1, none⟩ = some (.slice A0 (tss.getD (k - 1) []).length c0) := cell_of_block HT.out.blk e0
          obtain ⟨_, _, u1, _, g1⟩ := (Kd.slice 3 (Kd.int .i64)).K_of_M m1
          obtain ⟨_, _, u0, _, g0⟩ := (Kd.slice 3 (Kd.int .i64)).K_of_M m0
          cases u1
          cases u0
          have heq : ∀ n, Calls Tryz.prog 104 #[.slice A1 (tss.getD k []).length c1, .slice A0 (tss.getD (k - 1) []).length c0] (w.drewN (q + n)) fun e w' => e = .returned (.bool (tss.getD k [] == tss.getD (k - 1) [])) ∧ ∃ m, w' = w.drewN (q + m) := fun n =>
            (equal_q A1 A0 c1 c0 _ _ _ (Kd.C_below g1 (belowN w _)) (Kd.C_below g0 (belowN w _))).mono fun _ _ ⟨he, m, hm⟩ => ⟨he, n + m, by rw [hm, World.drewN_drewN, Nat.add_assoc]⟩
          have HEQ := Aside0.mk heq
          have hkp : (tss.getD k [] == tss.getD (k - 1) []) = false → keepT tss k = true := keepT_pos
          have hkn : (tss.getD k [] == tss.getD (k - 1) []) = true → keepT tss k = false := keepT_neg (by omega)
          have HKP := Aside0.mk hkp
          have HKN := Aside0.mk hkn
          clear heq hkp hkn g1 g0 m1 m0 e1 e0
          generalize (tss.getD k [] == tss.getD (k - 1) []) = qq at *
          generalize (tss.getD k []).length = L1 at *
          generalize (tss.getD (k - 1) []).length = L0 at *
          have hk0 : (0 : Int) ≤ (k : Int) - 1 := by omega
          have hkt : ((k : Int) - 1).toNat = k - 1 := by omega
          have hkl : (k : Int) - 1 < (tss.length : Int) := by omega
          have eg := enters104
          have hk01 : 0 < k := hk1
          have hk02 : (1 : Int) ≤ (k : Int) := by omega
          have hk03 : (0 : Int) < (k : Int) := by omega
          have hk04 : ¬ (k = 0) := by omega
          have hk05 : (k : Int) < (tss.length : Int) + 1 := by omega
          have hk06 : (k : Int) ≤ (tss.length : Int) := by omega
          have hwr : IntKind.i64.wrap ((k : Int) - 1) = (k : Int) - 1 := IntWalk.i64_in _ (by omega)
          cases qq with
          | false =>
            go_wp2
            go_quiet ((go_at_call 104; exact HEQ.out _))
            clear hwr
            go_wp2
            go_roundg (tss.length - (k + 1))
            case measure => omega
            case rel =>
              exact ⟨k + 1, _, by omega, by omega, by omega, by go_num, rfl, ⟨fun j hj => by
                by_cases e : j = k
                · subst e
                  exact HKP.out trivial
                · exact hall.out j (by omega)⟩⟩
          | true =>
            go_wp2
            go_quiet ((go_at_call 104; exact HEQ.out _))
            have hstart : CRel w (w.drewN (q + nq)) b cap cur cur tss (k + 1) k := by
              have e1 : idxT tss (k + 1) = List.range k := by rw [idxT_skip (HKN.out trivial), idxT_all hall.out]
              refine ⟨grownBy_drewN _ _ _, HT.out.blk, rfl, by rw [e1]; simp, by omega, fun j i hj => ?_, fun _ _ => rfl⟩
              rw [e1] at hj
              have hj2 := (List.getElem?_eq_some_iff.1 hj)
              obtain ⟨hj3, hj4⟩ := hj2
              simp at hj4
              rw [hj4]
            have HSTART := Aside0.mk hstart
            clear hstart hwr hkt hkl hk0 hk02 hk03 hk04 hk05 hk06 hk01 x0 x1 HEQ HKP HKN
            go_wp2
            go_loopg [5, 7] tss.length (fun gg v5 v7 wr => ∃ (kk k2 : Nat) (ck : Array Value), v5 = .int .i64 kk ∧ v7 = .int .i64 k2 ∧ 1 ≤ k2 ∧ k + k2 ≤ tss.length ∧ tss.length - (k + k2) ≤ gg ∧ Aside0 (CRel w wr b cap cur ck tss (k + k2) kk))
            case atStart => exact ⟨k, 1, cur, rfl, rfl, by omega, by omega, by omega, HSTART⟩
            case round =>
              obtain ⟨kk, k2, ck, rfl, rfl, h1, hle, hg2, HC⟩ := hrel
              have hkk := HC.out.lt
              by_cases hlt2 : k + k2 < tss.length
              · obtain ⟨A1, c1, e1, m1⟩ := HT.out.el (k + k2) hlt2
                obtain ⟨A0, c0, e0, m0⟩ := HT.out.el (k + k2 - 1) (by omega)
                have hcur := HT.out.cs
                have hckk : kk < ck.size := by rw [HC.out.sz]; omega
                have x1 : wr.cell? ⟨b, k + k2, none⟩ = some (.slice A1 (tss.getD (k + k2) []).length c1) := cell_of_block HC.out.blk ((HC.out.high _ (by omega)).trans e1)
                have x0 : wr.cell? ⟨b, k + (k2 - 1), none⟩ = some (.slice A0 (tss.getD (k + k2 - 1) []).length c0) := by
                  rw [show k + (k2 - 1) = k + k2 - 1 by omega]
                  exact cell_of_block HC.out.blk ((HC.out.high _ (by omega)).trans e0)
                have xk : wr.cell? ⟨b, kk, none⟩ = some ck[kk] := cell_of_block HC.out.blk (Array.getElem?_eq_getElem hckk)
                have fk : wr.frozen? ⟨b, kk, none⟩ = false := frozen_of_block HC.out.blk
                obtain ⟨_, _, u1, _, g1⟩ := (Kd.slice 3 (Kd.int .i64)).K_of_M (Kd.M_grown m1 HC.out.g (fun k hk e => hk.2 (by cases e; rfl)))
                obtain ⟨_, _, u0, _, g0⟩ := (Kd.slice 3 (Kd.int .i64)).K_of_M (Kd.M_grown m0 HC.out.g (fun k hk e => hk.2 (by cases e; rfl)))
                cases u1
                cases u0
                have heq : ∀ n, Calls Tryz.prog 104 #[.slice A1 (tss.getD (k + k2) []).length c1, .slice A0 (tss.getD (k + k2 - 1) []).length c0] (wr.drewN n) fun e w' => e = .returned (.bool (tss.getD (k + k2) [] == tss.getD (k + k2 - 1) [])) ∧ ∃ m, w' = wr.drewN m := fun n =>
                  (equal_q A1 A0 c1 c0 _ _ _ (Kd.C_below g1 (belowN wr _)) (Kd.C_below g0 (belowN wr _))).mono fun _ _ ⟨he, m, hm⟩ => ⟨he, n + m, by rw [hm, World.drewN_drewN]⟩
                have HEQ := Aside0.mk heq
                have hkp : (tss.getD (k + k2) [] == tss.getD (k + k2 - 1) []) = false → keepT tss (k + k2) = true := keepT_pos
                have hkn : (tss.getD (k + k2) [] == tss.getD (k + k2 - 1) []) = true → keepT tss (k + k2) = false := keepT_neg (by omega)
                have HKP := Aside0.mk hkp
                have HKN := Aside0.mk hkn
                have hv1 := e1
                have HV1 := Aside0.mk hv1
                clear heq hkp hkn g1 g0 m1 m0 e1 e0 hv1
                generalize (tss.getD (k + k2) [] == tss.getD (k + k2 - 1) []) = qq at *
                generalize (tss.getD (k + k2) []).length = L1 at *
                generalize (tss.getD (k + k2 - 1) []).length = L0 at *
                generalize ck[kk] = old at *
                have y0 : (0 : Int) ≤ (k2 : Int) - 1 := by omega
                have yt : ((k2 : Int) - 1).toNat = k2 - 1 := by omega
                have yl : (k2 : Int) - 1 < ((tss.length - k : Nat) : Int) := by omega
                have yl2 : (k2 : Int) < ((tss.length - k : Nat) : Int) := by omega
                have y5 : 0 < k2 := h1
                have y6 : (1 : Int) ≤ (k2 : Int) := by omega
                have y7 : (0 : Int) < (k2 : Int) := by omega
                have y8 : ¬ (k2 = 0) := by omega
                have y9 : (k2 : Int) ≤ ((tss.length - k : Nat) : Int) := by omega
                have y10 : k2 ≤ tss.length - k := by omega
                have y11 : k2 < tss.length - k := by omega
                have y12 : kk < tss.length := by omega
                have hwr : IntKind.i64.wrap ((k2 : Int) - 1) = (k2 : Int) - 1 := IntWalk.i64_in _ (by omega)
                have eg := enters104
                cases qq with
                | true =>
                  have HN := Aside0.mk (HC.out.skip (HKN.out rfl))
                  go_wp2
                  go_quiet ((go_at_call 104; exact HEQ.out _))
                  clear hwr y0 yt yl yl2 y5 y6 y7 y8 y9 y10
                  go_wp2
                  go_roundg (tss.length - (k + (k2 + 1)))
                  case measure => omega
                  case rel => exact ⟨kk, k2 + 1, ck, rfl, by go_num, by omega, by omega, by omega, ⟨HN.out nq⟩⟩
                | false =>
                  have HN := Aside0.mk (HC.out.keep (HKP.out rfl) (by omega) _ HV1.out)
                  go_wp2
                  go_quiet ((go_at_call 104; exact HEQ.out _))
                  clear hwr y0 yt yl y5 y6 y7 y8 y9 y10
                  go_wp2
                  go_roundg (tss.length - (k + (k2 + 1)))
                  case measure => omega
                  case rel => exact ⟨kk + 1, k2 + 1, _, by go_num, by go_num, by omega, by omega, by omega, ⟨HN.out nq⟩⟩
              · have hend : k + k2 = tss.length := by omega
                have hsz := HC.out.sz
                have hcs := HT.out.cs
                have hcl : ∀ ty, (Builtin.clear_ #[47] ty #[.slice (some ⟨b, kk, none⟩) (tss.length - kk) (cap - kk)]).run Tryz.prog wr = .ok (.tuple #[]) (wr.setCells b kk (List.replicate (tss.length - kk) (.slice none 0 0))) :=
                  fun ty => Lib.run_clear_slice wr 47 25 ty (.slice none 0 0) Tryz.underlying47 (fun w => by kernel_rfl) rfl rfl b kk _ _ (by omega) (fun j hj => by
                    have hj2 : kk + j < ck.size := by omega
                    rw [cell_of_block HC.out.blk (Array.getElem?_eq_getElem hj2)]; rfl) (fun j hj => frozen_of_block HC.out.blk)
                obtain ⟨ck', z1, z2, z3⟩ := heap_setCells_at b 25 (0, 0) (List.replicate (tss.length - kk) (.slice none 0 0)) kk wr ck HC.out.blk
                have hgf := HC.out.g.trans (grownBy_setCells b (List.replicate (tss.length - kk) (.slice none 0 0)) kk wr)
                have hC2 := HC.out
                rw [hend] at hC2
                have hkc : (compT tss).length = kk := by rw [compT_len]; exact hC2.kk_
                have hfin := (HT.out.comp hC2 hgf z1 z2 (fun j hj => z3 j hj)).toR
                rw [hkc] at hfin
                have hbel := hgf
                have HFIN := Aside0.mk hfin
                have HBEL := Aside0.mk hbel
                have y1 : ¬ ((k2 : Int) < ((tss.length - k : Nat) : Int)) := by omega
                have y2 : kk ≤ tss.length := by omega
                have y3 : kk ≤ cap := by omega
                have y4 : kk < cap := by omega
                clear hfin hbel hgf z1 z2 z3 hC2 hkc hsz hcs hend
                go_wp2
                go_ret
                exact ⟨_, rfl, HFIN.out, HBEL.out⟩
        · have hk2 : k = tss.length := by omega
          subst hk2
          have hltz : ¬ (tss.length : Int) < (tss.length : Int) := by omega
          have HA := Aside0.mk (HS.out q hall.out)
          go_wp2
          go_ret
          exact ⟨_, rfl, HA.out, grownBy_drewN w q _⟩
end Go.Proofs.YthgfhgjlilmieaaGreat.G
namespace Go.Proofs
open Go.Shelf
def Tryz.sortL_ren : Go.Shelf.Ren := ⟨fun | 6 => 100 | 15 => 131 | 14 => 130 | 28 => 154 | 29 => 155 | 20 => 146 | 21 => 147 | 22 => 148 | 23 => 149 | 24 => 150 | 25 => 151 | 26 => 152 | 27 => 153 | 46 => 165 | 47 => 166 | 48 => 167 | 49 => 168 | 50 => 169 | 57 => 180 | n => n, fun | 22 => 47 | 24 => 25 | 25 => 138 | 3 => 3 | 39 => 64 | 0 => 0 | 53 => 189 | 55 => 191 | 4 => 4 | 46 => 183 | 45 => 182 | 50 => 140 | 5 => 5 | 9 => 9 | 66 => 209 | 70 => 213 | 76 => 217 | 77 => 218 | n => n, fun | n => n⟩
theorem Tryz.sortL : Go.Proofs.SlLaysF.n6 Tryz.prog Tryz.sortL_ren := {
  mixed := by kernel_rfl
  f6 := ⟨Tryz.f100.name, by decide, Tryz.func100.trans (congrArg some (by kernel_rfl))⟩
  f14 := ⟨Tryz.f130.name, by decide, Tryz.func130.trans (congrArg some (by kernel_rfl))⟩
  f15 := Tryz.func131.trans (congrArg some (by kernel_rfl))
  f20 := ⟨Tryz.f146.name, by decide, Tryz.func146.trans (congrArg some (by kernel_rfl))⟩
  f21 := ⟨Tryz.f147.name, by decide, Tryz.func147.trans (congrArg some (by kernel_rfl))⟩
  f22 := ⟨Tryz.f148.name, by decide, Tryz.func148.trans (congrArg some (by kernel_rfl))⟩
  f23 := ⟨Tryz.f149.name, by decide, Tryz.func149.trans (congrArg some (by kernel_rfl))⟩
  f24 := ⟨Tryz.f150.name, by decide, Tryz.func150.trans (congrArg some (by kernel_rfl))⟩
  f25 := ⟨Tryz.f151.name, by decide, Tryz.func151.trans (congrArg some (by kernel_rfl))⟩
  f26 := ⟨Tryz.f152.name, by decide, Tryz.func152.trans (congrArg some (by kernel_rfl))⟩
  f27 := ⟨Tryz.f153.name, by decide, Tryz.func153.trans (congrArg some (by kernel_rfl))⟩
  f28 := Tryz.func154.trans (congrArg some (by kernel_rfl))
  f29 := Tryz.func155.trans (congrArg some (by kernel_rfl))
  f46 := ⟨Tryz.f165.name, by decide, Tryz.func165.trans (congrArg some (by kernel_rfl))⟩
  f47 := Tryz.func166.trans (congrArg some (by kernel_rfl))
  f48 := Tryz.func167.trans (congrArg some (by kernel_rfl))
  f49 := ⟨Tryz.f168.name, by decide, Tryz.func168.trans (congrArg some (by kernel_rfl))⟩
  f50 := ⟨Tryz.f169.name, by decide, Tryz.func169.trans (congrArg some (by kernel_rfl))⟩
  f57 := ⟨Tryz.f180.name, by decide, Tryz.func180.trans (congrArg some (by kernel_rfl))⟩
  t0 := Tryz.underlying0
  a0 := Tryz.isAgg0
  z0 := Tryz.sizeOf0
  v0 := Tryz.zeroValue0
  t3 := Tryz.underlying3
  a3 := Tryz.isAgg3
  z3 := Tryz.sizeOf3
  v3 := Tryz.zeroValue3
  t4 := Tryz.underlying4
  a4 := Tryz.isAgg4
  z4 := Tryz.sizeOf4
  v4 := Tryz.zeroValue4
  t5 := Tryz.underlying5
  a5 := Tryz.isAgg5
  z5 := Tryz.sizeOf5
  v5 := Tryz.zeroValue5
  t9 := Tryz.underlying9
  a9 := Tryz.isAgg9
  z9 := Tryz.sizeOf9
  v9 := Tryz.zeroValue9
  t22 := Tryz.underlying47
  a22 := Tryz.isAgg47
  z22 := Tryz.sizeOf47
  v22 := Tryz.zeroValue47
  a24 := Tryz.isAgg25
  z24 := Tryz.sizeOf25
  t25 := Tryz.underlying138
  a25 := Tryz.isAgg138
  z25 := Tryz.sizeOf138
  v25 := Tryz.zeroValue138
  t39 := Tryz.underlying64
  a39 := Tryz.isAgg64
  z39 := Tryz.sizeOf64
  v39 := Tryz.zeroValue64
  t45 := Tryz.underlying182
  a45 := Tryz.isAgg182
  z45 := Tryz.sizeOf182
  v45 := Tryz.zeroValue182
  t46 := Tryz.underlying183
  a46 := Tryz.isAgg183
  z46 := Tryz.sizeOf183
  v46 := Tryz.zeroValue183
  t50 := Tryz.underlying140
  a50 := Tryz.isAgg140
  z50 := Tryz.sizeOf140
  v50 := Tryz.zeroValue140
  t53 := Tryz.underlying189
  a53 := Tryz.isAgg189
  z53 := Tryz.sizeOf189
  v53 := Tryz.zeroValue189
  t55 := Tryz.underlying191
  a55 := Tryz.isAgg191
  z55 := Tryz.sizeOf191
  v55 := Tryz.zeroValue191
  t66 := Tryz.underlying209
  a66 := Tryz.isAgg209
  z66 := Tryz.sizeOf209
  v66 := Tryz.zeroValue209
  t70 := Tryz.underlying213
  a70 := Tryz.isAgg213
  z70 := Tryz.sizeOf213
  v70 := Tryz.zeroValue213
  t76 := Tryz.underlying217
  a76 := Tryz.isAgg217
  z76 := Tryz.sizeOf217
  v76 := Tryz.zeroValue217
  t77 := Tryz.underlying218
  a77 := Tryz.isAgg218
  z77 := Tryz.sizeOf218
  v77 := Tryz.zeroValue218 }
end Go.Proofs
namespace Go.Proofs.YthgfhgjlilmieaaGreat.G
open Go.RowKit Go.Shelf Go.Proofs.YthgfhgjlilmieaaGreatW.PrintWords Go.Proofs.YthgfhgjlilmieaaGreatW.PrintLast Go.Proofs.YthgfhgjlilmieaaGreatW.PrintMore
open Go.Proofs.YthgfhgjlilmieaaGreat.B
set_option linter.unusedVariables false
set_option linter.unusedSimpArgs false
theorem cmp3_neg (x y : Int) : cmp3 x y < 0 ↔ x < y := by unfold cmp3; split <;> (try split) <;> omega
theorem cmp3_zero (x y : Int) : cmp3 x y = 0 ↔ x = y := by unfold cmp3; split <;> (try split) <;> omega
theorem cmp3_anti (x y : Int) : cmp3 y x = - cmp3 x y := by unfold cmp3; split <;> split <;> (try split) <;> omega
theorem cmpL_anti : ∀ (x y : List Int), cmpL y x = - cmpL x y
  | [], [] => rfl
  | [], _ :: _ => rfl
  | _ :: _, [] => rfl
  | a :: x, b :: y => by
    have h := cmp3_anti a b
    have ih := cmpL_anti x y
    simp only [cmpL]
    by_cases h0 : cmp3 a b = 0
    · have : cmp3 b a = 0 := by omega
      simp [h0, this, ih]
    · have : cmp3 b a ≠ 0 := by omega
      simp [h0, h]
theorem cmpL_eq : ∀ (x y : List Int), cmpL x y = 0 → x = y
  | [], [] => fun _ => rfl
  | [], _ :: _ => fun h => by simp [cmpL] at h
  | _ :: _, [] => fun h => by simp [cmpL] at h
  | a :: x, b :: y => fun h => by
    simp only [cmpL] at h
    by_cases h0 : cmp3 a b = 0
    · rw [if_neg (by simp [h0])] at h
      rw [(cmp3_zero a b).1 h0, cmpL_eq x y h]
    · rw [if_pos h0] at h
      exact absurd h h0
theorem cmpL_trans : ∀ (x y z : List Int), cmpL x y < 0 → cmpL y z < 0 → cmpL x z < 0
  | [], [], _ => fun h => by simp [cmpL] at h
  | [], _ :: _, [] => fun _ h => by simp [cmpL] at h
  | [], _ :: _, _ :: _ => fun _ _ => by simp [cmpL]
  | _ :: _, [], _ => fun h => by simp [cmpL] at h
  | _ :: _, _ :: _, [] => fun _ h => by simp [cmpL] at h
  | a :: x, b :: y, c :: z => fun h1 h2 => by
    have ih := cmpL_trans x y z
    simp only [cmpL] at h1 h2 ⊢
    have e1 := cmp3_neg a b
    have e2 := cmp3_neg b c
    have e3 := cmp3_neg a c
    have z1 := cmp3_zero a b
    have z2 := cmp3_zero b c
    have z3 := cmp3_zero a c
    by_cases q1 : cmp3 a b = 0
    · rw [if_neg (by simp [q1])] at h1
      by_cases q2 : cmp3 b c = 0
      · rw [if_neg (by simp [q2])] at h2
        rw [if_neg (by simp; omega)]
        exact ih h1 h2
      · rw [if_pos q2] at h2
        rw [if_pos (by omega)]
        omega
    · rw [if_pos q1] at h1
      by_cases q2 : cmp3 b c = 0
      · rw [if_neg (by simp [q2])] at h2
        rw [if_pos (by omega)]
        omega
      · rw [if_pos q2] at h2
        rw [if_pos (by omega)]
        omega
theorem cmpT_anti (x y : List Int) : cmpT y x = - cmpT x y := by
  unfold cmpT
  have := cmpL_anti x y
  by_cases h : x.length = y.length
  · rw [if_neg (by simp [h]), if_neg (by simp [h])]; exact this
  · rw [if_pos (by omega), if_pos h]; omega
theorem cmpT_eq (x y : List Int) (h : cmpT x y = 0) : x = y := by
  unfold cmpT at h
  by_cases hl : x.length = y.length
  · rw [if_neg (by simp [hl])] at h; exact cmpL_eq x y h
  · rw [if_pos hl] at h; omega
theorem cmpT_trans (x y z : List Int) (h1 : cmpT x y < 0) (h2 : cmpT y z < 0) : cmpT x z < 0 := by
  unfold cmpT at *
  have t := cmpL_trans x y z
  by_cases l1 : x.length = y.length
  · rw [if_neg (by simp [l1])] at h1
    by_cases l2 : y.length = z.length
    · rw [if_neg (by simp [l2])] at h2
      rw [if_neg (by simp; omega)]
      exact t h1 h2
    · rw [if_pos l2] at h2
      rw [if_pos (by omega)]
      omega
  · rw [if_pos l1] at h1
    by_cases l2 : y.length = z.length
    · rw [if_neg (by simp [l2])] at h2
      rw [if_pos (by omega)]
      omega
    · rw [if_pos l2] at h2
      rw [if_pos (by omega)]
      omega
theorem swo_cmpT {α : Type} (f : α → List Int) : Go.Sort.SWO (Go.Proofs.ltOf fun x y : α => cmpT (f x) (f y)) where
  irrefl x := by
    have := cmpT_anti (f x) (f x)
    simp only [Go.Proofs.ltOf, decide_eq_false_iff_not]; omega
  trans x y z h1 h2 := by
    simp only [Go.Proofs.ltOf, decide_eq_true_eq] at *
    exact cmpT_trans _ _ _ h1 h2
  ntrans x y z h1 h2 := by
    simp only [Go.Proofs.ltOf, decide_eq_false_iff_not] at *
    intro h3
    have a1 := cmpT_anti (f x) (f y)
    have a2 := cmpT_anti (f y) (f z)
    by_cases e1 : cmpT (f x) (f y) = 0
    · rw [cmpT_eq _ _ e1] at h3; exact h2 h3
    · have b1 : cmpT (f y) (f x) < 0 := by omega
      exact h2 (cmpT_trans _ _ _ b1 h3)
def leT (x y : List Int) : Bool := decide (cmpT x y ≤ 0)
def sortT (l : List (List Int)) : List (List Int) := l.mergeSort leT
theorem leT_trans (a b c : List Int) (h1 : leT a b = true) (h2 : leT b c = true) : leT a c = true := by
  simp only [leT, decide_eq_true_eq] at *
  by_cases e1 : cmpT a b = 0
  · rw [cmpT_eq _ _ e1]; exact h2
  · by_cases e2 : cmpT b c = 0
    · rw [← cmpT_eq _ _ e2]; exact h1
    · have := cmpT_trans a b c (by omega) (by omega); omega
theorem leT_total (a b : List Int) : (leT a b || leT b a) = true := by
  have := cmpT_anti a b
  simp only [leT, Bool.or_eq_true, decide_eq_true_eq]; omega
theorem leT_anti (a b : List Int) (h1 : leT a b = true) (h2 : leT b a = true) : a = b := by
  simp only [leT, decide_eq_true_eq] at *
  have := cmpT_anti a b
  exact cmpT_eq a b (by omega)
theorem sortT_perm (l : List (List Int)) : (sortT l).Perm l := List.mergeSort_perm l leT
theorem sortT_sorted (l : List (List Int)) : (sortT l).Pairwise fun a b => leT a b = true := List.pairwise_mergeSort leT_trans leT_total l
theorem sortT_unique {l m : List (List Int)} (hp : m.Perm l) (hs : m.Pairwise fun a b => leT a b = true) : m = sortT l :=
  (hp.trans (sortT_perm l).symm).eq_of_pairwise (fun a b _ _ h1 h2 => leT_anti a b h1 h2) hs (sortT_sorted l)
def TEl (w : World) (base : Nat) (ok : Nat → Prop) (b : Nat) : Type := { x : (Option Addr × Nat) × List Int // (Kd.slice 3 (Kd.int .i64)).M w base (fun k => ok k ∧ k ≠ b) x.2 [.slice x.1.1 x.2.length x.1.2] }
instance tElInh (w : World) (base : Nat) (ok : Nat → Prop) (b : Nat) : Inhabited (TEl w base ok b) := ⟨⟨((none, 0), []), ⟨.slice none 0 0, rfl, Kd.R_nil _ _ _ _ _⟩⟩⟩
def encE {w : World} {base : Nat} {ok : Nat → Prop} {b : Nat} (x : TEl w base ok b) : Value := .slice x.1.1.1 x.1.2.length x.1.1.2
def txtE {w : World} {base : Nat} {ok : Nat → Prop} {b : Nat} (x : TEl w base ok b) : List Int := x.1.2
def cfE {w : World} {base : Nat} {ok : Nat → Prop} {b : Nat} (x y : TEl w base ok b) : Int := cmpT (txtE x) (txtE y)
theorem grownBy_sortWorld {α : Type} [Inhabited α] (enc : α → Value) (w : World) (blk off m : Nat) (dk : Array α) (os : Array Obj) : w.grownBy (sortWorld enc w blk off m dk os) (some blk) := by
  refine ⟨rfl, rfl, rfl, ?_, fun k hk hne => ?_⟩
  · simp [sortWorld, Go.Sort.grow, Go.Sort.putRow, Go.Sort.mapBlock, Go.Sort.ahead]
  · have hne2 : blk ≠ k := fun e => hne (by rw [e])
    simp only [sortWorld, Go.Sort.grow, Go.Sort.putRow, Go.Sort.mapBlock, Go.Sort.ahead]
    rw [Array.getElem?_append_left (by simpa using hk), Array.getElem?_modify, if_neg hne2]
theorem heap_sortWorld {α : Type} [Inhabited α] (enc : α → Value) (w : World) (blk off m : Nat) (dk : Array α) (os : Array Obj) {c : Array Value} {t : TypeId} {f : Nat × Nat} (h : w.heap[blk]? = some (.cells c t f)) :
    (sortWorld enc w blk off m dk os).heap[blk]? = some (.cells (Go.Sort.putCells enc off dk c) t f) := by
  have hl := (Array.getElem?_eq_some_iff.1 h).1
  simp only [sortWorld, Go.Sort.grow, Go.Sort.putRow, Go.Sort.mapBlock, Go.Sort.ahead]
  rw [Array.getElem?_append_left (by simpa using hl), Array.getElem?_modify, if_pos rfl, h]
  rfl
theorem enters101 : ∀ args w, (callFunc 101 args).run Tryz.prog w = .ok (.enter 101 args) w := enters_of Tryz.func101 (by kernel_rfl) rfl
theorem sort_any (base : Nat) (ok : Nat → Prop) (v : Value) (tss : List (List Int)) (w : World) (hR : Kd.R (Kd.slice 3 (Kd.int .i64)) 25 w base ok v tss) (hbw : base ≤ w.heap.size) (hn6 : tss.length ≤ 1000000) :
    Calls Tryz.prog 100 #[v, .func (.func 101) #[] #[]] w fun e w' => e = .returned (.tuple #[]) ∧ Kd.R (Kd.slice 3 (Kd.int .i64)) 25 w' base ok v (sortT tss) ∧ w.grownBy w' v.ownBlock := by
  rcases TRow.of hR with ⟨rfl, rfl⟩ | ⟨b, cap, cur, rfl, hT⟩
  · have hS := AnyF.slices_SortFunc_none (P := Tryz.prog) (ρ := Tryz.sortL_ren) { Tryz.sortL with } none 0 (.func (.func 101) #[] #[]) w
    refine Calls.mono hS ?_
    rintro e w' ⟨rfl, rfl⟩
    exact ⟨rfl, by rw [show sortT [] = [] by simp [sortT]]; exact hR, World.grownBy.refl _ _⟩
  · have hcs : ∀ j (hj : j < tss.length), ∃ x : TEl w base ok b, cur[j]? = some (encE x) ∧ txtE x = tss[j] := fun j hj => by
      obtain ⟨A, c, h1, h2⟩ := hT.el j hj
      have hg : tss.getD j [] = tss[j] := by simp [List.getD_eq_getElem?_getD, hj]
      rw [hg] at h1 h2
      exact ⟨⟨((A, c), tss[j]), h2⟩, h1, rfl⟩
    let d : Array (TEl w base ok b) := (Array.ofFn (n := tss.length) fun j => Classical.choose (hcs j.1 j.2))
    have hds : d.size = tss.length := Array.size_ofFn
    have hdj : ∀ j (hj : j < tss.length), cur[j]? = some (encE d[j]!) ∧ txtE d[j]! = tss[j] := fun j hj => by
      have hx : d[j]! = Classical.choose (hcs j hj) := by
        rw [getElem!_pos d j (by omega)]
        simp [d]
      rw [hx]
      exact Classical.choose_spec (hcs j hj)
    have hblk : b < w.heap.size := (Array.getElem?_eq_some_iff.1 hT.blk).1
    have hH : Go.Sort.Holds encE w b 0 d := fun j hj => ⟨by
      rw [Nat.zero_add]
      exact cell_of_block hT.blk (hdj j (by omega)).1, frozen_of_block hT.blk⟩
    have hcmp : CmpReads Tryz.prog 101 #[] encE cfE b 0 d.size w := fun m os dk hs x y => by
      have hg := grownBy_sortWorld (encE (w := w) (base := base) (ok := ok) (b := b)) w b 0 m dk os
      have hx := (Kd.slice 3 (Kd.int .i64)).K_of_M (Kd.M_grown x.2 hg (fun k hk e => hk.2 (by cases e; rfl)))
      have hy := (Kd.slice 3 (Kd.int .i64)).K_of_M (Kd.M_grown y.2 hg (fun k hk e => hk.2 (by cases e; rfl)))
      obtain ⟨_, _, ux, _, gx⟩ := hx
      obtain ⟨_, _, uy, _, gy⟩ := hy
      have e1 := (List.cons.inj ux).1
      have e2 := (List.cons.inj uy).1
      injection e1 with a1 a2 a3
      injection e2 with b1 b2 b3
      rw [← a1] at gx
      rw [← b1] at gy
      refine (textCmp_any x.1.1.1 y.1.1.1 x.1.1.2 y.1.1.2 x.1.2 y.1.2 _ gx gy).mono ?_
      rintro e w' ⟨rfl, rfl⟩
      exact ⟨rfl, 0, rfl⟩
    have hn : d.size < 4611686018427387904 := by
      omega
    have hS := Any.slices_SortFunc Tryz.sortL encE (fun _ => rfl) cfE (swo_cmpT txtE) 101 #[] b 0 cap d w enters101 hcmp.lays hH hblk hn
    rw [hds] at hS
    refine Calls.mono hS ?_
    rintro e w' ⟨rfl, d', n, os, hp, hs, rfl⟩
    obtain ⟨hp1, _, hp3⟩ := hp
    have hd1 : d'.size = tss.length := by omega
    have ext_all : ∀ (x : Array (TEl w base ok b)), x.size = tss.length → (x.extract 0 tss.length) = x := fun x hx => by
      rw [← hx]; simp
    rw [ext_all d' hd1, ext_all d hds] at hp3
    have htx : d.toList.map txtE = tss := by
      apply List.ext_getElem
      · simp [hds]
      · intro i h1 h2
        have := (hdj i h2).2
        rw [getElem!_pos d i (by omega)] at this
        simpa using this
    have hperm : (d'.toList.map txtE).Perm tss := by
      have := hp3.map txtE
      rwa [htx] at this
    have hsorted : (d'.toList.map txtE).Pairwise fun a b => leT a b = true := by
      rw [List.pairwise_iff_getElem]
      intro i j hi hj hij
      have hi2 : i < d'.size := by simpa using hi
      have hj2 : j < d'.size := by simpa using hj
      have := hs i j (Nat.zero_le _) hij (by omega)
      rw [getElem!_pos d' i hi2, getElem!_pos d' j hj2] at this
      have this2 : ¬ cmpT (txtE d'[j]) (txtE d'[i]) < 0 := of_decide_eq_false this
      have ha := cmpT_anti (txtE d'[j]) (txtE d'[i])
      simp only [List.getElem_map, Array.getElem_toList, leT, decide_eq_true_eq]
      omega
    have hres : sortT tss = d'.toList.map txtE := (sortT_unique hperm hsorted).symm
    have hg := grownBy_sortWorld (encE (w := w) (base := base) (ok := ok) (b := b)) w b 0 n d' os
    refine ⟨rfl, ?_, hg⟩
    have hsl : (sortT tss).length = tss.length := (sortT_perm tss).length_eq
    have hT' : TRow (sortWorld encE w b 0 n d' os) base ok b cap (Go.Sort.putCells encE 0 d' cur) (sortT tss) := by
      refine ⟨hT.hb, heap_sortWorld encE w b 0 n d' os hT.blk, by rw [hsl]; exact hT.nc, hT.capm, by simp [Go.Sort.putCells, hT.cs], hT.okb, fun j hj => ?_⟩
      have hj2 : j < d'.size := by omega
      have hjc : j < cur.size := by have := hT.nc; have := hT.cs; omega
      have hg2 : (sortT tss).getD j [] = txtE d'[j] := by
        rw [hres]
        simp [List.getD_eq_getElem?_getD, hj2]
      rw [hg2]
      refine ⟨d'[j].1.1.1, d'[j].1.1.2, ?_, Kd.M_grown d'[j].2 hg (fun k hk e => hk.2 (by cases e; rfl))⟩
      simp only [Go.Sort.putCells, Array.getElem?_mapIdx, Array.getElem?_eq_getElem hjc, Option.map_some]
      rw [if_pos ⟨Nat.zero_le _, by omega⟩, Nat.sub_zero, getElem!_pos d' j hj2]
      rfl
    have := hT'.toR
    rwa [hsl] at this
end Go.Proofs.YthgfhgjlilmieaaGreat.G
namespace Go.Proofs.YthgfhgjlilmieaaGreat.G
open Go.RowKit Go.Shelf Go.Proofs.YthgfhgjlilmieaaGreatW.PrintWords Go.Proofs.YthgfhgjlilmieaaGreatW.PrintLast Go.Proofs.YthgfhgjlilmieaaGreatW.PrintMore
open Go.Proofs.YthgfhgjlilmieaaGreat.B
attribute [local go_sem] Oper.semAt_some RunTo
set_option linter.unusedVariables false
set_option linter.unusedSimpArgs false
def heardL (l : Lg) (at_ : Int) : List (List Int) := compT (sortT (partsL l at_))
theorem flatMap_le {α β : Type} (f : α → List β) (k : Nat) : ∀ (l : List α), (∀ x, x ∈ l → (f x).length ≤ k) → (l.flatMap f).length ≤ l.length * k
  | [], _ => by simp
  | x :: t, h => by
    have h1 := h x (by simp)
    have h2 := flatMap_le f k t (fun y hy => h y (by simp [hy]))
    rw [List.flatMap_cons, List.length_append, List.length_cons, Nat.add_mul]
    omega
theorem lows_len (t : List Int) (ht : t.length ≤ 5) : (lows t 0).length ≤ 30 := by
  have h : (lows t 0).length ≤ (List.range' 0 (t.length - 0)).length * 6 := flatMap_le _ 6 _ fun x hx => by
    unfold highs
    rw [List.length_map, List.length_range']
    omega
  rw [List.length_range'] at h
  omega
theorem partsL_len {l : Lg} (at_ : Int) (hj : l.jn.length ≤ 8) (hst : ∀ s, s ∈ l.jn → 0 ≤ s.f1 ∧ s.f1 < l.sees.length ∧ s.f2.length ≤ 5) : (partsL l at_).length ≤ 240 := by
  have h : (partsL l at_).length ≤ (l.jn.drop 0).length * 30 := flatMap_le _ 30 _ fun s hs => by
    have h5 := (hst s (by simpa using hs)).2.2
    by_cases hh : heardB l s at_ = true
    · rw [if_pos hh]; exact lows_len _ h5
    · rw [if_neg hh]; simp
  rw [List.length_drop] at h
  omega
theorem partsL_mem {l : Lg} {at_ : Int} (hst : ∀ s, s ∈ l.jn → 0 ≤ s.f1 ∧ s.f1 < l.sees.length ∧ s.f2.length ≤ 5) {t : List Int} (ht : t ∈ partsL l at_) : t.length ≤ 5 := by
  unfold partsL jns at ht
  obtain ⟨s, hs, h1⟩ := List.mem_flatMap.1 ht
  have h5 := (hst s (by simpa using hs)).2.2
  by_cases hh : heardB l s at_ = true
  · rw [if_pos hh] at h1
    obtain ⟨x, hx, h2⟩ := List.mem_flatMap.1 h1
    obtain ⟨y, hy, rfl⟩ := List.mem_map.1 h2
    unfold partOf
    rw [List.length_drop, List.length_take]
    omega
  · rw [if_neg hh] at h1
    cases h1
theorem run_appendT (base : Nat) (W : World) (v vx : Value) (tss : List (List Int)) (xs : List Int) (bx : Nat) (ok okp : Nat → Prop) (HO : Kd.R (Kd.slice 3 (Kd.int .i64)) 25 W base ok v tss) (hx : W.cell? ⟨bx, 0, none⟩ = some vx) (hm : (Kd.slice 3 (Kd.int .i64)).M W base okp xs [vx])
    (hokp : ∀ k, okp k → ok k ∧ some k ≠ v.ownBlock) (hbase : base ≤ W.heap.size) (hl : tss.length ≤ 1000000) (hok : ∀ k, W.heap.size ≤ k → ok k) :
    ∃ v1 w1, (Builtin.append_ #[47, 47] 47 #[v, .slice (some ⟨bx, 0, none⟩) 1 1]).run Tryz.prog W = .ok v1 w1 ∧ Kd.R (Kd.slice 3 (Kd.int .i64)) 25 w1 base ok v1 (tss ++ [xs]) ∧ W.grownBy w1 v.ownBlock := by
  obtain ⟨h0, inner, hown, hr⟩ := HO
  obtain ⟨i0, hi, hzz⟩ := Option.map_eq_some_iff.1 info25
  simp only [Prod.mk.injEq] at hzz
  obtain ⟨hz0, hz1, hz2⟩ := hzz
  have h1 : vx.oneCell' = true := (Kd.slice 3 (Kd.int .i64)).K_one ((Kd.slice 3 (Kd.int .i64)).K_of_M hm) vx (by simp)
  obtain ⟨v1, w1, e1, e2, e3, _, e5⟩ := run_append_own_at (P := Tryz.prog) W base 47 47 25 i0 (.slice none 0 0) 1 24 Tryz.underlying47 hi hz0 hz1 hz2 rfl (by decide) v tss.length inner hown ⟨bx, 0, none⟩ 1 1 [vx] rfl
    (fun j u hj => by
      match j, hj with
      | 0, hj => cases hj; exact hx) (by simp [h1]) (by simp only [maxLen]; omega) (by omega) hbase
  have hat : v1.ownBlock = v.ownBlock ∨ ∃ b, v1.ownBlock = some b ∧ W.heap.size ≤ b := e5.imp id (fun h => ⟨_, h, Nat.le_refl _⟩)
  exact ⟨v1, w1, e1, Kd.R_appended (d := Kd.slice 3 (Kd.int .i64)) (okp := okp) (cs := [vx]) h0 hr hm hokp hok e2 e3 hat, e3⟩
theorem run_loadVar47 (W : World) (g : Nat) (v : Value) (h : W.cell? ⟨g, 0, none⟩ = some v) : (loadVar 47 ⟨g, 0, none⟩).run Tryz.prog W = .ok v W := by
  have hu := Tryz.underlying47
  simp [loadVar, go_sem, hu, h]
theorem R_cellsT {α : Type} {d : Kd α} {e base : Nat} {ok : Nat → Prop} {W W' : World} {v : Value} {xs : List α} (h : d.R e W base ok v xs) {row : Option Nat} (hg : W.grownBy W' row) (hn : ∀ q, row = some q → ∃ o, W.heap[q]? = some o ∧ o.isCells = false) : d.R e W' base ok v xs :=
  Kd.R_mono (Kd.R_grown (Kd.R_bound h) hg (fun k hk e => by
    obtain ⟨_, _, _, q, hq, cs, hc⟩ := hk
    obtain ⟨o, ho, hcs⟩ := hn k e.symm
    rw [hc] at ho
    cases ho
    cases hcs)) (fun _ hk => hk.1)
theorem R_base {α : Type} {d : Kd α} {e base : Nat} {ok : Nat → Prop} {W : World} {v : Value} {xs : List α} (h : d.R e W base ok v xs) : ∀ q, v.ownBlock = some q → base ≤ q := fun q hq => by
  obtain ⟨_, inner, ho, _⟩ := h
  exact own_base ho q hq
theorem R_lt {α : Type} {d : Kd α} {e base : Nat} {ok : Nat → Prop} {W : World} {v : Value} {xs : List α} (h : d.R e W base ok v xs) : ∀ q, v.ownBlock = some q → q < W.heap.size := fun q hq => by
  obtain ⟨_, inner, ho, _⟩ := h
  exact own_lt ho q hq
theorem R_typed {α : Type} {d : Kd α} {e base : Nat} {ok : Nat → Prop} {W : World} {v : Value} {xs : List α} (h : d.R e W base ok v xs) : ∀ q, v.ownBlock = some q → ∃ cs f, W.heap[q]? = some (.cells cs e f) := fun q hq => by
  obtain ⟨_, inner, ho, _⟩ := h
  obtain ⟨cs, hc⟩ := own_typed ho q hq
  exact ⟨cs, _, hc⟩
structure TxI (w : World) (a : LV) (l : Lg) (v : Value) (tss : List (List Int)) (W : World) : Prop where
  box : Boxed W (w.heap.size + 1) 47 v
  row : Kd.R (Kd.slice 3 (Kd.int .i64)) 25 W (w.heap.size + 4) (fun _ => True) v tss
  log : W.heap[w.heap.size]? = some (logC a l)
  bel : Below w.heap.size w W
  siz : w.heap.size + 4 ≤ W.heap.size
theorem TxI.far {w : World} {a : LV} {l : Lg} {v : Value} {tss : List (List Int)} {W W' : World} {row : Option Nat} (h : TxI w a l v tss W) (hg : W.grownBy W' row) (hr : ∀ q, row = some q → w.heap.size + 4 ≤ q ∧ ∃ o, W.heap[q]? = some o ∧ o.isCells = false) : TxI w a l v tss W' := by
  obtain ⟨h1, h2, h3, h4, h5⟩ := h
  have ne : ∀ k, k < w.heap.size + 4 → some k ≠ row := fun k hk e => by have := (hr k e.symm).1; omega
  exact ⟨h1.kept hg (ne _ (by omega)), R_cellsT h2 hg (fun q e => (hr q e).2), (hg.block _ (by omega) (ne _ (by omega))).trans h3, h4.grown hg h4.size (fun q e => by have := (hr q e).1; omega), Nat.le_trans h5 hg.size⟩
theorem TxI.below {w : World} {a : LV} {l : Lg} {v : Value} {tss : List (List Int)} {W W' : World} (h : TxI w a l v tss W) (hb : Below W.heap.size W W') : TxI w a l v tss W' := h.far (grown_of_below hb none) (fun q e => by cases e)
theorem TxI.put {w : World} {a : LV} {l : Lg} {v v1 : Value} {tss ts1 : List (List Int)} {W W1 : World} (h : TxI w a l v tss W) (hg : W.grownBy W1 v.ownBlock) (hR : Kd.R (Kd.slice 3 (Kd.int .i64)) 25 W1 (w.heap.size + 4) (fun _ => True) v1 ts1) : TxI w a l v1 ts1 (W1.setCell ⟨w.heap.size + 1, 0, none⟩ v1) := by
  obtain ⟨h1, h2, h3, h4, h5⟩ := h
  have hq : ∀ q, v.ownBlock = some q → w.heap.size + 4 ≤ q := fun q e => R_base h2 q e
  have ne : ∀ k, k < w.heap.size + 4 → some k ≠ v.ownBlock := fun k hk e => by have := hq k e.symm; omega
  have k1 := h1.kept hg (ne _ (by omega))
  have k3 := (hg.block w.heap.size (by omega) (ne _ (by omega))).trans h3
  have g2 := grownBy_setCell' W1 (w.heap.size + 1) v1
  have hs := hg.size
  refine ⟨k1.set v1, ?_, (g2.block _ (by omega) (fun e => by have e' := Option.some.inj e; omega)).trans k3, (h4.grown hg h4.size (fun q e => by have := hq q e; omega)).grown g2 (by have := h4.size; omega) (fun q e => by cases e; omega), Nat.le_trans (by omega) g2.size⟩
  exact Kd.R_mono (Kd.R_grown (Kd.R_bound hR) g2 (fun k hk e => by have e' := Option.some.inj e; have := hk.2.1; omega)) (fun _ _ => trivial)
theorem TxI.rowed {w : World} {a : LV} {l : Lg} {v : Value} {tss ts1 : List (List Int)} {W W1 : World} (h : TxI w a l v tss W) (hg : W.grownBy W1 v.ownBlock) (hR : Kd.R (Kd.slice 3 (Kd.int .i64)) 25 W1 (w.heap.size + 4) (fun _ => True) v ts1) : TxI w a l v ts1 W1 := by
  obtain ⟨h1, h2, h3, h4, h5⟩ := h
  have hq : ∀ q, v.ownBlock = some q → w.heap.size + 4 ≤ q := fun q e => R_base h2 q e
  have ne : ∀ k, k < w.heap.size + 4 → some k ≠ v.ownBlock := fun k hk e => by have := hq k e.symm; omega
  exact ⟨h1.kept hg (ne _ (by omega)), hR, (hg.block w.heap.size (by omega) (ne _ (by omega))).trans h3, h4.grown hg h4.size (fun q e => by have := hq q e; omega), Nat.le_trans h5 hg.size⟩
theorem KeepsFrom_cells {B : Nat} {W W' : World} {row : Option Nat} (hg : W.grownBy W' row) (hr : ∀ q, row = some q → ∃ cs t f, W.heap[q]? = some (.cells cs t f)) : KeepsFrom B W W' :=
  ⟨hg.size, fun k o _ hk ho => (hg.block k (Array.getElem?_eq_some_iff.1 hk).1 (fun e => by
    obtain ⟨cs, t, f, hc⟩ := hr k e.symm
    rw [hk] at hc
    cases hc
    cases ho)).trans hk⟩
theorem KpP_row {n0 B1 B2 n1 : Nat} {W W' : World} {row : Option Nat} (hg : W.grownBy W' row) (hn : n0 ≤ W.heap.size) (hr : ∀ q, row = some q → n0 ≤ q ∧ ((∃ cs f, W.heap[q]? = some (.cells cs 25 f)) ∨ (q ≠ B1 ∧ q ≠ B2 ∧ q < n1))) : KpP n0 B1 B2 n1 W W' :=
  ⟨(Below.refl n0 W).grown hg hn (fun q e => (hr q e).1), fun k c t f ht hk hc => (hg.block k (Array.getElem?_eq_some_iff.1 hc).1 (fun e => by
    obtain ⟨_, h | ⟨h1, h2, h3⟩⟩ := hr k e.symm
    · obtain ⟨cs, f', h⟩ := h
      rw [hc] at h
      cases h
      exact ht rfl
    · rcases hk with hk | hk | hk <;> omega)).trans hc⟩
theorem tx_round {w : World} {a : LV} {l : Lg} {v0 v2 : Value} {tss : List (List Int)} {xs : List Int} {W w2 : World} (hI : TxI w a l v0 tss W) (hl : tss.length ≤ 1000) (hR2 : Kd.R (Kd.int .i64) 3 w2 W.heap.size (fun _ => True) v2 xs) (hb2 : Below W.heap.size W w2) (B B1 B2 n1 : Nat) (hB1 : w.heap.size + 1 < B1) (hB2 : w.heap.size + 1 < B2) (hn1 : w.heap.size + 1 < n1) :
    ∃ v1 wA, (Builtin.append_ #[47, 47] 47 #[v0, .slice (some ⟨w2.heap.size, 0, none⟩) 1 1]).run Tryz.prog (w2.alloc (.cells #[v2] 25)) = .ok v1 wA ∧ wA.cell? ⟨w.heap.size + 1, 0, none⟩ = some v0 ∧ wA.frozen? ⟨w.heap.size + 1, 0, none⟩ = false ∧
      TxI w a l v1 (tss ++ [xs]) (wA.setCell ⟨w.heap.size + 1, 0, none⟩ v1) ∧ KeepsFrom B W (wA.setCell ⟨w.heap.size + 1, 0, none⟩ v1) ∧ KpP w.heap.size B1 B2 n1 W (wA.setCell ⟨w.heap.size + 1, 0, none⟩ v1) := by
  have hal : Below w2.heap.size w2 (w2.alloc (.cells #[v2] 25)) := (Below.refl _ _).alloc (Nat.le_refl _) _
  have hb3 : Below W.heap.size W (w2.alloc (.cells #[v2] 25)) := below_next hb2 hal
  have hI3 := hI.below hb3
  have hs3 : W.heap.size ≤ (w2.alloc (.cells #[v2] 25)).heap.size := hb3.size
  have hR3 := Kd.R_below hR2 hal
  have hbig := hI.siz
  have hR4 : Kd.R (Kd.int .i64) 3 (w2.alloc (.cells #[v2] 25)) (w.heap.size + 4) (fun k => W.heap.size ≤ k) v2 xs := Kd.R_lower (Kd.R_mono (Kd.R_bound hR3) (fun k hk => hk.2.1)) hbig
  have hlt : ∀ q, v0.ownBlock = some q → q < W.heap.size := fun q hq => R_lt hI.row q hq
  obtain ⟨v1, wA, hrun, hRA, hgA⟩ := run_appendT (w.heap.size + 4) (w2.alloc (.cells #[v2] 25)) v0 v2 tss xs w2.heap.size (fun _ => True) (fun k => W.heap.size ≤ k) hI3.row (by simp) ⟨v2, rfl, hR4⟩
    (fun k hk => ⟨trivial, fun e => by have := hlt k e.symm; omega⟩) (by omega) (by omega) (fun _ _ => trivial)
  have hq : ∀ q, v0.ownBlock = some q → w.heap.size + 4 ≤ q := fun q e => R_base hI.row q e
  have ne : some (w.heap.size + 1) ≠ v0.ownBlock := fun e => by have := hq _ e.symm; omega
  have kA := hI3.box.kept hgA ne
  have gW := (grown_of_below hb3 v0.ownBlock).trans hgA
  have g2 := grownBy_setCell' wA (w.heap.size + 1) v1
  refine ⟨v1, wA, hrun, kA.cell, kA.frozen, hI3.put hgA hRA, ?_, ?_⟩
  · refine (KeepsFrom_cells gW (fun q e => ?_)).trans (KeepsFrom_cells g2 (fun q e => ?_))
    · obtain ⟨cs, f, hc⟩ := R_typed hI.row q e
      exact ⟨cs, _, f, hc⟩
    · cases e
      exact ⟨_, _, _, kA⟩
  · refine KpP.t (KpP_row gW (by omega) (fun q e => ⟨by have := hq q e; omega, .inl (R_typed hI.row q e)⟩)) (KpP_row g2 (by have := hgA.size; omega) (fun q e => ?_))
    cases e
    exact ⟨by omega, .inr ⟨by omega, by omega, hn1⟩⟩
set_option maxHeartbeats 4000000 in
set_option maxRecDepth 100000 in
theorem texts_any (a : LV) (l : Lg) (at_ : Int) (w : World) (hL : LogAt w a l) (hj : l.jn.length ≤ 8)
    (hst : ∀ s, s ∈ l.jn → 0 ≤ s.f1 ∧ s.f1 < l.sees.length ∧ s.f2.length ≤ 5) :
    Calls Tryz.prog 68 #[logV a l, .int .i64 at_] w fun e w' => ∃ v, e = .returned v ∧ Kd.R (Kd.slice 3 (Kd.int .i64)) 25 w' w.heap.size (fun _ => True) v (heardL l at_) ∧ Below w.heap.size w w' := by
  have hu := Tryz.underlying38
  obtain ⟨A0, A2, A3, A4, c0, c2, c3, c4⟩ := a
  have hpl := partsL_len at_ hj hst
  have HL := Aside0.mk hL
  have HST := Aside0.mk hst
  have HPL := Aside0.mk hpl
  clear hL hst hpl
  dsimp only [logV] at *
  have hfn : ∀ f, Fence.wide.fn f := fun _ => trivial
  refine (callsIn_wide (n := 9)).1 ?_
  refine callsIn_of_wp_marks Tryz.func68 rfl trivial ?_ rfl
  simp only [Tryz.ntmps68, List.size_toArray, List.length_cons, List.length_nil, Nat.reduceAdd, Nat.reduceSub, Array.replicate_succ, Array.replicate_zero, List.push_toArray, List.append_toArray, List.nil_append, List.cons_append]
  gi_wp2_with (gi_at_call 99; refine (callsIn_wide.2 (parts_any ⟨A0, A2, A3, A4, c0, c2, c3, c4⟩ l at_ _)).mono ?_; rintro e w' ⟨rfl, rfl⟩)
  refine wpIn_rangeFunc_ownH rfl (by omega) (gf := 128) (lb := #[.pointer (some ⟨w.heap.size + 1 + 1, 0, none⟩), .pointer (some ⟨w.heap.size + 1 + 1 + 1, 0, none⟩)]) rfl trivial (enters_of Tryz.func128 (by kernel_rfl) rfl)
    (parts_stops (9 - 1) (w.heap.size + 1 + 1) (w.heap.size + 1 + 1 + 1) (w.heap.size + 4) ⟨A0, A2, A3, A4, c0, c2, c3, c4⟩ l at_ w _ (by omega) HL.out hj HST.out ?hB ?hn1 ?hB1 ?hB2) KpP.t ?hKb (Below.refl _ _) (fun _ => rfl)
    (fun pre W => ∃ v, TxI w ⟨A0, A2, A3, A4, c0, c2, c3, c4⟩ l v (texts' pre) W) (fun c pre W => False) (fun pre W W' row h hg hr => ?own) (fun c pre W W' row h hg hr => h.elim) ?hI0
    (fun x a' W => a' = { tmps := #[.agg #[.slice A0 l.ls.length c0, .int .i64 l.errs, .slice A2 l.sees.length c2, .slice A3 l.jn.length c3, .slice A4 l.rc.length c4], .int .i64 at_, .pointer (some ⟨w.heap.size, 0, none⟩), undef, .pointer (some ⟨w.heap.size + 1, 0, none⟩), .slice x.1.A x.1.xs.length x.1.c, .agg #[.slice A0 l.ls.length c0, .int .i64 l.errs, .slice A2 l.sees.length c2, .slice A3 l.jn.length c3, .slice A4 l.rc.length c4], .int .i64 at_, .func (.func 128) #[] #[.pointer (some ⟨w.heap.size + 1 + 1, 0, none⟩), .pointer (some ⟨w.heap.size + 1 + 1 + 1, 0, none⟩)], .slice x.1.A x.1.xs.length x.1.c, undef, undef, undef, undef, undef, undef, undef, undef, undef], defers := [] }) (fun x a' _ W W' row h _ _ => h) ?assign ?body ?done ?stop
  case own =>
    obtain ⟨v, h⟩ := h
    exact ⟨v, h.far hg (fun q e => ⟨by have := (hr q e).1; simpa using this, (hr q e).2⟩)⟩
  case hB => exact (((Below.refl w.heap.size w).alloc (Nat.le_refl _) _).alloc (by simp) _).alloc (by simp; omega) _ |>.alloc (by simp; omega) _
  case hn1 => simp
  case hB1 => exact heap_old (alloc_at _ _ (by simp)) _
  case hB2 => exact alloc_at _ _ (by simp)
  case hKb => exact fun W l o o' h hc ho _ => KpP.b W l o o' (by simp at h; omega) hc ho
  case hI0 =>
    refine ⟨_, ?_, Kd.R_nil _ _ _ _ _, ?_, ?_, by simp⟩
    · exact heap_old (heap_old (alloc_at _ _ (by simp)) _) _
    · exact heap_old (heap_old (heap_old (alloc_new _ _) _) _) _
    · exact (((Below.refl w.heap.size w).alloc (Nat.le_refl _) _).alloc (by simp) _).alloc (by simp; omega) _ |>.alloc (by simp; omega) _
  case assign =>
    intro lo pre x W K hi hK
    have HK := Aside0.mk hK
    have HI := Aside0.mk hi
    clear hi hK
    gi_wp2
    exact HK.out _ _ (KeepsFrom.refl _ _) ⟨Below.refl _ _, fun _ _ _ _ _ _ h => h⟩ HI.out rfl
  case body =>
    rintro lo pre x a' W hl hrec ⟨v0, hI⟩ rfl hlen
    have hfl : ∀ f, (Fence.wide.inRound lo).fn f := fun _ => trivial
    have hx5 := partsL_mem HST.out x.2.2.2
    have hxl : x.1.xs.length ≤ 1000000 := by omega
    have htl : (texts' pre).length ≤ 1000 := by
      have := HPL.out
      simp [texts']
      omega
    have hId := hI.below (below_drew (Below.refl _ W))
    have hcx : Kd.C (Kd.int .i64) W.drew x.1.A x.1.xs.length x.1.xs := Kd.C_below x.2.1 hId.bel
    have bc := hId.box.cell
    have hWs : w.heap.size ≤ W.heap.size := by have := hI.siz; omega
    have hround : ∀ v2 w2, Kd.R (Kd.int .i64) 3 w2 W.drew.heap.size (fun _ => True) v2 x.1.xs → Below W.drew.heap.size W.drew w2 → _ := fun v2 w2 h1 h2 => tx_round hId htl h1 h2 ((((w.alloc (logC ⟨A0, A2, A3, A4, c0, c2, c3, c4⟩ l)).alloc (.cells #[.slice none 0 0] 47)).alloc (logC ⟨A0, A2, A3, A4, c0, c2, c3, c4⟩ l)).alloc (.cells #[.int .i64 at_] 3)).heap.size (w.heap.size + 1 + 1) (w.heap.size + 1 + 1 + 1) (w.heap.size + 4) (by omega) (by omega) (by omega)
    have hbx : ∀ w2, Below W.drew.heap.size W.drew w2 → w2.cell? ⟨w.heap.size + 1, 0, none⟩ = some v0 := fun w2 h2 => (hId.below h2).box.cell
    have HRO := Aside0.mk hround
    have HBX := Aside0.mk hbx
    have HCX := Aside0.mk hcx
    have HID := Aside0.mk hId
    clear hI hId hcx hround hrec hx5 htl bc hbx
    gi_wp2
    refine wpIn_region_any (by kernel_rfl) ?_
    change wpAnyIn _ _ _ _ _ _ _ _ _ (World.drew _)
    refine wpAnyIn_ready (rs := [0, 1]) (by kernel_rfl) (by simp) ?_
    refine (AllReadyIn.cons rfl (fun K hK => ?_) (AllReadyIn.cons rfl (fun K hK => ?_) AllReadyIn.nil))
    · have ld := HBX.out _ (Below.refl _ _)
      go_simp
      refine hK _ _ ?_
      clear hK K
      clear ld
      refine wpAnyIn_ready (rs := [1]) (by kernel_rfl) (by simp) ?_
      refine (AllReadyIn.cons rfl (fun K hK => ?_) AllReadyIn.nil)
      · go_simp
        refine hK _ _ ?_
        clear hK K
        refine wpAnyIn_ready (rs := [2]) (by kernel_rfl) (by simp) ?_
        refine (AllReadyIn.cons rfl (fun K hK => ?_) AllReadyIn.nil)
        · go_simp
          refine (CallsIn.inRound lo (callsIn_wide.2 (clone_any x.1.A x.1.c x.1.xs _ HCX.out hxl))).mono ?_
          rintro e w2 ⟨v2, rfl, hR2, hb2⟩
          obtain ⟨A9, c9, rfl⟩ := Kd.R_slice hR2
          have hro2 := HRO.out _ w2 hR2 hb2
          have HB2 := Aside0.mk hb2
          have HB3 := Aside0.mk (below_next hb2 ((Below.refl w2.heap.size w2).alloc (Nat.le_refl _) (.cells #[.slice A9 x.1.xs.length c9] 25)))
          have HR2 := Aside0.mk hro2
          clear hR2 hb2 hro2
          refine hK _ _ ?_
          clear hK K
          refine wpAnyIn_ready (rs := [3]) (by kernel_rfl) (by simp) ?_
          refine (AllReadyIn.cons rfl (fun K hK => ?_) AllReadyIn.nil)
          · go_simp
            refine hK _ _ ?_
            clear hK K
            refine wpAnyIn_ready (rs := [4]) (by kernel_rfl) (by simp) ?_
            refine (AllReadyIn.cons rfl (fun K hK => ?_) AllReadyIn.nil)
            · obtain ⟨v1, wA, hrun, q1, q2, q3, q4, q5⟩ := HR2.out
              obtain ⟨A8, n8, c8, rfl⟩ : ∃ A n c, v1 = .slice A n c := by
                obtain ⟨A, c, h⟩ := Kd.R_slice q3.row
                exact ⟨A, _, c, h⟩
              have HQ3 := Aside0.mk q3
              have HQ4 := Aside0.mk q4
              have HQ5 := Aside0.mk q5
              clear q3 q4 q5
              refine stepI_append (.tmp 10) (.tmp 13) 47 rfl rfl hfl v0 (.slice (some ⟨w2.heap.size, 0, none⟩) 1 1) _ wA rfl rfl hrun (hK _ _ ?_)
              clear hK K hrun
              refine wpAnyIn_ready (rs := [5]) (by kernel_rfl) (by simp) ?_
              refine (AllReadyIn.cons rfl (fun K hK => ?_) AllReadyIn.nil)
              · go_simp
                refine hK _ _ ?_
                clear hK K
                refine wpAnyIn_done (by kernel_rfl) ?_ _
                exact ⟨(KeepsFrom.of_grownBy (grown_of_below (below_drew (Below.refl _ W)) none) (fun j e => by cases e)).trans HQ4.out, KpP.t (KpP.below (below_drew (Below.refl _ W)) hWs) HQ5.out, _, by rw [texts_snoc]; exact HQ3.out⟩
    · go_simp
      refine hK _ _ ?_
      clear hK K
      refine wpAnyIn_ready (rs := [0, 2]) (by kernel_rfl) (by simp) ?_
      refine (AllReadyIn.cons rfl (fun K hK => ?_) (AllReadyIn.cons rfl (fun K hK => ?_) AllReadyIn.nil))
      · have ld := HBX.out _ (Below.refl _ _)
        go_simp
        refine hK _ _ ?_
        clear hK K
        clear ld
        refine wpAnyIn_ready (rs := [2]) (by kernel_rfl) (by simp) ?_
        refine (AllReadyIn.cons rfl (fun K hK => ?_) AllReadyIn.nil)
        · go_simp
          refine (CallsIn.inRound lo (callsIn_wide.2 (clone_any x.1.A x.1.c x.1.xs _ HCX.out hxl))).mono ?_
          rintro e w2 ⟨v2, rfl, hR2, hb2⟩
          obtain ⟨A9, c9, rfl⟩ := Kd.R_slice hR2
          have hro2 := HRO.out _ w2 hR2 hb2
          have HB2 := Aside0.mk hb2
          have HB3 := Aside0.mk (below_next hb2 ((Below.refl w2.heap.size w2).alloc (Nat.le_refl _) (.cells #[.slice A9 x.1.xs.length c9] 25)))
          have HR2 := Aside0.mk hro2
          clear hR2 hb2 hro2
          refine hK _ _ ?_
          clear hK K
          refine wpAnyIn_ready (rs := [3]) (by kernel_rfl) (by simp) ?_
          refine (AllReadyIn.cons rfl (fun K hK => ?_) AllReadyIn.nil)
          · go_simp
            refine hK _ _ ?_
            clear hK K
            refine wpAnyIn_ready (rs := [4]) (by kernel_rfl) (by simp) ?_
            refine (AllReadyIn.cons rfl (fun K hK => ?_) AllReadyIn.nil)
            · obtain ⟨v1, wA, hrun, q1, q2, q3, q4, q5⟩ := HR2.out
              obtain ⟨A8, n8, c8, rfl⟩ : ∃ A n c, v1 = .slice A n c := by
                obtain ⟨A, c, h⟩ := Kd.R_slice q3.row
                exact ⟨A, _, c, h⟩
              have HQ3 := Aside0.mk q3
              have HQ4 := Aside0.mk q4
              have HQ5 := Aside0.mk q5
              clear q3 q4 q5
              refine stepI_append (.tmp 10) (.tmp 13) 47 rfl rfl hfl v0 (.slice (some ⟨w2.heap.size, 0, none⟩) 1 1) _ wA rfl rfl hrun (hK _ _ ?_)
              clear hK K hrun
              refine wpAnyIn_ready (rs := [5]) (by kernel_rfl) (by simp) ?_
              refine (AllReadyIn.cons rfl (fun K hK => ?_) AllReadyIn.nil)
              · go_simp
                refine hK _ _ ?_
                clear hK K
                refine wpAnyIn_done (by kernel_rfl) ?_ _
                exact ⟨(KeepsFrom.of_grownBy (grown_of_below (below_drew (Below.refl _ W)) none) (fun j e => by cases e)).trans HQ4.out, KpP.t (KpP.below (below_drew (Below.refl _ W)) hWs) HQ5.out, _, by rw [texts_snoc]; exact HQ3.out⟩
      · go_simp
        refine (CallsIn.inRound lo (callsIn_wide.2 (clone_any x.1.A x.1.c x.1.xs _ HCX.out hxl))).mono ?_
        rintro e w2 ⟨v2, rfl, hR2, hb2⟩
        obtain ⟨A9, c9, rfl⟩ := Kd.R_slice hR2
        have hro2 := HRO.out _ w2 hR2 hb2
        have HB2 := Aside0.mk hb2
        have HB3 := Aside0.mk (below_next hb2 ((Below.refl w2.heap.size w2).alloc (Nat.le_refl _) (.cells #[.slice A9 x.1.xs.length c9] 25)))
        have HR2 := Aside0.mk hro2
        clear hR2 hb2 hro2
        refine hK _ _ ?_
        clear hK K
        refine wpAnyIn_ready (rs := [0, 3]) (by kernel_rfl) (by simp) ?_
        refine (AllReadyIn.cons rfl (fun K hK => ?_) (AllReadyIn.cons rfl (fun K hK => ?_) AllReadyIn.nil))
        · have ld := HBX.out _ HB2.out
          go_simp
          refine hK _ _ ?_
          clear hK K
          clear ld
          refine wpAnyIn_ready (rs := [3]) (by kernel_rfl) (by simp) ?_
          refine (AllReadyIn.cons rfl (fun K hK => ?_) AllReadyIn.nil)
          · go_simp
            refine hK _ _ ?_
            clear hK K
            refine wpAnyIn_ready (rs := [4]) (by kernel_rfl) (by simp) ?_
            refine (AllReadyIn.cons rfl (fun K hK => ?_) AllReadyIn.nil)
            · obtain ⟨v1, wA, hrun, q1, q2, q3, q4, q5⟩ := HR2.out
              obtain ⟨A8, n8, c8, rfl⟩ : ∃ A n c, v1 = .slice A n c := by
                obtain ⟨A, c, h⟩ := Kd.R_slice q3.row
                exact ⟨A, _, c, h⟩
              have HQ3 := Aside0.mk q3
              have HQ4 := Aside0.mk q4
              have HQ5 := Aside0.mk q5
              clear q3 q4 q5
              refine stepI_append (.tmp 10) (.tmp 13) 47 rfl rfl hfl v0 (.slice (some ⟨w2.heap.size, 0, none⟩) 1 1) _ wA rfl rfl hrun (hK _ _ ?_)
              clear hK K hrun
              refine wpAnyIn_ready (rs := [5]) (by kernel_rfl) (by simp) ?_
              refine (AllReadyIn.cons rfl (fun K hK => ?_) AllReadyIn.nil)
              · go_simp
                refine hK _ _ ?_
                clear hK K
                refine wpAnyIn_done (by kernel_rfl) ?_ _
                exact ⟨(KeepsFrom.of_grownBy (grown_of_below (below_drew (Below.refl _ W)) none) (fun j e => by cases e)).trans HQ4.out, KpP.t (KpP.below (below_drew (Below.refl _ W)) hWs) HQ5.out, _, by rw [texts_snoc]; exact HQ3.out⟩
        · go_simp
          refine hK _ _ ?_
          clear hK K
          refine wpAnyIn_ready (rs := [0]) (by kernel_rfl) (by simp) ?_
          refine (AllReadyIn.cons rfl (fun K hK => ?_) AllReadyIn.nil)
          · have ld := HBX.out _ HB3.out
            go_simp
            refine hK _ _ ?_
            clear hK K
            clear ld
            refine wpAnyIn_ready (rs := [4]) (by kernel_rfl) (by simp) ?_
            refine (AllReadyIn.cons rfl (fun K hK => ?_) AllReadyIn.nil)
            · obtain ⟨v1, wA, hrun, q1, q2, q3, q4, q5⟩ := HR2.out
              obtain ⟨A8, n8, c8, rfl⟩ : ∃ A n c, v1 = .slice A n c := by
                obtain ⟨A, c, h⟩ := Kd.R_slice q3.row
                exact ⟨A, _, c, h⟩
              have HQ3 := Aside0.mk q3
              have HQ4 := Aside0.mk q4
              have HQ5 := Aside0.mk q5
              clear q3 q4 q5
              refine stepI_append (.tmp 10) (.tmp 13) 47 rfl rfl hfl v0 (.slice (some ⟨w2.heap.size, 0, none⟩) 1 1) _ wA rfl rfl hrun (hK _ _ ?_)
              clear hK K hrun
              refine wpAnyIn_ready (rs := [5]) (by kernel_rfl) (by simp) ?_
              refine (AllReadyIn.cons rfl (fun K hK => ?_) AllReadyIn.nil)
              · go_simp
                refine hK _ _ ?_
                clear hK K
                refine wpAnyIn_done (by kernel_rfl) ?_ _
                exact ⟨(KeepsFrom.of_grownBy (grown_of_below (below_drew (Below.refl _ W)) none) (fun j e => by cases e)).trans HQ4.out, KpP.t (KpP.below (below_drew (Below.refl _ W)) hWs) HQ5.out, _, by rw [texts_snoc]; exact HQ3.out⟩
  case done =>
    rintro D ys W hD hys ⟨v0, hI⟩ hK
    rw [hys] at hI
    have hDw : w.heap.size + 4 ≤ D := by simpa using hD
    have hsrt := sort_any (w.heap.size + 4) (fun _ => True) v0 (partsL l at_) W hI.row hI.siz (by have := HPL.out; omega)
    have hcw := hI.box.cell
    have HSRT := Aside0.mk hsrt
    have HI := Aside0.mk hI
    have HK := Aside0.mk hK
    clear hI hK hsrt
    gi_wp2_with (fail)
    refine (callsIn_wide.2 HSRT.out).mono ?_
    rintro e w1 ⟨rfl, hR1, hg1⟩
    have hI1 := HI.out.rowed hg1 hR1
    have hcw1 := hI1.box.cell
    have hK1 : w1.heap[D]? = some (.deferred (some [])) := (hg1.block D (Array.getElem?_eq_some_iff.1 HK.out).1 (fun e => by
      obtain ⟨cs, f, hc⟩ := R_typed HI.out.row D e.symm
      rw [HK.out] at hc
      cases hc)).trans HK.out
    have hcmp := compact_any (w.heap.size + 4) (fun _ => True) v0 (sortT (partsL l at_)) w1 hI1.row hI1.siz
    have HCMP := Aside0.mk hcmp
    have HI1 := Aside0.mk hI1
    have HK1 := Aside0.mk hK1
    clear hI1 hK1 hR1 hg1 hcmp hcw
    gi_wp2_with (fail)
    refine (callsIn_wide.2 HCMP.out).mono ?_
    rintro e w2 ⟨v2, rfl, hR2, hg2⟩
    have hq := R_base HI1.out.row
    have ne : ∀ k, k < w.heap.size + 4 → some k ≠ v0.ownBlock := fun k hk e => by have := hq k e.symm; omega
    have hK2 : w2.heap[D]? = some (.deferred (some [])) := (hg2.block D (Array.getElem?_eq_some_iff.1 HK1.out).1 (fun e => by
      obtain ⟨cs, f, hc⟩ := R_typed HI1.out.row D e.symm
      rw [HK1.out] at hc
      cases hc)).trans HK1.out
    have hI2 := HI1.out.put hg2 hR2
    have hbx2 := HI1.out.box.kept hg2 (ne _ (by omega))
    obtain ⟨A8, n8, c8, rfl⟩ : ∃ A n c, v2 = .slice A n c := by
      obtain ⟨A, c, h⟩ := Kd.R_slice hR2
      exact ⟨A, _, c, h⟩
    have hc2 := hbx2.cell
    have hf2 := hbx2.frozen
    have hK3 : (w2.setCell ⟨w.heap.size + 1, 0, none⟩ (.slice A8 n8 c8)).heap[D]? = some (.deferred (some [])) := ((grownBy_setCell' w2 (w.heap.size + 1) _).block D (Array.getElem?_eq_some_iff.1 hK2).1 (fun e => by have e' := Option.some.inj e; omega)).trans hK2
    have HK3 := Aside0.mk hK3
    have HI2 := Aside0.mk hI2
    clear hK2 hK3 hI2 hbx2 hR2 hg2 hcw1
    gi_wp2
    have hI3 := HI2.out.far (grownBy_putObj' _ D (.deferred none)) (fun q e => by cases e; exact ⟨hDw, _, HK3.out, rfl⟩)
    refine ⟨by simp, .inl ⟨_, _, rfl, run_takeDeferred HK3.out, ?_⟩⟩
    refine ⟨_, results_cell1 rfl _ _ (w.heap.size + 1) (.slice A8 n8 c8) rfl (run_loadVar47 _ _ _ hI3.box.cell), _, rfl, Kd.R_lower hI3.row (by omega), hI3.bel⟩
  case stop =>
    rintro D c pre W hD _ hX hK
    exact hX.elim
end Go.Proofs.YthgfhgjlilmieaaGreat.G
namespace Go.Proofs.YthgfhgjlilmieaaGreat.G
open Go.RowKit Go.Shelf Go.Proofs.YthgfhgjlilmieaaGreatW.PrintWords Go.Proofs.YthgfhgjlilmieaaGreatW.PrintLast Go.Proofs.YthgfhgjlilmieaaGreatW.PrintMore
open Go.Proofs.YthgfhgjlilmieaaGreat.B
set_option linter.unusedVariables false
set_option linter.unusedSimpArgs false
def heaE (l : Lg) (h : Int) : Int := if logE l = 0 then (if hourB h = true then 0 else 2) else logE l
def heaL (l : Lg) (h : Int) : List (List Int) := if heaE l h = 0 then heardL l h else []
set_option maxRecDepth 100000 in
set_option maxHeartbeats 4000000 in
theorem hears_any (a : LV) (l : Lg) (h : Int) (w : World) (hL : LogAt w a l) :
    Calls Tryz.prog 26 #[logV a l, .int .i64 h] w fun e w' => ∃ v, e = .returned (.tuple #[v, .int .i64 (heaE l h)]) ∧ Kd.R (Kd.slice 3 (Kd.int .i64)) 25 w' w.heap.size (fun _ => True) v (heaL l h) ∧ Below w.heap.size w w' := by
  have hu := Tryz.underlying38
  have hb : Below w.heap.size w (w.alloc (logC a l)) := (Below.refl _ w).alloc (Nat.le_refl _) _
  have hlog := checkLog_any a l _ (hL.below hb)
  have hhr := hour_any h
  have HLOG := Aside0.mk hlog
  have HHR := Aside0.mk hhr
  have HB := Aside0.mk hb
  clear hlog hhr
  by_cases h0 : logE l = 0
  · have hjl := (logE_len (l := l) h0).2.1
    have hst := logE_sent h0
    by_cases h1 : hourB h = true
    · have e1 : heaE l h = 0 := by simp [heaE, h0, h1]
      have e2 : heaL l h = heardL l h := by simp [heaL, e1]
      have htx : ∀ W, Below w.heap.size w W → Calls Tryz.prog 68 #[logV a l, .int .i64 h] W fun e w' => ∃ v, e = .returned v ∧ Kd.R (Kd.slice 3 (Kd.int .i64)) 25 w' W.heap.size (fun _ => True) v (heardL l h) ∧ Below W.heap.size W w' := fun W hW => texts_any a l h W (hL.below hW) hjl hst
      have HTX := Aside0.mk htx
      rw [e1, e2]
      rw [h1] at HHR
      rw [h0] at HLOG
      obtain ⟨A0, A2, A3, A4, c0, c2, c3, c4⟩ := a
      dsimp only [logV] at *
      clear hL hb h0 hjl hst h1 e1 e2 htx
      go_enter Tryz.func26, Tryz.ntmps26
      go_wp2_with (first
        | (go_at_call 19; refine HLOG.out.mono ?_; rintro e w1 ⟨rfl, hb1⟩; obtain ⟨hc1, hf1⟩ := bcell hb1; have HB1 := Aside0.mk hb1; clear hb1)
        | (go_at_call 60; refine (HHR.out _).mono ?_; rintro e w' ⟨rfl, rfl⟩))
      refine (HTX.out _ (below_next HB.out HB1.out)).mono ?_
      rintro e w2 ⟨v2, rfl, hR2, hb2⟩
      have HR2 := Aside0.mk hR2
      have HB2 := Aside0.mk hb2
      clear hR2 hb2
      go_wp2
      go_ret2
      have hb3 := below_next HB.out HB1.out
      exact ⟨_, rfl, Kd.R_lower HR2.out hb3.size, below_next hb3 HB2.out⟩
    · have h1f : hourB h = false := by simpa using h1
      have e1 : heaE l h = 2 := by simp [heaE, h0, h1f]
      have e2 : heaL l h = [] := by simp [heaL, e1]
      rw [e1, e2]
      rw [h1f] at HHR
      rw [h0] at HLOG
      obtain ⟨A0, A2, A3, A4, c0, c2, c3, c4⟩ := a
      dsimp only [logV] at *
      clear hL hb h0 hjl hst h1 e1 e2 h1f
      go_enter Tryz.func26, Tryz.ntmps26
      go_wp2_with (first
        | (go_at_call 19; refine HLOG.out.mono ?_; rintro e w1 ⟨rfl, hb1⟩; obtain ⟨hc1, hf1⟩ := bcell hb1; have HB1 := Aside0.mk hb1; clear hb1)
        | (go_at_call 60; refine (HHR.out _).mono ?_; rintro e w' ⟨rfl, rfl⟩))
      go_ret2
      exact ⟨_, rfl, Kd.R_nil _ _ _ _ _, below_next HB.out HB1.out⟩
  · have hd2 : (logE l == 0) = false := by simp [h0]
    have e1 : heaE l h = logE l := by simp [heaE, h0]
    have e2 : heaL l h = [] := by simp [heaL, e1, h0]
    rw [e1, e2]
    obtain ⟨A0, A2, A3, A4, c0, c2, c3, c4⟩ := a
    dsimp only [logV] at *
    clear hL hb e1 e2
    generalize logE l = E at *
    go_enter Tryz.func26, Tryz.ntmps26
    go_wp2_with (first
      | (go_at_call 19; refine HLOG.out.mono ?_; rintro e w1 ⟨rfl, hb1⟩; obtain ⟨hc1, hf1⟩ := bcell hb1; have HB1 := Aside0.mk hb1; clear hb1)
      | (go_at_call 60; refine (HHR.out _).mono ?_; rintro e w' ⟨rfl, rfl⟩))
    go_ret2
    exact ⟨_, rfl, Kd.R_nil _ _ _ _ _, below_next HB.out HB1.out⟩
theorem cell_new (W : World) (c : Array Value) (t : TypeId) (i : Nat) : (W.alloc (.cells c t)).cell? ⟨W.heap.size, i, none⟩ = c[i]? := by
  have h := alloc_new W (.cells c t)
  simp only [World.cell?, h]
  rfl
theorem find_none_take {p : List Int → Bool} {H : List (List Int)} (h : ∀ t, t ∈ H.take H.length → p t = false) : H.find? p = none := by
  rw [List.find?_eq_none]
  intro t ht
  rw [List.take_length] at h
  rw [h t ht]
  simp
theorem find_at {p : List Int → Bool} {H : List (List Int)} {k : Nat} (hk : k < H.length) (h : ∀ t, t ∈ H.take k → p t = false) (hp : p H[k] = true) : H.find? p = some H[k] := by
  have e : H = H.take k ++ H[k] :: H.drop (k + 1) := by rw [← List.drop_eq_getElem_cons hk, List.take_append_drop]
  have h1 : (H.take k).find? p = none := by
    rw [List.find?_eq_none]
    intro t ht
    rw [h t ht]
    simp
  generalize H[k] = x at *
  rw [e, List.find?_append, h1]
  simp [List.find?_cons, hp]
def mskO (l : Lg) (n : Int) : Option (List Int) := (heardL l (rd_T75 l.rc n).f0).find? fun t => readsB l t (rd_T75 l.rc n).f2
def oneE (o : Option (List Int)) : Int := if o.isSome = true then 0 else 7
def oneL (o : Option (List Int)) : List Int := o.getD []
def mskE (l : Lg) (n : Int) : Int := if askE l n = 0 then oneE (mskO l n) else askE l n
def mskL (l : Lg) (n : Int) : List Int := if askE l n = 0 then oneL (mskO l n) else []
set_option maxRecDepth 100000 in
set_option maxHeartbeats 4000000 in
theorem masked_any (a : LV) (l : Lg) (n : Int) (w : World) (hL : LogAt w a l) :
    Calls Tryz.prog 27 #[logV a l, .int .i64 n] w fun e w' => ∃ v, e = .returned (.tuple #[v, .int .i64 (mskE l n)]) ∧ Kd.R (Kd.int .i64) 3 w' w.heap.size (fun _ => True) v (mskL l n) ∧ Below w.heap.size w w' := by
  have hu := Tryz.underlying38
  have hu1 := Tryz.underlying75
  have hb : Below w.heap.size w (w.alloc (logC a l)) := (Below.refl _ w).alloc (Nat.le_refl _) _
  have hask := asked_any a l n _ (hL.below hb)
  have HASK := Aside0.mk hask
  have HB := Aside0.mk hb
  by_cases h0 : askE l n = 0
  · obtain ⟨hl0, hn0, hn1⟩ := askE_ok h0
    obtain ⟨hsl, hjl, hrl⟩ := logE_len (l := l) hl0
    have hst := logE_sent hl0
    have hr2 : (rd_T75 l.rc n).f2.size ≤ 140737488351232 := hL.z4 _ (by
      obtain ⟨m, rfl⟩ : ∃ m : Nat, n = m := ⟨n.toNat, by omega⟩
      have : m < l.rc.length := by omega
      simp [rd_T75, this])
    have htx : ∀ W, Below w.heap.size w W → Calls Tryz.prog 68 #[logV a l, .int .i64 (rd_T75 l.rc n).f0] W fun e w' => ∃ v, e = .returned v ∧ Kd.R (Kd.slice 3 (Kd.int .i64)) 25 w' W.heap.size (fun _ => True) v (heardL l (rd_T75 l.rc n).f0) ∧ Below W.heap.size W w' := fun W hW => texts_any a l _ W (hL.below hW) hjl hst
    have hrd : ∀ W A c text, Below w.heap.size w W → Kd.C (Kd.int .i64) W A text.length text → Calls Tryz.prog 69 #[logV a l, .slice A text.length c, .string (rd_T75 l.rc n).f2] W fun e w' => e = .returned (.bool (readsB l text (rd_T75 l.rc n).f2)) ∧ Below W.heap.size W w' := fun W A c text hW hC => reads_any a l A c text _ W (hL.below hW) hC hr2
    have hE : mskE l n = oneE (mskO l n) := by simp [mskE, h0]
    have hLL : mskL l n = oneL (mskO l n) := by simp [mskL, h0]
    rw [hE, hLL]
    unfold mskO
    rw [h0] at HASK
    have hh4 := hL.h4
    obtain ⟨ar, e0, x0, x1, x2⟩ := at_T75 hh4 n hn0 hn1
    have hcs : ∀ {W : World} (_ : Below w.heap.size w W), W.cell? (ar.add (n.toNat * 3)) = some (.int .i64 (rd_T75 l.rc n).f0) ∧ W.cell? ⟨(ar.add (n.toNat * 3)).block, (ar.add (n.toNat * 3)).off + 1, none⟩ = some (.int .i64 (rd_T75 l.rc n).f1) ∧ W.cell? ⟨(ar.add (n.toNat * 3)).block, (ar.add (n.toNat * 3)).off + 2, none⟩ = some (.string (rd_T75 l.rc n).f2) := fun h => ⟨pw_cell_below h x0, pw_cell_below h x1, pw_cell_below h x2⟩
    have HTX := Aside0.mk htx
    have HRD := Aside0.mk hrd
    have HCS := Aside0.mk @hcs
    clear htx hrd hcs hE hLL hL hb h0 hh4 x0 x1 x2 hl0 hsl hjl hrl hst hr2 hask
    generalize rd_T75 l.rc n = r at *
    obtain ⟨r0, r1, r2⟩ := r
    dsimp only at *
    generalize hH : heardL l r0 = H at *
    obtain ⟨O, hO⟩ : ∃ O, O = H.find? fun t => readsB l t r2 := ⟨_, rfl⟩
    rw [← hO]
    have HO := Aside0.mk hO
    clear hO
    have hL0 : l.rc.length = l.rc.length := rfl
    obtain ⟨A0, A2, A3, A4, c0, c2, c3, c4⟩ := a
    dsimp only [logV] at *
    cases e0
    clear hH
    go_enter Tryz.func27, Tryz.ntmps27
    go_wp2_with (fail)
    refine HASK.out.mono ?_
    rintro e w1 ⟨rfl, hb1⟩
    obtain ⟨hc1, hf1⟩ := bcell hb1
    have hB1 := below_next HB.out hb1
    obtain ⟨k0, k1, k2⟩ := HCS.out hB1
    have hsz : w.heap.size < w1.heap.size := by have := hb1.size; simp at this; omega
    have hne : w.heap.size ≠ w1.heap.size := by omega
    have HB1 := Aside0.mk hb1
    have HBW := Aside0.mk hB1
    clear hb1 hB1
    go_wp2_with (fail)
    have hb2 : Below w1.heap.size w1 (w1.alloc (.cells #[.int .i64 r0, .int .i64 r1, .string r2] 75)) := (Below.refl _ _).alloc (Nat.le_refl _) _
    refine (HTX.out _ (below_next HBW.out hb2)).mono ?_
    rintro e w2 ⟨v2, rfl, hR2, hb3⟩
    have hbw2 : Below w1.heap.size w1 w2 := below_next hb2 hb3
    have hbw : Below w.heap.size w w2 := below_next HBW.out hbw2
    have cL : ∀ i, w1.cell? ⟨w.heap.size, i, none⟩ = #[.slice A0 l.ls.length c0, .int .i64 l.errs, .slice A2 l.sees.length c2, .slice A3 l.jn.length c3, .slice (some ar) l.rc.length c4][i]? := fun i => (HB1.out.cell (p := ⟨w.heap.size, i, none⟩) (by simp)).trans (cell_new _ _ _ _)
    have cR : ∀ i, w2.cell? ⟨w1.heap.size, i, none⟩ = #[.int .i64 r0, .int .i64 r1, .string r2][i]? := fun i => (hb3.cell (p := ⟨w1.heap.size, i, none⟩) (by simp)).trans (cell_new _ _ _ _)
    have cM : ∀ i, w2.cell? ⟨w.heap.size, i, none⟩ = w1.cell? ⟨w.heap.size, i, none⟩ := fun i => hbw2.cell (p := ⟨w.heap.size, i, none⟩) hsz
    have b0 := (cM 0).trans (cL 0)
    have b1 := (cM 1).trans (cL 1)
    have b2 := (cM 2).trans (cL 2)
    have b3 := (cM 3).trans (cL 3)
    have b4 := (cM 4).trans (cL 4)
    have d2 := cR 2
    simp only [List.getElem?_toArray, List.getElem?_cons_zero, List.getElem?_cons_succ] at b0 b1 b2 b3 b4 d2
    have HBT := Aside0.mk hbw
    have HR2 := Aside0.mk (Kd.R_lower hR2 (Nat.le_trans HBW.out.size hb2.size))
    have HBT2 := Aside0.mk hbw2
    have HS2 : Aside0 (w1.heap.size < w2.heap.size) := ⟨by have := hb3.size; simp at this; omega⟩
    clear cL cR cM hbw hbw2 hb3 hb2 hR2 k0 k1 k2 hc1 hf1
    obtain ⟨AA, cc, rfl⟩ := Kd.R_slice HR2.out
    have hmax : (H.length : Int) ≤ 9223372036854775807 := by
      have := (Kd.R_reads HR2.out)
      obtain ⟨_, _, e, _, hC⟩ := this
      have := hC.2.1
      omega
    go_wp2
    go_loopg [26] H.length (fun gg v26 wr => ∃ k : Nat, k ≤ H.length ∧ H.length - k ≤ gg ∧ v26 = .int .i64 k ∧ Aside0 (∀ t, t ∈ H.take k → readsB l t r2 = false) ∧ Aside0 (Below w2.heap.size w2 wr))
    case atStart => exact ⟨0, by omega, by omega, by go_num, ⟨by simp⟩, ⟨Below.refl _ _⟩⟩
    case round =>
      obtain ⟨k, hk, hg, rfl, HN, HBR⟩ := hrel
      by_cases hlt : k < H.length
      · have hltz : (k : Int) < (H.length : Int) := by omega
        have hs2 : w.heap.size < w2.heap.size := Nat.lt_of_lt_of_le hsz (by have := HBT2.out.size; omega)
        have hs3 : w1.heap.size < w2.heap.size := HS2.out
        rcases TRow.of HR2.out with ⟨_, h0⟩ | ⟨bb, cap, cur, e1, hT⟩
        · subst h0
          exact absurd hlt (by simp)
        · injection e1 with e1 e2 e3
          subst e1
          subst e3
          clear e2
          obtain ⟨A1, c1, x1, m1⟩ := hT.el k hlt
          have hg1 : H.getD k [] = H[k] := by simp [List.getD_eq_getElem?_getD, hlt]
          rw [hg1] at x1 m1
          have hm1 := m1
          obtain ⟨_, ev, hRm⟩ := m1
          obtain rfl := (List.cons.inj ev).1
          have y1 : wr.cell? ⟨bb, k, none⟩ = some (.slice A1 H[k].length c1) := (HBR.out.cell (p := ⟨bb, k, none⟩) (Array.getElem?_eq_some_iff.1 hT.blk).1).trans (cell_of_block hT.blk x1)
          obtain ⟨_, _, uu, _, gC⟩ := (Kd.slice 3 (Kd.int .i64)).K_of_M hm1
          cases uu
          have hrd := HRD.out wr A1 c1 H[k] (below_next HBT.out HBR.out) (Kd.C_below gC HBR.out)
          have z0 := (HBR.out.cell (p := ⟨w.heap.size, 0, none⟩) hs2).trans b0
          have z1 := (HBR.out.cell (p := ⟨w.heap.size, 1, none⟩) hs2).trans b1
          have z2 := (HBR.out.cell (p := ⟨w.heap.size, 2, none⟩) hs2).trans b2
          have z3 := (HBR.out.cell (p := ⟨w.heap.size, 3, none⟩) hs2).trans b3
          have z4 := (HBR.out.cell (p := ⟨w.heap.size, 4, none⟩) hs2).trans b4
          have z5 := (HBR.out.cell (p := ⟨w1.heap.size, 2, none⟩) hs3).trans d2
          have hhit : readsB l H[k] r2 = true → O = some H[k] := fun h => HO.out.trans (find_at hlt HN.out h)
          have hnxt : readsB l H[k] r2 = false → ∀ t, t ∈ H.take (k + 1) → readsB l t r2 = false := fun h t ht => by
            rw [List.take_succ_eq_append_getElem hlt, List.mem_append, List.mem_singleton] at ht
            rcases ht with ht | rfl
            · exact HN.out t ht
            · exact h
          have HHIT := Aside0.mk hhit
          have HNXT := Aside0.mk hnxt
          have HRR := Aside0.mk hrd
          have HRM := Aside0.mk hRm
          clear hhit hnxt hrd hRm hm1 hT gC x1 ev hg1 b0 b1 b2 b3 b4 d2
          generalize H[k] = xx at *
          generalize readsB l xx r2 = qq at *
          cases qq with
          | true =>
            have HH := Aside0.mk (HHIT.out rfl)
            clear HHIT HNXT
            go_wp2_with (go_at_call 69; refine HRR.out.mono ?_; rintro e w9 ⟨rfl, hb9⟩; have HB9 := Aside0.mk hb9; clear hb9)
            go_ret2
            have hbx := below_next HBR.out HB9.out
            exact ⟨_, by first | rfl | (rw [HH.out]; rfl), by rw [HH.out]; exact Kd.R_below (Kd.R_mono HRM.out (fun _ _ => trivial)) hbx, below_next HBT.out hbx⟩
          | false =>
            have HH := Aside0.mk (HNXT.out rfl)
            clear HHIT HNXT
            go_wp2_with (go_at_call 69; refine HRR.out.mono ?_; rintro e w9 ⟨rfl, hb9⟩; have HB9 := Aside0.mk hb9; clear hb9)
            go_roundg (H.length - (k + 1))
            case measure => omega
            case rel => exact ⟨k + 1, by omega, by omega, by go_num, HH, ⟨below_next HBR.out HB9.out⟩⟩
      · have hk2 : k = H.length := by omega
        subst hk2
        have hltz : ¬ (H.length : Int) < (H.length : Int) := by omega
        have hfn : O = none := HO.out.trans (find_none_take HN.out)
        have HFN := Aside0.mk hfn
        clear hfn
        go_wp2
        go_ret2
        exact ⟨_, by first | rfl | (rw [HFN.out]; rfl), by rw [HFN.out]; exact Kd.R_nil _ _ _ _ _, below_next HBT.out HBR.out⟩
  · have hd : (askE l n = 0) = False := eq_false h0
    have hd2 : (askE l n == 0) = false := by simp [h0]
    have e1 : mskE l n = askE l n := by simp [mskE, h0]
    have e2 : mskL l n = [] := by simp [mskL, h0]
    rw [e1, e2]
    obtain ⟨A0, A2, A3, A4, c0, c2, c3, c4⟩ := a
    dsimp only [logV] at *
    clear hL hask hb h0 e1 e2
    generalize askE l n = E at *
    go_enter Tryz.func27, Tryz.ntmps27
    go_wp2_with (first
      | (go_at_call 64; refine HASK.out.mono ?_; rintro e w1 ⟨rfl, hb1⟩; obtain ⟨hc1, hf1⟩ := bcell hb1; have HB1 := Aside0.mk hb1; clear hb1))
    go_ret2
    exact ⟨_, rfl, Kd.R_nil _ _ _ _ _, below_next HB.out HB1.out⟩
end Go.Proofs.YthgfhgjlilmieaaGreat.G
