/- texts of this claim, merged by a program of this session out of its own texts and the print's words -/
import Derived.IntWalk
import Derived.Test.YthgfhgjlilmieaaGreatKG0
import Derived.Test.YthgfhgjlilmieaaGreatKG1
import Derived.Test.YthgfhgjlilmieaaGreatKG2
import Derived.Test.YthgfhgjlilmieaaGreatKG3
namespace Go.Proofs.YthgfhgjlilmieaaGreat.G
open Go.RowKit Go.Shelf Go.Proofs.YthgfhgjlilmieaaGreatW.PrintWords Go.Proofs.YthgfhgjlilmieaaGreatW.PrintLast Go.Proofs.YthgfhgjlilmieaaGreatW.PrintMore
open Go.Proofs.YthgfhgjlilmieaaGreat.B
set_option linter.unusedVariables false
set_option linter.unusedSimpArgs false
def bsA : ByteArray := ⟨#[46]⟩
def bsB : ByteArray := ⟨#[45]⟩
def bsC : ByteArray := ⟨#[46, 46]⟩
def bsD : ByteArray := ⟨#[45, 32, 46]⟩
def lineG (more : List S75) : Lg := { ls := [bsA, bsB, bsC], errs := 1, sees := [5, -1], jn := [⟨6, 0, [1, 0]⟩, ⟨8, 1, [2]⟩], rc := [⟨6, 0, bsD⟩, ⟨8, 1, bsB⟩, ⟨9, 0, bsA⟩] ++ more }
theorem line_f (more : List S75) (h : more.length ≤ 1000) : w6line.f more = some ((lineG more).ls, (lineG more).errs, (lineG more).sees, (lineG more).jn, (lineG more).rc) := by
 have h1 : [(⟨6, 0, (⟨#[45, 32, 46]⟩ : ByteArray)⟩ : S75), ⟨8, 1, (⟨#[45]⟩ : ByteArray)⟩, ⟨9, 0, (⟨#[46]⟩ : ByteArray)⟩].length + more.length < 4398046511104 := by simp; omega
 unfold w6line.f
 simp only [Option.bind_some]
 rw [if_pos h1]
 rfl
theorem line_any (A : Option Addr) (c : Nat) (more : List S75) (w : World) (hr : Kd.C k75 w A more.length more) (hc : more.length ≤ c) (hl : more.length ≤ 1000) (hz : ∀ r, r ∈ more → r.f2.size ≤ 140737488351232) :
 Calls Tryz.prog 49 #[.slice A more.length c] w fun e w' => ∃ a, e = .returned (logV a (lineG more)) ∧ LogAt w' a (lineG more) ∧ Below w.heap.size w w' := by
 refine (w6line.calls A c more _ _ _ _ _ w hr hc (line_f more hl)).mono ?_
 rintro e w' ⟨v0, v2, v3, v4, rfl, h0, h2, h3, h4, hb⟩
 obtain ⟨A0, c0, rfl, l0, g0⟩ := Kd.R_reads h0
 obtain ⟨A2, c2, rfl, l2, g2⟩ := Kd.R_reads h2
 obtain ⟨A3, c3, rfl, l3, g3⟩ := Kd.N_reads h3
 obtain ⟨A4, c4, rfl, l4, g4⟩ := Kd.R_reads h4
 refine ⟨⟨A0, A2, A3, A4, c0, c2, c3, c4⟩, rfl, ⟨g0, g2, g3, g4, l0, l2, l3, l4, fun s hs => ?_, fun r hr => ?_⟩, hb⟩
 ·simp only [lineG, List.mem_cons, List.not_mem_nil, or_false] at hs
  rcases hs with rfl | rfl | rfl <;> decide
 ·simp only [lineG, List.mem_append, List.mem_cons, List.not_mem_nil, or_false] at hr
  rcases hr with (rfl | rfl | rfl) | hr
  ·decide
  ·decide
  ·decide
  ·exact hz r hr
theorem line0_any (w : World) : Calls Tryz.prog 49 #[.slice none 0 0] w fun e w' => ∃ a, e = .returned (logV a (lineG [])) ∧ LogAt w' a (lineG []) ∧ Below w.heap.size w w' := by
  obtain ⟨A, c, e, _, hC⟩ := Kd.R_reads (Kd.R_nil k75 75 w 0 (fun _ => True))
  cases e
  exact line_any none 0 [] w hC (by simp) (by simp) (by simp)
theorem R_lit (base : Nat) (ok : Nat → Prop) (w : World) (b : Nat) (xs : List Int) (hok : ok b) (hn : xs.length ≤ maxLen) (hb : base ≤ b) (h : w.heap[b]? = some (.cells (xs.map (Value.int .i64)).toArray 3 (0, 0))) : Kd.R (Kd.int .i64) 3 w base ok (.slice (some ⟨b, 0, none⟩) xs.length xs.length) xs :=
 Kd.R_of_own ⟨by simp [encs], .inr ⟨b, xs.length, _, rfl, hb, h, Nat.le_refl _, hn, by simp, by simp [encs]; exact List.take_of_length_le (by simp)⟩⟩ (fun k hk => by simp [Value.ownBlock] at hk; exact hk ▸ hok)
theorem C_lit (w : World) (b : Nat) (xs : List Int) (hn : xs.length ≤ maxLen) (h : w.heap[b]? = some (.cells (xs.map (Value.int .i64)).toArray 3 (0, 0))) : Kd.C (Kd.int .i64) w (some ⟨b, 0, none⟩) xs.length xs := by
 obtain ⟨A, c, e, _, hC⟩ := Kd.R_reads (R_lit 0 (fun _ => True) w b xs trivial hn (Nat.zero_le _) h)
 cases e
 exact hC
theorem same_lit (A : Option Addr) (c : Nat) (xs : List Int) (w : World) (b : Nat) (hx : Kd.C (Kd.int .i64) w A xs.length xs) (hc : xs.length ≤ c) (hn : xs.length ≤ maxLen) (h : w.heap[b]? = some (.cells (xs.map (Value.int .i64)).toArray 3 (0, 0))) :
 Calls Tryz.prog 24 #[.slice A xs.length c, .slice (some ⟨b, 0, none⟩) xs.length xs.length] w fun e w' => e = .returned (.bool true) ∧ Below w.heap.size w w' := by
 have := same_any A (some ⟨b, 0, none⟩) c xs.length xs xs w hx hc (C_lit w b xs hn h) (Nat.le_refl _)
 simpa using this
theorem lit3 (W0 : World) (b1 b2 b3 b4 : Nat) (h1 : W0.heap[b1]? = some (.cells #[.int .i64 0] 3 (0, 0))) (h2 : W0.heap[b2]? = some (.cells #[.int .i64 1] 3 (0, 0))) (h3 : W0.heap[b3]? = some (.cells #[.int .i64 1, .int .i64 0] 3 (0, 0)))
 (h4 : W0.heap[b4]? = some (.cells #[.slice (some ⟨b1, 0, none⟩) 1 1, .slice (some ⟨b2, 0, none⟩) 1 1, .slice (some ⟨b3, 0, none⟩) 2 2] 25 (0, 0))) (n1 : b1 ≠ b4) (n2 : b2 ≠ b4) (n3 : b3 ≠ b4) : Kd.C (Kd.slice 3 (Kd.int .i64)) W0 (some ⟨b4, 0, none⟩) 3 [[0], [1], [1, 0]] := by
 have hR : Kd.R (Kd.slice 3 (Kd.int .i64)) 25 W0 0 (fun _ => True) (.slice (some ⟨b4, 0, none⟩) 3 3) [[0], [1], [1, 0]] := by
   refine ⟨fun _ _ => trivial, [.slice (some ⟨b1, 0, none⟩) 1 1, .slice (some ⟨b2, 0, none⟩) 1 1, .slice (some ⟨b3, 0, none⟩) 2 2], ⟨rfl, .inr ⟨b4, 3, _, rfl, Nat.zero_le _, h4, Nat.le_refl _, by simp [maxLen], rfl, rfl⟩⟩, rfl, ?_⟩
   intro j p hj
   match j, hj with
   | 0, hj =>
     cases hj
     exact ⟨_, rfl, R_lit 0 _ W0 b1 [0] ⟨trivial, fun e => n1 (by simpa [Value.ownBlock] using e)⟩ (by simp [maxLen]) (Nat.zero_le _) h1⟩
   | 1, hj =>
     cases hj
     exact ⟨_, rfl, R_lit 0 _ W0 b2 [1] ⟨trivial, fun e => n2 (by simpa [Value.ownBlock] using e)⟩ (by simp [maxLen]) (Nat.zero_le _) h2⟩
   | 2, hj =>
     cases hj
     exact ⟨_, rfl, R_lit 0 _ W0 b3 [1, 0] ⟨trivial, fun e => n3 (by simpa [Value.ownBlock] using e)⟩ (by simp [maxLen]) (Nat.zero_le _) h3⟩
 obtain ⟨A, c, e, hl, hC⟩ := Kd.R_reads hR
 cases e
 exact hC
theorem lit3_same (A : Option Addr) (c : Nat) (w W0 : World) (hx : Kd.C (Kd.slice 3 (Kd.int .i64)) w A 3 [[0], [1], [1, 0]]) (hc : 3 ≤ c) (b4 : Nat) (hw : Kd.C (Kd.slice 3 (Kd.int .i64)) w (some ⟨b4, 0, none⟩) 3 [[0], [1], [1, 0]]) :
 Calls Tryz.prog 28 #[.slice A 3 c, .slice (some ⟨b4, 0, none⟩) 3 3] w fun e w' => e = .returned (.bool true) ∧ Below w.heap.size w w' :=
 sames_any A (some ⟨b4, 0, none⟩) c 3 [[0], [1], [1, 0]] [[0], [1], [1, 0]] w 5 (by decide) (by decide) hx hc hw (Nat.le_refl _)
theorem line0_hl : heardL (lineG []) 8 = [[0], [1], [1, 0]] := by
 have hp : partsL (lineG []) 8 = [[1], [1, 0], [0]] := by decide +kernel
 have h : sortT (partsL (lineG []) 8) = [[0], [1], [1, 0]] := (sortT_unique (by rw [hp]; decide +kernel) (by decide +kernel)).symm
 unfold heardL
 rw [h]
 decide +kernel
theorem line0_hl9 : heardL (lineG []) 9 = [[0], [1], [1, 0]] := by
 have hp : partsL (lineG []) 9 = [[1], [1, 0], [0]] := by decide +kernel
 have h : sortT (partsL (lineG []) 9) = [[0], [1], [1, 0]] := (sortT_unique (by rw [hp]; decide +kernel) (by decide +kernel)).symm
 unfold heardL
 rw [h]
 decide +kernel
theorem line0_msk : mskO (lineG []) 2 = some [0] := by
 have e : (rd_T75 (lineG []).rc 2).f0 = 9 := rfl
 unfold mskO
 rw [e, line0_hl9]
 decide +kernel
theorem aw_own (a : LV) (w : World) (h : LogAt w a (lineG [])) : Calls Tryz.prog 21 #[logV a (lineG []), .int .i64 1] w fun e w' => ∃ A c, e = .returned (.tuple #[.slice A 1 c, .int .i64 0]) ∧ 1 ≤ c ∧ Kd.C (Kd.int .i64) w' A 1 [1] ∧ Below w.heap.size w w' := by
  have e1 : askE (lineG []) 1 = 0 := by decide +kernel
  have e2 : ownL (lineG []) 1 = [1] := by decide +kernel
  have hc := own_any a (lineG []) 1 w h
  rw [e1, e2] at hc
  refine hc.mono ?_
  rintro e w' ⟨v, rfl, hR, hb⟩
  obtain ⟨A, c, rfl, hl, hC⟩ := Kd.R_reads hR
  exact ⟨A, c, rfl, hl, hC, hb⟩
theorem aw_msk (a : LV) (w : World) (h : LogAt w a (lineG [])) : Calls Tryz.prog 27 #[logV a (lineG []), .int .i64 2] w fun e w' => ∃ A c, e = .returned (.tuple #[.slice A 1 c, .int .i64 0]) ∧ 1 ≤ c ∧ Kd.C (Kd.int .i64) w' A 1 [0] ∧ Below w.heap.size w w' := by
  have e1 : mskE (lineG []) 2 = 0 := by unfold mskE; rw [line0_msk]; decide +kernel
  have e2 : mskL (lineG []) 2 = [0] := by unfold mskL; rw [line0_msk]; decide +kernel
  have hc := masked_any a (lineG []) 2 w h
  rw [e1, e2] at hc
  refine hc.mono ?_
  rintro e w' ⟨v, rfl, hR, hb⟩
  obtain ⟨A, c, rfl, hl, hC⟩ := Kd.R_reads hR
  exact ⟨A, c, rfl, hl, hC, hb⟩
theorem aw_ver (a : LV) (w : World) (h : LogAt w a (lineG [])) : Calls Tryz.prog 35 #[logV a (lineG [])] w fun e w' => ∃ A c, e = .returned (.tuple #[.slice A 3 c, .int .i64 0]) ∧ 3 ≤ c ∧ Kd.C (Kd.int .i64) w' A 3 [1, 3, 2] ∧ Below w.heap.size w w' := by
  have e1 : verdE (lineG []) = 0 := by decide +kernel
  have e2 : verdL (lineG []) = [1, 3, 2] := by decide +kernel
  have hc := verdicts_any a (lineG []) w h
  rw [e1, e2] at hc
  refine hc.mono ?_
  rintro e w' ⟨v, rfl, hR, hb⟩
  obtain ⟨A, c, rfl, hl, hC⟩ := Kd.R_reads hR
  exact ⟨A, c, rfl, hl, hC, hb⟩
theorem aw_asg (a : LV) (w : World) (h : LogAt w a (lineG [])) : Calls Tryz.prog 36 #[logV a (lineG [])] w fun e w' => ∃ A c, e = .returned (.tuple #[.slice A 3 c, .int .i64 0]) ∧ 3 ≤ c ∧ Kd.C (Kd.int .i64) w' A 3 [0, 1, -1] ∧ Below w.heap.size w w' := by
  have e1 : asgE (lineG []) = 0 := by decide +kernel
  have e2 : asgL (lineG []) = [0, 1, -1] := by decide +kernel
  have hc := assign_any a (lineG []) w h
  rw [e1, e2] at hc
  refine hc.mono ?_
  rintro e w' ⟨v, rfl, hR, hb⟩
  obtain ⟨A, c, rfl, hl, hC⟩ := Kd.R_reads hR
  exact ⟨A, c, rfl, hl, hC, hb⟩
theorem aw_lve (a : LV) (w : World) (h : LogAt w a (lineG [⟨6, 0, bsD⟩])) : Calls Tryz.prog 32 #[logV a (lineG [⟨6, 0, bsD⟩])] w fun e w' => ∃ A c, e = .returned (.tuple #[.slice A 1 c, .int .i64 0]) ∧ 1 ≤ c ∧ Kd.C (Kd.int .i64) w' A 1 [0] ∧ Below w.heap.size w w' := by
  have e1 : leaveE (lineG [⟨6, 0, bsD⟩]) = 0 := by decide +kernel
  have e2 : leaveL (lineG [⟨6, 0, bsD⟩]) = [0] := by decide +kernel
  have hc := leave32_any a (lineG [⟨6, 0, bsD⟩]) w h
  rw [e1, e2] at hc
  refine hc.mono ?_
  rintro e w' ⟨v, rfl, hR, hb⟩
  obtain ⟨A, c, rfl, hl, hC⟩ := Kd.R_reads hR
  exact ⟨A, c, rfl, hl, hC, hb⟩
theorem aw_hea (a : LV) (w : World) (h : LogAt w a (lineG [])) : Calls Tryz.prog 26 #[logV a (lineG []), .int .i64 8] w fun e w' => ∃ A c, e = .returned (.tuple #[.slice A 3 c, .int .i64 0]) ∧ 3 ≤ c ∧ Kd.C (Kd.slice 3 (Kd.int .i64)) w' A 3 [[0], [1], [1, 0]] ∧ Below w.heap.size w w' := by
  have e1 : heaE (lineG []) 8 = 0 := by decide +kernel
  have e2 : heaL (lineG []) 8 = [[0], [1], [1, 0]] := by
   unfold heaL
   rw [e1, if_pos rfl, line0_hl]
  have hc := hears_any a (lineG []) 8 w h
  rw [e1, e2] at hc
  refine hc.mono ?_
  rintro e w' ⟨v, rfl, hR, hb⟩
  obtain ⟨A, c, rfl, hl, hC⟩ := Kd.R_reads hR
  exact ⟨A, c, rfl, hl, hC, hb⟩
theorem line1_any (w : World) (b : Nat) (h : w.heap[b]? = some (.cells #[.int .i64 6, .int .i64 0, .string bsD] 75 (0, 0))) : Calls Tryz.prog 49 #[.slice (some ⟨b, 0, none⟩) 1 1] w fun e w' => ∃ a, e = .returned (logV a (lineG [⟨6, 0, bsD⟩])) ∧ LogAt w' a (lineG [⟨6, 0, bsD⟩]) ∧ Below w.heap.size w w' := by
  have hR : Kd.R k75 75 w 0 (fun _ => True) (.slice (some ⟨b, 0, none⟩) 1 1) [⟨6, 0, bsD⟩] := by
    refine ⟨fun _ _ => trivial, [.int .i64 6, .int .i64 0, .string bsD], ⟨rfl, .inr ⟨b, 1, _, rfl, Nat.zero_le _, h, Nat.le_refl _, by simp [maxLen], rfl, rfl⟩⟩, rfl, ?_⟩
    intro j p hj
    match j, hj with
    | 0, hj =>
      cases hj
      exact ⟨[.int .i64 6], [.int .i64 0, .string bsD], rfl, rfl, [.int .i64 0], [.string bsD], rfl, rfl, rfl⟩
  obtain ⟨A, c, e, hl, hC⟩ := Kd.R_reads hR
  cases e
  exact line_any _ _ [⟨6, 0, bsD⟩] w hC (by simp) (by simp) (fun r hr => by
    rw [List.mem_singleton] at hr
    subst hr
    decide)
set_option maxRecDepth 100000 in
set_option maxHeartbeats 8000000 in
theorem awake_any (w : World) : Calls Tryz.prog 18 #[] w fun e w' => e = .returned (.bool true) ∧ Below w.heap.size w w' := by
  obtain ⟨L0, hL0⟩ : ∃ L, L = lineG [] := ⟨_, rfl⟩
  obtain ⟨L1, hL1⟩ : ∃ L, L = lineG [⟨6, 0, bsD⟩] := ⟨_, rfl⟩
  have FLN := Am line0_any
  have FL1 := Am line1_any
  have Fown := Am aw_own
  have Fmsk := Am aw_msk
  have Fver := Am aw_ver
  have Fasg := Am aw_asg
  have Flve := Am aw_lve
  have Fhea := Am aw_hea
  rw [← hL0] at FLN Fown Fhea Fmsk Fver Fasg
  rw [← hL1] at FL1 Flve
  clear hL0 hL1
  have HB := Am (Below.refl w.heap.size w)
  have hu75 := Tryz.underlying75
  go_enter Tryz.func18, Tryz.ntmps18
  go_wp2_with (fail)
  refine (FLN.out _).mono ?_
  rintro e x0 ⟨a0, rfl, hl, hb⟩
  have HB := Am (pX_ HB.out hb)
  have HL := Am hl
  clear hl hb
  go_wp2_with (fail)
  refine (Fown.out _ _ HL.out).mono ?_
  rintro e y0 ⟨Aown, cown, rfl, hlc, hC, hb⟩
  have HB := Am (pX_ HB.out hb)
  have Hown := Am hC
  have HCown := Am hlc
  clear hC hlc hb HL
  go_wp2_with (fail)
  refine (FLN.out _).mono ?_
  rintro e x1 ⟨a1, rfl, hl, hb⟩
  have Hown := Am (Kd.C_below Hown.out hb)
  have HB := Am (pX_ HB.out hb)
  have HL := Am hl
  clear hl hb
  go_wp2_with (fail)
  refine (Fhea.out _ _ HL.out).mono ?_
  rintro e y1 ⟨Ahea, chea, rfl, hlc, hC, hb⟩
  have Hown := Am (Kd.C_below Hown.out hb)
  have HB := Am (pX_ HB.out hb)
  have Hhea := Am hC
  have HChea := Am hlc
  clear hC hlc hb HL
  go_wp2_with (fail)
  refine (FLN.out _).mono ?_
  rintro e x2 ⟨a2, rfl, hl, hb⟩
  have Hown := Am (Kd.C_below Hown.out hb)
  have Hhea := Am (Kd.C_below Hhea.out hb)
  have HB := Am (pX_ HB.out hb)
  have HL := Am hl
  clear hl hb
  go_wp2_with (fail)
  refine (Fmsk.out _ _ HL.out).mono ?_
  rintro e y2 ⟨Amsk, cmsk, rfl, hlc, hC, hb⟩
  have Hown := Am (Kd.C_below Hown.out hb)
  have Hhea := Am (Kd.C_below Hhea.out hb)
  have HB := Am (pX_ HB.out hb)
  have Hmsk := Am hC
  have HCmsk := Am hlc
  clear hC hlc hb HL
  go_wp2_with (fail)
  refine (FLN.out _).mono ?_
  rintro e x3 ⟨a3, rfl, hl, hb⟩
  have Hown := Am (Kd.C_below Hown.out hb)
  have Hhea := Am (Kd.C_below Hhea.out hb)
  have Hmsk := Am (Kd.C_below Hmsk.out hb)
  have HB := Am (pX_ HB.out hb)
  have HL := Am hl
  clear hl hb
  go_wp2_with (fail)
  refine (Fver.out _ _ HL.out).mono ?_
  rintro e y3 ⟨Aver, cver, rfl, hlc, hC, hb⟩
  have Hown := Am (Kd.C_below Hown.out hb)
  have Hhea := Am (Kd.C_below Hhea.out hb)
  have Hmsk := Am (Kd.C_below Hmsk.out hb)
  have HB := Am (pX_ HB.out hb)
  have Hver := Am hC
  have HCver := Am hlc
  clear hC hlc hb HL
  go_wp2_with (fail)
  refine (FLN.out _).mono ?_
  rintro e x4 ⟨a4, rfl, hl, hb⟩
  have Hown := Am (Kd.C_below Hown.out hb)
  have Hhea := Am (Kd.C_below Hhea.out hb)
  have Hmsk := Am (Kd.C_below Hmsk.out hb)
  have Hver := Am (Kd.C_below Hver.out hb)
  have HB := Am (pX_ HB.out hb)
  have HL := Am hl
  clear hl hb
  go_wp2_with (fail)
  refine (Fasg.out _ _ HL.out).mono ?_
  rintro e y4 ⟨Aasg, casg, rfl, hlc, hC, hb⟩
  have Hown := Am (Kd.C_below Hown.out hb)
  have Hhea := Am (Kd.C_below Hhea.out hb)
  have Hmsk := Am (Kd.C_below Hmsk.out hb)
  have Hver := Am (Kd.C_below Hver.out hb)
  have HB := Am (pX_ HB.out hb)
  have Hasg := Am hC
  have HCasg := Am hlc
  clear hC hlc hb HL
  go_wp2_with (fail)
  have hbx := (Below.refl y4.heap.size y4).alloc (Nat.le_refl _) (.cells #[.int .i64 6, .int .i64 0, .string bsD] 75)
  have Hown := Am (Kd.C_below Hown.out hbx)
  have Hhea := Am (Kd.C_below Hhea.out hbx)
  have Hmsk := Am (Kd.C_below Hmsk.out hbx)
  have Hver := Am (Kd.C_below Hver.out hbx)
  have Hasg := Am (Kd.C_below Hasg.out hbx)
  have HB := Am (pX_ HB.out hbx)
  clear hbx
  refine (FL1.out _ _ (alloc_new _ _)).mono ?_
  rintro e x5 ⟨a5, rfl, hl, hb⟩
  have Hown := Am (Kd.C_below Hown.out hb)
  have Hhea := Am (Kd.C_below Hhea.out hb)
  have Hmsk := Am (Kd.C_below Hmsk.out hb)
  have Hver := Am (Kd.C_below Hver.out hb)
  have Hasg := Am (Kd.C_below Hasg.out hb)
  have HB := Am (pX_ HB.out hb)
  have HL := Am hl
  clear hl hb
  go_wp2_with (fail)
  refine (Flve.out _ _ HL.out).mono ?_
  rintro e y5 ⟨Alve, clve, rfl, hlc, hC, hb⟩
  have Hown := Am (Kd.C_below Hown.out hb)
  have Hhea := Am (Kd.C_below Hhea.out hb)
  have Hmsk := Am (Kd.C_below Hmsk.out hb)
  have Hver := Am (Kd.C_below Hver.out hb)
  have Hasg := Am (Kd.C_below Hasg.out hb)
  have HB := Am (pX_ HB.out hb)
  have Hlve := Am hC
  have HClve := Am hlc
  clear hC hlc hb HL
  go_wp2_with (fail)
  have hbx := (Below.refl y5.heap.size y5).alloc (Nat.le_refl _) (.cells #[.int .i64 1] 3)
  have Hown := Am (Kd.C_below Hown.out hbx)
  have Hhea := Am (Kd.C_below Hhea.out hbx)
  have Hmsk := Am (Kd.C_below Hmsk.out hbx)
  have Hver := Am (Kd.C_below Hver.out hbx)
  have Hasg := Am (Kd.C_below Hasg.out hbx)
  have Hlve := Am (Kd.C_below Hlve.out hbx)
  have HB := Am (pX_ HB.out hbx)
  clear hbx
  refine (same_lit Aown cown [1] _ _ Hown.out HCown.out (by simp [maxLen]) (alloc_new _ _)).mono ?_
  rintro e z0 ⟨rfl, hb⟩
  have Hhea := Am (Kd.C_below Hhea.out hb)
  have Hmsk := Am (Kd.C_below Hmsk.out hb)
  have Hver := Am (Kd.C_below Hver.out hb)
  have Hasg := Am (Kd.C_below Hasg.out hb)
  have Hlve := Am (Kd.C_below Hlve.out hb)
  have HB := Am (pX_ HB.out hb)
  clear hb
  go_wp2_with (fail)
  have hbx := ((((Below.refl z0.heap.size z0).alloc (Nat.le_refl _) (.cells #[.int .i64 0] 3)).alloc (by simp) (.cells #[.int .i64 1] 3)).alloc (by simp; omega) (.cells #[.int .i64 1, .int .i64 0] 3)).alloc (by simp; omega) (.cells #[.slice (some ⟨z0.heap.size, 0, none⟩) 1 1, .slice (some ⟨z0.heap.size + 1, 0, none⟩) 1 1, .slice (some ⟨z0.heap.size + 1 + 1, 0, none⟩) 2 2] 25)
  have Hhea := Am (Kd.C_below Hhea.out hbx)
  have Hmsk := Am (Kd.C_below Hmsk.out hbx)
  have Hver := Am (Kd.C_below Hver.out hbx)
  have Hasg := Am (Kd.C_below Hasg.out hbx)
  have Hlve := Am (Kd.C_below Hlve.out hbx)
  have HB := Am (pX_ HB.out hbx)
  clear hbx
  refine (lit3_same Ahea chea _ w Hhea.out HChea.out _ (lit3 _ (z0.heap.size) (z0.heap.size + 1) (z0.heap.size + 1 + 1) _ (heap_old (heap_old (heap_old (alloc_new _ _) _) _) _) (heap_old (heap_old (alloc_at _ _ (by simp)) _) _) (heap_old (alloc_at _ _ (by simp)) _) (alloc_at _ _ (by simp)) (by omega) (by omega) (by omega))).mono ?_
  rintro e z1 ⟨rfl, hb⟩
  have Hmsk := Am (Kd.C_below Hmsk.out hb)
  have Hver := Am (Kd.C_below Hver.out hb)
  have Hasg := Am (Kd.C_below Hasg.out hb)
  have Hlve := Am (Kd.C_below Hlve.out hb)
  have HB := Am (pX_ HB.out hb)
  clear hb
  go_wp2_with (fail)
  have hbx := (Below.refl z1.heap.size z1).alloc (Nat.le_refl _) (.cells #[.int .i64 0] 3)
  have Hmsk := Am (Kd.C_below Hmsk.out hbx)
  have Hver := Am (Kd.C_below Hver.out hbx)
  have Hasg := Am (Kd.C_below Hasg.out hbx)
  have Hlve := Am (Kd.C_below Hlve.out hbx)
  have HB := Am (pX_ HB.out hbx)
  clear hbx
  refine (same_lit Amsk cmsk [0] _ _ Hmsk.out HCmsk.out (by simp [maxLen]) (alloc_new _ _)).mono ?_
  rintro e z2 ⟨rfl, hb⟩
  have Hver := Am (Kd.C_below Hver.out hb)
  have Hasg := Am (Kd.C_below Hasg.out hb)
  have Hlve := Am (Kd.C_below Hlve.out hb)
  have HB := Am (pX_ HB.out hb)
  clear hb
  go_wp2_with (fail)
  have hbx := (Below.refl z2.heap.size z2).alloc (Nat.le_refl _) (.cells #[.int .i64 1, .int .i64 3, .int .i64 2] 3)
  have Hver := Am (Kd.C_below Hver.out hbx)
  have Hasg := Am (Kd.C_below Hasg.out hbx)
  have Hlve := Am (Kd.C_below Hlve.out hbx)
  have HB := Am (pX_ HB.out hbx)
  clear hbx
  refine (same_lit Aver cver [1, 3, 2] _ _ Hver.out HCver.out (by simp [maxLen]) (alloc_new _ _)).mono ?_
  rintro e z3 ⟨rfl, hb⟩
  have Hasg := Am (Kd.C_below Hasg.out hb)
  have Hlve := Am (Kd.C_below Hlve.out hb)
  have HB := Am (pX_ HB.out hb)
  clear hb
  go_wp2_with (fail)
  have hbx := (Below.refl z3.heap.size z3).alloc (Nat.le_refl _) (.cells #[.int .i64 0, .int .i64 1, .int .i64 (-1)] 3)
  have Hasg := Am (Kd.C_below Hasg.out hbx)
  have Hlve := Am (Kd.C_below Hlve.out hbx)
  have HB := Am (pX_ HB.out hbx)
  clear hbx
  refine (same_lit Aasg casg [0, 1, -1] _ _ Hasg.out HCasg.out (by simp [maxLen]) (alloc_new _ _)).mono ?_
  rintro e z4 ⟨rfl, hb⟩
  have Hlve := Am (Kd.C_below Hlve.out hb)
  have HB := Am (pX_ HB.out hb)
  clear hb
  go_wp2_with (fail)
  have hbx := (Below.refl z4.heap.size z4).alloc (Nat.le_refl _) (.cells #[.int .i64 0] 3)
  have Hlve := Am (Kd.C_below Hlve.out hbx)
  have HB := Am (pX_ HB.out hbx)
  clear hbx
  refine (same_lit Alve clve [0] _ _ Hlve.out HClve.out (by simp [maxLen]) (alloc_new _ _)).mono ?_
  rintro e z5 ⟨rfl, hb⟩
  have HB := Am (pX_ HB.out hb)
  clear hb
  go_wp2_with (fail)
  go_ret
  exact ⟨rfl, HB.out⟩
def u69 (x : S76) : S69 := ⟨x.f0, x.f1, x.f2⟩
def u61 (x : S75) : S61 := ⟨x.f0, x.f1, x.f2⟩
theorem C_map {α β : Type} {d : Kd α} {e : Kd β} (f : α → β) (hs : d.sz = e.sz) (hk : ∀ w x cs, d.K w x cs → e.K w (f x) cs) {w : World} {A : Option Addr} {n : Nat} {xs : List α} (h : Kd.C d w A n xs) : Kd.C e w A n (xs.map f) := by
  obtain ⟨h1, h2, h3⟩ := h
  refine ⟨by rw [List.length_map]; exact h1, h2, fun hn => ?_⟩
  obtain ⟨ad, e1, hc⟩ := h3 hn
  refine ⟨ad, e1, fun j p hj => ?_⟩
  rw [List.getElem?_map] at hj
  obtain ⟨q, hq, rfl⟩ := Option.map_eq_some_iff.1 hj
  obtain ⟨c, c1, c2, c3⟩ := hc j q hq
  exact ⟨c, by rw [c1, hs], hk _ _ _ c2, by rw [← hs]; exact c3⟩
theorem list_f (t : List Int) (h : t.length ≤ 1000) : w6list.f t = some t := by
 unfold w6list.f
 simp only [Option.bind_some, List.length_nil, List.nil_append]
 rw [if_pos (by omega)]
theorem code_f (t : List ByteArray) (h : t.length ≤ 1000) : w2Code.f t = some t := by
 unfold w2Code.f
 simp only [Option.bind_some, List.length_nil, List.nil_append]
 rw [if_pos (by omega)]
theorem log_l1 (ls : List ByteArray) (errs : Int) (sees : List Int) (j69 : List S69) (rc : List S75) (y0 : List ByteArray) (y1 : Int) (y2 : List Int) (y3 : List S76) (hr : rc.length ≤ 1000) : ∀ (d i k : Nat), d = rc.length - i → i ≤ rc.length → d < k →
 w6Log.l1 k i ls errs sees j69 (rc.map u61) y0 y1 y2 y3 (rc.take i) = some (y0, y1, y2, y3, rc) := by
 intro d
 induction d with
 | zero =>
   intro i k hd hi hk
   obtain ⟨k, rfl⟩ : ∃ m, k = m + 1 := ⟨k - 1, by omega⟩
   simp only [w6Log.l1, List.length_map]
   rw [if_neg (by omega), show i = rc.length by omega, List.take_length]
 | succ d ih =>
   intro i k hd hi hk
   obtain ⟨k, rfl⟩ : ∃ m, k = m + 1 := ⟨k - 1, by omega⟩
   have h1 : i < rc.length := by omega
   have e : rd_T61 (rc.map u61) (i : Int) = u61 rc[i] := by simp [rd_T61, List.getD_eq_getElem?_getD, h1]
   simp only [w6Log.l1, List.length_map]
   rw [if_pos (by omega), if_pos (by omega), if_pos (by rw [List.length_take]; omega), e, wrap_nat i rc.length h1 (by omega)]
   have e2 : rc.take i ++ [(⟨(u61 rc[i]).f0, (u61 rc[i]).f1, (u61 rc[i]).f2⟩ : S75)] = rc.take (i + 1) := by
    rw [List.take_succ_eq_append_getElem h1]
    rfl
   rw [e2]
   exact ih (i + 1) k (by omega) (by omega) (by omega)
theorem log_l0 (ls : List ByteArray) (errs : Int) (sees : List Int) (jn : List S76) (rc : List S75) (y0 : List ByteArray) (y1 : Int) (y2 : List Int) (hj : jn.length ≤ 1000) (hr : rc.length ≤ 1000) (ht : ∀ (j : Nat) (h : j < jn.length), (jn[j]).f2.length ≤ 1000) : ∀ (d i k : Nat), d = jn.length - i → i ≤ jn.length → d + rc.length + 1 < k →
 w6Log.l0 k i ls errs sees (jn.map u69) (rc.map u61) y0 y1 y2 (jn.take i) = some (y0, y1, y2, jn, rc) := by
 intro d
 induction d with
 | zero =>
   intro i k hd hi hk
   obtain ⟨k, rfl⟩ : ∃ m, k = m + 1 := ⟨k - 1, by omega⟩
   simp only [w6Log.l0, List.length_map]
   rw [if_neg (by omega), show i = jn.length by omega, List.take_length]
   exact log_l1 ls errs sees _ rc y0 y1 y2 jn hr rc.length 0 k (by omega) (by omega) (by omega)
 | succ d ih =>
   intro i k hd hi hk
   obtain ⟨k, rfl⟩ : ∃ m, k = m + 1 := ⟨k - 1, by omega⟩
   have h1 : i < jn.length := by omega
   have e : rd_T69 (jn.map u69) (i : Int) = u69 jn[i] := by simp [rd_T69, List.getD_eq_getElem?_getD, h1]
   simp only [w6Log.l0, List.length_map]
   rw [if_pos (by omega), if_pos (by omega), e, show (u69 jn[i]).f2 = (jn[i]).f2 from rfl, list_f _ (ht i h1), Option.bind_some, if_pos (by rw [List.length_take]; omega), wrap_nat i jn.length h1 (by omega)]
   have e2 : jn.take i ++ [(⟨(u69 jn[i]).f0, (u69 jn[i]).f1, (jn[i]).f2⟩ : S76)] = jn.take (i + 1) := by
    rw [List.take_succ_eq_append_getElem h1]
    rfl
   rw [e2]
   exact ih (i + 1) k (by omega) (by omega) (by omega)
structure Fits (l : Lg) : Prop where
 ls : l.ls.length ≤ 1000
 sees : l.sees.length ≤ 1000
 jn : l.jn.length ≤ 1000
 rc : l.rc.length ≤ 1000
 tx : ∀ (j : Nat) (hj : j < l.jn.length), (l.jn[j]).f2.length ≤ 1000
theorem ThinOk.fits {l : Lg} (h : ThinOk l) : Fits l := ⟨by have := h.ls; omega, by have := h.sees; omega, by have := h.jn; omega, by have := h.rc; omega, fun j hj => by have := h.tx j hj; omega⟩
theorem log20_any (a : LV) (l : Lg) (w : World) (hL : LogAt w a l) (hf : Fits l) : Calls Tryz.prog 20 #[logV a l] w fun e w' => ∃ a', e = .returned (logV a' l) ∧ LogAt w' a' l ∧ Below w.heap.size w w' := by
  have h3 : Kd.C k69 w a.A3 l.jn.length (l.jn.map u69) := C_map u69 rfl (fun _ _ _ h => h) hL.h3
  have h4 : Kd.C k61 w a.A4 l.rc.length (l.rc.map u61) := C_map u61 rfl (fun _ _ _ h => h) hL.h4
  have e3 : (l.jn.map u69).length = l.jn.length := List.length_map ..
  have e4 : (l.rc.map u61).length = l.rc.length := List.length_map ..
  have hc := w6Log.calls (l.jn.length + l.rc.length + 2) a.A0 a.c0 l.ls l.errs a.A2 a.c2 l.sees a.A3 a.c3 (l.jn.map u69) a.A4 a.c4 (l.rc.map u61) l.ls l.errs l.sees l.jn l.rc w hL.h0 hL.l0 hL.h2 hL.l2 (by rw [e3]; exact h3) (by rw [e3]; exact hL.l3) (by rw [e4]; exact h4) (by rw [e4]; exact hL.l4) (by
    unfold w6Log.f
    rw [code_f _ hf.ls, Option.bind_some, list_f _ hf.sees, Option.bind_some]
    exact log_l0 l.ls l.errs l.sees l.jn l.rc _ _ _ hf.jn hf.rc hf.tx l.jn.length 0 _ (by omega) (by omega) (by omega))
  rw [e3, e4] at hc
  refine hc.mono ?_
  rintro e w' ⟨v0, v2, v3, v4, rfl, g0, g2, g3, g4, hb⟩
  obtain ⟨A0, c0, rfl, l0, q0⟩ := Kd.R_reads g0
  obtain ⟨A2, c2, rfl, l2, q2⟩ := Kd.R_reads g2
  obtain ⟨A3, c3, rfl, l3, q3⟩ := Kd.S_reads g3
  obtain ⟨A4, c4, rfl, l4, q4⟩ := Kd.R_reads g4
  exact ⟨⟨A0, A2, A3, A4, c0, c2, c3, c4⟩, rfl, ⟨q0, q2, q3, q4, l0, l2, l3, l4, hL.z0, hL.z4⟩, hb⟩
theorem few_small : ∀ (n : Nat) (s r : ByteArray), s.size + r.size = n → few s r < far → few s r ≤ n := by
 intro n
 induction n using Nat.strongRecOn with
 | ind n ih =>
   intro s r hn hf
   have hgen : ∀ (L : List (NX s r)) (v : Int), (v < far → v ≤ n) → L.foldl (fun m x => min m (costK x.1 + few (leftS s x.1) (leftR s r x.1))) v < far → L.foldl (fun m x => min m (costK x.1 + few (leftS s x.1) (leftR s r x.1))) v ≤ n := by
     intro L
     induction L with
     | nil => intro v hv h; exact hv h
     | cons x t iht =>
       intro v hv h
       simp only [List.foldl_cons] at h ⊢
       refine iht _ (fun hm => ?_) h
       have hp := prog_size s r x
       have hc : 0 ≤ costK x.1 ∧ costK x.1 ≤ 1 := by unfold costK; split <;> omega
       have hx : few (leftS s x.1) (leftR s r x.1) < far → few (leftS s x.1) (leftR s r x.1) ≤ ((leftS s x.1).size + (leftR s r x.1).size : Nat) := ih _ (by omega) _ _ rfl
       by_cases hv2 : v < far
       ·have := hv hv2; omega
       ·have : costK x.1 + few (leftS s x.1) (leftR s r x.1) < far := by omega
        have := hx (by omega)
        omega
   rw [few_eq] at hf ⊢
   refine hgen _ _ (fun hv => ?_) hf
   by_cases h0 : s.size = 0 ∧ r.size = 0
   ·rw [if_pos h0]; omega
   ·rw [if_neg h0] at hv; unfold far at hv; omega
theorem sig_no33 {s : ByteArray} (h : sigB s = true) : ∀ x, x ∈ s.data.toList → x ≠ 33 := by
  intro x hx e
  subst e
  obtain ⟨j, hj, he⟩ := List.getElem_of_mem hx
  have hj2 : j < s.size := by simpa using hj
  have hok := (sig_iff s).1 h j hj2
  have e1 : bt s (j : Int) = 33 := by
   have he2 : s.data[j] = 33 := by simpa using he
   have : s[j] = 33 := he2
   simp [bt, hj2, this]
  rw [e1] at hok
  cases hok
theorem sfE_ok {s : ByteArray} (h : sfE s = 0) : s.size ≤ 40 ∧ sigB s = true := by
  unfold sfE at h
  by_cases h1 : lenB s = false
  ·rw [if_pos h1] at h; cases h
  ·rw [if_neg h1] at h
   by_cases h2 : sigB s = false
   ·rw [if_pos h2] at h; cases h
   ·refine ⟨?_, by simpa using h2⟩
    have : lenB s = true := by simpa using h1
    simp only [lenB, decide_eq_true_eq] at this
    omega
theorem readOk_of {l : Lg} {r : S75} (h : recordB l r = true) : ReadOk r.f2 ∧ sfE r.f2 = 0 := by
  rw [← rec_eq] at h
  simp only [recR, Bool.and_eq_true, beq_iff_eq] at h
  have h2 := sfE_ok h.2
  exact ⟨⟨h2.1, sig_no33 h2.2⟩, h.2⟩
theorem txtOk_of {l : Lg} {s : S76} (hc : codeE l.ls = 0) (h : sentB l s = true) : TxtOk l s.f2 := by
  rw [← sent_eq l s hc] at h
  simp only [sentR, Bool.and_eq_true] at h
  obtain ⟨⟨_, h1⟩, h2⟩ := h
  simp only [inR, Bool.and_eq_true, decide_eq_true_eq] at h1
  have hin : ∀ x, x ∈ s.f2 → 0 ≤ x ∧ x < l.ls.length := fun x hx => by
   unfold txtB at h2
   rw [List.all_eq_true] at h2
   have := h2 x hx
   simp only [inR, Bool.and_eq_true, decide_eq_true_eq] at this
   omega
  refine ⟨by omega, hin, fun x hx => ?_⟩
  obtain ⟨g1, g2⟩ := hin x hx
  have hall : l.ls.all letterB = true := by
   cases hx2 : l.ls.all letterB with
   | true => rfl
   | false =>
     unfold codeE at hc
     rw [hx2] at hc
     by_cases q1 : 6 < l.ls.length
     ·rw [if_pos q1] at hc; cases hc
     ·rw [if_neg q1] at hc
      by_cases q2 : l.ls.length = 0
      ·rw [if_pos q2] at hc; cases hc
      ·rw [if_neg q2, if_pos rfl] at hc; cases hc
  rw [List.all_eq_true] at hall
  have hi : x.toNat < l.ls.length := by omega
  have e : letterAt l.ls x = l.ls[x.toNat] := by simp [letterAt, List.getD_eq_getElem?_getD, hi]
  rw [e]
  have := hall _ (List.getElem_mem hi)
  simp only [letterB, Bool.and_eq_true, decide_eq_true_eq] at this
  omega
structure Sound (l : Lg) : Prop where
 code : codeE l.ls = 0
 errs : 0 ≤ l.errs ∧ l.errs ≤ 3
 sees : 0 < l.sees.length ∧ l.sees.length ≤ 4
 see : ∀ x, x ∈ l.sees → seeB x = true
 jlen : l.jn.length ≤ 8
 rlen : l.rc.length ≤ 6
 jn : ∀ s, s ∈ l.jn → sentB l s = true
 rc : ∀ r, r ∈ l.rc → recordB l r = true
theorem sound_of {l : Lg} (h : logE l = 0) : Sound l := by
  unfold logE at h
  by_cases h1 : overB l = true
  ·rw [if_pos h1] at h; cases h
  ·rw [if_neg h1] at h
   by_cases h2 : codeE l.ls ≠ 0
   ·rw [if_pos h2] at h; exact absurd h h2
   ·rw [if_neg h2] at h
    by_cases h3 : badB l = true
    ·rw [if_pos h3] at h; cases h
    ·have h1' : overB l = false := by simpa using h1
     have h3' : badB l = false := by simpa using h3
     simp only [overB, Bool.or_eq_false_iff, decide_eq_false_iff_not] at h1'
     simp only [badB, Bool.or_eq_false_iff, Bool.not_eq_false'] at h3'
     obtain ⟨⟨⟨⟨g1, g2⟩, g3⟩, g4⟩, g5⟩ := h3'
     simp only [inB, Bool.and_eq_true, decide_eq_true_eq] at g1
     have g2' : l.sees.length ≠ 0 := by simpa using g2
     rw [List.all_eq_true] at g3 g4 g5
     exact ⟨by simpa using h2, by omega, by omega, g3, by omega, by omega, g4, g5⟩
theorem mem_bt {s : ByteArray} {x : UInt8} (h : x ∈ s.data.toList) : ∃ j : Nat, j < s.size ∧ bt s (j : Int) = (x.toNat : Int) := by
  obtain ⟨j, hj, he⟩ := List.getElem_of_mem h
  have hj2 : j < s.size := by simpa using hj
  have he2 : s.data[j] = x := by simpa using he
  have : s[j] = x := he2
  exact ⟨j, hj2, by simp [bt, hj2, this]⟩
theorem bt_mem {s : ByteArray} {j : Nat} (h : j < s.size) : ∃ x, x ∈ s.data.toList ∧ bt s (j : Int) = (x.toNat : Int) := by
  refine ⟨s[j], ?_, by simp [bt, h]⟩
  have : s.data.toList[j]'(by simpa using h) = s[j] := by simp; rfl
  rw [← this]
  exact List.getElem_mem _
theorem letter_ok {l : Lg} {t : List Int} (hs : codeE l.ls = 0) (ht : TxtOk l t) : ∀ x, x ∈ t → ∀ b, b ∈ (letterAt l.ls x).data.toList → okC (b.toNat : Int) = true := by
  intro x hx b hb
  obtain ⟨g1, g2⟩ := ht.inr x hx
  have hall : l.ls.all letterB = true := by
   cases hx2 : l.ls.all letterB with
   | true => rfl
   | false =>
     unfold codeE at hs
     rw [hx2] at hs
     by_cases q1 : 6 < l.ls.length
     ·rw [if_pos q1] at hs; cases hs
     ·rw [if_neg q1] at hs
      by_cases q2 : l.ls.length = 0
      ·rw [if_pos q2] at hs; cases hs
      ·rw [if_neg q2, if_pos rfl] at hs; cases hs
  rw [List.all_eq_true] at hall
  have hi : x.toNat < l.ls.length := by omega
  have e : letterAt l.ls x = l.ls[x.toNat] := by simp [letterAt, List.getD_eq_getElem?_getD, hi]
  rw [e] at hb
  have h1 := ((letter_iff _).1 (hall _ (List.getElem_mem hi))).2
  obtain ⟨j, hj, hj2⟩ := mem_bt hb
  have h2 := h1 j hj
  rw [hj2] at h2
  simp only [okD, okC, Bool.or_eq_true] at h2 ⊢
  exact .inl h2
theorem sgB_ok {l : Lg} {t : List Int} (hs : codeE l.ls = 0) (ht : TxtOk l t) : ∀ i, i ≤ t.length → ∀ b, b ∈ sgB l.ls t i → okC (b.toNat : Int) = true
  | 0, _, b, hb => by rw [sgB_0] at hb; cases hb
  | i + 1, hi, b, hb => by
    have hlet := letter_ok hs ht t[i] (List.getElem_mem (by omega))
    by_cases h0 : i = 0
    ·rw [sgB_1 _ _ i (by omega) h0] at hb
     exact hlet b hb
    ·rw [sgB_s _ _ i (by omega) (by omega), List.mem_append, List.mem_append] at hb
     rcases hb with (hb | hb) | hb
     ·exact sgB_ok hs ht i (by omega) b hb
     ·rw [List.mem_singleton] at hb
      subst hb
      decide
     ·exact hlet b hb
theorem sg_sig {l : Lg} {t : List Int} (hs : codeE l.ls = 0) (ht : TxtOk l t) : sigB (sgS l t) = true := by
  rw [sig_iff]
  intro j hj
  obtain ⟨x, hx, e⟩ := bt_mem hj
  rw [e]
  refine sgB_ok hs ht t.length (Nat.le_refl _) x ?_
  have e2 : sgB l.ls t t.length = signsL l.ls t := by unfold sgB signsL; rw [List.take_length]
  rw [e2]
  simpa [sgS] using hx
theorem send_ok {l : Lg} {t : List Int} (hs : codeE l.ls = 0) (ht : TxtOk l t) : sendE l.ls t = 0 := by
  unfold sendE
  rw [if_neg (by rw [hs]; simp), if_neg (by have := ht.len; omega), if_neg]
  have : (t.all fun n => inB n ((l.ls.length : Int) - 1)) = true := by
    rw [List.all_eq_true]
    intro x hx
    have := ht.inr x hx
    simp only [inB, Bool.and_eq_true, decide_eq_true_eq]
    omega
  rw [this]
  simp
theorem reads_eq {l : Lg} {t : List Int} {read : ByteArray} (hs : codeE l.ls = 0) (ht : TxtOk l t) (hr : sfE read = 0) : readsR l t read = readsB l t read := by
  obtain ⟨r1, r2⟩ := sfE_ok hr
  have hsz := sgS_size ht
  have e1 : sendS l.ls t = sgS l t := by unfold sendS; rw [if_pos (send_ok hs ht)]; rfl
  have e2 : signsE [sgS l t, read] = 0 := by
   have q1 : lenB (sgS l t) = true := by simp [lenB]; omega
   have q2 : lenB read = true := by simp [lenB]; omega
   simp [signsE, q1, q2, sg_sig hs ht, r2]
  unfold readsR readsB errsN
  rw [e1]
  have e3 : errsE (sgS l t) read = if far ≤ few (sgS l t) read then 11 else 0 := by
   unfold errsE
   rw [e2]
   simp
  have hb := few_bd (sgS l t) read
  by_cases hf : far ≤ few (sgS l t) read
  ·rw [if_pos hf] at e3
   have : ¬ errR (sgS l t) read < 1000 := by unfold errR; unfold far at hf; omega
   simp [e3, this]
  ·rw [if_neg hf] at e3
   have hsm := few_small _ (sgS l t) read rfl (by omega)
   have hlt : errR (sgS l t) read < 1000 := by unfold errR; omega
   have heq : errR (sgS l t) read = few (sgS l t) read := by unfold errR; omega
   have hlt2 : few (sgS l t) read < 1000 := by omega
   rw [heq, e3]
   simp [hlt2]
theorem step_b {N : Nat} {W0 W W' : World} (h : Below N W0 W) (hN : N ≤ W0.heap.size) (hb : Below W.heap.size W W') : Below N W0 W' := h.trans (hb.mono (Nat.le_trans hN h.size))
theorem logCells (a : LV) (l : Lg) (w W : World) (h : Below (w.heap.size + 1) (w.alloc (logD a l)) W) : W.cell? ⟨w.heap.size, 0, none⟩ = some (.slice a.A0 l.ls.length a.c0) ∧ W.cell? ⟨w.heap.size, 1, none⟩ = some (.int .i64 l.errs) ∧ W.cell? ⟨w.heap.size, 2, none⟩ = some (.slice a.A2 l.sees.length a.c2) ∧ W.cell? ⟨w.heap.size, 3, none⟩ = some (.slice a.A3 l.jn.length a.c3) ∧ W.cell? ⟨w.heap.size, 4, none⟩ = some (.slice a.A4 l.rc.length a.c4) := by
 have hc : ∀ i, W.cell? ⟨w.heap.size, i, none⟩ = #[.slice a.A0 l.ls.length a.c0, .int .i64 l.errs, .slice a.A2 l.sees.length a.c2, .slice a.A3 l.jn.length a.c3, .slice a.A4 l.rc.length a.c4][i]? := fun i => (h.cell (p := ⟨w.heap.size, i, none⟩) (by simp)).trans (cell_new _ _ _ _)
 exact ⟨hc 0, hc 1, hc 2, hc 3, hc 4⟩
theorem toW {a : LV} {l : Lg} {w W : World} (h : Below (w.heap.size + 1) (w.alloc (logD a l)) W) : Below w.heap.size w W := ((Below.refl _ w).alloc (Nat.le_refl _) _).trans (h.mono (by omega))
theorem ask_bad {l : Lg} (n : Int) (h : logE l ≠ 0) : askE l n = logE l := by unfold askE; rw [if_pos h]
theorem ask_out {l : Lg} {n : Int} (h : logE l = 0) (hi : inR n 0 ((l.rc.length : Int) - 1) = false) : askE l n = 2 := by unfold askE; rw [if_neg (by simp [h]), if_pos (by rw [← in_inB]; exact hi)]
theorem ask_in {l : Lg} {n : Int} (h : logE l = 0) (hi : inR n 0 ((l.rc.length : Int) - 1) = true) : askE l n = 0 := by unfold askE; rw [if_neg (by simp [h]), if_neg (by rw [← in_inB, hi]; simp)]
theorem own_in {l : Lg} {n : Int} (h : askE l n = 0) : ownL l n = statL l (rd_T75 l.rc n) := by unfold ownL; rw [if_pos h]
def OwnP (xs : List Int) (q : Int) (w : World) (e : Ending) (w' : World) : Prop := ∃ A c, e = .returned (.tuple #[.slice A xs.length c, .int .i64 q]) ∧ xs.length ≤ c ∧ Kd.C (Kd.int .i64) w' A xs.length xs ∧ Below w.heap.size w w'
end Go.Proofs.YthgfhgjlilmieaaGreat.G
namespace Go.Proofs.YthgfhgjlilmieaaGreat.B
open Go.RowKit Go.Proofs.YthgfhgjlilmieaaGreatW.PrintWords Go.Proofs.YthgfhgjlilmieaaGreatW.PrintLast Go.Proofs.YthgfhgjlilmieaaGreatW.PrintMore
attribute [local go_sem] max2_int min2_int max_two min_two max_three min_three max_four min_four
set_option linter.unusedVariables false
set_option linter.unusedSimpArgs false
mutual
def r6IsPart.l0 : Nat → List Int → List Int → Int → Option (Bool)
 | 0, _, _, _ => none
 | k + 1, x0, x1, x5 => if (wrap64 (x5 + (x0.length : Int))) ≤ (x1.length : Int) then (r6IsPart.j1 k x0 x1 x5 (decide ((x0.length : Int) > 0))) else (r6IsPart.j1 k x0 x1 x5 false)
def r6IsPart.j1 : Nat → List Int → List Int → Int → Bool → Option (Bool)
 | 0, _, _, _, _ => none
 | k + 1, x0, x1, x5, x17 => if x17 = true then (if 0 ≤ x5 then (if x5 ≤ (wrap64 (x5 + (x0.length : Int))) then (if (wrap64 (x5 + (x0.length : Int))) ≤ (x1.length : Int) then ((r2Same.f k x0 ((x1.take ((wrap64 (x5 + (x0.length : Int))) : Int).toNat).drop (x5 : Int).toNat)).bind fun t316 => (if t316 = true then (some true) else (r6IsPart.l0 k x0 x1 (wrap64 (x5 + 1))))) else (none)) else (none)) else (none)) else (some false)
end
def r6IsPart.f (k : Nat) (l0 : List Int) (l1 : List Int) : Option (Bool) := r6IsPart.l0 k l0 l1 0
set_option maxHeartbeats 8000000 in
set_option maxRecDepth 100000 in
theorem r6IsPart.calls (k : Nat) (A0 : Option Addr) (c0 : Nat) (l0 : List Int) (A1 : Option Addr) (c1 : Nat) (l1 : List Int) (r : Bool) (w : World) (hr0 : Kd.C (Kd.int .i64) w A0 l0.length l0) (hc0 : l0.length ≤ c0) (hr1 : Kd.C (Kd.int .i64) w A1 l1.length l1) (hc1 : l1.length ≤ c1) (h : r6IsPart.f k l0 l1 = some r) :
 Calls Tryz.prog 44 #[.slice A0 l0.length c0, .slice A1 l1.length c1] w fun e w' => e = .returned (.bool r) ∧ Drawn0 w w' := by
 have HR0 := Am hr0
 have HC0 := Am hc0
 clear hr0 hc0
 have HR1 := Am hr1
 have HC1 := Am hc1
 clear hr1 hc1
 have H : (r6IsPart.l0 k l0 l1 0) = some r := h
 clear h
 have H' := Am H
 clear H
 go_enter Tryz.func44, Tryz.ntmps44
 go_wp2
 go_loopg [5] k (fun kq v5 w' => ∃ (x5_1 : Int), v5 = .int .i64 x5_1 ∧ Aside0 (r6IsPart.l0 kq l0 l1 x5_1 = some r) ∧ Aside0 (kq ≤ k) ∧ Drawn0 w w')
 case atStart => exact ⟨(0), (by first | rfl | (simp; done) | (simp [*]; done)), H', ⟨Nat.le_refl _⟩, by repeat (first | exact Drawn0.refl _ | apply Drawn0.step)⟩
 case round =>
  clear H'
  try clear c1
  try clear p2
  obtain ⟨x5_1, rfl, HA, HK1, ⟨m1, rfl⟩⟩ := hrel
  cases gk with
  | zero => exact absurd HA.out (by simp [r6IsPart.l0])
  | succ k1 =>
   have H := HA.out
   clear HA
   simp only [r6IsPart.l0] at H
   have HC3 := Am H
   clear H
   go_upto_region 2 with (fail)
   go_cut [17] (fun v17 wc => ∃ (kq : Nat) (x17_2 : Bool), v17 = .bool x17_2 ∧ Aside0 (r6IsPart.j1 kq l0 l1 x5_1 x17_2 = some r) ∧ Aside0 (kq ≤ k1) ∧ Drawn0 w wc)
   case first =>
    have H := HC3.out
    clear HC3
    by_cases c4 : (wrap64 (x5_1 + (l0.length : Int))) ≤ (l1.length : Int)
    ·rw [if_pos c4] at H
     have c4b0 : decide ((wrap64 (x5_1 + (l0.length : Int))) ≤ (l1.length : Int)) = true := decide_eq_true c4
     clear c4
     (first | rw [c4b0] | (simp only [i64_w, i32_w]; rw [c4b0]) | skip)
     have H' := Am H
     clear H
     go_wp2
     go_meet
     case rel => exact ⟨_, (decide ((l0.length : Int) > 0)), (by first | rfl | (simp; done) | (simp [*]; done)), H', ⟨by have := HK1.out; first | omega | exact Nat.le_refl _⟩, by repeat (first | exact Drawn0.refl _ | apply Drawn0.step)⟩
    ·rw [if_neg c4] at H
     have c4b0 : decide ((wrap64 (x5_1 + (l0.length : Int))) ≤ (l1.length : Int)) = false := decide_eq_false c4
     clear c4
     (first | rw [c4b0] | (simp only [i64_w, i32_w]; rw [c4b0]) | skip)
     have H' := Am H
     clear H
     go_wp2
     go_meet
     case rel => exact ⟨_, (false), (by first | rfl | (simp; done) | (simp [*]; done)), H', ⟨by have := HK1.out; first | omega | exact Nat.le_refl _⟩, by repeat (first | exact Drawn0.refl _ | apply Drawn0.step)⟩
   case rest =>
    clear HC3
    try clear c1
    try clear p2
    try clear c4
    try clear c4b0
    try clear p2
    obtain ⟨kq, x17_2, rfl, HA, HJ2, ⟨mc2, rfl⟩⟩ := hcut
    cases kq with
    | zero => exact absurd HA.out (by simp [r6IsPart.j1])
    | succ kj2 =>
     have H := HA.out
     clear HA
     simp only [r6IsPart.j1] at H
     by_cases c5 : x17_2 = true
     ·subst c5
      have H1 : (if 0 ≤ x5_1 then (if x5_1 ≤ (wrap64 (x5_1 + (l0.length : Int))) then (if (wrap64 (x5_1 + (l0.length : Int))) ≤ (l1.length : Int) then ((r2Same.f kj2 l0 ((l1.take ((wrap64 (x5_1 + (l0.length : Int))) : Int).toNat).drop (x5_1 : Int).toNat)).bind fun t316 => (if t316 = true then (some true) else (r6IsPart.l0 kj2 l0 l1 (wrap64 (x5_1 + 1))))) else (none)) else (none)) else (none)) = some r := by rw [if_pos rfl] at H; exact H
      clear H
      have H := H1
      clear H1
      by_cases c6 : 0 ≤ x5_1
      ·rw [if_pos c6] at H
       have c6b0 := eq_true c6
       have c6b1 : decide (0 ≤ x5_1) = true := decide_eq_true c6
       clear c6
       by_cases c7 : x5_1 ≤ (wrap64 (x5_1 + (l0.length : Int)))
       ·rw [if_pos c7] at H
        have c7b0 := eq_true c7
        have c7b1 : decide (x5_1 ≤ (wrap64 (x5_1 + (l0.length : Int)))) = true := decide_eq_true c7
        by_cases c8 : (wrap64 (x5_1 + (l0.length : Int))) ≤ (l1.length : Int)
        ·rw [if_pos c8] at H
         have c8b0 := eq_true c8
         have c8b1 : decide ((wrap64 (x5_1 + (l0.length : Int))) ≤ (l1.length : Int)) = true := decide_eq_true c8
         replace H := Option.bind_eq_some_iff.mp H
         obtain ⟨t316, A90, H⟩ := H
         replace H : (if t316 = true then (some true) else (r6IsPart.l0 kj2 l0 l1 (wrap64 (x5_1 + 1)))) = some r := H
         have A9 := Am A90
         clear A90
         by_cases c10 : t316 = true
         ·subst c10
          have H1 : (some true) = some r := by rw [if_pos rfl] at H; exact H
          clear H
          have H := H1
          clear H1
          obtain rfl := Option.some.inj H
          obtain ⟨i011, hi011, _, hsz11, _⟩ := info_parts info3
          obtain ⟨A11, hcut11, hA11, hC11⟩ := print_mid_of (P := Tryz.prog) (Value.int .i64) 0 25 3 .i64 .i64 Tryz.underlying25 hi011 hsz11 A1 c1 l1 x5_1 (wrap64 (x5_1 + (l0.length : Int))) (of_decide_eq_true (by first | (with_reducible assumption) | assumption)) (by first | omega | exact of_decide_eq_true (by first | (with_reducible assumption) | assumption)) (of_decide_eq_true (by first | (with_reducible assumption) | assumption)) HC1.out
          have HR315 := Am (Kd.C_of_reads (h1 := fun _ => rfl) (hA11 _ (Kd.reads_of_C HR1.out)))
          have HC315 := Am hC11
          clear hA11 hC11 hi011 hsz11
          go_wp2_with (first | ((with_reducible refine gate_callee (f := 24) rfl ?_); refine goesL_ (some 28) rfl rfl Tryz.func24 (by kernel_rfl) rfl #[.slice A0 l0.length c0, .slice A11 ((l1.take ((wrap64 (x5_1 + (l0.length : Int))) : Int).toNat).drop (x5_1 : Int).toNat).length (c1 - x5_1.toNat)] rfl (by (try simp only [List.map_toArray, List.map_cons, List.map_nil]); first | done | (rw [show ((l1.take ((wrap64 (x5_1 + (l0.length : Int))) : Int).toNat).drop (x5_1 : Int).toNat).length = ((wrap64 (x5_1 + (l0.length : Int))).toNat - x5_1.toNat) from (by rw [List.length_drop, List.length_take]; have h_ : ((wrap64 (x5_1 + (l0.length : Int))) : Int) ≤ (l1.length : Int) := of_decide_eq_true (by first | (with_reducible assumption) | assumption); omega)] <;> rfl) | rfl | (simp only [List.length_drop, List.length_take]; rfl)) ?_; (with_reducible refine (r2Same.calls kj2 _ _ l0 _ _ ((l1.take ((wrap64 (x5_1 + (l0.length : Int))) : Int).toNat).drop (x5_1 : Int).toNat) true _ ?side1 ?side2 ?side3 ?side4 A9.out).mono ?_); (case side1 => repeat (first | exact HR0.out | (with_reducible refine Kd.C_alloc ?_ _) | (with_reducible refine Kd.C_drewN ?_ _) | (with_reducible refine Kd.C_drew ?_))); (case side2 => exact HC0.out); (case side3 => repeat (first | exact HR315.out | (with_reducible refine Kd.C_alloc ?_ _) | (with_reducible refine Kd.C_drewN ?_ _) | (with_reducible refine Kd.C_drew ?_))); (case side4 => exact HC315.out); rintro e w' ⟨rfl, ⟨nd, rfl⟩⟩; refine ⟨_, rfl, ?_⟩))
          go_ret
          exact ⟨by first | rfl | (simp; done) | (simp [*]; done), by repeat (first | exact Drawn0.refl _ | apply Drawn0.step)⟩
         ·replace c10 := Bool.eq_false_iff.mpr c10
          subst c10
          have H1 : (r6IsPart.l0 kj2 l0 l1 (wrap64 (x5_1 + 1))) = some r := by rw [if_neg (show ¬ (false = true) by decide)] at H; exact H
          clear H
          have H := H1
          clear H1
          have H' := Am H
          clear H
          obtain ⟨i012, hi012, _, hsz12, _⟩ := info_parts info3
          obtain ⟨A12, hcut12, hA12, hC12⟩ := print_mid_of (P := Tryz.prog) (Value.int .i64) 0 25 3 .i64 .i64 Tryz.underlying25 hi012 hsz12 A1 c1 l1 x5_1 (wrap64 (x5_1 + (l0.length : Int))) (of_decide_eq_true (by first | (with_reducible assumption) | assumption)) (by first | omega | exact of_decide_eq_true (by first | (with_reducible assumption) | assumption)) (of_decide_eq_true (by first | (with_reducible assumption) | assumption)) HC1.out
          have HR315 := Am (Kd.C_of_reads (h1 := fun _ => rfl) (hA12 _ (Kd.reads_of_C HR1.out)))
          have HC315 := Am hC12
          clear hA12 hC12 hi012 hsz12
          go_wp2_with (first | ((with_reducible refine gate_callee (f := 24) rfl ?_); refine goesL_ (some 28) rfl rfl Tryz.func24 (by kernel_rfl) rfl #[.slice A0 l0.length c0, .slice A12 ((l1.take ((wrap64 (x5_1 + (l0.length : Int))) : Int).toNat).drop (x5_1 : Int).toNat).length (c1 - x5_1.toNat)] rfl (by (try simp only [List.map_toArray, List.map_cons, List.map_nil]); first | done | (rw [show ((l1.take ((wrap64 (x5_1 + (l0.length : Int))) : Int).toNat).drop (x5_1 : Int).toNat).length = ((wrap64 (x5_1 + (l0.length : Int))).toNat - x5_1.toNat) from (by rw [List.length_drop, List.length_take]; have h_ : ((wrap64 (x5_1 + (l0.length : Int))) : Int) ≤ (l1.length : Int) := of_decide_eq_true (by first | (with_reducible assumption) | assumption); omega)] <;> rfl) | rfl | (simp only [List.length_drop, List.length_take]; rfl)) ?_; (with_reducible refine (r2Same.calls kj2 _ _ l0 _ _ ((l1.take ((wrap64 (x5_1 + (l0.length : Int))) : Int).toNat).drop (x5_1 : Int).toNat) false _ ?side1 ?side2 ?side3 ?side4 A9.out).mono ?_); (case side1 => repeat (first | exact HR0.out | (with_reducible refine Kd.C_alloc ?_ _) | (with_reducible refine Kd.C_drewN ?_ _) | (with_reducible refine Kd.C_drew ?_))); (case side2 => exact HC0.out); (case side3 => repeat (first | exact HR315.out | (with_reducible refine Kd.C_alloc ?_ _) | (with_reducible refine Kd.C_drewN ?_ _) | (with_reducible refine Kd.C_drew ?_))); (case side4 => exact HC315.out); rintro e w' ⟨rfl, ⟨nd, rfl⟩⟩; refine ⟨_, rfl, ?_⟩))
          go_roundg kj2
          case measure => have := HK1.out; have := HJ2.out; omega
          case rel => exact ⟨(wrap64 (x5_1 + 1)), (by first | rfl | (simp; done) | (simp [*]; done)), H', ⟨by have := HK1.out; have := HJ2.out; omega⟩, by repeat (first | exact Drawn0.refl _ | apply Drawn0.step)⟩
        ·rw [if_neg c8] at H
         exact absurd H (by simp)
       ·rw [if_neg c7] at H
        exact absurd H (by simp)
      ·rw [if_neg c6] at H
       exact absurd H (by simp)
     ·replace c5 := Bool.eq_false_iff.mpr c5
      subst c5
      have H1 : (some false) = some r := by rw [if_neg (show ¬ (false = true) by decide)] at H; exact H
      clear H
      have H := H1
      clear H1
      obtain rfl := Option.some.inj H
      go_wp2
      go_ret
      exact ⟨by first | rfl | (simp; done) | (simp [*]; done), by repeat (first | exact Drawn0.refl _ | apply Drawn0.step)⟩
mutual
def r6Before.l0 : Nat → List Int → List Int → Int → Option (Bool)
 | 0, _, _, _ => none
 | k + 1, x0, x1, x5 => if x5 < (x0.length : Int) then (r6Before.j1 k x0 x1 x5 (decide (x5 < (x1.length : Int)))) else (r6Before.j1 k x0 x1 x5 false)
def r6Before.j1 : Nat → List Int → List Int → Int → Bool → Option (Bool)
 | 0, _, _, _, _ => none
 | k + 1, x0, x1, x5, x15 => if x15 = true then (if 0 ≤ x5 then (if x5 < (x0.length : Int) then (if x5 < (x1.length : Int) then (if (rd x0 x5) = (rd x1 x5) then (r6Before.l0 k x0 x1 (wrap64 (x5 + 1))) else (some (decide ((rd x0 x5) < (rd x1 x5))))) else (none)) else (none)) else (none)) else (some (decide ((x0.length : Int) < (x1.length : Int))))
end
def r6Before.f (k : Nat) (l0 : List Int) (l1 : List Int) : Option (Bool) := r6Before.l0 k l0 l1 0
set_option maxHeartbeats 8000000 in
set_option maxRecDepth 100000 in
theorem r6Before.calls (k : Nat) (A0 : Option Addr) (c0 : Nat) (l0 : List Int) (A1 : Option Addr) (c1 : Nat) (l1 : List Int) (r : Bool) (w : World) (hr0 : Kd.C (Kd.int .i64) w A0 l0.length l0) (hc0 : l0.length ≤ c0) (hr1 : Kd.C (Kd.int .i64) w A1 l1.length l1) (hc1 : l1.length ≤ c1) (h : r6Before.f k l0 l1 = some r) :
 Calls Tryz.prog 52 #[.slice A0 l0.length c0, .slice A1 l1.length c1] w fun e w' => e = .returned (.bool r) ∧ Drawn0 w w' := by
 have HR0 := Am hr0
 have HC0 := Am hc0
 clear hr0 hc0
 have HR1 := Am hr1
 have HC1 := Am hc1
 clear hr1 hc1
 have H : (r6Before.l0 k l0 l1 0) = some r := h
 clear h
 have H' := Am H
 clear H
 go_enter Tryz.func52, Tryz.ntmps52
 go_wp2
 repeat (go_quiet (fail); try go_wp2)
 go_loopg [5] k (fun kq v5 w' => ∃ (x5_1 : Int), v5 = .int .i64 x5_1 ∧ Aside0 (r6Before.l0 kq l0 l1 x5_1 = some r) ∧ Aside0 (kq ≤ k) ∧ Drawn0 w w')
 case atStart => exact ⟨(0), (by first | rfl | (simp; done) | (simp [*]; done)), H', ⟨Nat.le_refl _⟩, by repeat (first | exact Drawn0.refl _ | apply Drawn0.step)⟩
 case round =>
  clear H'
  try clear c1
  try clear p2
  obtain ⟨x5_1, rfl, HA, HK1, ⟨m1, rfl⟩⟩ := hrel
  cases gk with
  | zero => exact absurd HA.out (by simp [r6Before.l0])
  | succ k1 =>
   have H := HA.out
   clear HA
   simp only [r6Before.l0] at H
   have HC3 := Am H
   clear H
   go_upto_region 2 with (fail)
   repeat (go_quiet (fail); go_upto_region 2 with (fail))
   go_cut [15] (fun v15 wc => ∃ (kq : Nat) (x15_2 : Bool), v15 = .bool x15_2 ∧ Aside0 (r6Before.j1 kq l0 l1 x5_1 x15_2 = some r) ∧ Aside0 (kq ≤ k1) ∧ Drawn0 w wc)
   case first =>
    have H := HC3.out
    clear HC3
    by_cases c4 : x5_1 < (l0.length : Int)
    ·rw [if_pos c4] at H
     have c4b0 : decide (x5_1 < (l0.length : Int)) = true := decide_eq_true c4
     clear c4
     (first | rw [c4b0] | (simp only [i64_w, i32_w]; rw [c4b0]) | skip)
     have H' := Am H
     clear H
     go_wp2
     repeat (go_quiet (fail); try go_wp2)
     go_meet
     case rel => exact ⟨_, (decide (x5_1 < (l1.length : Int))), (by first | rfl | (simp; done) | (simp [*]; done)), H', ⟨by have := HK1.out; first | omega | exact Nat.le_refl _⟩, by repeat (first | exact Drawn0.refl _ | apply Drawn0.step)⟩
    ·rw [if_neg c4] at H
     have c4b0 : decide (x5_1 < (l0.length : Int)) = false := decide_eq_false c4
     clear c4
     (first | rw [c4b0] | (simp only [i64_w, i32_w]; rw [c4b0]) | skip)
     have H' := Am H
     clear H
     go_wp2
     repeat (go_quiet (fail); try go_wp2)
     go_meet
     case rel => exact ⟨_, (false), (by first | rfl | (simp; done) | (simp [*]; done)), H', ⟨by have := HK1.out; first | omega | exact Nat.le_refl _⟩, by repeat (first | exact Drawn0.refl _ | apply Drawn0.step)⟩
   case rest =>
    clear HC3
    try clear c1
    try clear p2
    try clear c4
    try clear c4b0
    try clear p2
    obtain ⟨kq, x15_2, rfl, HA, HJ2, ⟨mc2, rfl⟩⟩ := hcut
    cases kq with
    | zero => exact absurd HA.out (by simp [r6Before.j1])
    | succ kj2 =>
     have H := HA.out
     clear HA
     simp only [r6Before.j1] at H
     by_cases c5 : x15_2 = true
     ·subst c5
      have H1 : (if 0 ≤ x5_1 then (if x5_1 < (l0.length : Int) then (if x5_1 < (l1.length : Int) then (if (rd l0 x5_1) = (rd l1 x5_1) then (r6Before.l0 kj2 l0 l1 (wrap64 (x5_1 + 1))) else (some (decide ((rd l0 x5_1) < (rd l1 x5_1))))) else (none)) else (none)) else (none)) = some r := by rw [if_pos rfl] at H; exact H
      clear H
      have H := H1
      clear H1
      by_cases c6 : 0 ≤ x5_1
      ·rw [if_pos c6] at H
       have c6b0 : decide (0 ≤ x5_1) = true := decide_eq_true c6
       clear c6
       by_cases c7 : x5_1 < (l0.length : Int)
       ·rw [if_pos c7] at H
        have c7b0 : decide (x5_1 < (l0.length : Int)) = true := decide_eq_true c7
        clear c7
        by_cases c8 : x5_1 < (l1.length : Int)
        ·rw [if_pos c8] at H
         have c8b0 : decide (x5_1 < (l1.length : Int)) = true := decide_eq_true c8
         clear c8
         by_cases c9 : (rd l0 x5_1) = (rd l1 x5_1)
         ·rw [if_pos c9] at H
          have c9b0 : ((rd l0 x5_1) == (rd l1 x5_1)) = true := beq_iff_eq.mpr c9
          have c9b1 : ((rd l0 x5_1) != (rd l1 x5_1)) = false := bne_eq_false_iff_eq.mpr c9
          clear c9
          have H' := Am H
          clear H
          have p322 : 0 ≤ (x5_1 : Int) := of_decide_eq_true (by first | (with_reducible assumption) | assumption)
          have q322 : x5_1 < (l0.length : Int) := of_decide_eq_true (by first | (with_reducible assumption) | assumption)
          obtain ⟨ad322, e322, hx322_0⟩ := Kd.at_int HR0.out x5_1 p322 q322
          cases e322
          replace p322 := eq_true p322
          replace q322 := eq_true q322
          have p323 : 0 ≤ (x5_1 : Int) := of_decide_eq_true (by first | (with_reducible assumption) | assumption)
          have q323 : x5_1 < (l1.length : Int) := of_decide_eq_true (by first | (with_reducible assumption) | assumption)
          obtain ⟨ad323, e323, hx323_0⟩ := Kd.at_int HR1.out x5_1 p323 q323
          cases e323
          replace p323 := eq_true p323
          replace q323 := eq_true q323
          go_wp2
          repeat (go_quiet (fail); try go_wp2)
          go_roundg kj2
          case measure => have := HK1.out; have := HJ2.out; omega
          case rel => exact ⟨(wrap64 (x5_1 + 1)), (by first | rfl | (simp; done) | (simp [*]; done)), H', ⟨by have := HK1.out; have := HJ2.out; omega⟩, by repeat (first | exact Drawn0.refl _ | apply Drawn0.step)⟩
         ·rw [if_neg c9] at H
          have c9b0 : ((rd l0 x5_1) == (rd l1 x5_1)) = false := beq_eq_false_iff_ne.mpr c9
          have c9b1 : ((rd l0 x5_1) != (rd l1 x5_1)) = true := bne_iff_ne.mpr c9
          obtain rfl := Option.some.inj H
          have p322 : 0 ≤ (x5_1 : Int) := of_decide_eq_true (by first | (with_reducible assumption) | assumption)
          have q322 : x5_1 < (l0.length : Int) := of_decide_eq_true (by first | (with_reducible assumption) | assumption)
          obtain ⟨ad322, e322, hx322_0⟩ := Kd.at_int HR0.out x5_1 p322 q322
          cases e322
          replace p322 := eq_true p322
          replace q322 := eq_true q322
          have p323 : 0 ≤ (x5_1 : Int) := of_decide_eq_true (by first | (with_reducible assumption) | assumption)
          have q323 : x5_1 < (l1.length : Int) := of_decide_eq_true (by first | (with_reducible assumption) | assumption)
          obtain ⟨ad323, e323, hx323_0⟩ := Kd.at_int HR1.out x5_1 p323 q323
          cases e323
          replace p323 := eq_true p323
          replace q323 := eq_true q323
          have p324 : 0 ≤ (x5_1 : Int) := of_decide_eq_true (by first | (with_reducible assumption) | assumption)
          have q324 : x5_1 < (l0.length : Int) := of_decide_eq_true (by first | (with_reducible assumption) | assumption)
          obtain ⟨ad324, e324, hx324_0⟩ := Kd.at_int HR0.out x5_1 p324 q324
          obtain rfl : ad322 = ad324 := (by injection e324)
          replace p324 := eq_true p324
          replace q324 := eq_true q324
          have p325 : 0 ≤ (x5_1 : Int) := of_decide_eq_true (by first | (with_reducible assumption) | assumption)
          have q325 : x5_1 < (l1.length : Int) := of_decide_eq_true (by first | (with_reducible assumption) | assumption)
          obtain ⟨ad325, e325, hx325_0⟩ := Kd.at_int HR1.out x5_1 p325 q325
          obtain rfl : ad323 = ad325 := (by injection e325)
          replace p325 := eq_true p325
          replace q325 := eq_true q325
          go_wp2
          repeat (go_quiet (fail); try go_wp2)
          go_ret
          exact ⟨by first | rfl | (simp; done) | (simp [*]; done), by repeat (first | exact Drawn0.refl _ | apply Drawn0.step)⟩
        ·rw [if_neg c8] at H
         exact absurd H (by simp)
       ·rw [if_neg c7] at H
        exact absurd H (by simp)
      ·rw [if_neg c6] at H
       exact absurd H (by simp)
     ·replace c5 := Bool.eq_false_iff.mpr c5
      subst c5
      have H1 : (some (decide ((l0.length : Int) < (l1.length : Int)))) = some r := by rw [if_neg (show ¬ (false = true) by decide)] at H; exact H
      clear H
      have H := H1
      clear H1
      obtain rfl := Option.some.inj H
      go_wp2
      repeat (go_quiet (fail); try go_wp2)
      go_ret
      exact ⟨by first | rfl | (simp; done) | (simp [*]; done), by repeat (first | exact Drawn0.refl _ | apply Drawn0.step)⟩
end Go.Proofs.YthgfhgjlilmieaaGreat.B
namespace Go.Proofs.YthgfhgjlilmieaaGreat.G
open Go.RowKit Go.Shelf Go.Proofs.YthgfhgjlilmieaaGreatW.PrintWords Go.Proofs.YthgfhgjlilmieaaGreatW.PrintLast Go.Proofs.YthgfhgjlilmieaaGreatW.PrintMore
open Go.Proofs.YthgfhgjlilmieaaGreat.B
set_option linter.unusedVariables false
set_option linter.unusedSimpArgs false
theorem masked27_at (a : LV) (l : Lg) (n : Int) (w : World) (hL : LogAt w a l) : Calls Tryz.prog 27 #[logV a l, .int .i64 n] w (OwnP (mskL l n) (mskE l n) w) := (masked_any a l n w hL).mono fun e w' ⟨v, he, hR, hb⟩ => by
 obtain ⟨A, c, rfl, hl, hC⟩ := Kd.R_reads hR
 exact ⟨A, c, he, hl, hC, hb⟩
theorem mem_compT (t : List Int) (tss : List (List Int)) : t ∈ compT tss ↔ t ∈ tss := by
 unfold compT idxT
 rw [List.mem_map]
 constructor
 ·rintro ⟨j, hj, rfl⟩
  have := List.mem_range.1 (List.mem_filter.1 hj).1
  rw [List.getD_eq_getElem?_getD, List.getElem?_eq_getElem this]
  exact List.getElem_mem this
 ·intro h
  obtain ⟨j, hj, rfl⟩ := List.getElem_of_mem h
  induction j with
  | zero => exact ⟨0, List.mem_filter.2 ⟨List.mem_range.2 hj, rfl⟩, by simp [List.getD_eq_getElem?_getD, hj]⟩
  | succ j ih =>
    cases hk : (tss.getD (j + 1) [] == tss.getD j []) with
    | true =>
      obtain ⟨m, h1, h2⟩ := ih (by omega) (List.getElem_mem (by omega))
      refine ⟨m, h1, h2.trans ?_⟩
      have : tss.getD (j + 1) [] = tss.getD j [] := by simpa using hk
      rw [List.getD_eq_getElem?_getD, List.getD_eq_getElem?_getD, List.getElem?_eq_getElem hj, List.getElem?_eq_getElem (by omega)] at this
      simpa using this.symm
    | false => exact ⟨j + 1, List.mem_filter.2 ⟨List.mem_range.2 hj, keepT_pos (by simpa using hk)⟩, by simp [List.getD_eq_getElem?_getD, hj]⟩
theorem mem_heardL (l : Lg) (h : Int) (t : List Int) : t ∈ heardL l h ↔ t ∈ partsL l h := by
 unfold heardL
 rw [mem_compT]
 unfold sortT
 exact List.mem_mergeSort
theorem inR_rec {l : Lg} {r : Nat} (h : r < l.rc.length) : inR (r : Int) 0 ((l.rc.length : Int) - 1) = true := by
  simp only [inR, Bool.and_eq_true, decide_eq_true_eq]; omega
structure VF (l : Lg) (r : Nat) (v a : Int) : Prop where
 ask : askE l r = 0
 val : v = 1 ∨ v = 2 ∨ v = 3
 m : mskE l r = 0 ∨ mskE l r = 7
 o : ownL l r = [] → v = 2
 n : mskE l r = 7 → v = 1
 f : a < 0 → v ≠ 1 ∧ mskE l r = 0
 t : 0 ≤ a → v ≠ 2 ∧ (ownL l r).contains a = true
theorem mem_lows (t : List Int) (x : List Int) : x ∈ lows t 0 ↔ ∃ lo hi, lo < hi ∧ hi ≤ t.length ∧ x = partOf t lo hi := by
 unfold lows highs
 simp only [List.mem_flatMap, List.mem_map, List.mem_range'_1]
 constructor
 ·rintro ⟨lo, h1, hi, h2, rfl⟩
  exact ⟨lo, hi, by omega, by omega, rfl⟩
 ·rintro ⟨lo, hi, h1, h2, rfl⟩
  exact ⟨lo, by omega, hi, by omega, rfl⟩
theorem mem_partsL (l : Lg) (b : Int) (x : List Int) : x ∈ partsL l b ↔ ∃ s, s ∈ l.jn ∧ heardB l s b = true ∧ ∃ lo hi, lo < hi ∧ hi ≤ s.f2.length ∧ x = partOf s.f2 lo hi := by
 unfold partsL jns
 simp only [List.drop_zero, List.mem_flatMap]
 constructor
 ·rintro ⟨s, h1, h2⟩
  split at h2
  ·rename_i hs
   exact ⟨s, h1, hs, (mem_lows _ _).1 h2⟩
  ·cases h2
 ·rintro ⟨s, h1, h2, h3⟩
  exact ⟨s, h1, by rw [if_pos h2]; exact (mem_lows _ _).2 h3⟩
theorem partOf_len (t : List Int) {lo hi : Nat} (h : hi ≤ t.length) : (partOf t lo hi).length = hi - lo := by
  unfold partOf
  rw [List.length_drop, List.length_take]
  omega
def partB (t s : List Int) : Bool := decide (0 < t.length) && (List.range (s.length + 1 - t.length)).any fun (k : Nat) => t == (s.take (k + t.length)).drop k
theorem partB_of (s : List Int) {lo hi : Nat} (h1 : lo < hi) (h : hi ≤ s.length) : partB (partOf s lo hi) s = true := by
  unfold partB
  rw [partOf_len s h, Bool.and_eq_true, decide_eq_true_eq, List.any_eq_true]
  refine ⟨by omega, lo, List.mem_range.2 (by omega), ?_⟩
  rw [show lo + (hi - lo) = hi by omega]
  simp [partOf]
structure PF (l : Lg) (b : Int) (t : List Int) : Prop where
 found : (l.jn.any fun s => decide (s.f0 < b) && partB t s.f2) = true
 tail : 1 < t.length → t.drop 1 ∈ heardL l b
 init : 1 < t.length → t.take (t.length - 1) ∈ heardL l b
theorem wrap_add (i n : Nat) (h : i + n ≤ 9223372036854775807) : wrap64 ((i : Int) + (n : Int)) = ((i + n : Nat) : Int) := by
 unfold wrap64; omega
theorem isPart_l (t s : List Int) (hb : s.length + t.length + 1 ≤ 9223372036854775807) : ∀ (d i k : Nat), d = s.length + 1 - i → i ≤ s.length + 1 → 2 * d + t.length + 2 ≤ k → r6IsPart.l0 k t s i = some (decide (0 < t.length) && (List.range' i (s.length + 1 - t.length - i)).any fun (k : Nat) => t == (s.take (k + t.length)).drop k) := by
  intro d
  induction d with
  | zero =>
    intro i k hd hi hk
    obtain ⟨k, rfl⟩ : ∃ m, k = m + 1 + 1 := ⟨k - 2, by omega⟩
    simp only [r6IsPart.l0, r6IsPart.j1]
    rw [wrap_add i t.length (by omega), if_neg (by omega), if_neg (by simp), show s.length + 1 - t.length - i = 0 by omega]
    simp
  | succ d ih =>
    intro i k hd hi hk
    obtain ⟨k, rfl⟩ : ∃ m, k = m + 1 + 1 := ⟨k - 2, by omega⟩
    simp only [r6IsPart.l0, r6IsPart.j1]
    rw [wrap_add i t.length (by omega)]
    by_cases h : i + t.length ≤ s.length
    ·rw [if_pos (by omega)]
     by_cases h0 : 0 < t.length
     ·rw [decide_eq_true (show (t.length : Int) > 0 by omega), if_pos rfl, if_pos (by omega), if_pos (by omega), if_pos (by omega), Int.toNat_natCast, Int.toNat_natCast, same_f t _ (by omega) k (by omega), Option.bind_some, decide_eq_true h0, Bool.true_and, show s.length + 1 - t.length - i = (s.length + 1 - t.length - (i + 1)) + 1 by omega, List.range'_succ, List.any_cons]
      cases hq : (t == (s.take (i + t.length)).drop i) with
      | true => simp
      | false =>
        rw [if_neg (by simp), Bool.false_or, wrap_nat i (i + 1) (by omega) (by omega)]
        have := ih (i + 1) k (by omega) (by omega) (by omega)
        rw [decide_eq_true h0, Bool.true_and] at this
        exact this
     ·rw [decide_eq_false (show ¬ (t.length : Int) > 0 by omega), if_neg (by simp), decide_eq_false h0]
      simp
    ·rw [if_neg (by omega), if_neg (by simp), show s.length + 1 - t.length - i = 0 by omega]
     simp
def LlsP (xs : List (List Int)) (q : Int) (w : World) (e : Ending) (w' : World) : Prop := ∃ A c, e = .returned (.tuple #[.slice A xs.length c, .int .i64 q]) ∧ xs.length ≤ c ∧ Kd.C (Kd.slice 3 (Kd.int .i64)) w' A xs.length xs ∧ Below w.heap.size w w'
theorem heard26_at (a : LV) (l : Lg) (h : Int) (w : World) (hL : LogAt w a l) : Calls Tryz.prog 26 #[logV a l, .int .i64 h] w (LlsP (heaL l h) (heaE l h) w) := (hears_any a l h w hL).mono fun e w' ⟨v, he, hR, hb⟩ => by
 obtain ⟨A, c, rfl, hl, hC⟩ := Kd.R_reads hR
 exact ⟨A, c, he, hl, hC, hb⟩
structure Wy (ES : List (Int × Int)) (J R : Nat) (out : List Int) (n : Nat) (u : List Bool) (bs : List Int) : Prop where
 len : bs.length = n
 no : ∀ (i : Nat) (b : Int), bs[i]? = some b → outB out ((R : Int) - n + i) = true → b = -2
 yes : ∀ (i : Nat) (b : Int), bs[i]? = some b → outB out ((R : Int) - n + i) = false → -1 ≤ b ∧ b < J ∧ ((R : Int) - n + i, b) ∈ ES ∧ (b ≠ -1 → u.getD b.toNat false = false)
 two : ∀ (i j : Nat) (b : Int), i < j → bs[i]? = some b → bs[j]? = some b → b < 0
def Feas (ES : List (Int × Int)) (J R : Nat) (out : List Int) : Prop := ∃ bs, Wy ES J R out R u0 bs
structure Picks (R m from_ : Nat) (ps : List Int) : Prop where
 len : ps.length = m
 lt : ps.Pairwise (· < ·)
 rng : ∀ p, p ∈ ps → (from_ : Int) ≤ p ∧ p < R
inductive LexLe : List Int → List Int → Prop
 | refl (xs : List Int) : LexLe xs xs
 | lt (x y : Int) (xs ys : List Int) : x < y → LexLe (x :: xs) (y :: ys)
 | cons (x : Int) (xs ys : List Int) : LexLe xs ys → LexLe (x :: xs) (x :: ys)
structure LvOk (l : Lg) (ps : List Int) : Prop where
 picks : Picks l.rc.length ps.length 0 ps
 feas : Feas (esK l l.rc.length) l.jn.length l.rc.length ps
 short : ∀ k, k < ps.length → ∀ qs, Picks l.rc.length k 0 qs → ¬ Feas (esK l l.rc.length) l.jn.length l.rc.length qs
 first : ∀ qs, Picks l.rc.length ps.length 0 qs → Feas (esK l l.rc.length) l.jn.length l.rc.length qs → LexLe ps qs
structure LeLog (l l' : Lg) : Prop where
 ls : l'.ls = l.ls
 jn : l'.jn = l.jn
 rc : l'.rc = l.rc
 errs : l.errs ≤ l'.errs
 sees : ∀ s b, heardB l s b = true → heardB l' s b = true
theorem reads_le {l l' : Lg} (h : LeLog l l') {t : List Int} {r : ByteArray} (hr : readsB l t r = true) : readsB l' t r = true := by
  unfold readsB at *
  rw [h.ls]
  simp only [Bool.and_eq_true, decide_eq_true_eq] at *
  exact ⟨hr.1, by have := h.errs; omega⟩
theorem stat_le {l l' : Lg} (h : LeLog l l') {r : S75} {b : Int} (hb : b ∈ statL l r) : b ∈ statL l' r := by
  simp only [statL, statK, List.mem_map, List.mem_filter, hitB, Bool.and_eq_true] at *
  obtain ⟨i, ⟨h1, h2, h3⟩, rfl⟩ := hb
  rw [h.jn]
  exact ⟨i, ⟨h1, h2, reads_le h h3⟩, rfl⟩
theorem own_le {l l' : Lg} (h : LeLog l l') (h1 : logE l = 0) (h2 : logE l' = 0) {r : Nat} (hr : r < l.rc.length) : (ownL l r).all ((ownL l' r).contains ·) = true := by
  rw [own_in (ask_in h1 (inR_rec hr)), own_in (ask_in h2 (inR_rec (by rw [h.rc]; exact hr))), List.all_eq_true]
  intro b hb
  rw [List.contains_iff_mem, h.rc]
  exact stat_le h hb
def keepI (out : List Int) (k : Nat) : List Nat := (List.range k).filter fun (i : Nat) => !out.contains (i : Int)
def woK (l : Lg) (out : List Int) (k : Nat) : List S75 := (keepI out k).map fun (i : Nat) => rd_T75 l.rc (i : Int)
def woL (l : Lg) (out : List Int) : Lg := { l with rc := woK l out l.rc.length }
def beforeB : List Int → List Int → Bool
 | [], [] => false
 | [], _ :: _ => true
 | _ :: _, [] => false
 | x :: xs, y :: ys => if x = y then beforeB xs ys else decide (x < y)
theorem before_l (xs ys : List Int) (hx : xs.length ≤ 9223372036854775807) : ∀ (d i k : Nat), d = xs.length - i → i ≤ xs.length → i ≤ ys.length → 2 * d + 2 ≤ k → r6Before.l0 k xs ys i = some (beforeB (xs.drop i) (ys.drop i)) := by
 intro d
 induction d with
 | zero =>
   intro i k hd hi hj hk
   obtain ⟨k, rfl⟩ : ∃ m, k = m + 1 + 1 := ⟨k - 2, by omega⟩
   simp only [r6Before.l0, r6Before.j1]
   rw [if_neg (by omega), if_neg (by simp)]
   have e : xs.drop i = [] := List.drop_eq_nil_of_le (by omega)
   rw [e]
   by_cases h : i < ys.length
   ·rw [List.drop_eq_getElem_cons h]
    simp only [beforeB]
    rw [decide_eq_true (by omega)]
   ·rw [List.drop_eq_nil_of_le (show ys.length ≤ i by omega)]
    simp only [beforeB]
    rw [decide_eq_false (by omega)]
 | succ d ih =>
   intro i k hd hi hj hk
   obtain ⟨k, rfl⟩ : ∃ m, k = m + 1 + 1 := ⟨k - 2, by omega⟩
   have h1 : i < xs.length := by omega
   simp only [r6Before.l0, r6Before.j1]
   rw [if_pos (by omega)]
   by_cases h : i < ys.length
   ·rw [decide_eq_true (show (i : Int) < (ys.length : Int) by omega), if_pos rfl, if_pos (by omega), if_pos (by omega), if_pos (by omega), rd_nat xs i h1, rd_nat ys i h, List.drop_eq_getElem_cons h1, List.drop_eq_getElem_cons h]
    simp only [beforeB]
    by_cases e : xs[i] = ys[i]
    ·rw [if_pos e, if_pos e, wrap_nat i xs.length h1 hx]
     exact ih (i + 1) k (by omega) (by omega) (by omega) (by omega)
    ·rw [if_neg e, if_neg e]
   ·rw [decide_eq_false (show ¬ (i : Int) < (ys.length : Int) by omega), if_neg (by simp), List.drop_eq_getElem_cons h1, List.drop_eq_nil_of_le (show ys.length ≤ i by omega)]
    simp only [beforeB]
    rw [decide_eq_false (by omega)]
def shortB (xs ys : List Int) : Bool := if xs.length < ys.length then true else if xs.length = ys.length then beforeB xs ys else false
structure LF (l : Lg) (tried : List Int) : Prop where
 len : (leaveL l).length ≤ l.rc.length
 f : asgE (woL l (leaveL l)) = 0
 g : asgE (woL l tried) = 0 ∨ asgE (woL l tried) = 11
 s : asgE (woL l tried) = 0 → shortB tried (leaveL l) = false
def ltT (x y : List Int) : Prop := cmpT x y < 0
theorem ltT_irr (x : List Int) : ¬ ltT x x := fun h => by
 have := cmpT_anti x x
 unfold ltT at h
 omega
theorem compT_strict {tss : List (List Int)} (h : tss.Pairwise fun a b => leT a b = true) : (compT tss).Pairwise ltT := by
  unfold compT
  rw [List.pairwise_map]
  unfold idxT
  have h0 : ((List.range tss.length).filter (keepT tss)).Pairwise (· < ·) := List.Pairwise.filter _ List.pairwise_lt_range
  have hs : ∀ (i j : Nat), i < j → j < tss.length → leT (tss.getD i []) (tss.getD j []) = true := fun i j h1 h2 => by
   have := List.pairwise_iff_getElem.1 h i j (by omega) h2 h1
   simpa [List.getD_eq_getElem?_getD, h2, show i < tss.length by omega] using this
  refine (List.Pairwise.and_mem.1 h0).imp ?_
  rintro i j ⟨hi, hj, hlt⟩
  obtain ⟨hi1, hi2⟩ := List.mem_filter.1 hi
  obtain ⟨hj1, hj2⟩ := List.mem_filter.1 hj
  have hj3 := List.mem_range.1 hj1
  have hle := hs i j hlt hj3
  by_cases e : cmpT (tss.getD i []) (tss.getD j []) = 0
  ·exfalso
   have e1 := cmpT_eq _ _ e
   have e2 : tss.getD (j - 1) [] = tss.getD j [] := by
    by_cases hij : i = j - 1
    ·rw [← hij]; exact e1
    ·have a1 := hs i (j - 1) (by omega) (by omega)
     have a2 := hs (j - 1) j (by omega) hj3
     rw [e1] at a1
     exact leT_anti _ _ a2 a1
   rw [keepT_neg (by omega) (by rw [e2]; simp)] at hj2
   cases hj2
  ·simp only [leT, decide_eq_true_eq] at hle
   show cmpT _ _ < 0
   omega
theorem strict_unique {xs ys : List (List Int)} (hx : xs.Pairwise ltT) (hy : ys.Pairwise ltT) (hm : ∀ t, t ∈ xs ↔ t ∈ ys) : xs = ys := by
  have nd : ∀ {zs : List (List Int)}, zs.Pairwise ltT → zs.Nodup := fun h => h.imp (fun {a b} hab e => by subst e; exact ltT_irr _ hab)
  have le : ∀ {zs : List (List Int)}, zs.Pairwise ltT → zs.Pairwise fun a b => leT a b = true := fun h => h.imp (fun {a b} hab => by simp only [leT, decide_eq_true_eq]; unfold ltT at hab; omega)
  have hp : xs.Perm ys := (List.perm_ext_iff_of_nodup (nd hx) (nd hy)).2 (fun t => hm t)
  exact hp.eq_of_pairwise (fun a b _ _ h1 h2 => leT_anti a b h1 h2) (le hx) (le hy)
theorem heardL_strict (l : Lg) (h : Int) : (heardL l h).Pairwise ltT := compT_strict (sortT_sorted _)
def heardR (l : Lg) (s : S76) (h : Int) : Bool := decide (0 ≤ rd l.sees s.f1) && (decide (rd l.sees s.f1 ≤ s.f0) && decide (s.f0 < h))
def canB (l : Lg) (t : List Int) (h : Int) : Bool := l.jn.any fun s => heardR l s h && partB t s.f2
def insT (t : List Int) : List (List Int) → List (List Int)
 | [] => [t]
 | x :: xs => if beforeB t x = true then t :: x :: xs else x :: insT t xs
def putT (xs : List (List Int)) (t : List Int) : List (List Int) := if xs.contains t then xs else insT t xs
def cutT (t : List Int) (k n : Nat) : List Int := (t.take (k + n)).drop k
def lvlS (l : Lg) (h : Int) (n : Nat) (t : List Int) (lev : List (List Int)) : Nat → List (List Int)
 | 0 => lev
 | k + 1 => if canB l (cutT t k n) h = true then putT (lvlS l h n t lev k) (cutT t k n) else lvlS l h n t lev k
def lvlJ (l : Lg) (h : Int) (n : Nat) : Nat → List (List Int)
 | 0 => []
 | j + 1 => lvlS l h n (rd_T76 l.jn (j : Int)).f2 (lvlJ l h n j) ((rd_T76 l.jn (j : Int)).f2.length + 1 - n)
def hearR (l : Lg) (h : Int) : Nat → List (List Int)
 | 0 => []
 | n + 1 => hearR l h n ++ lvlJ l h (n + 1) l.jn.length
theorem before_cmp : ∀ (x y : List Int), x.length = y.length → (beforeB x y = true ↔ cmpL x y < 0)
 | [], [], _ => by simp [beforeB, cmpL]
 | [], _ :: _, h => by simp at h
 | _ :: _, [], h => by simp at h
 | a :: x, b :: y, h => by
   have ih := before_cmp x y (by simpa using h)
   simp only [beforeB, cmpL]
   have e1 := cmp3_neg a b
   have e2 := cmp3_zero a b
   by_cases q : a = b
   ·rw [if_pos q, if_neg (by simp [e2.2 q])]; exact ih
   ·rw [if_neg q, if_pos (fun e => q (e2.1 e)), decide_eq_true_eq]; exact e1.symm
theorem cmpT_len {x y : List Int} (h : x.length = y.length) : cmpT x y = cmpL x y := by unfold cmpT; rw [if_neg (by simp [h])]
theorem mem_insT (t x : List Int) : ∀ xs, x ∈ insT t xs ↔ x = t ∨ x ∈ xs
 | [] => by simp [insT]
 | y :: ys => by
   simp only [insT]
   split
   ·simp [List.mem_cons]
   ·rw [List.mem_cons, mem_insT t x ys, List.mem_cons]
    constructor
    ·rintro (h | h | h)
     ·exact .inr (.inl h)
     ·exact .inl h
     ·exact .inr (.inr h)
    ·rintro (h | h | h)
     ·exact .inr (.inl h)
     ·exact .inl h
     ·exact .inr (.inr h)
theorem mem_putT (t x : List Int) (xs : List (List Int)) : x ∈ putT xs t ↔ x = t ∨ x ∈ xs := by
 unfold putT
 split
 ·rename_i h
  rw [List.contains_iff_mem] at h
  exact ⟨.inr, fun h' => h'.elim (fun e => e ▸ h) id⟩
 ·exact mem_insT t x xs
theorem insT_strict (t : List Int) : ∀ (xs : List (List Int)), (∀ x, x ∈ xs → x.length = t.length) → t ∉ xs → xs.Pairwise ltT → (insT t xs).Pairwise ltT
 | [], _, _, _ => by simp [insT]
 | y :: ys, hl, hn, hp => by
   have hy := hl y (by simp)
   rw [List.pairwise_cons] at hp
   simp only [insT]
   have hc := before_cmp t y hy.symm
   rw [← cmpT_len hy.symm] at hc
   by_cases h : beforeB t y = true
   ·rw [if_pos h, List.pairwise_cons]
    refine ⟨fun z hz => ?_, List.pairwise_cons.2 hp⟩
    rcases List.mem_cons.1 hz with rfl | hz
    ·exact hc.1 h
    ·exact cmpT_trans _ _ _ (hc.1 h) (hp.1 z hz)
   ·rw [if_neg h, List.pairwise_cons]
    have hyt : ltT y t := by
     have a := cmpT_anti t y
     have b : cmpT t y ≠ 0 := fun e => hn (by rw [cmpT_eq _ _ e]; simp)
     have c : ¬ cmpT t y < 0 := fun e => h (hc.2 e)
     unfold ltT
     omega
    refine ⟨fun z hz => ?_, insT_strict t ys (fun x hx => hl x (by simp [hx])) (fun hx => hn (by simp [hx])) hp.2⟩
    rcases (mem_insT t z ys).1 hz with rfl | hz
    ·exact hyt
    ·exact hp.1 z hz
theorem putT_strict {t : List Int} {xs : List (List Int)} (hl : ∀ x, x ∈ xs → x.length = t.length) (hp : xs.Pairwise ltT) : (putT xs t).Pairwise ltT := by
  unfold putT
  split
  ·exact hp
  ·rename_i h
   rw [List.contains_iff_mem] at h
   exact insT_strict t xs hl h hp
theorem cutT_len {t : List Int} {k n : Nat} (h : k + n ≤ t.length) : (cutT t k n).length = n := by
  unfold cutT
  rw [List.length_drop, List.length_take]; omega
structure Lvl (l : Lg) (h : Int) (n : Nat) (P : List Int → Prop) (xs : List (List Int)) : Prop where
 len : ∀ x, x ∈ xs → x.length = n
 strict : xs.Pairwise ltT
 mem : ∀ x, x ∈ xs ↔ P x ∧ canB l x h = true
theorem lvlS_ok (l : Lg) (h : Int) (n : Nat) (t : List Int) (lev : List (List Int)) (P : List Int → Prop) (hl : Lvl l h n P lev) : ∀ k, (0 < k → k - 1 + n ≤ t.length) → Lvl l h n (fun x => P x ∨ ∃ i, i < k ∧ x = cutT t i n) (lvlS l h n t lev k)
  | 0, _ => ⟨hl.len, hl.strict, fun x => by rw [lvlS, hl.mem]; simp⟩
  | k + 1, hk => by
    have ih := lvlS_ok l h n t lev P hl k (fun _ => by have := hk (by omega); omega)
    have hc : (cutT t k n).length = n := cutT_len (by have := hk (by omega); simpa using this)
    simp only [lvlS]
    by_cases hcan : canB l (cutT t k n) h = true
    ·rw [if_pos hcan]
     refine ⟨fun x hx => ?_, putT_strict (fun x hx => by rw [hc]; exact ih.len x hx) ih.strict, fun x => ?_⟩
     ·rcases (mem_putT _ _ _).1 hx with rfl | hx
      ·exact hc
      ·exact ih.len x hx
     ·rw [mem_putT, ih.mem]
      constructor
      ·rintro (rfl | ⟨h1 | ⟨i, hi, e⟩, h2⟩)
       ·exact ⟨.inr ⟨k, by omega, rfl⟩, hcan⟩
       ·exact ⟨.inl h1, h2⟩
       ·exact ⟨.inr ⟨i, by omega, e⟩, h2⟩
      ·rintro ⟨h1 | ⟨i, hi, e⟩, h2⟩
       ·exact .inr ⟨.inl h1, h2⟩
       ·by_cases e2 : i = k
        ·subst e2; exact .inl e
        ·exact .inr ⟨.inr ⟨i, by omega, e⟩, h2⟩
    ·rw [if_neg hcan]
     refine ⟨ih.len, ih.strict, fun x => ?_⟩
     rw [ih.mem]
     constructor
     ·rintro ⟨h1 | ⟨i, hi, e⟩, h2⟩
      ·exact ⟨.inl h1, h2⟩
      ·exact ⟨.inr ⟨i, by omega, e⟩, h2⟩
     ·rintro ⟨h1 | ⟨i, hi, e⟩, h2⟩
      ·exact ⟨.inl h1, h2⟩
      ·by_cases e2 : i = k
       ·subst e2; rw [← e] at hcan; exact absurd h2 hcan
       ·exact ⟨.inr ⟨i, by omega, e⟩, h2⟩
theorem lvlJ_ok (l : Lg) (h : Int) (n : Nat) : ∀ j, j ≤ l.jn.length → Lvl l h n (fun x => ∃ k, k < j ∧ ∃ i, i + n ≤ (rd_T76 l.jn (k : Int)).f2.length ∧ x = cutT (rd_T76 l.jn (k : Int)).f2 i n) (lvlJ l h n j)
  | 0, _ => ⟨(fun x hx => by cases hx), List.Pairwise.nil, fun x => by simp [lvlJ]⟩
  | j + 1, hj => by
    have ih := lvlJ_ok l h n j (by omega)
    have h1 := lvlS_ok l h n (rd_T76 l.jn (j : Int)).f2 (lvlJ l h n j) _ ih ((rd_T76 l.jn (j : Int)).f2.length + 1 - n) (fun _ => by omega)
    refine ⟨h1.len, h1.strict, fun x => ?_⟩
    rw [lvlJ, h1.mem]
    refine and_congr ?_ Iff.rfl
    constructor
    ·rintro (⟨k, hk, h2⟩ | ⟨i, hi, e⟩)
     ·exact ⟨k, by omega, h2⟩
     ·exact ⟨j, by omega, i, by omega, e⟩
    ·rintro ⟨k, hk, i, hi, e⟩
     by_cases e2 : k = j
     ·subst e2; exact .inr ⟨i, by omega, e⟩
     ·exact .inl ⟨k, by omega, i, hi, e⟩
theorem hearR_ok (l : Lg) (h : Int) : ∀ n, (hearR l h n).Pairwise ltT ∧ (∀ x, x ∈ hearR l h n ↔ (1 ≤ x.length ∧ x.length ≤ n) ∧ (∃ k, k < l.jn.length ∧ ∃ i, i + x.length ≤ (rd_T76 l.jn (k : Int)).f2.length ∧ x = cutT (rd_T76 l.jn (k : Int)).f2 i x.length) ∧ canB l x h = true)
 | 0 => ⟨List.Pairwise.nil, fun x => ⟨(fun h => by cases h), fun h => by have := h.1; omega⟩⟩
 | n + 1 => by
   obtain ⟨h1, h2⟩ := hearR_ok l h n
   have h3 := lvlJ_ok l h (n + 1) l.jn.length (Nat.le_refl _)
   refine ⟨?_, fun x => ?_⟩
   ·rw [hearR, List.pairwise_append]
    refine ⟨h1, h3.strict, fun x hx y hy => ?_⟩
    have hx1 := ((h2 x).1 hx).1
    have hy1 := h3.len y hy
    show cmpT x y < 0
    unfold cmpT
    rw [if_pos (by omega)]
    omega
   ·rw [hearR, List.mem_append, h2]
    constructor
    ·rintro (⟨a, b, c⟩ | hx)
     ·exact ⟨by omega, b, c⟩
     ·have e := h3.len x hx
      obtain ⟨⟨k, hk, i, hi, e2⟩, hc⟩ := (h3.mem x).1 hx
      exact ⟨by omega, ⟨k, hk, i, by omega, by rw [e]; exact e2⟩, hc⟩
    ·rintro ⟨a, ⟨k, hk, i, hi, e2⟩, c⟩
     by_cases e : x.length = n + 1
     ·exact .inr ((h3.mem x).2 ⟨⟨k, hk, i, by omega, by rw [← e]; exact e2⟩, c⟩)
     ·exact .inl ⟨by omega, ⟨k, hk, i, hi, e2⟩, c⟩
theorem partB_iff (t s : List Int) : partB t s = true ↔ 0 < t.length ∧ ∃ k, k + t.length ≤ s.length ∧ t = cutT s k t.length := by
 unfold partB cutT
 rw [Bool.and_eq_true, decide_eq_true_eq, List.any_eq_true]
 refine and_congr Iff.rfl ⟨fun ⟨k, hk, he⟩ => ⟨k, by have := List.mem_range.1 hk; omega, by simpa using he⟩, fun ⟨k, hk, he⟩ => ⟨k, List.mem_range.2 (by omega), by simpa using he⟩⟩
theorem heard_R {l : Lg} (hE : logE l = 0) {s : S76} (hs : s ∈ l.jn) (h : Int) (h0 : 0 ≤ s.f1 ∧ s.f1 < l.sees.length) : heardR l s h = heardB l s h := by
  have hk : s.f1.toNat < l.sees.length := by omega
  have hx := (sound_of hE).see _ (List.getElem_mem hk)
  rw [← rd_nat l.sees s.f1.toNat hk, Int.toNat_of_nonneg h0.1] at hx
  have h1 : -1 ≤ rd l.sees s.f1 := by
   unfold seeB hourB at hx
   simp at hx
   omega
  rw [Bool.eq_iff_iff]
  simp only [heardR, heardB, Bool.and_eq_true, decide_eq_true_eq, bne_iff_ne, ne_eq]
  omega
theorem sent_rng {l : Lg} (hE : logE l = 0) {s : S76} (h : s ∈ l.jn) : 0 ≤ s.f1 ∧ s.f1 < l.sees.length := by
  have := (sound_of hE).jn s h
  unfold sentB at this
  simp only [Bool.and_eq_true, atB, inB, decide_eq_true_eq] at this
  omega
theorem hearR_eq {l : Lg} (hE : logE l = 0) (h5 : ∀ s, s ∈ l.jn → s.f2.length ≤ 5) (h : Int) : hearR l h 5 = heardL l h := by
  obtain ⟨h1, h2⟩ := hearR_ok l h 5
  refine strict_unique h1 (heardL_strict l h) (fun t => ?_)
  rw [h2, mem_heardL, mem_partsL]
  constructor
  ·rintro ⟨a, _, c⟩
   unfold canB at c
   obtain ⟨s, hs, hc⟩ := List.any_eq_true.1 c
   rw [Bool.and_eq_true, heard_R hE hs h (sent_rng hE hs), partB_iff] at hc
   obtain ⟨hh, _, k, hk, e⟩ := hc
   exact ⟨s, hs, hh, k, k + t.length, by omega, hk, e⟩
  ·rintro ⟨s, hs, hh, lo, hi, h3, h4, rfl⟩
   have hl := partOf_len s.f2 (lo := lo) h4
   have h6 := h5 s hs
   obtain ⟨j, hj, rfl⟩ := List.getElem_of_mem hs
   have e : partOf l.jn[j].f2 lo hi = cutT l.jn[j].f2 lo (partOf l.jn[j].f2 lo hi).length := by
    rw [hl]; unfold cutT partOf
    rw [show lo + (hi - lo) = hi by omega]
   refine ⟨by omega, ⟨j, hj, lo, ?_, ?_⟩, ?_⟩
   ·rw [rd76_get l j hj, hl]; omega
   ·rw [rd76_get l j hj]; exact e
   ·unfold canB
    rw [List.any_eq_true]
    refine ⟨_, List.getElem_mem hj, ?_⟩
    rw [Bool.and_eq_true, heard_R hE (List.getElem_mem hj) h (sent_rng hE (List.getElem_mem hj))]
    exact ⟨hh, partB_of _ h3 h4⟩
end Go.Proofs.YthgfhgjlilmieaaGreat.G
namespace Go.Proofs.YthgfhgjlilmieaaGreat.G
open Go.RowKit Go.Shelf Go.Proofs.YthgfhgjlilmieaaGreatW.PrintWords Go.Proofs.YthgfhgjlilmieaaGreatW.PrintLast Go.Proofs.YthgfhgjlilmieaaGreatW.PrintMore
open Go.Proofs.YthgfhgjlilmieaaGreat.B
set_option linter.unusedVariables false
set_option linter.unusedSimpArgs false
def d76 (x : S69) : S76 := ⟨x.f0, x.f1, x.f2⟩
def d75 (x : S61) : S75 := ⟨x.f0, x.f1, x.f2⟩
def lgOf (ls : List ByteArray) (e : Int) (sees : List Int) (jn : List S69) (rc : List S61) : Lg := ⟨ls, e, sees, jn.map d76, rc.map d75⟩
theorem lg_back (l : Lg) : lgOf l.ls l.errs l.sees (l.jn.map u69) (l.rc.map u61) = l := by
 unfold lgOf
 rw [List.map_map, List.map_map]
 have e1 : d76 ∘ u69 = id := by funext x; rfl
 have e2 : d75 ∘ u61 = id := by funext x; rfl
 rw [e1, e2, List.map_id, List.map_id]
theorem code_sz {ls : List ByteArray} (hc : codeE ls = 0) : ∀ s, s ∈ ls → s.size ≤ 4 := by
  have hall : ls.all letterB = true := by
   cases hx2 : ls.all letterB with
   | true => rfl
   | false =>
     unfold codeE at hc
     rw [hx2] at hc
     by_cases q1 : 6 < ls.length
     ·rw [if_pos q1] at hc; cases hc
     ·rw [if_neg q1] at hc
      by_cases q2 : ls.length = 0
      ·rw [if_pos q2] at hc; cases hc
      ·rw [if_neg q2, if_pos rfl] at hc; cases hc
  rw [List.all_eq_true] at hall
  intro s hs
  have := hall s hs
  simp only [letterB, Bool.and_eq_true, decide_eq_true_eq] at this
  omega
def txtOkB (l : Lg) (t : List Int) : Bool := decide (t.length ≤ 5) && t.all fun x => decide (0 ≤ x) && (decide (x < l.ls.length) && decide ((letterAt l.ls x).size ≤ 4))
theorem txtOkB_iff (l : Lg) (t : List Int) : txtOkB l t = true ↔ TxtOk l t := by
 unfold txtOkB
 simp only [Bool.and_eq_true, decide_eq_true_eq, List.all_eq_true]
 exact ⟨fun ⟨h1, h2⟩ => ⟨h1, fun x hx => ⟨(h2 x hx).1, (h2 x hx).2.1⟩, fun x hx => (h2 x hx).2.2⟩, fun ⟨h1, h2, h3⟩ => ⟨h1, fun x hx => ⟨(h2 x hx).1, (h2 x hx).2, h3 x hx⟩⟩⟩
theorem logAt_of {w : World} {A0 A2 A3 A4 : Option Addr} {c0 c2 c3 c4 : Nat} {ls : List ByteArray} {e : Int} {sees : List Int} {jn : List S69} {rc : List S61} (h0 : Kd.C Kd.string w A0 ls.length ls) (l0 : ls.length ≤ c0) (h2 : Kd.C (Kd.int .i64) w A2 sees.length sees) (l2 : sees.length ≤ c2) (h3 : Kd.C k69 w A3 jn.length jn) (l3 : jn.length ≤ c3) (h4 : Kd.C k61 w A4 rc.length rc) (l4 : rc.length ≤ c4) (hE : logE (lgOf ls e sees jn rc) = 0) :
    LogAt w ⟨A0, A2, A3, A4, c0, c2, c3, c4⟩ (lgOf ls e sees jn rc) := by
  have g3 : Kd.C k76 w A3 jn.length (jn.map d76) := C_map d76 rfl (fun _ _ _ h => h) h3
  have g4 : Kd.C k75 w A4 rc.length (rc.map d75) := C_map d75 rfl (fun _ _ _ h => h) h4
  have hs := sound_of hE
  refine ⟨h0, h2, ?_, ?_, l0, l2, ?_, ?_, fun s hs' => ?_, fun r hr => ?_⟩
  ·show Kd.C k76 w A3 (jn.map d76).length (jn.map d76); rw [List.length_map]; exact g3
  ·show Kd.C k75 w A4 (rc.map d75).length (rc.map d75); rw [List.length_map]; exact g4
  ·show (jn.map d76).length ≤ c3; rw [List.length_map]; exact l3
  ·show (rc.map d75).length ≤ c4; rw [List.length_map]; exact l4
  ·have := code_sz hs.code s hs'; omega
  ·have := (readOk_of (hs.rc r hr)).1.len; omega
theorem logV_of (A0 A2 A3 A4 : Option Addr) (c0 c2 c3 c4 : Nat) (ls : List ByteArray) (e : Int) (sees : List Int) (jn : List S69) (rc : List S61) : logV ⟨A0, A2, A3, A4, c0, c2, c3, c4⟩ (lgOf ls e sees jn rc) = .agg #[.slice A0 ls.length c0, .int .i64 e, .slice A2 sees.length c2, .slice A3 jn.length c3, .slice A4 rc.length c4] := by
 show Value.agg #[.slice A0 ls.length c0, .int .i64 e, .slice A2 sees.length c2, .slice A3 (jn.map d76).length c3, .slice A4 (rc.map d75).length c4] = _
 rw [List.length_map, List.length_map]
theorem rec_sound {l : Lg} (hs : Sound l) {n : Nat} (hn : n < l.rc.length) : recordB l (rd_T75 l.rc n) = true := by
  rw [rd75_get l n hn]; exact hs.rc _ (List.getElem_mem hn)
end Go.Proofs.YthgfhgjlilmieaaGreat.G
namespace Go.Proofs.YthgfhgjlilmieaaGreat.B
open Go.RowKit Go.Proofs.YthgfhgjlilmieaaGreatW.PrintWords Go.Proofs.YthgfhgjlilmieaaGreatW.PrintLast Go.Proofs.YthgfhgjlilmieaaGreatW.PrintMore
open Go.Proofs.YthgfhgjlilmieaaGreat.G
set_option linter.unusedVariables false
set_option linter.unusedSimpArgs false
def r6Reads.f (k : Nat) (l0_0 : List ByteArray) (a0_1 : Int) (l0_2 : List Int) (l0_3 : List (S69)) (l0_4 : List (S61)) (l1 : List Int) (a2 : Int) : Option (Bool) :=
 if (logE (lgOf l0_0 a0_1 l0_2 l0_3 l0_4) = 0 ∧ txtOkB (lgOf l0_0 a0_1 l0_2 l0_3 l0_4) l1 = true) ∧ 0 ≤ a2 ∧ a2.toNat < (lgOf l0_0 a0_1 l0_2 l0_3 l0_4).rc.length then some (readsB (lgOf l0_0 a0_1 l0_2 l0_3 l0_4) l1 (rd_T75 (lgOf l0_0 a0_1 l0_2 l0_3 l0_4).rc a2).f2) else none
theorem r6Reads.calls (k : Nat) (A0_0 : Option Addr) (c0_0 : Nat) (l0_0 : List ByteArray) (a0_1 : Int) (A0_2 : Option Addr) (c0_2 : Nat) (l0_2 : List Int) (A0_3 : Option Addr) (c0_3 : Nat) (l0_3 : List (S69)) (A0_4 : Option Addr) (c0_4 : Nat) (l0_4 : List (S61)) (A1 : Option Addr) (c1 : Nat) (l1 : List Int) (a2 : Int) (r : Bool) (w : World) (hr0_0 : Kd.C Kd.string w A0_0 l0_0.length l0_0) (hc0_0 : l0_0.length ≤ c0_0) (hr0_2 : Kd.C (Kd.int .i64) w A0_2 l0_2.length l0_2) (hc0_2 : l0_2.length ≤ c0_2) (hr0_3 : Kd.C k69 w A0_3 l0_3.length l0_3) (hc0_3 : l0_3.length ≤ c0_3) (hr0_4 : Kd.C k61 w A0_4 l0_4.length l0_4) (hc0_4 : l0_4.length ≤ c0_4) (hr1 : Kd.C (Kd.int .i64) w A1 l1.length l1) (hc1 : l1.length ≤ c1) (h : r6Reads.f k l0_0 a0_1 l0_2 l0_3 l0_4 l1 a2 = some r) :
 Calls Tryz.prog 72 #[.agg #[.slice A0_0 l0_0.length c0_0, .int .i64 a0_1, .slice A0_2 l0_2.length c0_2, .slice A0_3 l0_3.length c0_3, .slice A0_4 l0_4.length c0_4], .slice A1 l1.length c1, .int .i64 a2] w fun e w' => e = .returned (.bool r) ∧ Below w.heap.size w w' := by
 unfold r6Reads.f at h
 split at h
 ·rename_i hc
  obtain ⟨⟨hE, ht⟩, h0, hn⟩ := hc
  have hL := logAt_of hr0_0 hc0_0 hr0_2 hc0_2 hr0_3 hc0_3 hr0_4 hc0_4 hE
  obtain ⟨n, rfl⟩ : ∃ n : Nat, a2 = n := ⟨a2.toNat, by omega⟩
  rw [Int.toNat_natCast] at hn
  have hs := sound_of hE
  have hrec := rec_sound hs hn
  have hk := (txtOkB_iff _ _).1 ht
  have hcall := reads72_any _ _ A1 c1 l1 n w hL hr1 hc1 hn hk (readOk_of hrec).1
  rw [reads_eq hs.code hk (readOk_of hrec).2, Option.some.inj h, logV_of] at hcall
  exact hcall
 ·cases h
end Go.Proofs.YthgfhgjlilmieaaGreat.B
