/- texts of this claim, merged by a program of this session out of its own texts and the print's words -/
import Derived.Deep.RegionHeld3
import Derived.Outline
import Derived.StillTailTactics
import Derived.Test.YthgfhgjlilmieaaGreatKG0
import Derived.Test.YthgfhgjlilmieaaGreatKG1
import Derived.Test.YthgfhgjlilmieaaGreatKG2
namespace Go.Proofs.YthgfhgjlilmieaaGreat.G
open Go.RowKit Go.Shelf Go.Proofs.YthgfhgjlilmieaaGreatW.PrintWords Go.Proofs.YthgfhgjlilmieaaGreatW.PrintLast Go.Proofs.YthgfhgjlilmieaaGreatW.PrintMore
open Go.Proofs.YthgfhgjlilmieaaGreat.B
set_option linter.unusedVariables false
set_option linter.unusedSimpArgs false
theorem cost112_any (k : Nat) (w : World) : Calls Tryz.prog 112 #[.int .i64 (k : Int)] w fun e w' => e = .returned (.int .i64 (costK k)) ∧ w' = w := by
  by_cases h : k = 0
  ·subst h
   have e1 : costK 0 = 0 := rfl
   rw [e1]
   go_enter Tryz.func112, Tryz.ntmps112
   go_wp2
   go_ret
   exact ⟨rfl, rfl⟩
  ·have e1 : costK k = 1 := by simp [costK, h]
   rw [e1]
   have h1 : ¬ (k : Int) = 0 := by omega
   have h2 : ((k : Int) == 0) = false := by simpa using h1
   go_enter Tryz.func112, Tryz.ntmps112
   go_wp2
   go_ret
   exact ⟨rfl, rfl⟩
def sfx (s : ByteArray) (i : Nat) : ByteArray := s.extract i s.size
theorem sfx_size (s : ByteArray) (i : Nat) (h : i ≤ s.size) : (sfx s i).size = s.size - i := by
 unfold sfx
 rw [ByteArray.size_extract]
 omega
theorem sfx_sfx (s : ByteArray) (i t : Nat) (h : i + t ≤ s.size) : (sfx s i).extract t (sfx s i).size = sfx s (i + t) := by
 rw [sfx_size s i (by omega)]
 unfold sfx
 rw [ByteArray.extract_extract]
 congr 1
 omega
def tb (s r : ByteArray) (i k : Nat) : Int := min 1000 (few (sfx s i) (sfx r k))
def tv0 (s r : ByteArray) (i k : Nat) : Int := if (sfx s i).size = 0 ∧ (sfx r k).size = 0 then 0 else far
def tacc (s r : ByteArray) (i k j : Nat) : Int := min 1000 (acc (sfx s i) (sfx r k) (tv0 s r i k) (nx (sfx s i) (sfx r k) j))
theorem tacc_6 (s r : ByteArray) (i k : Nat) : tacc s r i k 6 = tb s r i k := by
 unfold tacc tb acc tv0
 rw [few_eq (sfx s i) (sfx r k)]
theorem nx_succ (s r : ByteArray) (j : Nat) (hj : j < 6) : nx s r (j + 1) = nx s r j ++ (if h : goes s r j = true then [⟨j, hj, h⟩] else []) := by
 unfold nx
 rw [List.range_succ, List.filterMap_append]
 congr 1
 by_cases h : goes s r j = true <;> simp [h, hj]
theorem tacc_skip (s r : ByteArray) (i k j : Nat) (hj : j < 6) (h : goes (sfx s i) (sfx r k) j = false) : tacc s r i k (j + 1) = tacc s r i k j := by
 unfold tacc
 rw [nx_succ _ _ _ hj]
 simp [h]
theorem tacc_step (s r : ByteArray) (i k j : Nat) (hj : j < 6) (h : goes (sfx s i) (sfx r k) j = true) :
 tacc s r i k (j + 1) = min (tacc s r i k j) (costK j + min 1000 (few (leftS (sfx s i) j) (leftR (sfx s i) (sfx r k) j))) := by
 unfold tacc
 rw [nx_succ _ _ _ hj]
 have hc : 0 ≤ costK j := by unfold costK; split <;> omega
 simp only [h, dif_pos]
 unfold acc
 rw [List.foldl_append]
 simp only [List.foldl_cons, List.foldl_nil]
 omega
theorem tacc_0 (s r : ByteArray) (i k : Nat) : tacc s r i k 0 = if (sfx s i).size = 0 ∧ (sfx r k).size = 0 then 0 else 1000 := by
 unfold tacc tv0
 have : nx (sfx s i) (sfx r k) 0 = [] := rfl
 rw [this]
 unfold acc
 simp only [List.foldl_nil]
 by_cases h : (sfx s i).size = 0 ∧ (sfx r k).size = 0
 ·rw [if_pos h, if_pos h]; rfl
 ·rw [if_neg h, if_neg h]; rfl
theorem tacc_bd (s r : ByteArray) (i k j : Nat) : tacc s r i k j ≤ 1000 := by unfold tacc; omega
structure TB (w0 : World) (b : Nat) (s r : ByteArray) (D : Nat → Nat → Prop) (w : World) : Prop where
 bel : Below w0.heap.size w0 w
 cur : ∃ cur : Array Value, w.heap[b]? = some (.cells cur 193 (0, 0)) ∧ cur.size = 1681 ∧ (∀ j : Nat, j < 1681 → ∃ v, cur[j]? = some (.int .i64 v)) ∧ ∀ i k : Nat, i ≤ s.size → k ≤ r.size → D i k → cur[i * 41 + k]? = some (.int .i64 (tb s r i k))
theorem TB.drewN {w0 w : World} {b : Nat} {s r : ByteArray} {D : Nat → Nat → Prop} (h : TB w0 b s r D w) (n : Nat) : TB w0 b s r D (w.drewN n) := ⟨pX_ h.bel (belowN w n), h.cur⟩
theorem TB.drew {w0 w : World} {b : Nat} {s r : ByteArray} {D : Nat → Nat → Prop} (h : TB w0 b s r D w) : TB w0 b s r D w.drew := ⟨pE_ h.bel, h.cur⟩
theorem TB.imp {w0 w : World} {b : Nat} {s r : ByteArray} {D D' : Nat → Nat → Prop} (h : TB w0 b s r D w) (hd : ∀ i k, i ≤ s.size → k ≤ r.size → D' i k → D i k) : TB w0 b s r D' w := by
  obtain ⟨h1, c, h2, h3, h4, h5⟩ := h
  exact ⟨h1, c, h2, h3, h4, fun i k hi hk hD => h5 i k hi hk (hd i k hi hk hD)⟩
theorem TB.cell {w0 w : World} {b : Nat} {s r : ByteArray} {D : Nat → Nat → Prop} (h : TB w0 b s r D w) (j : Nat) (hj : j < 1681) : ∃ v, w.cell? ⟨b, j, none⟩ = some (.int .i64 v) := by
  obtain ⟨h1, c, h2, h3, h4, h5⟩ := h
  obtain ⟨v, hv⟩ := h4 j hj
  exact ⟨v, cell_of_block h2 hv⟩
theorem TB.at_ {w0 w : World} {b : Nat} {s r : ByteArray} {D : Nat → Nat → Prop} (h : TB w0 b s r D w) (i k : Nat) (hi : i ≤ s.size) (hk : k ≤ r.size) (hD : D i k) : w.cell? ⟨b, i * 41 + k, none⟩ = some (.int .i64 (tb s r i k)) := by
  obtain ⟨h1, c, h2, h3, h4, h5⟩ := h
  exact cell_of_block h2 (h5 i k hi hk hD)
theorem TB.frozen {w0 w : World} {b : Nat} {s r : ByteArray} {D : Nat → Nat → Prop} (h : TB w0 b s r D w) (j : Nat) : w.frozen? ⟨b, j, none⟩ = false := by
  obtain ⟨h1, c, h2, h3, h4, h5⟩ := h
  exact frozen_of_block h2
theorem TB.set {w0 w : World} {b : Nat} {s r : ByteArray} {D D' : Nat → Nat → Prop} (h : TB w0 b s r D w) (hb : w0.heap.size ≤ b) (i k : Nat) (v : Int) (hr : r.size ≤ 40) (hk : k ≤ r.size) (hij : i * 41 + k < 1681)
    (hd : ∀ i' k', i' ≤ s.size → k' ≤ r.size → D' i' k' → (i' = i ∧ k' = k ∧ v = tb s r i k) ∨ (D i' k' ∧ ¬ (i' = i ∧ k' = k))) : TB w0 b s r D' (w.setCell ⟨b, i * 41 + k, none⟩ (.int .i64 v)) := by
  obtain ⟨h1, c, h2, h3, h4, h5⟩ := h
  refine ⟨h1.setCell hb _, _, heap_setCell_at h2, by simpa using h3, fun j hj => ?_, fun i' k' hi' hk' hD => ?_⟩
  ·rw [Array.getElem?_setIfInBounds]
   by_cases e : i * 41 + k = j
   ·rw [if_pos e, if_pos (by omega)]; exact ⟨v, rfl⟩
   ·rw [if_neg e]; exact h4 j hj
  ·rw [Array.getElem?_setIfInBounds]
   rcases hd i' k' hi' hk' hD with ⟨rfl, rfl, rfl⟩ | ⟨hD1, hne⟩
   ·rw [if_pos rfl, if_pos (by omega)]
   ·rw [if_neg (by omega)]
    exact h5 i' k' hi' hk' hD1
theorem TB.cellset {w0 w : World} {b : Nat} {s r : ByteArray} {D : Nat → Nat → Prop} (h : TB w0 b s r D w) (j : Nat) (hj : j < 1681) (v : Value) : (w.setCell ⟨b, j, none⟩ v).cell? ⟨b, j, none⟩ = some v := by
  obtain ⟨h1, c, h2, h3, h4, h5⟩ := h
  exact cell_of_block (heap_setCell_at h2) (by rw [Array.getElem?_setIfInBounds, if_pos rfl, if_pos (by omega)])
theorem TB.add {w0 w : World} {b : Nat} {s r : ByteArray} {D D' : Nat → Nat → Prop} (h : TB w0 b s r D w) (i k : Nat) (hc : w.cell? ⟨b, i * 41 + k, none⟩ = some (.int .i64 (tb s r i k))) (hd : ∀ i' k', i' ≤ s.size → k' ≤ r.size → D' i' k' → (i' = i ∧ k' = k) ∨ D i' k') : TB w0 b s r D' w := by
  obtain ⟨h1, c, h2, h3, h4, h5⟩ := h
  refine ⟨h1, c, h2, h3, h4, fun i' k' hi' hk' hD => ?_⟩
  rcases hd i' k' hi' hk' hD with ⟨rfl, rfl⟩ | hD1
  ·simpa [World.cell?, h2] using hc
  ·exact h5 i' k' hi' hk' hD1
def D1 (m : Nat) (i k : Nat) : Prop := m ≤ i
def D2 (i m : Nat) (i' k' : Nat) : Prop := i < i' ∨ (i' = i ∧ m ≤ k')
theorem TB.start3 {w0 w : World} {b : Nat} {s r : ByteArray} (i k : Nat) (h : TB w0 b s r (D2 i (k + 1)) w) (hb : w0.heap.size ≤ b) (hs : s.size ≤ 40) (hr : r.size ≤ 40) (hi : i ≤ s.size) (hk : k ≤ r.size) (v : Int) :
    TB w0 b s r (D2 i (k + 1)) (w.setCell ⟨b, i * 41 + k, none⟩ (.int .i64 v)) ∧ (w.setCell ⟨b, i * 41 + k, none⟩ (.int .i64 v)).cell? ⟨b, i * 41 + k, none⟩ = some (.int .i64 v) :=
  ⟨h.set hb i k v hr hk (by omega) (fun i' k' _ _ hD => .inr ⟨hD, fun e => by unfold D2 at hD; omega⟩), h.cellset _ (by omega) _⟩
theorem left_sfx (s r : ByteArray) (i k j : Nat) (hi : i ≤ s.size) (hk : k ≤ r.size) (hj : j < 6) (hg : goes (sfx s i) (sfx r k) j = true) :
 ∃ i' k', i' ≤ s.size ∧ k' ≤ r.size ∧ i ≤ i' ∧ k ≤ k' ∧ (i < i' ∨ k < k') ∧ leftS (sfx s i) j = sfx s i' ∧ leftR (sfx s i) (sfx r k) j = sfx r k' := by
 have hp := prog_size (sfx s i) (sfx r k) ⟨j, hj, hg⟩
 have hz := tw_size j (sfx s i)
 have hq : (twK j (sfx s i)).2.size ≤ (sfx r k).size := prefix_size (by
   simp only [goes, Bool.and_eq_true] at hg
   exact hg.2)
 rw [sfx_size s i hi] at hz
 rw [sfx_size r k hk] at hq
 have e1 : leftS (sfx s i) j = sfx s (i + (twK j (sfx s i)).1.size) := by
  unfold leftS
  exact sfx_sfx s i _ (by omega)
 have e2 : leftR (sfx s i) (sfx r k) j = sfx r (k + (twK j (sfx s i)).2.size) := by
  unfold leftR
  exact sfx_sfx r k _ (by omega)
 refine ⟨_, _, ?_, ?_, ?_, ?_, ?_, e1, e2⟩
 ·omega
 ·omega
 ·omega
 ·omega
 ·simp only [e1, e2] at hp
  rw [sfx_size s i hi, sfx_size r k hk, sfx_size _ _ (by omega), sfx_size _ _ (by omega)] at hp
  omega
theorem sfx_bytes (r : ByteArray) (k : Nat) (hv : ∀ x, x ∈ r.data.toList → x ≠ 33) : ∀ x, x ∈ (sfx r k).data.toList → x ≠ 33 := by
 intro x hx
 unfold sfx at hx
 rw [ByteArray.data_extract, Array.toList_extract] at hx
 exact hv x (List.mem_of_mem_drop (List.mem_of_mem_take (by simpa [List.extract_eq_take_drop] using hx)))
theorem wp_still_tail {P : Program} {id : Nat} {Q : Exit → Act → World → Prop} {a : Act} {w : World} {l : List Oper} (n : Nat) (hm : P.follows .mixedOrders = true) (hB : Region.lexTailB .any l.toArray n = true)
    (h : wpStill P l.toArray w.drew (fun a' => wpList P l.toArray Q (l.drop n) a' w.drew) (l.take n) a) : (Code.region id l.toArray true).wp P Q a w := wp_region_still_tail n hm hB h
set_option maxRecDepth 100000 in
set_option maxHeartbeats 8000000 in
theorem ends_any (s r : ByteArray) (w : World) (hs : s.size ≤ 40) (hr : r.size ≤ 40) (hv : ∀ x, x ∈ r.data.toList → x ≠ 33) :
 Calls Tryz.prog 133 #[.string s, .string r] w fun e w' => e = .returned (.pointer (some ⟨w.heap.size, 0, none⟩)) ∧ TB w w.heap.size s r (fun _ _ => True) w' := by
 have hZ : Tryz.zeroCells193 = Array.replicate 1681 (.int .i64 0) := by kernel_rfl
 have hT0 : TB w w.heap.size s r (fun _ _ => False) (w.alloc (.cells Tryz.zeroCells193 193)) := by
   refine ⟨(Below.refl _ w).alloc (Nat.le_refl _) _, Tryz.zeroCells193, alloc_new _ _, by rw [hZ]; simp, fun j hj => ⟨0, by rw [hZ, Array.getElem?_replicate, if_pos hj]⟩, fun _ _ _ _ h => h.elim⟩
 have HT0 := Am (hT0.imp (D' := D1 (s.size + 1)) (fun i k hi hk hD => by unfold D1 at hD; omega))
 clear hZ hT0
 obtain ⟨N, hN⟩ : ∃ N, N = w.heap.size := ⟨_, rfl⟩
 go_enter Tryz.func133, Tryz.ntmps133
 go_wp2
 go_loopg [6] (s.size + 1) (fun gg v6 wr => (∃ i : Nat, i ≤ s.size ∧ i + 1 ≤ gg ∧ v6 = .int .i64 i ∧ Aside0 (TB w w.heap.size s r (D1 (i + 1)) wr)) ∨ (v6 = .int .i64 (-1) ∧ Aside0 (TB w w.heap.size s r (D1 0) wr)))
 case atStart => exact .inl ⟨s.size, by omega, by omega, rfl, HT0⟩
 case round =>
  rcases hrel with ⟨i, hi, hg, rfl, HT⟩ | ⟨rfl, HT⟩
  ·have hiz : (0 : Int) ≤ (i : Int) := by omega
   have HT1 := Am (HT.out.imp (D' := D2 i (r.size + 1)) (fun i' k' hi' hk' hD => by unfold D2 at hD; unfold D1; omega))
   clear HT
   go_wp2
   go_loopg [7] (r.size + 1) (fun gg v7 wr => (∃ k : Nat, k ≤ r.size ∧ k + 1 ≤ gg ∧ v7 = .int .i64 k ∧ Aside0 (TB w w.heap.size s r (D2 i (k + 1)) wr)) ∨ (v7 = .int .i64 (-1) ∧ Aside0 (TB w w.heap.size s r (D2 i 0) wr)))
   case atStart => exact .inl ⟨r.size, by omega, by omega, rfl, HT1⟩
   case round =>
    rcases hrel with ⟨k, hk, hg2, rfl, HT⟩ | ⟨rfl, HT⟩
    ·have hkz : (0 : Int) ≤ (k : Int) := by omega
     have hi41 : (i : Int) < 41 := by omega
     have hk41 : (k : Int) < 41 := by omega
     have hi41n : i < 41 := by omega
     have hk41n : k < 41 := by omega
     obtain ⟨v0, c0⟩ := HT.out.cell (i * 41 + k) (by omega)
     have f0 := HT.out.frozen (i * 41 + k)
     by_cases q1 : i = s.size
     ·have q1b : ((i : Int) == (s.size : Int)) = true := by rw [q1]; exact beq_self_eq_true _
      have Q1 := Am q1
      by_cases q2 : k = r.size
      ·have q2b : ((k : Int) == (r.size : Int)) = true := by rw [q2]; exact beq_self_eq_true _
       have Q2 := Am q2
       have H00 : Aside0 ((if (sfx s i).size = 0 ∧ (sfx r k).size = 0 then (0 : Int) else 1000) = 0) := ⟨if_pos (by rw [sfx_size s i hi, sfx_size r k hk]; omega)⟩
       clear q1 q2
       have hst2 := HT.out.start3 i k (Nat.le_refl _) hs hr hi hk 1000
       have hst3 := hst2.1.start3 i k (Nat.le_refl _) hs hr hi hk 0
       have c00 := hst2.2
       have f00 := hst2.1.frozen (i * 41 + k)
       clear hst2
       have HST3 := Am hst3
       clear HT hst3
       go_wp2
       go_loopg [8] 6 (fun gg v8 wq => ∃ j : Nat, j ≤ 6 ∧ 6 - j ≤ gg ∧ v8 = .int .i64 j ∧ Aside0 (TB w w.heap.size s r (D2 i (k + 1)) wq) ∧ Aside0 (wq.cell? ⟨w.heap.size, i * 41 + k, none⟩ = some (.int .i64 (tacc s r i k j))))
       case atStart => exact ⟨0, by omega, by omega, rfl, ⟨HST3.out.1⟩, ⟨by rw [HST3.out.2, tacc_0, H00.out]⟩⟩
       case round =>
        obtain ⟨j, hj, hg3, rfl, HT3, HC3⟩ := hrel
        by_cases hj6 : j < 6
        ·have hj6z : (j : Int) ≤ 5 := by omega
         have hvr := sfx_bytes r k hv
         have hstep : ∀ n, Calls Tryz.prog 111 #[.int .i64 (j : Int), .string (s.extract i s.size), .string (r.extract k r.size)] (wr.drewN n) fun e w' => e = .returned (.tuple #[.string (stepR j (sfx s i) (sfx r k)).1, .string (stepR j (sfx s i) (sfx r k)).2.1, .bool (stepR j (sfx s i) (sfx r k)).2.2]) ∧ ∃ m, w' = wr.drewN m := fun n =>
           (step111_any j hj6 (sfx s i) (sfx r k) hvr (wr.drewN n)).mono fun _ _ ⟨he, m, hm⟩ => ⟨he, n + m, by rw [hm, World.drewN_drewN]⟩
         have y1 : (i : Int) ≤ (s.size : Int) := by omega
         have y2 : (k : Int) ≤ (r.size : Int) := by omega
         cases hgo : goes (sfx s i) (sfx r k) j with
         | false =>
           rw [step_no j _ _ hgo] at hstep
           have HSP := Am hstep
           have HTA := Am (tacc_skip s r i k j hj6 hgo)
           clear hstep hvr hgo
           go_wp2
           go_quiet ((go_at_call 111; exact HSP.out _))
           go_wp2
           go_roundg (6 - (j + 1))
           case measure => omega
           case rel => exact ⟨j + 1, by omega, by omega, by go_num, ⟨HT3.out.drewN _⟩, ⟨by rw [HTA.out]; exact HC3.out⟩⟩
         | true =>
           rw [step_yes j _ _ hgo] at hstep
           have hta := tacc_step s r i k j hj6 hgo
           obtain ⟨i', k', b1, b2, b3, b4, b5, b6, b7⟩ := left_sfx s r i k j hi hk hj6 hgo
           rw [b6, b7] at hstep hta
           have za := sfx_size s i' b1
           have zb := sfx_size r k' b2
           have c9 := HT3.out.at_ i' k' b1 b2 (by unfold D2; omega)
           have f3 := HT3.out.frozen (i * 41 + k)
           have c3 := HC3.out
           have ht1 : tb s r i' k' ≤ 1000 := by unfold tb; omega
           have ht2 : 0 ≤ tb s r i' k' := by have := (few_bd (sfx s i') (sfx r k')).1; unfold tb; omega
           have ht3 := tacc_bd s r i k j
           have hc1 : 0 ≤ costK j ∧ costK j ≤ 1 := by unfold costK; split <;> omega
           have hz1 : ((s.size : Int) - ((sfx s i').size : Int)) = (i' : Int) := by omega
           have hz2 : ((r.size : Int) - ((sfx r k').size : Int)) = (k' : Int) := by omega
           have HSP := Am hstep
           have HTA := Am (show tacc s r i k (j + 1) = min (tacc s r i k j) (costK j + tb s r i' k') from hta)
           have hb4 : i' < 41 := by omega
           have hb5 : k' < 41 := by omega
           have hb6 : (i' : Int) < 41 := by omega
           have hb7 : (k' : Int) < 41 := by omega
           have hb8 : (0 : Int) ≤ (i' : Int) := by omega
           have hb9 : (0 : Int) ≤ (k' : Int) := by omega
           have HCO := Am (fun W => cost112_any j W)
           have hw1 : IntKind.i64.wrap ((s.size : Int) - ((sfx s i').size : Int)) = (i' : Int) := by rw [hz1]; exact IntWalk.i64_in _ (by omega)
           have hw2 : IntKind.i64.wrap ((r.size : Int) - ((sfx r k').size : Int)) = (k' : Int) := by rw [hz2]; exact IntWalk.i64_in _ (by omega)
           have hw3 : IntKind.i64.wrap (costK j + tb s r i' k') = costK j + tb s r i' k' := IntWalk.i64_in _ (by omega)
           clear hstep hvr hgo hta b6 b7 za zb ht1 ht2 ht3 hc1 hz1 hz2
           generalize sfx s i' = a at *
           generalize sfx r k' = b at *
           generalize tb s r i' k' = T at *
           generalize costK j = C at *
           go_wp2
           go_quiet ((go_at_call 111; exact HSP.out _))
           go_wp2
           refine wp_still_tail 32 (by kernel_rfl) (by kernel_rfl) ?_
           simp only [List.take_succ_cons, List.take_zero, List.drop_succ_cons, List.drop_zero]
           repeat still_step
           still_call (HCO.out _)
           repeat still_step
           refine wpStill_nil ?_
           have hst4 := (HT3.out.drewN nq).drew.start3 i k (Nat.le_refl _) hs hr hi hk (tacc s r i k (j + 1))
           rw [HTA.out] at hst4
           have HST4 := Am hst4
           clear hst4 hw1 hw2 hw3
           go_wp2
           go_roundg (6 - (j + 1))
           case measure => omega
           case rel => exact ⟨j + 1, by omega, by omega, by go_num, ⟨HST4.out.1⟩, ⟨by rw [HTA.out]; exact HST4.out.2⟩⟩
        ·have hj7 : j = 6 := by omega
         subst hj7
         have hj6z : ¬ ((6 : Nat) : Int) ≤ 5 := by omega
         have HTF := Am (HT3.out.add (D' := D2 i k) i k (by rw [← tacc_6]; exact HC3.out) (fun i' k' _ _ hD => by unfold D2 at *; omega))
         clear HT3 HC3
         go_wp2
         go_roundg k
         case measure => omega
         case rel =>
          by_cases q : k = 0
          ·exact .inr ⟨by rw [q]; rfl, by rw [← q]; exact HTF⟩
          ·exact .inl ⟨k - 1, by omega, by omega, by congr 1; omega, by rw [show k - 1 + 1 = k by omega]; exact HTF⟩
      ·have q2b : ((k : Int) == (r.size : Int)) = false := by rw [beq_eq_false_iff_ne]; omega
       have H00 : Aside0 ((if (sfx s i).size = 0 ∧ (sfx r k).size = 0 then (0 : Int) else 1000) = 1000) := ⟨if_neg (by rw [sfx_size s i hi, sfx_size r k hk]; omega)⟩
       clear q1
       have hst3 := HT.out.start3 i k (Nat.le_refl _) hs hr hi hk 1000
       have HST3 := Am hst3
       clear HT hst3
       go_wp2
       go_loopg [8] 6 (fun gg v8 wq => ∃ j : Nat, j ≤ 6 ∧ 6 - j ≤ gg ∧ v8 = .int .i64 j ∧ Aside0 (TB w w.heap.size s r (D2 i (k + 1)) wq) ∧ Aside0 (wq.cell? ⟨w.heap.size, i * 41 + k, none⟩ = some (.int .i64 (tacc s r i k j))))
       case atStart => exact ⟨0, by omega, by omega, rfl, ⟨HST3.out.1⟩, ⟨by rw [HST3.out.2, tacc_0, H00.out]⟩⟩
       case round =>
        obtain ⟨j, hj, hg3, rfl, HT3, HC3⟩ := hrel
        by_cases hj6 : j < 6
        ·have hj6z : (j : Int) ≤ 5 := by omega
         have hvr := sfx_bytes r k hv
         have hstep : ∀ n, Calls Tryz.prog 111 #[.int .i64 (j : Int), .string (s.extract i s.size), .string (r.extract k r.size)] (wr.drewN n) fun e w' => e = .returned (.tuple #[.string (stepR j (sfx s i) (sfx r k)).1, .string (stepR j (sfx s i) (sfx r k)).2.1, .bool (stepR j (sfx s i) (sfx r k)).2.2]) ∧ ∃ m, w' = wr.drewN m := fun n =>
           (step111_any j hj6 (sfx s i) (sfx r k) hvr (wr.drewN n)).mono fun _ _ ⟨he, m, hm⟩ => ⟨he, n + m, by rw [hm, World.drewN_drewN]⟩
         have y1 : (i : Int) ≤ (s.size : Int) := by omega
         have y2 : (k : Int) ≤ (r.size : Int) := by omega
         cases hgo : goes (sfx s i) (sfx r k) j with
         | false =>
           rw [step_no j _ _ hgo] at hstep
           have HSP := Am hstep
           have HTA := Am (tacc_skip s r i k j hj6 hgo)
           clear hstep hvr hgo
           go_wp2
           go_quiet ((go_at_call 111; exact HSP.out _))
           go_wp2
           go_roundg (6 - (j + 1))
           case measure => omega
           case rel => exact ⟨j + 1, by omega, by omega, by go_num, ⟨HT3.out.drewN _⟩, ⟨by rw [HTA.out]; exact HC3.out⟩⟩
         | true =>
           rw [step_yes j _ _ hgo] at hstep
           have hta := tacc_step s r i k j hj6 hgo
           obtain ⟨i', k', b1, b2, b3, b4, b5, b6, b7⟩ := left_sfx s r i k j hi hk hj6 hgo
           rw [b6, b7] at hstep hta
           have za := sfx_size s i' b1
           have zb := sfx_size r k' b2
           have c9 := HT3.out.at_ i' k' b1 b2 (by unfold D2; omega)
           have f3 := HT3.out.frozen (i * 41 + k)
           have c3 := HC3.out
           have ht1 : tb s r i' k' ≤ 1000 := by unfold tb; omega
           have ht2 : 0 ≤ tb s r i' k' := by have := (few_bd (sfx s i') (sfx r k')).1; unfold tb; omega
           have ht3 := tacc_bd s r i k j
           have hc1 : 0 ≤ costK j ∧ costK j ≤ 1 := by unfold costK; split <;> omega
           have hz1 : ((s.size : Int) - ((sfx s i').size : Int)) = (i' : Int) := by omega
           have hz2 : ((r.size : Int) - ((sfx r k').size : Int)) = (k' : Int) := by omega
           have HSP := Am hstep
           have HTA := Am (show tacc s r i k (j + 1) = min (tacc s r i k j) (costK j + tb s r i' k') from hta)
           have hb4 : i' < 41 := by omega
           have hb5 : k' < 41 := by omega
           have hb6 : (i' : Int) < 41 := by omega
           have hb7 : (k' : Int) < 41 := by omega
           have hb8 : (0 : Int) ≤ (i' : Int) := by omega
           have hb9 : (0 : Int) ≤ (k' : Int) := by omega
           have HCO := Am (fun W => cost112_any j W)
           have hw1 : IntKind.i64.wrap ((s.size : Int) - ((sfx s i').size : Int)) = (i' : Int) := by rw [hz1]; exact IntWalk.i64_in _ (by omega)
           have hw2 : IntKind.i64.wrap ((r.size : Int) - ((sfx r k').size : Int)) = (k' : Int) := by rw [hz2]; exact IntWalk.i64_in _ (by omega)
           have hw3 : IntKind.i64.wrap (costK j + tb s r i' k') = costK j + tb s r i' k' := IntWalk.i64_in _ (by omega)
           clear hstep hvr hgo hta b6 b7 za zb ht1 ht2 ht3 hc1 hz1 hz2
           generalize sfx s i' = a at *
           generalize sfx r k' = b at *
           generalize tb s r i' k' = T at *
           generalize costK j = C at *
           go_wp2
           go_quiet ((go_at_call 111; exact HSP.out _))
           go_wp2
           refine wp_still_tail 32 (by kernel_rfl) (by kernel_rfl) ?_
           simp only [List.take_succ_cons, List.take_zero, List.drop_succ_cons, List.drop_zero]
           repeat still_step
           still_call (HCO.out _)
           repeat still_step
           refine wpStill_nil ?_
           have hst4 := (HT3.out.drewN nq).drew.start3 i k (Nat.le_refl _) hs hr hi hk (tacc s r i k (j + 1))
           rw [HTA.out] at hst4
           have HST4 := Am hst4
           clear hst4 hw1 hw2 hw3
           go_wp2
           go_roundg (6 - (j + 1))
           case measure => omega
           case rel => exact ⟨j + 1, by omega, by omega, by go_num, ⟨HST4.out.1⟩, ⟨by rw [HTA.out]; exact HST4.out.2⟩⟩
        ·have hj7 : j = 6 := by omega
         subst hj7
         have hj6z : ¬ ((6 : Nat) : Int) ≤ 5 := by omega
         have HTF := Am (HT3.out.add (D' := D2 i k) i k (by rw [← tacc_6]; exact HC3.out) (fun i' k' _ _ hD => by unfold D2 at *; omega))
         clear HT3 HC3
         go_wp2
         go_roundg k
         case measure => omega
         case rel =>
          by_cases q : k = 0
          ·exact .inr ⟨by rw [q]; rfl, by rw [← q]; exact HTF⟩
          ·exact .inl ⟨k - 1, by omega, by omega, by congr 1; omega, by rw [show k - 1 + 1 = k by omega]; exact HTF⟩
     ·have q1b : ((i : Int) == (s.size : Int)) = false := by rw [beq_eq_false_iff_ne]; omega
      have q1c : ¬ (i : Int) = (s.size : Int) := by omega
      have H00 : Aside0 ((if (sfx s i).size = 0 ∧ (sfx r k).size = 0 then (0 : Int) else 1000) = 1000) := ⟨if_neg (by rw [sfx_size s i hi]; omega)⟩
      have hst3 := HT.out.start3 i k (Nat.le_refl _) hs hr hi hk 1000
      have HST3 := Am hst3
      clear HT hst3
      go_wp2
      go_loopg [8] 6 (fun gg v8 wq => ∃ j : Nat, j ≤ 6 ∧ 6 - j ≤ gg ∧ v8 = .int .i64 j ∧ Aside0 (TB w w.heap.size s r (D2 i (k + 1)) wq) ∧ Aside0 (wq.cell? ⟨w.heap.size, i * 41 + k, none⟩ = some (.int .i64 (tacc s r i k j))))
      case atStart => exact ⟨0, by omega, by omega, rfl, ⟨HST3.out.1⟩, ⟨by rw [HST3.out.2, tacc_0, H00.out]⟩⟩
      case round =>
       obtain ⟨j, hj, hg3, rfl, HT3, HC3⟩ := hrel
       by_cases hj6 : j < 6
       ·have hj6z : (j : Int) ≤ 5 := by omega
        have hvr := sfx_bytes r k hv
        have hstep : ∀ n, Calls Tryz.prog 111 #[.int .i64 (j : Int), .string (s.extract i s.size), .string (r.extract k r.size)] (wr.drewN n) fun e w' => e = .returned (.tuple #[.string (stepR j (sfx s i) (sfx r k)).1, .string (stepR j (sfx s i) (sfx r k)).2.1, .bool (stepR j (sfx s i) (sfx r k)).2.2]) ∧ ∃ m, w' = wr.drewN m := fun n =>
          (step111_any j hj6 (sfx s i) (sfx r k) hvr (wr.drewN n)).mono fun _ _ ⟨he, m, hm⟩ => ⟨he, n + m, by rw [hm, World.drewN_drewN]⟩
        have y1 : (i : Int) ≤ (s.size : Int) := by omega
        have y2 : (k : Int) ≤ (r.size : Int) := by omega
        cases hgo : goes (sfx s i) (sfx r k) j with
        | false =>
          rw [step_no j _ _ hgo] at hstep
          have HSP := Am hstep
          have HTA := Am (tacc_skip s r i k j hj6 hgo)
          clear hstep hvr hgo
          go_wp2
          go_quiet ((go_at_call 111; exact HSP.out _))
          go_wp2
          go_roundg (6 - (j + 1))
          case measure => omega
          case rel => exact ⟨j + 1, by omega, by omega, by go_num, ⟨HT3.out.drewN _⟩, ⟨by rw [HTA.out]; exact HC3.out⟩⟩
        | true =>
          rw [step_yes j _ _ hgo] at hstep
          have hta := tacc_step s r i k j hj6 hgo
          obtain ⟨i', k', b1, b2, b3, b4, b5, b6, b7⟩ := left_sfx s r i k j hi hk hj6 hgo
          rw [b6, b7] at hstep hta
          have za := sfx_size s i' b1
          have zb := sfx_size r k' b2
          have c9 := HT3.out.at_ i' k' b1 b2 (by unfold D2; omega)
          have f3 := HT3.out.frozen (i * 41 + k)
          have c3 := HC3.out
          have ht1 : tb s r i' k' ≤ 1000 := by unfold tb; omega
          have ht2 : 0 ≤ tb s r i' k' := by have := (few_bd (sfx s i') (sfx r k')).1; unfold tb; omega
          have ht3 := tacc_bd s r i k j
          have hc1 : 0 ≤ costK j ∧ costK j ≤ 1 := by unfold costK; split <;> omega
          have hz1 : ((s.size : Int) - ((sfx s i').size : Int)) = (i' : Int) := by omega
          have hz2 : ((r.size : Int) - ((sfx r k').size : Int)) = (k' : Int) := by omega
          have HSP := Am hstep
          have HTA := Am (show tacc s r i k (j + 1) = min (tacc s r i k j) (costK j + tb s r i' k') from hta)
          have hb4 : i' < 41 := by omega
          have hb5 : k' < 41 := by omega
          have hb6 : (i' : Int) < 41 := by omega
          have hb7 : (k' : Int) < 41 := by omega
          have hb8 : (0 : Int) ≤ (i' : Int) := by omega
          have hb9 : (0 : Int) ≤ (k' : Int) := by omega
          have HCO := Am (fun W => cost112_any j W)
          have hw1 : IntKind.i64.wrap ((s.size : Int) - ((sfx s i').size : Int)) = (i' : Int) := by rw [hz1]; exact IntWalk.i64_in _ (by omega)
          have hw2 : IntKind.i64.wrap ((r.size : Int) - ((sfx r k').size : Int)) = (k' : Int) := by rw [hz2]; exact IntWalk.i64_in _ (by omega)
          have hw3 : IntKind.i64.wrap (costK j + tb s r i' k') = costK j + tb s r i' k' := IntWalk.i64_in _ (by omega)
          clear hstep hvr hgo hta b6 b7 za zb ht1 ht2 ht3 hc1 hz1 hz2
          generalize sfx s i' = a at *
          generalize sfx r k' = b at *
          generalize tb s r i' k' = T at *
          generalize costK j = C at *
          go_wp2
          go_quiet ((go_at_call 111; exact HSP.out _))
          go_wp2
          refine wp_still_tail 32 (by kernel_rfl) (by kernel_rfl) ?_
          simp only [List.take_succ_cons, List.take_zero, List.drop_succ_cons, List.drop_zero]
          repeat still_step
          still_call (HCO.out _)
          repeat still_step
          refine wpStill_nil ?_
          have hst4 := (HT3.out.drewN nq).drew.start3 i k (Nat.le_refl _) hs hr hi hk (tacc s r i k (j + 1))
          rw [HTA.out] at hst4
          have HST4 := Am hst4
          clear hst4 hw1 hw2 hw3
          go_wp2
          go_roundg (6 - (j + 1))
          case measure => omega
          case rel => exact ⟨j + 1, by omega, by omega, by go_num, ⟨HST4.out.1⟩, ⟨by rw [HTA.out]; exact HST4.out.2⟩⟩
       ·have hj7 : j = 6 := by omega
        subst hj7
        have hj6z : ¬ ((6 : Nat) : Int) ≤ 5 := by omega
        have HTF := Am (HT3.out.add (D' := D2 i k) i k (by rw [← tacc_6]; exact HC3.out) (fun i' k' _ _ hD => by unfold D2 at *; omega))
        clear HT3 HC3
        go_wp2
        go_roundg k
        case measure => omega
        case rel =>
         by_cases q : k = 0
         ·exact .inr ⟨by rw [q]; rfl, by rw [← q]; exact HTF⟩
         ·exact .inl ⟨k - 1, by omega, by omega, by congr 1; omega, by rw [show k - 1 + 1 = k by omega]; exact HTF⟩
    ·have HTn := Am (HT.out.imp (D' := D1 i) (fun i' k' hi' hk' hD => by unfold D1 at hD; unfold D2; omega))
     clear HT
     go_wp2
     go_roundg i
     case measure => omega
     case rel =>
      by_cases q : i = 0
      ·exact .inr ⟨by rw [q]; rfl, by rw [← q]; exact HTn⟩
      ·exact .inl ⟨i - 1, by omega, by omega, by congr 1; omega, by rw [show i - 1 + 1 = i by omega]; exact HTn⟩
  ·go_wp2
   go_ret
   exact ⟨rfl, HT.out.imp (fun i k hi hk _ => Nat.zero_le _)⟩
def errR (s r : ByteArray) : Int := min 1000 (few s r)
theorem errs105_any (s r : ByteArray) (w : World) (hs : s.size ≤ 40) (hr : r.size ≤ 40) (hv : ∀ x, x ∈ r.data.toList → x ≠ 33) :
 Calls Tryz.prog 105 #[.string s, .string r] w fun e w' => e = .returned (.tuple #[.int .i64 (errR s r), .bool (decide (errR s r < 1000))]) ∧ Below w.heap.size w w' := by
 have hend := ends_any s r w hs hr hv
 have e0 : tb s r 0 0 = errR s r := by
  unfold tb errR sfx
  rw [ext_all, ext_all]
 have HE := Am hend
 have HE0 := Am e0
 clear hend e0
 generalize errR s r = E at *
 go_enter Tryz.func105, Tryz.ntmps105
 go_wp2_with (fail)
 refine HE.out.mono ?_
 rintro e w1 ⟨rfl, hT⟩
 have c0 := hT.at_ 0 0 (Nat.zero_le _) (Nat.zero_le _) trivial
 rw [HE0.out] at c0
 rw [show 0 * 41 + 0 = 0 from rfl] at c0
 have HT := Am hT.bel
 clear hT
 go_wp2
 go_ret2
 exact ⟨rfl, HT.out⟩
def sgB (ls : List ByteArray) (t : List Int) (i : Nat) : List UInt8 := Lib.join ((t.take i).map (fun n => (letterAt ls n).data.toList)) [32]
theorem join_snoc (a : List (List UInt8)) (x sep : List UInt8) (h : a ≠ []) : Lib.join (a ++ [x]) sep = Lib.join a sep ++ sep ++ x := by
 cases a with
 | nil => exact absurd rfl h
 | cons y t =>
   rw [List.cons_append, Lib.join_cons, Lib.join_cons]
   simp [Lib.joinTail, List.append_assoc]
theorem sgB_0 (ls : List ByteArray) (t : List Int) : sgB ls t 0 = [] := rfl
theorem sgB_1 (ls : List ByteArray) (t : List Int) (i : Nat) (hi : i < t.length) (h0 : i = 0) : sgB ls t (i + 1) = (letterAt ls t[i]).data.toList := by
 subst h0
 unfold sgB
 rw [List.take_succ_eq_append_getElem hi]
 simp [Lib.join_one]
theorem sgB_s (ls : List ByteArray) (t : List Int) (i : Nat) (hi : i < t.length) (h0 : 0 < i) : sgB ls t (i + 1) = sgB ls t i ++ [32] ++ (letterAt ls t[i]).data.toList := by
 unfold sgB
 rw [List.take_succ_eq_append_getElem hi, List.map_append, List.map_cons, List.map_nil, join_snoc]
 intro e
 have := congrArg List.length e
 rw [List.length_map, List.length_take] at this
 change min i t.length = 0 at this
 omega
theorem sgB_len (ls : List ByteArray) (t : List Int) (hl : ∀ x, x ∈ t → (letterAt ls x).size ≤ 4) : ∀ i, i ≤ t.length → (sgB ls t i).length ≤ 5 * i
 | 0, _ => by simp [sgB_0]
 | i + 1, h => by
   have ih := sgB_len ls t hl i (by omega)
   have h4 := hl t[i] (List.getElem_mem (by omega))
   have e : (letterAt ls t[i]).data.toList.length = (letterAt ls t[i]).size := Array.length_toList
   by_cases h0 : i = 0
   ·rw [sgB_1 ls t i (by omega) h0, e]; omega
   ·rw [sgB_s ls t i (by omega) (by omega), List.length_append, List.length_append, e]; simp; omega
theorem ba_eq {a b : ByteArray} (h : a.data.toList = b.data.toList) : a = b := by
  apply ByteArray.ext
  exact Array.toList_inj.1 h
theorem signs_l (ls : List ByteArray) (t : List Int) (hb : t.length ≤ 1000) (hin : ∀ x, x ∈ t → 0 ≤ x ∧ x < ls.length) (hl : ∀ x, x ∈ t → (letterAt ls x).size ≤ 4) : ∀ (d i k : Nat) (b : ByteArray), d = t.length - i → i ≤ t.length → d < k → b = ⟨(sgB ls t i).toArray⟩ →
 r2Signs.l0 k t b i ls = some ⟨(signsL ls t).toArray⟩ := by
 intro d
 induction d with
 | zero =>
   intro i k b hd hi hk he
   obtain ⟨k, rfl⟩ : ∃ m, k = m + 1 := ⟨k - 1, by omega⟩
   have hi2 : i = t.length := by omega
   subst hi2
   simp only [r2Signs.l0]
   rw [if_neg (by omega), he]
   unfold sgB signsL
   rw [List.take_length]
 | succ d ih =>
   intro i k b hd hi hk he
   obtain ⟨k, rfl⟩ : ∃ m, k = m + 1 := ⟨k - 1, by omega⟩
   have h1 : i < t.length := by omega
   have hm := List.getElem_mem h1
   obtain ⟨g1, g2⟩ := hin t[i] hm
   have g4 := hl t[i] hm
   have hbs : b.size ≤ 5 * i := by
    have := sgB_len ls t hl i hi
    rw [he]
    show (sgB ls t i).toArray.size ≤ 5 * i
    simpa using this
   have eL : rdOf ByteArray.empty ls t[i] = letterAt ls t[i] := rfl
   simp only [r2Signs.l0]
   rw [if_pos (by omega), rd_nat t i h1, wrap_nat i t.length h1 (by omega), eL]
   by_cases h0 : i = 0
   ·rw [if_neg (by omega), if_pos (by omega), if_pos g1, if_pos g2, if_pos (by omega)]
    refine ih (i + 1) k _ (by omega) (by omega) (by omega) (ba_eq ?_)
    rw [sgB_1 ls t i h1 h0, he]
    subst h0
    rw [sgB_0]
    simp
   ·have hsz : (b ++ (⟨#[32]⟩ : ByteArray)).size = b.size + 1 := by simp [ByteArray.size_append]; rfl
    rw [if_pos (by omega), if_pos (by omega), if_pos (by omega), if_pos g1, if_pos g2, if_pos (by rw [hsz]; omega)]
    refine ih (i + 1) k _ (by omega) (by omega) (by omega) (ba_eq ?_)
    rw [sgB_s ls t i h1 (by omega), he]
    simp
theorem signs81_any (ls : List ByteArray) (A : Option Addr) (c : Nat) (A1 : Option Addr) (c1 : Nat) (t : List Int) (w : World) (hls : Kd.C Kd.string w A ls.length ls) (hc : ls.length ≤ c) (ht : Kd.C (Kd.int .i64) w A1 t.length t) (hc1 : t.length ≤ c1)
 (hb : t.length ≤ 1000) (hin : ∀ x, x ∈ t → 0 ≤ x ∧ x < ls.length) (hl : ∀ x, x ∈ t → (letterAt ls x).size ≤ 4) :
 Calls Tryz.prog 81 #[.agg #[.slice A ls.length c], .slice A1 t.length c1] w fun e w' => e = .returned (.string ⟨(signsL ls t).toArray⟩) ∧ Below w.heap.size w w' :=
 r2Signs.calls (t.length + 1) A c ls A1 c1 t _ w hls hc ht hc1 (by
   unfold r2Signs.f
   exact signs_l ls t hb hin hl t.length 0 (t.length + 1) _ (by omega) (by omega) (by omega) rfl)
def inR (n lo hi : Int) : Bool := decide (lo ≤ n) && decide (n ≤ hi)
theorem in23_any (n lo hi : Int) (w : World) : Calls Tryz.prog 23 #[.int .i64 n, .int .i64 lo, .int .i64 hi] w fun e w' => e = .returned (.bool (inR n lo hi)) ∧ w = w' := by
  by_cases h1 : lo ≤ n
  ·obtain ⟨V, hV⟩ : ∃ V, V = inR n lo hi := ⟨_, rfl⟩
   rw [← hV]
   have HV := Am (hV.trans (show inR n lo hi = decide (n ≤ hi) by simp [inR, h1]))
   clear hV
   go_enter Tryz.func23, Tryz.ntmps23
   go_wp2
   go_ret
   exact ⟨by rw [HV.out]; rfl, rfl⟩
  ·obtain ⟨V, hV⟩ : ∃ V, V = inR n lo hi := ⟨_, rfl⟩
   rw [← hV]
   have HV := Am (hV.trans (show inR n lo hi = false by simp [inR]; omega))
   clear hV
   go_enter Tryz.func23, Tryz.ntmps23
   go_wp2
   go_ret
   exact ⟨by rw [HV.out]; rfl, rfl⟩
theorem in127_any (n lo hi : Int) (w : World) : Calls Tryz.prog 127 #[.int .i64 n, .int .i64 lo, .int .i64 hi] w fun e w' => e = .returned (.bool (inR n lo hi)) ∧ w' = w := by
  by_cases h1 : lo ≤ n
  ·obtain ⟨V, hV⟩ : ∃ V, V = inR n lo hi := ⟨_, rfl⟩
   rw [← hV]
   have HV := Am (hV.trans (show inR n lo hi = decide (n ≤ hi) by simp [inR, h1]))
   clear hV
   go_enter Tryz.func127, Tryz.ntmps127
   go_wp2
   go_ret
   exact ⟨by rw [HV.out]; rfl, rfl⟩
  ·obtain ⟨V, hV⟩ : ∃ V, V = inR n lo hi := ⟨_, rfl⟩
   rw [← hV]
   have HV := Am (hV.trans (show inR n lo hi = false by simp [inR]; omega))
   clear hV
   go_enter Tryz.func127, Tryz.ntmps127
   go_wp2
   go_ret
   exact ⟨by rw [HV.out]; rfl, rfl⟩
def okC (x : Int) : Bool := x == 46 || x == 45 || x == 32
def okD (x : Int) : Bool := x == 46 || x == 45
theorem hasC (x : Int) (h0 : 0 ≤ x) (h1 : x < 256) : hasBy ⟨#[46, 45, 32]⟩ x = okC x := by
 have h : ∀ n : Fin 256, hasBy ⟨#[46, 45, 32]⟩ ((n.1 : Nat) : Int) = okC ((n.1 : Nat) : Int) := by decide +kernel
 have := h ⟨x.toNat, by omega⟩
 rwa [show ((x.toNat : Nat) : Int) = x by omega] at this
theorem hasD (x : Int) (h0 : 0 ≤ x) (h1 : x < 256) : hasBy ⟨#[46, 45]⟩ x = okD x := by
 have h : ∀ n : Fin 256, hasBy ⟨#[46, 45]⟩ ((n.1 : Nat) : Int) = okD ((n.1 : Nat) : Int) := by decide +kernel
 have := h ⟨x.toNat, by omega⟩
 rwa [show ((x.toNat : Nat) : Int) = x by omega] at this
theorem bytes_get (s : ByteArray) (j : Nat) (h : j < s.size) : ∃ hj, (bytesOf s)[j]'hj = bt s (j : Int) ∧ 0 ≤ bt s (j : Int) ∧ bt s (j : Int) < 256 := by
 have e : bt s (j : Int) = (s[j].toNat : Int) := by have := bt_at s (j : Int); simp [bt, h]
 refine ⟨by rw [bytesOf_length]; exact h, ?_, ?_, ?_⟩
 ·rw [e]; simp [bytesOf]; rfl
 ·rw [e]; omega
 ·rw [e]; have := UInt8.toNat_lt s[j]; omega
theorem all_bytes (s : ByteArray) (p q : Int → Bool) (hpq : ∀ x, 0 ≤ x → x < 256 → p x = q x) : (bytesOf s).all p = true ↔ ∀ j : Nat, j < s.size → q (bt s (j : Int)) = true := by
 rw [List.all_eq_true]
 constructor
 ·intro h j hj
  obtain ⟨hj2, e1, e2, e3⟩ := bytes_get s j hj
  rw [← hpq _ e2 e3, ← e1]
  exact h _ (List.getElem_mem hj2)
 ·intro h x hx
  obtain ⟨j, hj, rfl⟩ := List.getElem_of_mem hx
  have hj2 : j < s.size := by rwa [bytesOf_length] at hj
  obtain ⟨_, e1, e2, e3⟩ := bytes_get s j hj2
  rw [e1, hpq _ e2 e3]
  exact h j hj2
theorem sig_iff (s : ByteArray) : sigB s = true ↔ ∀ j : Nat, j < s.size → okC (bt s (j : Int)) = true := all_bytes s _ _ hasC
theorem dig_iff (s : ByteArray) : (bytesOf s).all (hasBy ⟨#[46, 45]⟩) = true ↔ ∀ j : Nat, j < s.size → okD (bt s (j : Int)) = true := all_bytes s _ _ hasD
def sfE (s : ByteArray) : Int := if lenB s = false then 3 else if sigB s = false then 4 else 0
theorem app_empty (s : ByteArray) : s ++ (⟨#[]⟩ : ByteArray) = s := by
 apply ByteArray.ext
 simp
set_option maxRecDepth 100000 in
set_option maxHeartbeats 4000000 in
theorem signsFault98_any (s : ByteArray) (w : World) : Calls Tryz.prog 98 #[.string s, .string ⟨#[]⟩] w fun e w' => e = .returned (.int .i64 (sfE s)) ∧ w' = w := by
  obtain ⟨V, hV⟩ : ∃ V, V = sfE s := ⟨_, rfl⟩
  rw [← hV]
  by_cases h40 : s.size ≤ 40
  ·have HA := Am (fun (h : ∀ j : Nat, j < s.size → okC (bt s (j : Int)) = true) => hV.trans (show sfE s = 0 by
     have h1 : lenB s = true := by simp [lenB]; omega
     simp [sfE, h1, (sig_iff s).2 h]))
   have HN := Am (fun (j : Nat) (hj : j < s.size) (h : okC (bt s (j : Int)) = false) => hV.trans (show sfE s = 4 by
     have h1 : lenB s = true := by simp [lenB]; omega
     have h2 : sigB s = false := by
      cases hx : sigB s with
      | false => rfl
      | true => rw [(sig_iff s).1 hx j hj] at h; cases h
     simp [sfE, h1, h2]))
   clear hV
   have hz : ¬ (s.size : Int) > 40 := by omega
   have hz2 : (s.size : Int) ≤ 40 := by omega
   have happ := app_empty s
   go_enter Tryz.func98, Tryz.ntmps98
   go_wp2
   go_loopg [6] s.size (fun gg v6 wr => ∃ i : Nat, i ≤ s.size ∧ s.size - i ≤ gg ∧ v6 = .int .i64 i ∧ Aside0 (∀ j : Nat, j < i → okC (bt s (j : Int)) = true) ∧ wr = w)
   case atStart => exact ⟨0, by omega, by omega, by go_num, ⟨fun j hj => by omega⟩, rfl⟩
   case round =>
    obtain ⟨i, hi, hg, rfl, HI, rfl⟩ := hrel
    by_cases hlt : i < s.size
    ·have hltz : (i : Int) < (s.size : Int) := by omega
     have hb : ∀ h : i < s.size, ((s[i]'h).toNat : Int) = bt s (i : Int) := fun h => by simp [bt, h]
     have HN2 := Am (HN.out i hlt)
     have HS := Am (fun (h : okC (bt s (i : Int)) = true) (j : Nat) (hj : j < i + 1) => show okC (bt s (j : Int)) = true from by
       by_cases e : j = i
       ·rw [e]; exact h
       ·exact HI.out j (by omega))
     generalize bt s (i : Int) = x at *
     by_cases x46 : x = 46
     ·subst x46
      have HY := Am (HS.out (by decide))
      go_wp2
      go_roundg (s.size - (i + 1))
      case measure => omega
      case rel => exact ⟨i + 1, by omega, by omega, by go_num, HY, rfl⟩
     ·have a1 : (x == 46) = false := by simpa using x46
      have a2 : (x != 46) = true := by simpa using x46
      by_cases x45 : x = 45
      ·subst x45
       have HY := Am (HS.out (by decide))
       go_wp2
       go_roundg (s.size - (i + 1))
       case measure => omega
       case rel => exact ⟨i + 1, by omega, by omega, by go_num, HY, rfl⟩
      ·have a3 : (x == 45) = false := by simpa using x45
       have a4 : (x != 45) = true := by simpa using x45
       by_cases x32 : x = 32
       ·subst x32
        have HY := Am (HS.out (by decide))
        go_wp2
        go_roundg (s.size - (i + 1))
        case measure => omega
        case rel => exact ⟨i + 1, by omega, by omega, by go_num, HY, rfl⟩
       ·have a5 : (x == 32) = false := by simpa using x32
        have a6 : (x != 32) = true := by simpa using x32
        have HF := Am (HN2.out (by simp [okC, x46, x45, x32]))
        go_wp2
        go_ret
        exact ⟨by rw [HF.out]; rfl, rfl⟩
    ·have hi2 : i = s.size := by omega
     have HF := Am (HA.out (by rw [← hi2]; exact HI.out))
     clear HI
     subst hi2
     have hltz : ¬ (s.size : Int) < (s.size : Int) := by omega
     go_wp2
     go_ret
     exact ⟨by rw [HF.out]; rfl, rfl⟩
  ·have HV := Am (hV.trans (show sfE s = 3 by
     have : lenB s = false := by simp [lenB]; omega
     simp [sfE, this]))
   clear hV
   have hz : (s.size : Int) > 40 := by omega
   go_enter Tryz.func98, Tryz.ntmps98
   go_wp2
   go_ret
   exact ⟨by rw [HV.out]; rfl, rfl⟩
def goodAt (ls : List ByteArray) (j : Nat) : Prop := letterB (ls.getD j ByteArray.empty) = true ∧ dupAt ls j = false
theorem code_good (ls : List ByteArray) (h6 : ls.length ≤ 6) (h0 : ls.length ≠ 0) (h : ∀ j : Nat, j < ls.length → goodAt ls j) : codeE ls = 0 := by
 have h1 : ls.all letterB = true := by
  rw [List.all_eq_true]
  intro x hx
  obtain ⟨j, hj, rfl⟩ := List.getElem_of_mem hx
  have := (h j hj).1
  simpa [List.getD_eq_getElem?_getD, hj] using this
 have h2 : dupTo ls ls.length = false := by
  unfold dupTo
  rw [List.any_eq_false]
  intro j hj
  rw [(h j (List.mem_range.1 hj)).2]
  simp
 unfold codeE
 rw [if_neg (by omega), if_neg h0, if_neg (by rw [h1]; simp), if_neg (by rw [h2]; simp)]
theorem code_bad (ls : List ByteArray) (h6 : ls.length ≤ 6) (j : Nat) (hj : j < ls.length) (h : ¬ goodAt ls j) : codeE ls = 1 := by
 unfold codeE
 rw [if_neg (by omega), if_neg (by omega)]
 by_cases h1 : ls.all letterB = false
 ·rw [if_pos h1]
 ·rw [if_neg h1]
  have h1' : ls.all letterB = true := by simpa using h1
  have hl : letterB (ls.getD j ByteArray.empty) = true := by
   rw [List.all_eq_true] at h1'
   have := h1' _ (List.getElem_mem hj)
   simpa [List.getD_eq_getElem?_getD, hj] using this
  have hd : dupAt ls j = true := by
   cases hx : dupAt ls j with
   | true => rfl
   | false => exact absurd ⟨hl, hx⟩ h
  have : dupTo ls ls.length = true := by
   unfold dupTo
   rw [List.any_eq_true]
   exact ⟨j, List.mem_range.2 hj, hd⟩
  rw [if_pos this]
theorem letter_iff (s : ByteArray) : letterB s = true ↔ inR s.size 1 4 = true ∧ ∀ j : Nat, j < s.size → okD (bt s (j : Int)) = true := by
 unfold letterB inR
 rw [← dig_iff]
 simp only [Bool.and_eq_true, decide_eq_true_eq]
 constructor
 ·rintro ⟨⟨a, b⟩, c⟩; exact ⟨⟨by omega, b⟩, c⟩
 ·rintro ⟨⟨a, b⟩, c⟩; exact ⟨⟨by omega, b⟩, c⟩
theorem dup_iff (ls : List ByteArray) (i : Nat) (hi : i < ls.length) : dupAt ls i = true ↔ ∃ j : Nat, ∃ hj : j < i, (ls[j]'(by omega)).toList = (ls[i]).toList := by
  unfold dupAt containsS
  rw [List.any_eq_true]
  have e : ls.getD i ByteArray.empty = ls[i] := by simp [List.getD_eq_getElem?_getD, hi]
  rw [e]
  constructor
  ·rintro ⟨x, hx, h⟩
   obtain ⟨j, hj, rfl⟩ := List.getElem_of_mem hx
   rw [List.length_take] at hj
   refine ⟨j, by omega, ?_⟩
   rw [List.getElem_take] at h
   exact (by simpa using h : ls[i].toList = ls[j].toList).symm
  ·rintro ⟨j, hj, h⟩
   refine ⟨ls[j], ?_, by rw [h]; simp⟩
   rw [List.mem_take_iff_getElem]
   exact ⟨j, by omega, rfl⟩
set_option maxRecDepth 100000 in
set_option maxHeartbeats 4000000 in
theorem fault96_any (A : Option Addr) (c : Nat) (ls : List ByteArray) (w : World) (hr : Kd.C Kd.string w A ls.length ls) : Calls Tryz.prog 96 #[.agg #[.slice A ls.length c]] w fun e w' => e = .returned (.int .i64 (codeE ls)) ∧ Below w.heap.size w w' := by
  have hu := Tryz.underlying24
  obtain ⟨V, hV⟩ : ∃ V, V = codeE ls := ⟨_, rfl⟩
  rw [← hV]
  have hb : Below w.heap.size w (w.alloc (.cells #[.slice A ls.length c] 24)) := (Below.refl _ w).alloc (Nat.le_refl _) _
  have HR := Am (Kd.C_below hr hb)
  have HB := Am hb
  clear hr hb
  by_cases h6 : ls.length ≤ 6
  ·have HG := Am (fun (h0 : ls.length ≠ 0) (h : ∀ j : Nat, j < ls.length → goodAt ls j) => hV.trans (code_good ls h6 h0 h))
   have HX := Am (fun (j : Nat) (hj : j < ls.length) (h : ¬ goodAt ls j) => hV.trans (code_bad ls h6 j hj h))
   have HZ := Am (fun (h : ls.length = 0) => hV.trans (show codeE ls = 1 by unfold codeE; rw [if_neg (by omega), if_pos h]))
   clear hV
   have hz : ¬ (ls.length : Int) > 6 := by omega
   go_enter Tryz.func96, Tryz.ntmps96
   go_wp2
   go_loopg [3] ls.length (fun gg v3 wr => ∃ i : Nat, i ≤ ls.length ∧ ls.length - i ≤ gg ∧ v3 = .int .i64 i ∧ Aside0 (∀ j : Nat, j < i → goodAt ls j) ∧ wr = w.alloc (.cells #[.slice A ls.length c] 24))
   case atStart => exact ⟨0, by omega, by omega, by go_num, ⟨fun j hj => by omega⟩, rfl⟩
   case round =>
    obtain ⟨i, hi, hg, rfl, HI, rfl⟩ := hrel
    by_cases hlt : i < ls.length
    ·have hltz : (i : Int) < (ls.length : Int) := by omega
     obtain ⟨ax, e1, cx⟩ := Kd.at_string HR.out (i : Int) (by omega) hltz
     cases e1
     rw [Int.toNat_natCast] at cx
     have hS : rdOf ByteArray.empty ls (i : Int) = ls[i] := by simp [rdOf, List.getD_eq_getElem?_getD, hlt]
     have hS2 : ls.getD i ByteArray.empty = ls[i] := by simp [List.getD_eq_getElem?_getD, hlt]
     rw [hS] at cx
     have hgood : inR (ls[i]).size 1 4 = true → (∀ j : Nat, j < (ls[i]).size → okD (bt ls[i] (j : Int)) = true) → (∀ (j : Nat) (hj : j < i), ¬ (ls[j]'(by omega)).toList = (ls[i]).toList) → ∀ j : Nat, j < i + 1 → goodAt ls j := fun h1 h2 h3 j hj => by
       by_cases e : j = i
       ·subst e
        refine ⟨by rw [hS2]; exact (letter_iff _).2 ⟨h1, h2⟩, ?_⟩
        cases hd : dupAt ls j with
        | false => rfl
        | true =>
          obtain ⟨k, hk, hx⟩ := (dup_iff ls j hlt).1 hd
          exact absurd hx (h3 k hk)
       ·exact HI.out j (by omega)
     have hb1 : inR (ls[i]).size 1 4 = false → V = 1 := fun h => HX.out i hlt (fun hgd => by
       have := ((letter_iff _).1 (hS2 ▸ hgd.1)).1
       rw [h] at this
       cases this)
     have hb2 : ∀ j : Nat, j < (ls[i]).size → okD (bt ls[i] (j : Int)) = false → V = 1 := fun j hj h => HX.out i hlt (fun hgd => by
       have := ((letter_iff _).1 (hS2 ▸ hgd.1)).2 j hj
       rw [h] at this
       cases this)
     have hb3 : ∀ (j : Nat) (hj : j < i), (ls[j]'(by omega)).toList = (ls[i]).toList → V = 1 := fun j hj h => HX.out i hlt (fun hgd => by
       have := (dup_iff ls i hlt).2 ⟨j, hj, h⟩
       rw [hgd.2] at this
       cases this)
     have HGD := Am hgood
     have HB1 := Am hb1
     have HB2 := Am hb2
     have HB3 := Am hb3
     clear hgood hb1 hb2 hb3 hS hS2
     generalize ls[i] = S at *
     cases hq : inR S.size 1 4 with
     | false =>
       have HF := Am (HB1.out hq)
       have hcall := fun W => in127_any S.size 1 4 W
       rw [hq] at hcall
       have HC := Am hcall
       clear hcall hq
       go_wp2_with (go_at_call 127; refine (HC.out _).mono ?_; rintro e w' ⟨rfl, rfl⟩)
       go_ret
       exact ⟨by rw [HF.out]; rfl, HB.out⟩
     | true =>
       have hcall := fun W => in127_any S.size 1 4 W
       rw [hq] at hcall
       have HC := Am hcall
       have HQ := Am hq
       have hs4 : S.size ≤ 4 := by
        simp only [inR, Bool.and_eq_true, decide_eq_true_eq] at hq
        omega
       clear hcall hq
       go_wp2_with (go_at_call 127; refine (HC.out _).mono ?_; rintro e w' ⟨rfl, rfl⟩)
       go_loopg [5] S.size (fun gg v5 wr => ∃ k : Nat, k ≤ S.size ∧ S.size - k ≤ gg ∧ v5 = .int .i64 k ∧ Aside0 (∀ j : Nat, j < k → okD (bt S (j : Int)) = true) ∧ wr = w.alloc (.cells #[.slice (some ax) ls.length c] 24))
       case atStart => exact ⟨0, by omega, by omega, by go_num, ⟨fun j hj => by omega⟩, rfl⟩
       case round =>
        obtain ⟨k, hk, hg2, rfl, HK, rfl⟩ := hrel
        by_cases hkl : k < S.size
        ·have hklz : (k : Int) < (S.size : Int) := by omega
         have hb : ∀ h : k < S.size, ((S[k]'h).toNat : Int) = bt S (k : Int) := fun h => by simp [bt, h]
         have HN2 := Am (HB2.out k hkl)
         have HS := Am (fun (h : okD (bt S (k : Int)) = true) (j : Nat) (hj : j < k + 1) => show okD (bt S (j : Int)) = true from by
           by_cases e : j = k
           ·rw [e]; exact h
           ·exact HK.out j (by omega))
         generalize bt S (k : Int) = x at *
         by_cases x46 : x = 46
         ·subst x46
          have HY := Am (HS.out (by decide))
          go_wp2
          go_roundg (S.size - (k + 1))
          case measure => omega
          case rel => exact ⟨k + 1, by omega, by omega, by go_num, HY, rfl⟩
         ·have a1 : (x == 46) = false := by simpa using x46
          have a2 : (x != 46) = true := by simpa using x46
          by_cases x45 : x = 45
          ·subst x45
           have HY := Am (HS.out (by decide))
           go_wp2
           go_roundg (S.size - (k + 1))
           case measure => omega
           case rel => exact ⟨k + 1, by omega, by omega, by go_num, HY, rfl⟩
          ·have a3 : (x == 45) = false := by simpa using x45
           have a4 : (x != 45) = true := by simpa using x45
           have HF := Am (HN2.out (by simp [okD, x46, x45]))
           go_wp2
           go_ret
           exact ⟨by rw [HF.out]; rfl, HB.out⟩
        ·have hk2 : k = S.size := by omega
         have HKA := HK
         rw [hk2] at HKA
         have hklz : ¬ (k : Int) < (S.size : Int) := by omega
         clear HK hk2
         go_wp2
         go_loopg [6] i (fun gg v6 wr => ∃ m : Nat, m ≤ i ∧ i - m ≤ gg ∧ v6 = .int .i64 m ∧ Aside0 (∀ (j : Nat) (hj : j < m) (hj2 : j < ls.length), ¬ (ls[j]'hj2).toList = S.toList) ∧ wr = w.alloc (.cells #[.slice (some ax) ls.length c] 24))
         case atStart => exact ⟨0, by omega, by omega, by go_num, ⟨fun j hj => by omega⟩, rfl⟩
         case round =>
          obtain ⟨m, hm, hg3, rfl, HM, rfl⟩ := hrel
          by_cases hml : m < i
          ·have hmlz : (m : Int) < (i : Int) := by omega
           have hmll : m < ls.length := by omega
           have hmlz2 : (m : Int) < (ls.length : Int) := by omega
           obtain ⟨ay, e2, cy⟩ := Kd.at_string HR.out (m : Int) (by omega) hmlz2
           cases e2
           rw [Int.toNat_natCast] at cy
           have hT : rdOf ByteArray.empty ls (m : Int) = ls[m] := by simp [rdOf, List.getD_eq_getElem?_getD, hmll]
           rw [hT] at cy
           have HE := Am (HB3.out m hml)
           have HN := Am (fun (h : ¬ (ls[m]).toList = S.toList) (j : Nat) (hj : j < m + 1) (hj2 : j < ls.length) => show ¬ (ls[j]'hj2).toList = S.toList from by
             by_cases e : j = m
             ·subst e; exact h
             ·exact HM.out j (by omega) hj2)
           clear hT
           generalize ls[m] = T at *
           by_cases hts : T.toList = S.toList
           ·have HF := Am (HE.out hts)
            have b1 : (T.toList == S.toList) = true := by simpa using hts
            have b2 := eq_true hts
            clear hts
            go_wp2
            go_ret
            exact ⟨by rw [HF.out]; rfl, HB.out⟩
           ·have HF := Am (HN.out hts)
            have b1 : (T.toList == S.toList) = false := by simpa using hts
            have b2 := eq_false hts
            clear hts
            go_wp2
            go_roundg (i - (m + 1))
            case measure => omega
            case rel => exact ⟨m + 1, by omega, by omega, by go_num, HF, rfl⟩
          ·have hm2 : m = i := by omega
           have HMA := HM
           rw [hm2] at HMA
           have hmlz : ¬ (m : Int) < (i : Int) := by omega
           have HF := Am (HGD.out HQ.out HKA.out (fun j hj => HMA.out j hj (by omega)))
           clear HM hm2
           go_wp2
           go_roundg (ls.length - (i + 1))
           case measure => omega
           case rel => exact ⟨i + 1, by omega, by omega, by go_num, HF, rfl⟩
    ·have hi2 : i = ls.length := by omega
     subst hi2
     have hltz : ¬ (ls.length : Int) < (ls.length : Int) := by omega
     by_cases h0 : ls.length = 0
     ·have HF := Am (HZ.out h0)
      have h0z : ((ls.length : Int) == 0) = true := by rw [h0]; rfl
      clear h0
      go_wp2
      go_ret
      exact ⟨by rw [HF.out]; rfl, HB.out⟩
     ·have HF := Am (HG.out h0 HI.out)
      have h0z : ((ls.length : Int) == 0) = false := by rw [beq_eq_false_iff_ne]; omega
      have h0y : ¬ (ls.length : Int) = 0 := by omega
      clear h0
      go_wp2
      go_ret
      exact ⟨by rw [HF.out]; rfl, HB.out⟩
  ·have HV := Am (hV.trans (show codeE ls = 3 by unfold codeE; rw [if_pos (by omega)]))
   clear hV
   have hz : (ls.length : Int) > 6 := by omega
   go_enter Tryz.func96, Tryz.ntmps96
   go_wp2
   go_ret
   exact ⟨by rw [HV.out]; rfl, HB.out⟩
def sgS (l : Lg) (t : List Int) : ByteArray := ⟨(signsL l.ls t).toArray⟩
def readsR (l : Lg) (t : List Int) (read : ByteArray) : Bool := decide (errR (sgS l t) read < 1000) && decide (errR (sgS l t) read ≤ l.errs)
structure TxtOk (l : Lg) (t : List Int) : Prop where
 len : t.length ≤ 5
 inr : ∀ x, x ∈ t → 0 ≤ x ∧ x < l.ls.length
 let_ : ∀ x, x ∈ t → (letterAt l.ls x).size ≤ 4
structure ReadOk (read : ByteArray) : Prop where
 len : read.size ≤ 40
 no33 : ∀ x, x ∈ read.data.toList → x ≠ 33
theorem sgS_size {l : Lg} {t : List Int} (h : TxtOk l t) : (sgS l t).size ≤ 40 := by
  have h1 := sgB_len l.ls t h.let_ t.length (Nat.le_refl _)
  have h2 := h.len
  have e : sgB l.ls t t.length = signsL l.ls t := by unfold sgB signsL; rw [List.take_length]
  rw [e] at h1
  show (signsL l.ls t).toArray.size ≤ 40
  simp
  omega
set_option maxRecDepth 100000 in
set_option maxHeartbeats 4000000 in
theorem reads72_any (a : LV) (l : Lg) (A : Option Addr) (c : Nat) (t : List Int) (n : Nat) (w : World) (hL : LogAt w a l) (hT : Kd.C (Kd.int .i64) w A t.length t) (hc : t.length ≤ c) (hn : n < l.rc.length) (hok : TxtOk l t) (hro : ReadOk (rd_T75 l.rc n).f2) :
 Calls Tryz.prog 72 #[logV a l, .slice A t.length c, .int .i64 n] w fun e w' => e = .returned (.bool (readsR l t (rd_T75 l.rc n).f2)) ∧ Below w.heap.size w w' := by
 have hu := Tryz.underlying29
 have hu2 := Tryz.underlying61
 have hb : Below w.heap.size w (w.alloc (.cells #[.slice a.A0 l.ls.length a.c0, .int .i64 l.errs, .slice a.A2 l.sees.length a.c2, .slice a.A3 l.jn.length a.c3, .slice a.A4 l.rc.length a.c4] 29)) := (Below.refl _ w).alloc (Nat.le_refl _) _
 have hsg : ∀ W, Below w.heap.size w W → Calls Tryz.prog 81 #[.agg #[.slice a.A0 l.ls.length a.c0], .slice A t.length c] W fun e w' => e = .returned (.string (sgS l t)) ∧ Below W.heap.size W w' := fun W hW =>
   signs81_any l.ls a.A0 a.c0 A c t W (Kd.C_below hL.h0 hW) hL.l0 (Kd.C_below hT hW) hc (by have := hok.len; omega) hok.inr hok.let_
 have her : ∀ W, Calls Tryz.prog 105 #[.string (sgS l t), .string (rd_T75 l.rc n).f2] W fun e w' => e = .returned (.tuple #[.int .i64 (errR (sgS l t) (rd_T75 l.rc n).f2), .bool (decide (errR (sgS l t) (rd_T75 l.rc n).f2 < 1000))]) ∧ Below W.heap.size W w' := fun W =>
   errs105_any _ _ W (sgS_size hok) hro.len hro.no33
 obtain ⟨ar, e0, x0, x1, x2⟩ := at_T75 hL.h4 (n : Int) (by omega) (by omega)
 have hlt := World.block_lt_of_cell? w _ x2
 have hnz : (n : Int) < (l.rc.length : Int) := by omega
 have hnz0 : (0 : Int) ≤ (n : Int) := by omega
 have HSG := Am hsg
 have HER := Am her
 have HB := Am hb
 unfold readsR
 obtain ⟨A0, A2, A3, A4, c0, c2, c3, c4⟩ := a
 dsimp only [logV] at *
 cases e0
 rw [Int.toNat_natCast] at x2 hlt
 clear hL hT hok hro hsg her hb x0 x1
 generalize rd_T75 l.rc (n : Int) = r at *
 obtain ⟨r0, r1, read⟩ := r
 dsimp only at *
 generalize sgS l t = sg at *
 generalize errR sg read = E at *
 obtain ⟨V, hV⟩ : ∃ V, V = (decide (E < 1000) && decide (E ≤ l.errs)) := ⟨_, rfl⟩
 rw [← hV]
 have HV := Am hV
 clear hV
 generalize decide (E < 1000) = q at *
 cases q with
 | true =>
   go_enter Tryz.func72, Tryz.ntmps72
   go_wp2_with (fail)
   have s0 : (w.alloc (.cells #[.slice A0 l.ls.length c0, .int .i64 l.errs, .slice A2 l.sees.length c2, .slice A3 l.jn.length c3, .slice (some ar) l.rc.length c4] 29)).cell? ⟨w.heap.size, 0, none⟩ = some (.slice A0 l.ls.length c0) := cell_new _ _ _ 0
   have s4 : (w.alloc (.cells #[.slice A0 l.ls.length c0, .int .i64 l.errs, .slice A2 l.sees.length c2, .slice A3 l.jn.length c3, .slice (some ar) l.rc.length c4] 29)).cell? ⟨w.heap.size, 4, none⟩ = some (.slice (some ar) l.rc.length c4) := cell_new _ _ _ 4
   have s1 : (w.alloc (.cells #[.slice A0 l.ls.length c0, .int .i64 l.errs, .slice A2 l.sees.length c2, .slice A3 l.jn.length c3, .slice (some ar) l.rc.length c4] 29)).cell? ⟨w.heap.size, 1, none⟩ = some (.int .i64 l.errs) := cell_new _ _ _ 1
   have s5 := pC_ HB.out x2
   have s6 : w.heap.size < (w.alloc (.cells #[.slice A0 l.ls.length c0, .int .i64 l.errs, .slice A2 l.sees.length c2, .slice A3 l.jn.length c3, .slice (some ar) l.rc.length c4] 29)).heap.size := by simp
   generalize hW : w.alloc (.cells #[.slice A0 l.ls.length c0, .int .i64 l.errs, .slice A2 l.sees.length c2, .slice A3 l.jn.length c3, .slice (some ar) l.rc.length c4] 29) = W at *
   clear hW
   have hAB : Aside0 (Below w.heap.size w W.drew) := ⟨pE_ HB.out⟩
   go_region_held3 (fun w' => w'.cell? ⟨w.heap.size, 0, none⟩ = some (.slice A0 l.ls.length c0) ∧ w'.cell? ⟨w.heap.size, 4, none⟩ = some (.slice (some ar) l.rc.length c4) ∧ w'.cell? ⟨w.heap.size, 1, none⟩ = some (.int .i64 l.errs) ∧ w'.cell? ⟨(ar.add (n * 3)).block, (ar.add (n * 3)).off + 2, none⟩ = some (.string read) ∧ w.heap.size < w'.heap.size ∧ Aside0 (Below w.heap.size w w'))
     (first
       | go_keep
       | (go_split_ands
          refine ⟨?_, ?_, ?_, ?_, ?_, ?_⟩
          ·(refine (HB9.out.cell (p := ⟨w.heap.size, 0, none⟩) (by assumption)).trans ?_; assumption)
          ·(refine (HB9.out.cell (p := ⟨w.heap.size, 4, none⟩) (by assumption)).trans ?_; assumption)
          ·(refine (HB9.out.cell (p := ⟨w.heap.size, 1, none⟩) (by assumption)).trans ?_; assumption)
          ·(refine (HB9.out.cell (p := ⟨(ar.add (n * 3)).block, (ar.add (n * 3)).off + 2, none⟩) (Nat.lt_trans hlt (by assumption))).trans ?_; assumption)
          ·(have := HB9.out.size; omega)
          ·exact ⟨pX_ (by assumption : Aside0 (Below w.heap.size w _)).out HB9.out⟩))
     ((first
       | (go_at_call 81; refine (HSG.out _ (by assumption : Aside0 (Below w.heap.size w _)).out).mono ?_; rintro e w7 ⟨rfl, hb9⟩; have HB9 := Am hb9; clear hb9)
       | (go_at_call 105; refine (HER.out _).mono ?_; rintro e w7 ⟨rfl, hb9⟩; have HB9 := Am hb9; clear hb9)))
   go_wp2
   go_ret
   exact ⟨by rw [HV.out]; simp, by rename_i hh; exact hh.2.2.2.2.2.out⟩
 | false =>
   go_enter Tryz.func72, Tryz.ntmps72
   go_wp2_with (fail)
   have s0 : (w.alloc (.cells #[.slice A0 l.ls.length c0, .int .i64 l.errs, .slice A2 l.sees.length c2, .slice A3 l.jn.length c3, .slice (some ar) l.rc.length c4] 29)).cell? ⟨w.heap.size, 0, none⟩ = some (.slice A0 l.ls.length c0) := cell_new _ _ _ 0
   have s4 : (w.alloc (.cells #[.slice A0 l.ls.length c0, .int .i64 l.errs, .slice A2 l.sees.length c2, .slice A3 l.jn.length c3, .slice (some ar) l.rc.length c4] 29)).cell? ⟨w.heap.size, 4, none⟩ = some (.slice (some ar) l.rc.length c4) := cell_new _ _ _ 4
   have s1 : (w.alloc (.cells #[.slice A0 l.ls.length c0, .int .i64 l.errs, .slice A2 l.sees.length c2, .slice A3 l.jn.length c3, .slice (some ar) l.rc.length c4] 29)).cell? ⟨w.heap.size, 1, none⟩ = some (.int .i64 l.errs) := cell_new _ _ _ 1
   have s5 := pC_ HB.out x2
   have s6 : w.heap.size < (w.alloc (.cells #[.slice A0 l.ls.length c0, .int .i64 l.errs, .slice A2 l.sees.length c2, .slice A3 l.jn.length c3, .slice (some ar) l.rc.length c4] 29)).heap.size := by simp
   generalize hW : w.alloc (.cells #[.slice A0 l.ls.length c0, .int .i64 l.errs, .slice A2 l.sees.length c2, .slice A3 l.jn.length c3, .slice (some ar) l.rc.length c4] 29) = W at *
   clear hW
   have hAB : Aside0 (Below w.heap.size w W.drew) := ⟨pE_ HB.out⟩
   go_region_held3 (fun w' => w'.cell? ⟨w.heap.size, 0, none⟩ = some (.slice A0 l.ls.length c0) ∧ w'.cell? ⟨w.heap.size, 4, none⟩ = some (.slice (some ar) l.rc.length c4) ∧ w'.cell? ⟨w.heap.size, 1, none⟩ = some (.int .i64 l.errs) ∧ w'.cell? ⟨(ar.add (n * 3)).block, (ar.add (n * 3)).off + 2, none⟩ = some (.string read) ∧ w.heap.size < w'.heap.size ∧ Aside0 (Below w.heap.size w w'))
     (first
       | go_keep
       | (go_split_ands
          refine ⟨?_, ?_, ?_, ?_, ?_, ?_⟩
          ·(refine (HB9.out.cell (p := ⟨w.heap.size, 0, none⟩) (by assumption)).trans ?_; assumption)
          ·(refine (HB9.out.cell (p := ⟨w.heap.size, 4, none⟩) (by assumption)).trans ?_; assumption)
          ·(refine (HB9.out.cell (p := ⟨w.heap.size, 1, none⟩) (by assumption)).trans ?_; assumption)
          ·(refine (HB9.out.cell (p := ⟨(ar.add (n * 3)).block, (ar.add (n * 3)).off + 2, none⟩) (Nat.lt_trans hlt (by assumption))).trans ?_; assumption)
          ·(have := HB9.out.size; omega)
          ·exact ⟨pX_ (by assumption : Aside0 (Below w.heap.size w _)).out HB9.out⟩))
     ((first
       | (go_at_call 81; refine (HSG.out _ (by assumption : Aside0 (Below w.heap.size w _)).out).mono ?_; rintro e w7 ⟨rfl, hb9⟩; have HB9 := Am hb9; clear hb9)
       | (go_at_call 105; refine (HER.out _).mono ?_; rintro e w7 ⟨rfl, hb9⟩; have HB9 := Am hb9; clear hb9)))
   go_wp2
   go_ret
   exact ⟨by rw [HV.out]; rfl, by rename_i hh; exact hh.2.2.2.2.2.out⟩
abbrev logD (a : LV) (l : Lg) : Obj := .cells #[.slice a.A0 l.ls.length a.c0, .int .i64 l.errs, .slice a.A2 l.sees.length a.c2, .slice a.A3 l.jn.length a.c3, .slice a.A4 l.rc.length a.c4] 29
theorem foldl_min_le {α : Type} (f : α → Int) : ∀ (l : List α) (v : Int), l.foldl (fun m x => min m (f x)) v ≤ v
  | [], v => by simp
  | a :: t, v => by
    have := foldl_min_le f t (min v (f a))
    simp only [List.foldl_cons]
    omega
theorem foldl_min_mem {α : Type} (f : α → Int) : ∀ (l : List α) (v : Int) (x : α), x ∈ l → l.foldl (fun m x => min m (f x)) v ≤ f x
  | a :: t, v, x, h => by
    simp only [List.foldl_cons]
    rcases List.mem_cons.1 h with rfl | h
    ·have := foldl_min_le f t (min v (f x)); omega
    ·exact foldl_min_mem f t _ x h
theorem mem_nx (s r : ByteArray) (k : Nat) (hk : k < 6) (hg : goes s r k = true) : (⟨k, hk, hg⟩ : NX s r) ∈ nx s r 6 := by
 unfold nx
 rw [List.mem_filterMap]
 exact ⟨k, List.mem_range.2 hk, by rw [dif_pos ⟨hk, hg⟩]⟩
theorem few_le_step (s r : ByteArray) (k : Nat) (hk : k < 6) (hg : goes s r k = true) : few s r ≤ costK k + few (leftS s k) (leftR s r k) := by
 rw [few_eq]
 exact foldl_min_mem (fun x : NX s r => costK x.1 + few (leftS s x.1) (leftR s r x.1)) _ _ _ (mem_nx s r k hk hg)
theorem few_self : ∀ (n : Nat) (s : ByteArray), s.size = n → few s s = 0
 | 0, s, h => by
   have h1 : few s s ≤ 0 := by
    rw [few_eq, if_pos ⟨h, h⟩]
    exact foldl_min_le _ _ _
   have := (few_bd s s).1
   omega
 | n + 1, s, h => by
   have hp : 0 < s.size := by omega
   have hg : goes s s 0 = true := by
    rw [goes_ne 0 hp]
    exact pre_ok (w := s.extract 0 1) 1 (sz1 hp) rfl (by omega)
   have e1 : leftS s 0 = s.extract 1 s.size := by show s.extract (s.extract 0 1).size s.size = _; rw [sz1 hp]
   have e2 : leftR s s 0 = s.extract 1 s.size := by show s.extract (s.extract 0 1).size s.size = _; rw [sz1 hp]
   have ih := few_self n (s.extract 1 s.size) (by rw [ByteArray.size_extract]; omega)
   have h1 := few_le_step s s 0 (by decide) hg
   rw [e1, e2, ih] at h1
   have := (few_bd s s).1
   have hc : costK 0 = 0 := rfl
   omega
theorem see_in (n : Int) : inR n (-1) 23 = seeB n := by
 unfold inR seeB hourB
 rw [Bool.eq_iff_iff]
 simp only [Bool.and_eq_true, Bool.or_eq_true, decide_eq_true_eq, beq_iff_eq]
 omega
theorem in_inB (n m : Int) : inR n 0 m = inB n m := rfl
def txtB (l : Lg) (t : List Int) : Bool := t.all fun x => inR x 0 ((l.ls.length : Int) - 1)
def sentR (l : Lg) (s : S76) : Bool := inR s.f0 0 23 && inR s.f1 0 ((l.sees.length : Int) - 1) && inR s.f2.length 1 5 && txtB l s.f2
def recR (l : Lg) (r : S75) : Bool := inR r.f0 0 23 && inR r.f1 0 ((l.sees.length : Int) - 1) && sfE r.f2 == 0
theorem sent_eq (l : Lg) (s : S76) (hc : codeE l.ls = 0) : sentR l s = sentB l s := by
 have e : (sendE l.ls s.f2 == 0) = (decide (s.f2.length ≤ 5) && txtB l s.f2) := by
  unfold sendE
  rw [if_neg (by rw [hc]; simp)]
  by_cases h5 : 5 < s.f2.length
  ·rw [if_pos h5]
   have : ¬ s.f2.length ≤ 5 := by omega
   simp [this]
  ·rw [if_neg h5]
   have h5' : s.f2.length ≤ 5 := by omega
   have e2 : (s.f2.all fun n => inB n ((l.ls.length : Int) - 1)) = txtB l s.f2 := rfl
   rw [e2]
   cases txtB l s.f2 <;> simp [h5']
 unfold sentR sentB atB hourB
 rw [e]
 unfold inR inB
 cases txtB l s.f2 with
 | false => simp
 | true =>
   rw [Bool.eq_iff_iff]
   simp only [Bool.and_eq_true, decide_eq_true_eq, and_true]
   omega
theorem sf_eq (s : ByteArray) : (errsE s s == 0) = (sfE s == 0) := by
 have e : signsE [s, s] = sfE s := by
  unfold signsE sfE
  simp
 unfold errsE
 rw [e]
 by_cases h : sfE s = 0
 ·rw [if_neg (by simp [h]), if_neg (by rw [few_self s.size s rfl]; decide), h]
 ·rw [if_pos h]
theorem rec_eq (l : Lg) (r : S75) : recR l r = recordB l r := by
 unfold recR recordB atB hourB
 rw [sf_eq]
 rfl
set_option maxRecDepth 100000 in
set_option maxHeartbeats 4000000 in
theorem isText97_any (l : Lg) (A : Option Addr) (c : Nat) (A1 : Option Addr) (c1 : Nat) (t : List Int) (w : World) (hls : l.ls.length ≤ 6) (hr : Kd.C (Kd.int .i64) w A1 t.length t) :
 Calls Tryz.prog 97 #[.agg #[.slice A l.ls.length c], .slice A1 t.length c1] w fun e w' => e = .returned (.bool (txtB l t)) ∧ Below w.heap.size w w' := by
 have hu := Tryz.underlying24
 obtain ⟨V, hV⟩ : ∃ V, V = txtB l t := ⟨_, rfl⟩
 rw [← hV]
 have hmax : (t.length : Int) ≤ 9223372036854775807 := by have := hr.2.1; omega
 have hb : Below w.heap.size w (w.alloc (.cells #[.slice A l.ls.length c] 24)) := (Below.refl _ w).alloc (Nat.le_refl _) _
 have HR := Am hr
 have HB := Am hb
 have HT := Am (fun (h : ∀ (j : Nat) (hj : j < t.length), inR t[j] 0 ((l.ls.length : Int) - 1) = true) => hV.trans (show txtB l t = true by
   unfold txtB
   rw [List.all_eq_true]
   intro x hx
   obtain ⟨j, hj, rfl⟩ := List.getElem_of_mem hx
   exact h j hj))
 have HF := Am (fun (j : Nat) (hj : j < t.length) (h : inR t[j] 0 ((l.ls.length : Int) - 1) = false) => hV.trans (show txtB l t = false by
   cases hx : txtB l t with
   | false => rfl
   | true =>
     unfold txtB at hx
     rw [List.all_eq_true] at hx
     rw [hx _ (List.getElem_mem hj)] at h
     cases h))
 clear hr hb hV
 go_enter Tryz.func97, Tryz.ntmps97
 go_wp2
 go_loopg [5] t.length (fun gg v5 wr => ∃ i : Nat, i ≤ t.length ∧ t.length - i ≤ gg ∧ v5 = .int .i64 i ∧ Aside0 (∀ (j : Nat) (hj : j < i) (hj2 : j < t.length), inR (t[j]'hj2) 0 ((l.ls.length : Int) - 1) = true) ∧ Aside0 (Below (w.heap.size + 1) (w.alloc (.cells #[.slice A l.ls.length c] 24)) wr))
 case atStart => exact ⟨0, by omega, by omega, by go_num, ⟨fun j hj => by omega⟩, ⟨Below.refl _ _⟩⟩
 case round =>
  obtain ⟨i, hi, hg, rfl, HI, BW⟩ := hrel
  have hBW2 : Below w.heap.size w wr := HB.out.trans (BW.out.mono (by omega))
  have b0 : wr.cell? ⟨w.heap.size, 0, none⟩ = some (.slice A l.ls.length c) := (BW.out.cell (p := ⟨w.heap.size, 0, none⟩) (by simp)).trans (cell_new _ _ _ 0)
  by_cases hlt : i < t.length
  ·have hltz : (i : Int) < (t.length : Int) := by omega
   obtain ⟨ax, e1, cx⟩ := Kd.at_int (Kd.C_below HR.out hBW2) (i : Int) (by omega) hltz
   cases e1
   have hx : rd t (i : Int) = t[i] := by simp [rd, hlt]
   rw [hx, Int.toNat_natCast] at cx
   have HN := Am (HF.out i hlt)
   have HS := Am (fun (h : inR t[i] 0 ((l.ls.length : Int) - 1) = true) (j : Nat) (hj : j < i + 1) (hj2 : j < t.length) => show inR (t[j]'hj2) 0 ((l.ls.length : Int) - 1) = true from by
     by_cases e : j = i
     ·subst e; exact h
     ·exact HI.out j (by omega) hj2)
   have hbn := fun n => BW.out.trans ((belowN wr n).mono (show w.heap.size + 1 ≤ wr.heap.size by have := BW.out.size; simpa using this))
   have HBN := Am hbn
   clear hx hbn
   generalize t[i] = x at *
   cases hq : inR x 0 ((l.ls.length : Int) - 1) with
   | true =>
     have hcall := fun W => in127_any x 0 ((l.ls.length : Int) - 1) W
     rw [hq] at hcall
     have HC := Am hcall
     have HY := Am (HS.out hq)
     clear hcall hq
     have hwr : IntKind.i64.wrap ((l.ls.length : Int) - 1) = (l.ls.length : Int) - 1 := IntWalk.i64_in _ (by omega)
     go_wp2
     go_quiet ((go_at_call 127; exact Calls.quiet_of_same (HC.out _)))
     clear hwr
     go_wp2
     go_roundg (t.length - (i + 1))
     case measure => omega
     case rel => exact ⟨i + 1, by omega, by omega, by go_num, HY, ⟨HBN.out _⟩⟩
   | false =>
     have hcall := fun W => in127_any x 0 ((l.ls.length : Int) - 1) W
     rw [hq] at hcall
     have HC := Am hcall
     have HY := Am (HN.out hq)
     clear hcall hq
     have hwr : IntKind.i64.wrap ((l.ls.length : Int) - 1) = (l.ls.length : Int) - 1 := IntWalk.i64_in _ (by omega)
     go_wp2
     go_quiet ((go_at_call 127; exact Calls.quiet_of_same (HC.out _)))
     clear hwr
     go_wp2
     go_ret
     exact ⟨by rw [HY.out]; rfl, HB.out.trans ((HBN.out _).mono (by omega))⟩
  ·have hi2 : i = t.length := by omega
   have HY := Am (HT.out (fun j hj => HI.out j (by omega) hj))
   clear HI
   subst hi2
   have hltz : ¬ (t.length : Int) < (t.length : Int) := by omega
   go_wp2
   go_ret
   exact ⟨by rw [HY.out]; rfl, hBW2⟩
theorem logE_over {l : Lg} (h : overB l = true) : logE l = 3 := by unfold logE; rw [if_pos h]
theorem logE_code {l : Lg} (h : overB l = false) (hc : codeE l.ls ≠ 0) : logE l = codeE l.ls := by unfold logE; rw [if_neg (by rw [h]; simp), if_pos hc]
theorem logE_bad {l : Lg} (h : overB l = false) (hc : codeE l.ls = 0) (hb : badB l = true) : logE l = 1 := by unfold logE; rw [if_neg (by rw [h]; simp), if_neg (by simp [hc]), if_pos hb]
theorem logE_good {l : Lg} (h : overB l = false) (hc : codeE l.ls = 0) (hb : badB l = false) : logE l = 0 := by unfold logE; rw [if_neg (by rw [h]; simp), if_neg (by simp [hc]), if_neg (by rw [hb]; simp)]
theorem bad_e {l : Lg} (h : inR l.errs 0 3 = false) : badB l = true := by
  rw [in_inB] at h
  simp [badB, h]
theorem bad_z {l : Lg} (h : l.sees.length = 0) : badB l = true := by simp [badB, h]
theorem bad_s {l : Lg} (j : Nat) (hj : j < l.sees.length) (h : seeB l.sees[j] = false) : badB l = true := by
  have : l.sees.all seeB = false := by
   cases hx : l.sees.all seeB with
   | false => rfl
   | true => rw [List.all_eq_true] at hx; rw [hx _ (List.getElem_mem hj)] at h; cases h
  simp [badB, this]
theorem bad_j {l : Lg} (j : Nat) (hj : j < l.jn.length) (h : sentB l l.jn[j] = false) : badB l = true := by
  have : l.jn.all (sentB l) = false := by
   cases hx : l.jn.all (sentB l) with
   | false => rfl
   | true => rw [List.all_eq_true] at hx; rw [hx _ (List.getElem_mem hj)] at h; cases h
  simp [badB, this]
theorem bad_r {l : Lg} (j : Nat) (hj : j < l.rc.length) (h : recordB l l.rc[j] = false) : badB l = true := by
  have : l.rc.all (recordB l) = false := by
   cases hx : l.rc.all (recordB l) with
   | false => rfl
   | true => rw [List.all_eq_true] at hx; rw [hx _ (List.getElem_mem hj)] at h; cases h
  simp [badB, this]
theorem all_get {α : Type} (xs : List α) (p : α → Bool) (h : ∀ (j : Nat) (hj : j < xs.length), p xs[j] = true) : xs.all p = true := by
  rw [List.all_eq_true]
  intro x hx
  obtain ⟨j, hj, rfl⟩ := List.getElem_of_mem hx
  exact h j hj
theorem good_all {l : Lg} (he : inR l.errs 0 3 = true) (hz : l.sees.length ≠ 0) (hs : ∀ (j : Nat) (hj : j < l.sees.length), seeB l.sees[j] = true) (hj : ∀ (j : Nat) (hj : j < l.jn.length), sentB l l.jn[j] = true) (hr : ∀ (j : Nat) (hj : j < l.rc.length), recordB l l.rc[j] = true) : badB l = false := by
  rw [in_inB] at he
  have hz2 : (l.sees.length == 0) = false := by simpa using hz
  simp only [badB, he, hz2, all_get _ _ hs, all_get _ _ hj, all_get _ _ hr]
  rfl
theorem rd76_get (l : Lg) (j : Nat) (hj : j < l.jn.length) : rd_T76 l.jn (j : Int) = l.jn[j] := by simp [rd_T76, List.getD_eq_getElem?_getD, hj]
theorem rd75_get (l : Lg) (j : Nat) (hj : j < l.rc.length) : rd_T75 l.rc (j : Int) = l.rc[j] := by simp [rd_T75, List.getD_eq_getElem?_getD, hj]
theorem snoc_all {p : Nat → Prop} {i : Nat} (h : ∀ j, j < i → p j) (hi : p i) : ∀ j, j < i + 1 → p j := fun j hj => by
  by_cases e : j = i
  ·rw [e]; exact hi
  ·exact h j (by omega)
set_option maxRecDepth 100000 in
set_option maxHeartbeats 16000000 in
theorem fault66_any (a : LV) (l : Lg) (w : World) (hL : LogAt w a l) : Calls Tryz.prog 66 #[logV a l] w fun e w' => e = .returned (.int .i64 (logE l)) ∧ Below w.heap.size w w' := by
  have hu := Tryz.underlying29
  have hu1 := Tryz.underlying69
  have hu2 := Tryz.underlying61
  have hu3 := Tryz.underlying24
  obtain ⟨V, hV⟩ : ∃ V, V = logE l := ⟨_, rfl⟩
  rw [← hV]
  have hb : Below w.heap.size w (w.alloc (logD a l)) := (Below.refl _ w).alloc (Nat.le_refl _) _
  have hcd := fault96_any a.A0 a.c0 l.ls _ (hL.below hb).h0
  have HL := Am hL
  have HB := Am hb
  have HCD := Am hcd
  have HV := Am hV
  clear hcd hb hV hL
  obtain ⟨A0, A2, A3, A4, c0, c2, c3, c4⟩ := a
  dsimp only [logV] at *
  by_cases h1 : 4 < l.sees.length
  ·have HW := Am (HV.out.trans (logE_over (by simp [overB, h1])))
   have z1 : (l.sees.length : Int) > 4 := by omega
   clear hu1 hu2 hu3
   go_enter Tryz.func66, Tryz.ntmps66
   go_wp2
   go_ret
   exact ⟨by rw [HW.out]; rfl, HB.out⟩
  have z1 : ¬ (l.sees.length : Int) > 4 := by omega
  by_cases h2 : 8 < l.jn.length
  ·have HW := Am (HV.out.trans (logE_over (by simp [overB, h2])))
   have z2 : (l.jn.length : Int) > 8 := by omega
   clear hu1 hu2 hu3
   go_enter Tryz.func66, Tryz.ntmps66
   go_wp2
   go_ret
   exact ⟨by rw [HW.out]; rfl, HB.out⟩
  have z2 : ¬ (l.jn.length : Int) > 8 := by omega
  by_cases h3 : 6 < l.rc.length
  ·have HW := Am (HV.out.trans (logE_over (by simp [overB, h3])))
   have z3 : (l.rc.length : Int) > 6 := by omega
   clear hu1 hu2 hu3
   go_enter Tryz.func66, Tryz.ntmps66
   go_wp2
   go_ret
   exact ⟨by rw [HW.out]; rfl, HB.out⟩
  have z3 : ¬ (l.rc.length : Int) > 6 := by omega
  have hov : overB l = false := by simp [overB]; omega
  by_cases h4 : codeE l.ls = 0
  ·have h6 : l.ls.length ≤ 6 := by
    unfold codeE at h4
    by_cases hx : 6 < l.ls.length
    ·rw [if_pos hx] at h4; cases h4
    ·omega
   have VB := Am (fun (h : badB l = true) => HV.out.trans (logE_bad hov h4 h))
   have VG := Am (fun (h : badB l = false) => HV.out.trans (logE_good hov h4 h))
   have HSE := Am (fun s => sent_eq l s h4)
   rw [h4] at HCD
   clear h4 hov h1 h2 h3
   cases q1 : inR l.errs 0 3 with
   | false =>
     have HIN := Am (q1 ▸ fun W => in23_any l.errs 0 3 W)
     have HW := Am (VB.out (bad_e q1))
     clear q1
     go_enter Tryz.func66, Tryz.ntmps66
     go_wp2_with (fail)
     refine HCD.out.mono ?_
     rintro e w1 ⟨rfl, hb1⟩
     have hN1 : w.heap.size < w1.heap.size := by have := hb1.size; simp at this; omega
     have b0 : w1.cell? ⟨w.heap.size, 0, none⟩ = some (.slice A0 l.ls.length c0) := (hb1.cell (p := ⟨w.heap.size, 0, none⟩) (by simp)).trans (cell_new _ _ _ 0)
     have b1 : w1.cell? ⟨w.heap.size, 1, none⟩ = some (.int .i64 l.errs) := (hb1.cell (p := ⟨w.heap.size, 1, none⟩) (by simp)).trans (cell_new _ _ _ 1)
     have b2 : w1.cell? ⟨w.heap.size, 2, none⟩ = some (.slice A2 l.sees.length c2) := (hb1.cell (p := ⟨w.heap.size, 2, none⟩) (by simp)).trans (cell_new _ _ _ 2)
     have b3 : w1.cell? ⟨w.heap.size, 3, none⟩ = some (.slice A3 l.jn.length c3) := (hb1.cell (p := ⟨w.heap.size, 3, none⟩) (by simp)).trans (cell_new _ _ _ 3)
     have b4 : w1.cell? ⟨w.heap.size, 4, none⟩ = some (.slice A4 l.rc.length c4) := (hb1.cell (p := ⟨w.heap.size, 4, none⟩) (by simp)).trans (cell_new _ _ _ 4)
     have BW := Am (pX_ HB.out hb1)
     clear hb1
     go_wp2_with (fail)
     refine (HIN.out _).mono ?_
     rintro e w' ⟨rfl, rfl⟩
     go_wp2
     go_ret
     exact ⟨by rw [HW.out]; rfl, BW.out⟩
   | true =>
     have HE1 := Am q1
     have HIN := Am (q1 ▸ fun W => in23_any l.errs 0 3 W)
     clear q1
     by_cases h5 : l.sees.length = 0
     ·have HW := Am (VB.out (bad_z h5))
      have z5 : ((l.sees.length : Int) == 0) = true := by rw [h5]; rfl
      clear h5
      go_enter Tryz.func66, Tryz.ntmps66
      go_wp2_with (fail)
      refine HCD.out.mono ?_
      rintro e w1 ⟨rfl, hb1⟩
      have hN1 : w.heap.size < w1.heap.size := by have := hb1.size; simp at this; omega
      have b0 : w1.cell? ⟨w.heap.size, 0, none⟩ = some (.slice A0 l.ls.length c0) := (hb1.cell (p := ⟨w.heap.size, 0, none⟩) (by simp)).trans (cell_new _ _ _ 0)
      have b1 : w1.cell? ⟨w.heap.size, 1, none⟩ = some (.int .i64 l.errs) := (hb1.cell (p := ⟨w.heap.size, 1, none⟩) (by simp)).trans (cell_new _ _ _ 1)
      have b2 : w1.cell? ⟨w.heap.size, 2, none⟩ = some (.slice A2 l.sees.length c2) := (hb1.cell (p := ⟨w.heap.size, 2, none⟩) (by simp)).trans (cell_new _ _ _ 2)
      have b3 : w1.cell? ⟨w.heap.size, 3, none⟩ = some (.slice A3 l.jn.length c3) := (hb1.cell (p := ⟨w.heap.size, 3, none⟩) (by simp)).trans (cell_new _ _ _ 3)
      have b4 : w1.cell? ⟨w.heap.size, 4, none⟩ = some (.slice A4 l.rc.length c4) := (hb1.cell (p := ⟨w.heap.size, 4, none⟩) (by simp)).trans (cell_new _ _ _ 4)
      have BW := Am (pX_ HB.out hb1)
      clear hb1
      go_wp2_with (fail)
      refine (HIN.out _).mono ?_
      rintro e w' ⟨rfl, rfl⟩
      go_wp2
      go_ret
      exact ⟨by rw [HW.out]; rfl, BW.out⟩
     ·have z5 : ((l.sees.length : Int) == 0) = false := by rw [beq_eq_false_iff_ne]; omega
      have z6 : ¬ (l.sees.length : Int) = 0 := by omega
      have H5 := Am h5
      clear h5
      go_enter Tryz.func66, Tryz.ntmps66
      go_wp2_with (fail)
      refine HCD.out.mono ?_
      rintro e w1 ⟨rfl, hb1⟩
      have hN1 : w.heap.size < w1.heap.size := by have := hb1.size; simp at this; omega
      have b0 : w1.cell? ⟨w.heap.size, 0, none⟩ = some (.slice A0 l.ls.length c0) := (hb1.cell (p := ⟨w.heap.size, 0, none⟩) (by simp)).trans (cell_new _ _ _ 0)
      have b1 : w1.cell? ⟨w.heap.size, 1, none⟩ = some (.int .i64 l.errs) := (hb1.cell (p := ⟨w.heap.size, 1, none⟩) (by simp)).trans (cell_new _ _ _ 1)
      have b2 : w1.cell? ⟨w.heap.size, 2, none⟩ = some (.slice A2 l.sees.length c2) := (hb1.cell (p := ⟨w.heap.size, 2, none⟩) (by simp)).trans (cell_new _ _ _ 2)
      have b3 : w1.cell? ⟨w.heap.size, 3, none⟩ = some (.slice A3 l.jn.length c3) := (hb1.cell (p := ⟨w.heap.size, 3, none⟩) (by simp)).trans (cell_new _ _ _ 3)
      have b4 : w1.cell? ⟨w.heap.size, 4, none⟩ = some (.slice A4 l.rc.length c4) := (hb1.cell (p := ⟨w.heap.size, 4, none⟩) (by simp)).trans (cell_new _ _ _ 4)
      have BW := Am (pX_ HB.out hb1)
      clear hb1
      go_wp2_with (fail)
      refine (HIN.out _).mono ?_
      rintro e w' ⟨rfl, rfl⟩
      have B0 := Am b0
      have B1 := Am b1
      have B2 := Am b2
      have B3 := Am b3
      have B4 := Am b4
      go_wp2
      go_loopg [4] l.sees.length (fun gg v4 wr => ∃ i : Nat, i ≤ l.sees.length ∧ l.sees.length - i ≤ gg ∧ v4 = .int .i64 i ∧ Aside0 (∀ j, j < i → ∀ hj : j < l.sees.length, seeB (l.sees[j]'hj) = true) ∧ w1 = wr)
      case atStart => exact ⟨0, by omega, by omega, by go_num, ⟨fun j hj => by omega⟩, rfl⟩
      case round =>
       obtain ⟨i, hi, hg, rfl, HI, rfl⟩ := hrel
       by_cases hlt : i < l.sees.length
       ·have hltz : (i : Int) < (l.sees.length : Int) := by omega
        obtain ⟨ax, e1, cx⟩ := Kd.at_int (Kd.C_below HL.out.h2 BW.out) (i : Int) (by omega) hltz
        cases e1
        rw [rd_nat l.sees i hlt, Int.toNat_natCast] at cx
        cases q2 : seeB l.sees[i] with
        | false =>
          have HW := Am (VB.out (bad_s i hlt q2))
          have hin := fun W => in23_any l.sees[i] (-1) 23 W
          rw [see_in, q2] at hin
          have HIN2 := Am hin
          clear hin q2
          generalize l.sees[i] = x at *
          go_wp2_with (fail)
          refine (HIN2.out _).mono ?_
          rintro e w' ⟨rfl, rfl⟩
          go_wp2
          go_ret
          exact ⟨by rw [HW.out]; rfl, BW.out⟩
        | true =>
          have HY := Am (snoc_all (p := fun j => ∀ hj : j < l.sees.length, seeB (l.sees[j]'hj) = true) HI.out (fun _ => q2))
          have hin := fun W => in23_any l.sees[i] (-1) 23 W
          rw [see_in, q2] at hin
          have HIN2 := Am hin
          clear hin q2
          generalize l.sees[i] = x at *
          go_wp2_with (fail)
          refine (HIN2.out _).mono ?_
          rintro e w' ⟨rfl, rfl⟩
          go_wp2
          go_roundg (l.sees.length - (i + 1))
          case measure => omega
          case rel => exact ⟨i + 1, by omega, by omega, by go_num, HY, rfl⟩
       ·have hi2 : i = l.sees.length := by omega
        have HSA := HI
        rw [hi2] at HSA
        clear HI
        subst hi2
        have hltz : ¬ (l.sees.length : Int) < (l.sees.length : Int) := by omega
        go_wp2
        go_loopg [5] l.jn.length (fun gg v5 wr => ∃ i : Nat, i ≤ l.jn.length ∧ l.jn.length - i ≤ gg ∧ v5 = .int .i64 i ∧ Aside0 (∀ j, j < i → ∀ hj : j < l.jn.length, sentB l (l.jn[j]'hj) = true) ∧ Aside0 (Below w1.heap.size w1 wr))
        case atStart => exact ⟨0, by omega, by omega, by go_num, ⟨fun j hj => by omega⟩, ⟨Below.refl _ _⟩⟩
        case round =>
         obtain ⟨i, hi, hg, rfl, HI, BR⟩ := hrel
         have BWR := Am (pX_ BW.out BR.out)
         have hNr : w.heap.size < wr.heap.size := by have := BR.out.size; omega
         replace b0 : wr.cell? ⟨w.heap.size, 0, none⟩ = some (.slice A0 l.ls.length c0) := (BR.out.cell (p := ⟨w.heap.size, 0, none⟩) hN1).trans B0.out
         replace b1 : wr.cell? ⟨w.heap.size, 1, none⟩ = some (.int .i64 l.errs) := (BR.out.cell (p := ⟨w.heap.size, 1, none⟩) hN1).trans B1.out
         replace b2 : wr.cell? ⟨w.heap.size, 2, none⟩ = some (.slice A2 l.sees.length c2) := (BR.out.cell (p := ⟨w.heap.size, 2, none⟩) hN1).trans B2.out
         replace b3 : wr.cell? ⟨w.heap.size, 3, none⟩ = some (.slice A3 l.jn.length c3) := (BR.out.cell (p := ⟨w.heap.size, 3, none⟩) hN1).trans B3.out
         replace b4 : wr.cell? ⟨w.heap.size, 4, none⟩ = some (.slice A4 l.rc.length c4) := (BR.out.cell (p := ⟨w.heap.size, 4, none⟩) hN1).trans B4.out
         have d0 := fun o => alloc_old b0 hNr o
         have d1 := fun o => alloc_old b1 hNr o
         have d2 := fun o => alloc_old b2 hNr o
         have d3 := fun o => alloc_old b3 hNr o
         have d4 := fun o => alloc_old b4 hNr o
         by_cases hlt : i < l.jn.length
         ·have hltz : (i : Int) < (l.jn.length : Int) := by omega
          obtain ⟨aj, A5, c5, e1, y0, y1, y2, l5, g5⟩ := at_T76 (HL.out.below BWR.out).h3 (i : Int) (by omega) hltz
          dsimp only at e1
          cases e1
          rw [rd76_get l i hlt] at y0 y1 y2 l5 g5
          rw [Int.toNat_natCast] at y0 y1 y2
          have hbad := fun (h : sentR l l.jn[i] = false) => VB.out (bad_j i hlt (by rw [← HSE.out]; exact h))
          have hgood := fun (h : sentR l l.jn[i] = true) => snoc_all (p := fun j => ∀ hj : j < l.jn.length, sentB l (l.jn[j]'hj) = true) HI.out (fun _ => by rw [← HSE.out]; exact h)
          have HBD := Am hbad
          have HGD := Am hgood
          clear hbad hgood
          generalize l.jn[i] = s at *
          obtain ⟨s0, s1, tx⟩ := s
          dsimp only at *
          have hba : Below wr.heap.size wr (wr.alloc (.cells #[.int .i64 s0, .int .i64 s1, .slice A5 tx.length c5] 69)) := (Below.refl _ _).alloc (Nat.le_refl _) _
          have hit := isText97_any l A0 c0 A5 c5 tx _ h6 (Kd.C_below g5 hba)
          have HIT := Am hit
          have HBA := Am (pX_ BR.out hba)
          have HBA2 := Am (pX_ BWR.out hba)
          have txm : (tx.length : Int) ≤ 9223372036854775807 := by have := g5.2.1; omega
          clear hit hba g5
          cases p0 : inR s0 0 23 with
          | false =>
            have k0 := fun W => in23_any s0 0 23 W
            rw [p0] at k0
            have C0 := Am k0
            clear k0
            have HW := Am (HBD.out (by simp [sentR, p0]))
            clear p0
            go_wp2_with (fail)
            refine (C0.out _).mono ?_
            rintro e w' ⟨rfl, rfl⟩
            go_wp2
            go_ret
            exact ⟨by rw [HW.out]; rfl, HBA2.out⟩
          | true =>
            have k0 := fun W => in23_any s0 0 23 W
            rw [p0] at k0
            have C0 := Am k0
            clear k0
            have P0 := Am p0
            clear p0
            cases p1 : inR s1 0 ((l.sees.length : Int) - 1) with
            | false =>
              have k1 := fun W => in23_any s1 0 ((l.sees.length : Int) - 1) W
              rw [p1] at k1
              have C1 := Am k1
              clear k1
              have HW := Am (HBD.out (by simp [sentR, P0.out, p1]))
              clear p1
              go_wp2_with (fail)
              refine (C0.out _).mono ?_
              rintro e w' ⟨rfl, rfl⟩
              go_wp2_with (fail)
              refine (C1.out _).mono ?_
              rintro e w' ⟨rfl, rfl⟩
              go_wp2
              go_ret
              exact ⟨by rw [HW.out]; rfl, HBA2.out⟩
            | true =>
              have k1 := fun W => in23_any s1 0 ((l.sees.length : Int) - 1) W
              rw [p1] at k1
              have C1 := Am k1
              clear k1
              have P1 := Am p1
              clear p1
              cases p2 : inR (tx.length : Int) 1 5 with
              | false =>
                have k2 := fun W => in23_any (tx.length : Int) 1 5 W
                rw [p2] at k2
                have C2 := Am k2
                clear k2
                have HW := Am (HBD.out (by simp [sentR, P0.out, P1.out, p2]))
                clear p2
                go_wp2_with (fail)
                refine (C0.out _).mono ?_
                rintro e w' ⟨rfl, rfl⟩
                go_wp2_with (fail)
                refine (C1.out _).mono ?_
                rintro e w' ⟨rfl, rfl⟩
                go_wp2_with (fail)
                refine (C2.out _).mono ?_
                rintro e w' ⟨rfl, rfl⟩
                go_wp2
                go_ret
                exact ⟨by rw [HW.out]; rfl, HBA2.out⟩
              | true =>
                have k2 := fun W => in23_any (tx.length : Int) 1 5 W
                rw [p2] at k2
                have C2 := Am k2
                clear k2
                have P2 := Am p2
                clear p2
                cases p3 : txtB l tx with
                | false =>
                  have C3 := HIT
                  rw [p3] at C3
                  have HW := Am (HBD.out (by simp [sentR, P0.out, P1.out, P2.out, p3]))
                  clear p3
                  go_wp2_with (fail)
                  refine (C0.out _).mono ?_
                  rintro e w' ⟨rfl, rfl⟩
                  go_wp2_with (fail)
                  refine (C1.out _).mono ?_
                  rintro e w' ⟨rfl, rfl⟩
                  go_wp2_with (fail)
                  refine (C2.out _).mono ?_
                  rintro e w' ⟨rfl, rfl⟩
                  go_wp2_with (fail)
                  refine C3.out.mono ?_
                  rintro e w9 ⟨rfl, hb9⟩
                  have HB9 := Am hb9
                  clear hb9
                  go_wp2
                  go_ret
                  exact ⟨by rw [HW.out]; rfl, pX_ HBA2.out HB9.out⟩
                | true =>
                  have C3 := HIT
                  rw [p3] at C3
                  have HW := Am (HGD.out (by simp [sentR, P0.out, P1.out, P2.out, p3]))
                  clear p3
                  go_wp2_with (fail)
                  refine (C0.out _).mono ?_
                  rintro e w' ⟨rfl, rfl⟩
                  go_wp2_with (fail)
                  refine (C1.out _).mono ?_
                  rintro e w' ⟨rfl, rfl⟩
                  go_wp2_with (fail)
                  refine (C2.out _).mono ?_
                  rintro e w' ⟨rfl, rfl⟩
                  go_wp2_with (fail)
                  refine C3.out.mono ?_
                  rintro e w9 ⟨rfl, hb9⟩
                  have HB9 := Am hb9
                  clear hb9
                  go_wp2
                  go_roundg (l.jn.length - (i + 1))
                  case measure => omega
                  case rel => exact ⟨i + 1, by omega, by omega, by go_num, HW, ⟨pX_ HBA.out HB9.out⟩⟩
         ·have hi2 : i = l.jn.length := by omega
          have HJA := HI
          rw [hi2] at HJA
          clear HI
          subst hi2
          have hltz : ¬ (l.jn.length : Int) < (l.jn.length : Int) := by omega
          have HBR1 := BR
          go_wp2
          go_loopg [7] l.rc.length (fun gg v7 wr => ∃ i : Nat, i ≤ l.rc.length ∧ l.rc.length - i ≤ gg ∧ v7 = .int .i64 i ∧ Aside0 (∀ j, j < i → ∀ hj : j < l.rc.length, recordB l (l.rc[j]'hj) = true) ∧ Aside0 (Below w1.heap.size w1 wr))
          case atStart => exact ⟨0, by omega, by omega, by go_num, ⟨fun j hj => by omega⟩, HBR1⟩
          case round =>
           clear b0 b1 b2 b3 b4 d0 d1 d2 d3 d4 BR BWR hNr HBR1
           obtain ⟨i, hi, hg, rfl, HI, BR⟩ := hrel
           have BWR := Am (pX_ BW.out BR.out)
           have hNr : w.heap.size < wr.heap.size := by have := BR.out.size; omega
           replace b0 : wr.cell? ⟨w.heap.size, 0, none⟩ = some (.slice A0 l.ls.length c0) := (BR.out.cell (p := ⟨w.heap.size, 0, none⟩) hN1).trans B0.out
           replace b1 : wr.cell? ⟨w.heap.size, 1, none⟩ = some (.int .i64 l.errs) := (BR.out.cell (p := ⟨w.heap.size, 1, none⟩) hN1).trans B1.out
           replace b2 : wr.cell? ⟨w.heap.size, 2, none⟩ = some (.slice A2 l.sees.length c2) := (BR.out.cell (p := ⟨w.heap.size, 2, none⟩) hN1).trans B2.out
           replace b3 : wr.cell? ⟨w.heap.size, 3, none⟩ = some (.slice A3 l.jn.length c3) := (BR.out.cell (p := ⟨w.heap.size, 3, none⟩) hN1).trans B3.out
           replace b4 : wr.cell? ⟨w.heap.size, 4, none⟩ = some (.slice A4 l.rc.length c4) := (BR.out.cell (p := ⟨w.heap.size, 4, none⟩) hN1).trans B4.out
           have d0 := fun o => alloc_old b0 hNr o
           have d1 := fun o => alloc_old b1 hNr o
           have d2 := fun o => alloc_old b2 hNr o
           have d3 := fun o => alloc_old b3 hNr o
           have d4 := fun o => alloc_old b4 hNr o
           by_cases hlt : i < l.rc.length
           ·have hltz : (i : Int) < (l.rc.length : Int) := by omega
            obtain ⟨ar, e1, y0, y1, y2⟩ := at_T75 (HL.out.below BWR.out).h4 (i : Int) (by omega) hltz
            cases e1
            rw [rd75_get l i hlt] at y0 y1 y2
            rw [Int.toNat_natCast] at y0 y1 y2
            have hbad := fun (h : recR l l.rc[i] = false) => VB.out (bad_r i hlt (by rw [← rec_eq]; exact h))
            have hgood := fun (h : recR l l.rc[i] = true) => snoc_all (p := fun j => ∀ hj : j < l.rc.length, recordB l (l.rc[j]'hj) = true) HI.out (fun _ => by rw [← rec_eq]; exact h)
            have HBD := Am hbad
            have HGD := Am hgood
            clear hbad hgood
            generalize l.rc[i] = s at *
            obtain ⟨s0, s1, rd_⟩ := s
            dsimp only at *
            have hba : Below wr.heap.size wr (wr.alloc (.cells #[.int .i64 s0, .int .i64 s1, .string rd_] 61)) := (Below.refl _ _).alloc (Nat.le_refl _) _
            have HBA := Am (pX_ BR.out hba)
            have HBA2 := Am (pX_ BWR.out hba)
            clear hba
            cases p0 : inR s0 0 23 with
            | false =>
              have k0 := fun W => in23_any s0 0 23 W
              rw [p0] at k0
              have C0 := Am k0
              clear k0
              have HW := Am (HBD.out (by simp [recR, p0]))
              clear p0
              go_wp2_with (fail)
              refine (C0.out _).mono ?_
              rintro e w' ⟨rfl, rfl⟩
              go_wp2
              go_ret
              exact ⟨by rw [HW.out]; rfl, HBA2.out⟩
            | true =>
              have k0 := fun W => in23_any s0 0 23 W
              rw [p0] at k0
              have C0 := Am k0
              clear k0
              have P0 := Am p0
              clear p0
              cases p1 : inR s1 0 ((l.sees.length : Int) - 1) with
              | false =>
                have k1 := fun W => in23_any s1 0 ((l.sees.length : Int) - 1) W
                rw [p1] at k1
                have C1 := Am k1
                clear k1
                have HW := Am (HBD.out (by simp [recR, P0.out, p1]))
                clear p1
                go_wp2_with (fail)
                refine (C0.out _).mono ?_
                rintro e w' ⟨rfl, rfl⟩
                go_wp2_with (fail)
                refine (C1.out _).mono ?_
                rintro e w' ⟨rfl, rfl⟩
                go_wp2
                go_ret
                exact ⟨by rw [HW.out]; rfl, HBA2.out⟩
              | true =>
                have k1 := fun W => in23_any s1 0 ((l.sees.length : Int) - 1) W
                rw [p1] at k1
                have C1 := Am k1
                clear k1
                have P1 := Am p1
                clear p1
                by_cases p2 : sfE rd_ = 0
                ·have k2 := fun W => signsFault98_any rd_ W
                 rw [p2] at k2
                 have C2 := Am k2
                 have HW := Am (HGD.out (by simp [recR, P0.out, P1.out, p2]))
                 clear k2 p2
                 go_wp2_with (fail)
                 refine (C0.out _).mono ?_
                 rintro e w' ⟨rfl, rfl⟩
                 go_wp2_with (fail)
                 refine (C1.out _).mono ?_
                 rintro e w' ⟨rfl, rfl⟩
                 go_wp2_with (fail)
                 refine (C2.out _).mono ?_
                 rintro e w' ⟨rfl, rfl⟩
                 go_wp2
                 go_roundg (l.rc.length - (i + 1))
                 case measure => omega
                 case rel => exact ⟨i + 1, by omega, by omega, by go_num, HW, ⟨HBA.out⟩⟩
                ·have C2 := Am (fun W => signsFault98_any rd_ W)
                 have HW := Am (HBD.out (by simp [recR, P0.out, P1.out, p2]))
                 have p2b : (sfE rd_ != 0) = true := by simpa using p2
                 have p2c := eq_false p2
                 clear p2
                 generalize sfE rd_ = E at *
                 go_wp2_with (fail)
                 refine (C0.out _).mono ?_
                 rintro e w' ⟨rfl, rfl⟩
                 go_wp2_with (fail)
                 refine (C1.out _).mono ?_
                 rintro e w' ⟨rfl, rfl⟩
                 go_wp2_with (fail)
                 refine (C2.out _).mono ?_
                 rintro e w' ⟨rfl, rfl⟩
                 go_wp2
                 go_ret
                 exact ⟨by rw [HW.out]; rfl, HBA2.out⟩
           ·have hi2 : i = l.rc.length := by omega
            have HW := Am (VG.out (good_all HE1.out H5.out (fun j hj => HSA.out j hj hj) (fun j hj => HJA.out j hj hj) (fun j hj => HI.out j (by omega) hj)))
            clear HI
            subst hi2
            have hltz : ¬ (l.rc.length : Int) < (l.rc.length : Int) := by omega
            go_wp2
            go_ret
            exact ⟨by rw [HW.out]; rfl, BWR.out⟩
  ·have HW := Am (HV.out.trans (logE_code hov h4))
   have z4 : (codeE l.ls != 0) = true := by simpa using h4
   have z4b := eq_false h4
   clear h4 hov h1 h2 h3
   generalize codeE l.ls = E at *
   go_enter Tryz.func66, Tryz.ntmps66
   go_wp2_with (fail)
   refine HCD.out.mono ?_
   rintro e w1 ⟨rfl, hb1⟩
   have BW := Am (pX_ HB.out hb1)
   clear hb1
   go_wp2
   go_ret
   exact ⟨by rw [HW.out]; rfl, BW.out⟩
def SomeB (Q : Bool → Prop) (w : World) (e : Ending) (w' : World) : Prop := ∃ b, e = .returned (.bool b) ∧ Q b ∧ Below w.heap.size w w'
def Q53 (n : Nat) (b : Bool) : Prop := b = true → n ≤ 9
set_option maxRecDepth 100000 in
set_option maxHeartbeats 4000000 in
theorem thin53_any (A : Option Addr) (c : Nat) (ls : List ByteArray) (w : World) (hr : Kd.C Kd.string w A ls.length ls) : Calls Tryz.prog 53 #[.agg #[.slice A ls.length c], .string ⟨#[]⟩] w (SomeB (Q53 ls.length) w) := by
 have hu := Tryz.underlying24
 have hmax : (ls.length : Int) ≤ 9223372036854775807 := by have := hr.2.1; omega
 have hb : Below w.heap.size w (w.alloc (.cells #[.slice A ls.length c] 24)) := (Below.refl _ w).alloc (Nat.le_refl _) _
 have HR := Am (Kd.C_below hr hb)
 have HB := Am hb
 clear hr hb
 go_enter Tryz.func53, Tryz.ntmps53
 go_wp2
 go_loopg [5] ls.length (fun gg v5 wr => ∃ i : Nat, i ≤ ls.length ∧ i ≤ 10 ∧ ls.length - i ≤ gg ∧ v5 = .int .i64 i ∧ wr = w.alloc (.cells #[.slice A ls.length c] 24))
 case atStart => exact ⟨0, by omega, by omega, by omega, by go_num, rfl⟩
 case round =>
  obtain ⟨i, hi, hi10, hg, rfl, rfl⟩ := hrel
  have hfin : ∀ b : Bool, b = decide (ls.length ≤ 9) → SomeB (Q53 ls.length) w (.returned (.bool b)) (w.alloc (.cells #[.slice A ls.length c] 24)) := fun b hb => ⟨b, rfl, fun h => by rw [hb] at h; exact of_decide_eq_true h, HB.out⟩
  have HFIN := Am hfin
  clear hfin
  by_cases h9 : ls.length ≤ 9
  ·have h9z : (ls.length : Int) ≤ 9 := by omega
   by_cases hlt : i < ls.length
   ·have hltz : (i : Int) < (ls.length : Int) := by omega
    have h10z : (i : Int) < 10 := by omega
    obtain ⟨ax, e1, cx⟩ := Kd.at_string HR.out (i : Int) (by omega) hltz
    cases e1
    rw [Int.toNat_natCast] at cx
    generalize rdOf ByteArray.empty ls (i : Int) = S at *
    by_cases hs : S.size ≤ 9
    ·have hsz : ¬ (S.size : Int) > 9 := by omega
     go_wp2
     go_roundg (ls.length - (i + 1))
     case measure => omega
     case rel => exact ⟨i + 1, by omega, by omega, by omega, by go_num, rfl⟩
    ·have hsz : (S.size : Int) > 9 := by omega
     go_wp2
     go_ret
     exact ⟨false, rfl, (fun h => by cases h), HB.out⟩
   ·have hi2 : i = ls.length := by omega
    subst hi2
    have hltz : ¬ (ls.length : Int) < (ls.length : Int) := by omega
    go_wp2
    go_ret
    exact HFIN.out true (by simp [h9])
  ·have h9z : ¬ (ls.length : Int) ≤ 9 := by omega
   by_cases hlt : i < 10
   ·have hltn : i < ls.length := by omega
    have hltz : (i : Int) < (ls.length : Int) := by omega
    have h10z : (i : Int) < 10 := by omega
    obtain ⟨ax, e1, cx⟩ := Kd.at_string HR.out (i : Int) (by omega) hltz
    cases e1
    rw [Int.toNat_natCast] at cx
    generalize rdOf ByteArray.empty ls (i : Int) = S at *
    by_cases hs : S.size ≤ 9
    ·have hsz : ¬ (S.size : Int) > 9 := by omega
     go_wp2
     go_roundg (ls.length - (i + 1))
     case measure => omega
     case rel => exact ⟨i + 1, by omega, by omega, by omega, by go_num, rfl⟩
    ·have hsz : (S.size : Int) > 9 := by omega
     go_wp2
     go_ret
     exact ⟨false, rfl, (fun h => by cases h), HB.out⟩
   ·have hi2 : i = 10 := by omega
    subst hi2
    have h10z : ¬ ((10 : Nat) : Int) < 10 := by omega
    by_cases h10 : ls.length ≤ 10
    ·have hltz : ¬ ((10 : Nat) : Int) < (ls.length : Int) := by omega
     go_wp2
     go_ret
     exact HFIN.out false (by simp [h9])
    ·have hltz : ((10 : Nat) : Int) < (ls.length : Int) := by omega
     go_wp2
     go_ret
     exact HFIN.out false (by simp [h9])
structure ThinOk (l : Lg) : Prop where
 ls : l.ls.length ≤ 9
 sees : l.sees.length ≤ 7
 jn : l.jn.length ≤ 11
 rc : l.rc.length ≤ 9
 tx : ∀ (j : Nat) (hj : j < l.jn.length), (l.jn[j]).f2.length ≤ 9
def Q17 (l : Lg) (b : Bool) : Prop := b = true → ThinOk l
theorem fault22_any (a : LV) (l : Lg) (w : World) (hL : LogAt w a l) : Calls Tryz.prog 22 #[logV a l] w fun e w' => e = .returned (.int .i64 (logE l)) ∧ Below w.heap.size w w' := by
  have hu := Tryz.underlying29
  have hb : Below w.heap.size w (w.alloc (logD a l)) := (Below.refl _ w).alloc (Nat.le_refl _) _
  have hf := fault66_any a l _ (hL.below hb)
  have HF := Am hf
  have HB := Am hb
  obtain ⟨A0, A2, A3, A4, c0, c2, c3, c4⟩ := a
  dsimp only [logV] at *
  clear hL hb hf
  generalize logE l = E at *
  go_enter Tryz.func22, Tryz.ntmps22
  go_wp2_with (fail)
  refine HF.out.mono ?_
  rintro e w1 ⟨rfl, hb1⟩
  have BW := Am (pX_ HB.out hb1)
  clear hb1
  go_wp2
  go_ret
  exact ⟨rfl, BW.out⟩
set_option maxRecDepth 100000 in
set_option maxHeartbeats 4000000 in
theorem thin17_any (a : LV) (l : Lg) (w : World) (hL : LogAt w a l) : Calls Tryz.prog 17 #[logV a l] w (SomeB (Q17 l) w) := by
 have hu := Tryz.underlying29
 have hu1 := Tryz.underlying69
 have hu2 := Tryz.underlying61
 have hu3 := Tryz.underlying24
 have hb : Below w.heap.size w (w.alloc (logD a l)) := (Below.refl _ w).alloc (Nat.le_refl _) _
 have h0 := thin53_any a.A0 a.c0 l.ls _ (hL.below hb).h0
 have H0 := Am h0
 have HL := Am hL
 have HB := Am hb
 obtain ⟨A0, A2, A3, A4, c0, c2, c3, c4⟩ := a
 dsimp only [logV] at *
 clear hL hb h0
 by_cases q1 : l.sees.length ≤ 7
 ·have q1z : ¬ (l.sees.length : Int) > 7 := by omega
  by_cases q2 : l.jn.length ≤ 11
  ·have q2z : ¬ (l.jn.length : Int) > 11 := by omega
   by_cases q3 : l.rc.length ≤ 9
   ·have q3z : ¬ (l.rc.length : Int) > 9 := by omega
    go_enter Tryz.func17, Tryz.ntmps17
    go_wp2_with (fail)
    refine H0.out.mono ?_
    rintro e w1 ⟨b, rfl, hq, hb1⟩
    have BW := Am (pX_ HB.out hb1)
    have b0 : w1.cell? ⟨w.heap.size, 2, none⟩ = some (.slice A2 l.sees.length c2) := (hb1.cell (p := ⟨w.heap.size, 2, none⟩) (by simp)).trans (cell_new _ _ _ 2)
    have b3 : w1.cell? ⟨w.heap.size, 3, none⟩ = some (.slice A3 l.jn.length c3) := (hb1.cell (p := ⟨w.heap.size, 3, none⟩) (by simp)).trans (cell_new _ _ _ 3)
    have b4 : w1.cell? ⟨w.heap.size, 4, none⟩ = some (.slice A4 l.rc.length c4) := (hb1.cell (p := ⟨w.heap.size, 4, none⟩) (by simp)).trans (cell_new _ _ _ 4)
    have HQ := Am hq
    clear hq hb1
    cases b with
    | false =>
      go_wp2
      go_ret
      exact ⟨false, rfl, (fun h => by cases h), BW.out⟩
    | true =>
      have HLS := Am (HQ.out rfl)
      go_wp2
      go_loopg [3] l.jn.length (fun gg v3 wr => ∃ i : Nat, i ≤ l.jn.length ∧ l.jn.length - i ≤ gg ∧ v3 = .int .i64 i ∧ Aside0 (∀ j, j < i → ∀ hj : j < l.jn.length, (l.jn[j]'hj).f2.length ≤ 9) ∧ w1 = wr)
      case atStart => exact ⟨0, by omega, by omega, by go_num, ⟨fun j hj => by omega⟩, rfl⟩
      case round =>
       obtain ⟨i, hi, hg, rfl, HI, rfl⟩ := hrel
       by_cases hlt : i < l.jn.length
       ·have hltz : (i : Int) < (l.jn.length : Int) := by omega
        obtain ⟨aj, A5, c5, e1, y0, y1, y2, l5, g5⟩ := at_T76 (HL.out.below BW.out).h3 (i : Int) (by omega) hltz
        dsimp only at e1
        cases e1
        rw [rd76_get l i hlt] at y0 y1 y2 l5 g5
        rw [Int.toNat_natCast] at y0 y1 y2
        have hmx : ((l.jn[i]).f2.length : Int) ≤ 9223372036854775807 := by have := g5.2.1; omega
        have HN := Am (fun (h : (l.jn[i]).f2.length ≤ 9) => snoc_all (p := fun j => ∀ hj : j < l.jn.length, (l.jn[j]'hj).f2.length ≤ 9) HI.out (fun _ => h))
        clear g5
        generalize l.jn[i] = s at *
        obtain ⟨s0, s1, tx⟩ := s
        dsimp only at *
        by_cases ht : tx.length ≤ 9
        ·have htz : ¬ (tx.length : Int) > 9 := by omega
         have HY := Am (HN.out ht)
         go_wp2
         go_roundg (l.jn.length - (i + 1))
         case measure => omega
         case rel => exact ⟨i + 1, by omega, by omega, by go_num, HY, rfl⟩
        ·have htz : (tx.length : Int) > 9 := by omega
         go_wp2
         go_ret
         exact ⟨false, rfl, (fun h => by cases h), BW.out⟩
       ·have hi2 : i = l.jn.length := by omega
        have HJA := HI
        rw [hi2] at HJA
        clear HI
        subst hi2
        have hltz : ¬ (l.jn.length : Int) < (l.jn.length : Int) := by omega
        go_wp2
        go_loopg [4] l.rc.length (fun gg v4 wr => ∃ i : Nat, i ≤ l.rc.length ∧ l.rc.length - i ≤ gg ∧ v4 = .int .i64 i ∧ w1 = wr)
        case atStart => exact ⟨0, by omega, by omega, by go_num, rfl⟩
        case round =>
         obtain ⟨i, hi, hg, rfl, rfl⟩ := hrel
         by_cases hlt : i < l.rc.length
         ·have hltz : (i : Int) < (l.rc.length : Int) := by omega
          obtain ⟨ar, e1, y0, y1, y2⟩ := at_T75 (HL.out.below BW.out).h4 (i : Int) (by omega) hltz
          cases e1
          rw [rd75_get l i hlt] at y0 y1 y2
          rw [Int.toNat_natCast] at y0 y1 y2
          generalize l.rc[i] = s at *
          obtain ⟨s0, s1, rd_⟩ := s
          dsimp only at *
          by_cases ht : rd_.size ≤ 60
          ·have htz : ¬ (rd_.size : Int) > 60 := by omega
           go_wp2
           go_roundg (l.rc.length - (i + 1))
           case measure => omega
           case rel => exact ⟨i + 1, by omega, by omega, by go_num, rfl⟩
          ·have htz : (rd_.size : Int) > 60 := by omega
           go_wp2
           go_ret
           exact ⟨false, rfl, (fun h => by cases h), BW.out⟩
         ·have hi2 : i = l.rc.length := by omega
          subst hi2
          have hltz : ¬ (l.rc.length : Int) < (l.rc.length : Int) := by omega
          go_wp2
          go_ret
          exact ⟨true, rfl, (fun _ => ⟨HLS.out, q1, q2, q3, fun j hj => HJA.out j hj hj⟩), BW.out⟩
   ·have q3z : (l.rc.length : Int) > 9 := by omega
    go_enter Tryz.func17, Tryz.ntmps17
    go_wp2_with (fail)
    refine H0.out.mono ?_
    rintro e w1 ⟨b, rfl, hq, hb1⟩
    have BW := Am (pX_ HB.out hb1)
    have b2 : w1.cell? ⟨w.heap.size, 2, none⟩ = some (.slice A2 l.sees.length c2) := (hb1.cell (p := ⟨w.heap.size, 2, none⟩) (by simp)).trans (cell_new _ _ _ 2)
    have b3 : w1.cell? ⟨w.heap.size, 3, none⟩ = some (.slice A3 l.jn.length c3) := (hb1.cell (p := ⟨w.heap.size, 3, none⟩) (by simp)).trans (cell_new _ _ _ 3)
    have b4 : w1.cell? ⟨w.heap.size, 4, none⟩ = some (.slice A4 l.rc.length c4) := (hb1.cell (p := ⟨w.heap.size, 4, none⟩) (by simp)).trans (cell_new _ _ _ 4)
    clear hq hb1
    cases b with
    | false =>
      go_wp2
      go_ret
      exact ⟨false, rfl, (fun h => by cases h), BW.out⟩
    | true =>
      go_wp2
      all_goals
       go_ret
       exact ⟨false, rfl, (fun h => by cases h), BW.out⟩
  ·have q2z : (l.jn.length : Int) > 11 := by omega
   go_enter Tryz.func17, Tryz.ntmps17
   go_wp2_with (fail)
   refine H0.out.mono ?_
   rintro e w1 ⟨b, rfl, hq, hb1⟩
   have BW := Am (pX_ HB.out hb1)
   have b2 : w1.cell? ⟨w.heap.size, 2, none⟩ = some (.slice A2 l.sees.length c2) := (hb1.cell (p := ⟨w.heap.size, 2, none⟩) (by simp)).trans (cell_new _ _ _ 2)
   have b3 : w1.cell? ⟨w.heap.size, 3, none⟩ = some (.slice A3 l.jn.length c3) := (hb1.cell (p := ⟨w.heap.size, 3, none⟩) (by simp)).trans (cell_new _ _ _ 3)
   have b4 : w1.cell? ⟨w.heap.size, 4, none⟩ = some (.slice A4 l.rc.length c4) := (hb1.cell (p := ⟨w.heap.size, 4, none⟩) (by simp)).trans (cell_new _ _ _ 4)
   clear hq hb1
   cases b with
   | false =>
     go_wp2
     go_ret
     exact ⟨false, rfl, (fun h => by cases h), BW.out⟩
   | true =>
     go_wp2
     all_goals
      go_ret
      exact ⟨false, rfl, (fun h => by cases h), BW.out⟩
 ·have q1z : (l.sees.length : Int) > 7 := by omega
  go_enter Tryz.func17, Tryz.ntmps17
  go_wp2_with (fail)
  refine H0.out.mono ?_
  rintro e w1 ⟨b, rfl, hq, hb1⟩
  have BW := Am (pX_ HB.out hb1)
  have b2 : w1.cell? ⟨w.heap.size, 2, none⟩ = some (.slice A2 l.sees.length c2) := (hb1.cell (p := ⟨w.heap.size, 2, none⟩) (by simp)).trans (cell_new _ _ _ 2)
  have b3 : w1.cell? ⟨w.heap.size, 3, none⟩ = some (.slice A3 l.jn.length c3) := (hb1.cell (p := ⟨w.heap.size, 3, none⟩) (by simp)).trans (cell_new _ _ _ 3)
  have b4 : w1.cell? ⟨w.heap.size, 4, none⟩ = some (.slice A4 l.rc.length c4) := (hb1.cell (p := ⟨w.heap.size, 4, none⟩) (by simp)).trans (cell_new _ _ _ 4)
  clear hq hb1
  cases b with
  | false =>
    go_wp2
    go_ret
    exact ⟨false, rfl, (fun h => by cases h), BW.out⟩
  | true =>
    go_wp2
    all_goals
     go_ret
     exact ⟨false, rfl, (fun h => by cases h), BW.out⟩
end Go.Proofs.YthgfhgjlilmieaaGreat.G
namespace Go.Proofs.YthgfhgjlilmieaaGreat.B
open Go.RowKit Go.Proofs.YthgfhgjlilmieaaGreatW.PrintWords Go.Proofs.YthgfhgjlilmieaaGreatW.PrintLast Go.Proofs.YthgfhgjlilmieaaGreatW.PrintMore
attribute [local go_sem] max2_int min2_int max_two min_two max_three min_three max_four min_four
set_option linter.unusedVariables false
set_option linter.unusedSimpArgs false
mutual
def w6Log.l0 : Nat → Int → List ByteArray → Int → List Int → List (S69) → List (S61) → List ByteArray → Int → List Int → List (S76) → Option (List ByteArray × Int × List Int × (List (S76)) × (List (S75)))
 | 0, _, _, _, _, _, _, _, _, _, _ => none
 | k + 1, x4, x203000, x203001, x203002, x203003, x203004, x211000, x211001, x211002, x211003 => if x4 < (x203003.length : Int) then (if 0 ≤ x4 then ((w6list.f ((rd_T69 x203003 x4).f2)).bind fun t213 => (if x211003.length < 3518437208883 then (w6Log.l0 k (wrap64 (x4 + 1)) x203000 x203001 x203002 x203003 x203004 x211000 x211001 x211002 (x211003 ++ [(⟨(rd_T69 x203003 x4).f0, (rd_T69 x203003 x4).f1, t213⟩ : S76)])) else (none))) else (none)) else (w6Log.l1 k 0 x203000 x203001 x203002 x203003 x203004 x211000 x211001 x211002 x211003 ([] : List (S75)))
def w6Log.l1 : Nat → Int → List ByteArray → Int → List Int → List (S69) → List (S61) → List ByteArray → Int → List Int → List (S76) → List (S75) → Option (List ByteArray × Int × List Int × (List (S76)) × (List (S75)))
 | 0, _, _, _, _, _, _, _, _, _, _, _ => none
 | k + 1, x6, x203000, x203001, x203002, x203003, x203004, x211000, x211001, x211002, x211003, x211004 => if x6 < (x203004.length : Int) then (if 0 ≤ x6 then (if x211004.length < 4398046511104 then (w6Log.l1 k (wrap64 (x6 + 1)) x203000 x203001 x203002 x203003 x203004 x211000 x211001 x211002 x211003 (x211004 ++ [(⟨(rd_T61 x203004 x6).f0, (rd_T61 x203004 x6).f1, (rd_T61 x203004 x6).f2⟩ : S75)])) else (none)) else (none)) else (some (x211000, x211001, x211002, x211003, x211004))
end
def w6Log.f (k : Nat) (l0_0 : List ByteArray) (a0_1 : Int) (l0_2 : List Int) (l0_3 : List (S69)) (l0_4 : List (S61)) : Option (List ByteArray × Int × List Int × (List (S76)) × (List (S75))) := (w2Code.f l0_0).bind fun t204 => ((w6list.f l0_2).bind fun t207 => (w6Log.l0 k 0 l0_0 a0_1 l0_2 l0_3 l0_4 t204 a0_1 t207 ([] : List (S76))))
def w6Log.T1 : Bool × List (List Nat × List Nat) := (true, [([], []), ([0], [0]), ([1], [1]), ([], []), ([3], [3]), ([], []), ([5], [5]), ([6, 2], [6]), ([2, 4, 7], [2, 4, 7]), ([], []), ([9, 8, 7, 0, 1, 2, 3, 4, 5, 6, 7, 8, 9], [8, 9])])
def w6Log.B1 : List Nat := [0, 1, 3, 0, 8, 0, 32, 103, 255, 0, 1023]
theorem w6Log.tab1 : rtab .any (opsOf Tryz.f20 1) = w6Log.T1 := by kernel_rfl
theorem w6Log.bits1 : waitsOk w6Log.T1.2 w6Log.B1 = true := by kernel_rfl
def w6Log.T6 : Bool × List (List Nat × List Nat) := (true, [([], []), ([0], [0]), ([], []), ([2], [2]), ([], []), ([4], [4]), ([], []), ([6], [6]), ([7], [7]), ([3, 5, 8], [3, 5, 8]), ([9], [9]), ([1, 10, 8], [1, 10]), ([0, 1, 2, 3, 4, 5, 6, 7, 8, 9, 10, 11], []), ([12, 11, 11, 0, 1, 2, 3, 4, 5, 6, 7, 8, 9, 10, 11], [11, 12])])
def w6Log.B6 : List Nat := [0, 1, 0, 4, 0, 16, 0, 64, 192, 508, 1020, 2047, 4095, 8191]
theorem w6Log.tab6 : rtab .any (opsOf Tryz.f20 6) = w6Log.T6 := by kernel_rfl
theorem w6Log.bits6 : waitsOk w6Log.T6.2 w6Log.B6 = true := by kernel_rfl
set_option maxHeartbeats 8000000 in
set_option maxRecDepth 100000 in
theorem w6Log.calls (k : Nat) (A0_0 : Option Addr) (c0_0 : Nat) (l0_0 : List ByteArray) (a0_1 : Int) (A0_2 : Option Addr) (c0_2 : Nat) (l0_2 : List Int) (A0_3 : Option Addr) (c0_3 : Nat) (l0_3 : List (S69)) (A0_4 : Option Addr) (c0_4 : Nat) (l0_4 : List (S61)) (r1 : List ByteArray) (r2 : Int) (r3 : List Int) (r4 : List (S76)) (r5 : List (S75)) (w : World) (hr0_0 : Kd.C Kd.string w A0_0 l0_0.length l0_0) (hc0_0 : l0_0.length ≤ c0_0) (hr0_2 : Kd.C (Kd.int .i64) w A0_2 l0_2.length l0_2) (hc0_2 : l0_2.length ≤ c0_2) (hr0_3 : Kd.C k69 w A0_3 l0_3.length l0_3) (hc0_3 : l0_3.length ≤ c0_3) (hr0_4 : Kd.C k61 w A0_4 l0_4.length l0_4) (hc0_4 : l0_4.length ≤ c0_4) (h : w6Log.f k l0_0 a0_1 l0_2 l0_3 l0_4 = some (r1, r2, r3, r4, r5)) :
 Calls Tryz.prog 20 #[.agg #[.slice A0_0 l0_0.length c0_0, .int .i64 a0_1, .slice A0_2 l0_2.length c0_2, .slice A0_3 l0_3.length c0_3, .slice A0_4 l0_4.length c0_4]] w fun e w' => ∃ v0_ v2_ v3_ v4_ : Value, e = .returned (.agg #[v0_, .int .i64 r2, v2_, v3_, v4_]) ∧ Kd.R Kd.string 9 w' w.heap.size (fun _ => True) v0_ r1 ∧ Kd.R (Kd.int .i64) 3 w' w.heap.size (fun _ => True) v2_ r3 ∧ Kd.S k76 76 w' w.heap.size (fun k_ => some k_ ≠ (v2_ : Value).ownBlock) v3_ r4 ∧ Kd.R k75 75 w' w.heap.size (fun _ => True) v4_ r5 ∧ Below w.heap.size w w' := by
 have hu29 := Tryz.underlying29
 have hu38 := Tryz.underlying38
 have hu24 := Tryz.underlying24
 have hu69 := Tryz.underlying69
 have hu76 := Tryz.underlying76
 have hu61 := Tryz.underlying61
 have hu75 := Tryz.underlying75
 have HR0_0 := Am hr0_0
 have HC0_0 := Am hc0_0
 clear hr0_0 hc0_0
 have HR0_2 := Am hr0_2
 have HC0_2 := Am hc0_2
 clear hr0_2 hc0_2
 have HR0_3 := Am hr0_3
 have HC0_3 := Am hc0_3
 clear hr0_3 hc0_3
 have HR0_4 := Am hr0_4
 have HC0_4 := Am hc0_4
 clear hr0_4 hc0_4
 have HB := Am (Below.refl w.heap.size w)
 have H : ((w2Code.f l0_0).bind fun t204 => ((w6list.f l0_2).bind fun t207 => (w6Log.l0 k 0 l0_0 a0_1 l0_2 l0_3 l0_4 t204 a0_1 t207 ([] : List (S76))))) = some (r1, r2, r3, r4, r5) := h
 clear h
 replace H := Option.bind_eq_some_iff.mp H
 obtain ⟨t204, A20, H⟩ := H
 replace H : ((w6list.f l0_2).bind fun t207 => (w6Log.l0 k 0 l0_0 a0_1 l0_2 l0_3 l0_4 t204 a0_1 t207 ([] : List (S76)))) = some (r1, r2, r3, r4, r5) := H
 have A2 := Am A20
 clear A20
 replace H := Option.bind_eq_some_iff.mp H
 obtain ⟨t207, A30, H⟩ := H
 replace H : (w6Log.l0 k 0 l0_0 a0_1 l0_2 l0_3 l0_4 t204 a0_1 t207 ([] : List (S76))) = some (r1, r2, r3, r4, r5) := H
 have A3 := Am A30
 clear A30
 have H' := Am H
 clear H
 go_enter Tryz.func20, Tryz.ntmps20
 try go_wp2_with (first | ((with_reducible refine gate_dst (N := 1) rfl ?_); refine box_event ?hg (N := 1) ?hd (cs := #[.slice A0_0 l0_0.length c0_0, .int .i64 a0_1, .slice A0_2 l0_2.length c0_2, .slice A0_3 l0_3.length c0_3, .slice A0_4 l0_4.length c0_4]) (t := 29) ?hr ?_; (case hd => rfl); (case hg => rfl); (case hr => first | (go_simp; done) | (go_simp; rfl)); intro gb202 hg w4 hbox hb; have n0_ := Am (pT_ (by repeat (first | (with_reducible first | exact HB.out | apply pA_ | apply pN_ | apply pD_) | exact HB.out)) hb); have n1_ := Am (hbox); have n2_ := Am ((by rw [hg]; exact (pZ_ (by repeat (first | (with_reducible first | exact HB.out | apply pA_ | apply pN_ | apply pD_) | exact HB.out))) : w.heap.size ≤ gb202)); have n3_ := Am ((by rw [hg]; exact (pZ_ (by repeat (first | (with_reducible first | exact HB.out | apply pA_ | apply pN_ | apply pD_) | exact HB.out))) : w.heap.size ≤ gb202)); clear HB; have HB := n0_; have BK202 := n1_; have GW202 := n2_; have GE202 := n3_; clear n0_ n1_ n2_ n3_; clear hb hbox hg) | ((with_reducible refine gate_dst (N := 2) rfl ?_); refine box_event ?hg (N := 2) ?hd (cs := #[.slice none 0 0, .int .i64 0, .slice none 0 0, .slice none 0 0, .slice none 0 0]) (t := 38) ?hr ?_; (case hd => rfl); (case hg => rfl); (case hr => first | (go_simp; done) | (go_simp; rfl)); intro gb203 hg w5 hbox hb; have n0_ := Am (blk_below (g := gb202) (o := .cells #[.slice A0_0 l0_0.length c0_0, .int .i64 a0_1, .slice A0_2 l0_2.length c0_2, .slice A0_3 l0_3.length c0_3, .slice A0_4 l0_4.length c0_4] 29 (0, 0)) (by (with_reducible repeat (first | refine bN_ ?_ _ | refine bD_ ?_ | refine bA_ ?_ _)); exact BK202.out) hb); have n1_ := Am (pT_ (by repeat (first | (with_reducible first | exact HB.out | apply pA_ | apply pN_ | apply pD_ | refine pS_ ?_ GE202.out) | exact HB.out)) hb); have n2_ := Am (hbox); have n3_ := Am ((by rw [hg]; exact (pZ_ (by repeat (first | (with_reducible first | exact HB.out | apply pA_ | apply pN_ | apply pD_ | refine pS_ ?_ GE202.out) | exact HB.out))) : w.heap.size ≤ gb203)); have n4_ := Am ((by rw [hg]; exact (pZ_ (by repeat (first | (with_reducible first | exact HB.out | apply pA_ | apply pN_ | apply pD_ | refine pS_ ?_ GE202.out) | exact HB.out))) : w.heap.size ≤ gb203)); have n5_ := Am ((by rw [hg]; exact Nat.ne_of_lt (blk_lt (g := gb202) (o := .cells #[.slice A0_0 l0_0.length c0_0, .int .i64 a0_1, .slice A0_2 l0_2.length c0_2, .slice A0_3 l0_3.length c0_3, .slice A0_4 l0_4.length c0_4] 29 (0, 0)) (by (with_reducible repeat (first | refine bN_ ?_ _ | refine bD_ ?_ | refine bA_ ?_ _)); exact BK202.out)) : gb202 ≠ gb203)); have n6_ := Am ((by rw [hg]; exact Nat.ne_of_gt (blk_lt (g := gb202) (o := .cells #[.slice A0_0 l0_0.length c0_0, .int .i64 a0_1, .slice A0_2 l0_2.length c0_2, .slice A0_3 l0_3.length c0_3, .slice A0_4 l0_4.length c0_4] 29 (0, 0)) (by (with_reducible repeat (first | refine bN_ ?_ _ | refine bD_ ?_ | refine bA_ ?_ _)); exact BK202.out)) : gb203 ≠ gb202)); clear BK202; clear HB; have BK202 := n0_; have HB := n1_; have BK203 := n2_; have GW203 := n3_; have GE203 := n4_; have NB202_203 := n5_; have NB203_202 := n6_; clear n0_ n1_ n2_ n3_ n4_ n5_ n6_; clear hb hbox hg))
 have n0_ := Am (bD_ BK202.out)
 have n1_ := Am (bD_ BK203.out)
 have n2_ := Am (pD_ HB.out)
 clear BK202
 clear BK203
 clear HB
 have BK202 := n0_
 have BK203 := n1_
 have HB := n2_
 clear n0_ n1_ n2_
 refine start_ (n := 11) (S := fun w' => w'.cell? ⟨gb202, 0, none⟩ = some (.slice A0_0 l0_0.length c0_0) ∧ w'.cell? ⟨gb202, 1, none⟩ = some (.int .i64 a0_1) ∧ w'.cell? ⟨gb202, 2, none⟩ = some (.slice A0_2 l0_2.length c0_2) ∧ w'.cell? ⟨gb202, 3, none⟩ = some (.slice A0_3 l0_3.length c0_3) ∧ w'.cell? ⟨gb202, 4, none⟩ = some (.slice A0_4 l0_4.length c0_4)) (ds := []) #[false, false, false, false, false, false, false, false, false, false, false] (by kernel_rfl) rfl rfl ⟨(bC_ BK202.out 0).trans rfl, (bC_ BK202.out 1).trans rfl, (bC_ BK202.out 2).trans rfl, (bC_ BK202.out 3).trans rfl, (bC_ BK202.out 4).trans rfl⟩ (fun hHeld => ?_); refine with_tabW w6Log.tab1 w6Log.bits1 (fun HT_ HW_ => ?_)
 generalize w5.drew = w6 at BK202 BK203 HB hHeld ⊢
 refine pure_ (i := 0) (N := some 8) (v := ?_) (a' := ?_) #[true, false, false, false, false, false, false, false, false, false, false] rfl rfl (any_of HT_.out (by kernel_rfl)) (fun _ _ _ h => h) (Or.inl ⟨by rfl, ?_⟩) ?_ ?_
 rotate_left
 ·intro w'
  go_simp
  with_reducible rfl
 rotate_left
 ·simp only [Act.put, List.setIfInBounds_toArray, List.set_cons_zero, List.set_cons_succ, i64_w, i32_w]
  rfl
 refine pure_ (i := 3) (N := some 11) (v := ?_) (a' := ?_) #[true, false, false, true, false, false, false, false, false, false, false] rfl rfl (any_of HT_.out (by kernel_rfl)) (fun _ _ _ h => h) (Or.inl ⟨by rfl, ?_⟩) ?_ ?_
 rotate_left
 ·intro w'
  go_simp
  with_reducible rfl
 rotate_left
 ·simp only [Act.put, List.setIfInBounds_toArray, List.set_cons_zero, List.set_cons_succ, i64_w, i32_w]
  rfl
 refine pure_ (i := 5) (N := some 13) (v := ?_) (a' := ?_) #[true, false, false, true, false, true, false, false, false, false, false] rfl rfl (any_of HT_.out (by kernel_rfl)) (fun _ _ _ h => h) (Or.inl ⟨by rfl, ?_⟩) ?_ ?_
 rotate_left
 ·intro w'
  go_simp
  with_reducible rfl
 rotate_left
 ·simp only [Act.put, List.setIfInBounds_toArray, List.set_cons_zero, List.set_cons_succ, i64_w, i32_w]
  rfl
 refine take_ (i := 1) (N := some 9) (v := ?_) (a' := ?_) #[true, true, false, true, false, true, false, false, false, false, false] rfl rfl (take_ofW HT_.out HW_.out (by kernel_rfl)) (fun _ _ _ h => h) (Or.inl ⟨by rfl, ?_⟩) hHeld ?_ ?_
 rotate_left
 ·rintro w' ⟨s0, s1, s2, s3, s4⟩
  go_simp
  with_reducible rfl
 rotate_left
 ·simp only [Act.put, List.setIfInBounds_toArray, List.set_cons_zero, List.set_cons_succ, i64_w, i32_w]
  rfl
 refine take_ (i := 4) (N := some 12) (v := ?_) (a' := ?_) #[true, true, false, true, true, true, false, false, false, false, false] rfl rfl (take_ofW HT_.out HW_.out (by kernel_rfl)) (fun _ _ _ h => h) (Or.inl ⟨by rfl, ?_⟩) hHeld ?_ ?_
 rotate_left
 ·rintro w' ⟨s0, s1, s2, s3, s4⟩
  go_simp
  with_reducible rfl
 rotate_left
 ·simp only [Act.put, List.setIfInBounds_toArray, List.set_cons_zero, List.set_cons_succ, i64_w, i32_w]
  rfl
 refine take_ (i := 6) (N := some 14) (v := ?_) (a' := ?_) #[true, true, false, true, true, true, true, false, false, false, false] rfl rfl (take_ofW HT_.out HW_.out (by kernel_rfl)) (fun _ _ _ h => h) (Or.inl ⟨by rfl, ?_⟩) hHeld ?_ ?_
 rotate_left
 ·rintro w' ⟨s0, s1, s2, s3, s4⟩
  go_simp
  with_reducible rfl
 rotate_left
 ·simp only [Act.put, List.setIfInBounds_toArray, List.set_cons_zero, List.set_cons_succ, i64_w, i32_w]
  rfl
 refine join_ (σ := Value × Value × Nat) 1 #[true, true, true, true, true, true, true, true, true, true, false] (fun s_ => [(10, .agg #[s_.1]), (15, s_.2.1), (3, .pointer (some ⟨s_.2.2, 0, none⟩)), (16, .agg #[s_.1, .int .i64 a0_1, s_.2.1, .slice none 0 0, .slice none 0 0])]) (fun s_ w' => (w'.cell? ⟨gb202, 0, none⟩ = some (.slice A0_0 l0_0.length c0_0) ∧ w'.cell? ⟨gb202, 1, none⟩ = some (.int .i64 a0_1) ∧ w'.cell? ⟨gb202, 2, none⟩ = some (.slice A0_2 l0_2.length c0_2) ∧ w'.cell? ⟨gb202, 3, none⟩ = some (.slice A0_3 l0_3.length c0_3) ∧ w'.cell? ⟨gb202, 4, none⟩ = some (.slice A0_4 l0_4.length c0_4)) ∧ (Kd.R Kd.string 9 w' w.heap.size (fun _ => True) s_.1 t204) ∧ (Kd.R (Kd.int .i64) 3 w' w.heap.size (fun _ => True) s_.2.1 t207) ∧ (w'.heap[gb202]? = some (.cells #[.slice A0_0 l0_0.length c0_0, .int .i64 a0_1, .slice A0_2 l0_2.length c0_2, .slice A0_3 l0_3.length c0_3, .slice A0_4 l0_4.length c0_4] 29 (0, 0))) ∧ (w'.heap[gb203]? = some (.cells #[.slice none 0 0, .int .i64 0, .slice none 0 0, .slice none 0 0, .slice none 0 0] 38 (0, 0))) ∧ (w'.heap[s_.2.2]? = some (.cells #[.slice none 0 0, .int .i64 0, .slice none 0 0, .slice none 0 0, .slice none 0 0] 38 (0, 0))) ∧ (w.heap.size ≤ s_.2.2) ∧ (w.heap.size ≤ s_.2.2) ∧ (gb202 ≠ s_.2.2) ∧ (s_.2.2 ≠ gb202) ∧ (gb203 ≠ s_.2.2) ∧ (s_.2.2 ≠ gb203) ∧ (Below w.heap.size w w')) ?_ ?_
 rotate_left
 ·intro hCont
  refine two_ (i := 2) (j := 9) (Ni := some 10) (Nj := some 3) #[true, true, true, true, true, true, true, false, false, false, false] #[true, true, false, true, true, true, true, false, false, true, false] rfl rfl rfl rfl (two_of HT_.out (by kernel_rfl)) (by decide) (by decide) (fun K hK => ?_) (fun K hK => ?_)
  ·skip
   refine goes_ Tryz.func63 (by kernel_rfl) rfl #[.agg #[.slice A0_0 l0_0.length c0_0]] (by rfl) rfl rfl (by (try simp only [List.map_toArray, List.map_cons, List.map_nil]); first | done | rfl | (simp only [List.length_drop, List.length_take]; rfl)) ?_
   with_reducible refine (w2Code.calls _ _ l0_0 t204 _ ?side1 ?side2 A2.out).mono ?_
   (case side1 => repeat (first | exact (Kd.C_below HR0_0.out HB.out) | (with_reducible refine Kd.C_alloc ?_ _) | (with_reducible refine Kd.C_drewN ?_ _) | (with_reducible refine Kd.C_drew ?_)))
   (case side2 => exact HC0_0.out)
   rintro e w7 ⟨v205, rfl, ho0, hb⟩
   refine ⟨_, rfl, ?_⟩
   have n0_ := Am (Kd.R_lower ho0 (pZ_ (by repeat (first | (with_reducible first | exact HB.out | apply pA_ | apply pN_ | apply pD_ | refine pS_ ?_ GE202.out | refine pS_ ?_ GE203.out) | exact HB.out))))
   have n1_ := Am (blk_below (g := gb202) (o := .cells #[.slice A0_0 l0_0.length c0_0, .int .i64 a0_1, .slice A0_2 l0_2.length c0_2, .slice A0_3 l0_3.length c0_3, .slice A0_4 l0_4.length c0_4] 29 (0, 0)) (by (with_reducible repeat (first | refine bN_ ?_ _ | refine bD_ ?_ | refine bA_ ?_ _)); exact BK202.out) hb)
   have n2_ := Am (blk_below (g := gb203) (o := .cells #[.slice none 0 0, .int .i64 0, .slice none 0 0, .slice none 0 0, .slice none 0 0] 38 (0, 0)) (by (with_reducible repeat (first | refine bN_ ?_ _ | refine bD_ ?_ | refine bA_ ?_ _)); exact BK203.out) hb)
   have n3_ := Am (pT_ (by repeat (first | (with_reducible first | exact HB.out | apply pA_ | apply pN_ | apply pD_ | refine pS_ ?_ GE202.out | refine pS_ ?_ GE203.out) | exact HB.out)) hb)
   clear BK202
   clear BK203
   clear HB
   have HO206 := n0_
   have BK202 := n1_
   have BK203 := n2_
   have HB := n3_
   clear n0_ n1_ n2_ n3_
   (try clear hb)
   (try clear hb2)
   (try clear hk)
   (try clear hi)
   (try clear ho0)
   refine hK.out _ _ ⟨(bC_ BK202.out 0).trans rfl, (bC_ BK202.out 1).trans rfl, (bC_ BK202.out 2).trans rfl, (bC_ BK202.out 3).trans rfl, (bC_ BK202.out 4).trans rfl⟩ (fun hHeld => ?_)
   clear hK K
   refine norm_ (a' := ?_) ?_ ?_
   rotate_left
   ·show Act.put _ (some 10) _ = _
    simp only [Act.put, List.setIfInBounds_toArray, List.set_cons_zero, List.set_cons_succ, i64_w, i32_w]
    rfl
   refine two_ (i := 7) (j := 9) (Ni := some 15) (Nj := some 3) #[true, true, true, true, true, true, true, true, false, false, false] #[true, true, true, true, true, true, true, false, false, true, false] rfl rfl rfl rfl (two_of HT_.out (by kernel_rfl)) (by decide) (by decide) (fun K hK => ?_) (fun K hK => ?_)
   ·skip
    refine goes_ Tryz.func39 (by kernel_rfl) rfl #[.slice A0_2 l0_2.length c0_2] (by rfl) rfl rfl (by (try simp only [List.map_toArray, List.map_cons, List.map_nil]); first | done | rfl | (simp only [List.length_drop, List.length_take]; rfl)) ?_
    with_reducible refine (w6list.calls _ _ l0_2 t207 _ ?side1 ?side2 A3.out).mono ?_
    (case side1 => repeat (first | exact (Kd.C_below HR0_2.out HB.out) | (with_reducible refine Kd.C_alloc ?_ _) | (with_reducible refine Kd.C_drewN ?_ _) | (with_reducible refine Kd.C_drew ?_)))
    (case side2 => exact HC0_2.out)
    rintro e w8 ⟨v208, rfl, ho0, hb⟩
    refine ⟨_, rfl, ?_⟩
    have n0_ := Am (Kd.R_below (by (with_reducible repeat (first | apply Kd.R_alloc | apply Kd.R_drewN | apply Kd.R_drew)); exact HO206.out) hb)
    have n1_ := Am (Kd.R_lower ho0 (pZ_ (by repeat (first | (with_reducible first | exact HB.out | apply pA_ | apply pN_ | apply pD_ | refine pS_ ?_ GE202.out | refine pS_ ?_ GE203.out) | exact HB.out))))
    have n2_ := Am (blk_below (g := gb202) (o := .cells #[.slice A0_0 l0_0.length c0_0, .int .i64 a0_1, .slice A0_2 l0_2.length c0_2, .slice A0_3 l0_3.length c0_3, .slice A0_4 l0_4.length c0_4] 29 (0, 0)) (by (with_reducible repeat (first | refine bN_ ?_ _ | refine bD_ ?_ | refine bA_ ?_ _)); exact BK202.out) hb)
    have n3_ := Am (blk_below (g := gb203) (o := .cells #[.slice none 0 0, .int .i64 0, .slice none 0 0, .slice none 0 0, .slice none 0 0] 38 (0, 0)) (by (with_reducible repeat (first | refine bN_ ?_ _ | refine bD_ ?_ | refine bA_ ?_ _)); exact BK203.out) hb)
    have n4_ := Am (pT_ (by repeat (first | (with_reducible first | exact HB.out | apply pA_ | apply pN_ | apply pD_ | refine pS_ ?_ GE202.out | refine pS_ ?_ GE203.out) | exact HB.out)) hb)
    clear HO206
    clear BK202
    clear BK203
    clear HB
    have HO206 := n0_
    have HO209 := n1_
    have BK202 := n2_
    have BK203 := n3_
    have HB := n4_
    clear n0_ n1_ n2_ n3_ n4_
    (try clear hb)
    (try clear hb2)
    (try clear hk)
    (try clear hi)
    (try clear ho0)
    obtain ⟨Ao9, co9, eo9⟩ := Kd.R_slice HO209.out
    (first | subst eo9 | (injection eo9 with f1_ f2_ f3_; have f4_ := f1_.symm; have f5_ := f3_.symm; clear f1_ f2_ f3_; subst f4_; subst f5_))
    obtain ⟨Ao10, co10, eo10⟩ := Kd.R_slice HO206.out
    (first | subst eo10 | (injection eo10 with f1_ f2_ f3_; have f4_ := f1_.symm; have f5_ := f3_.symm; clear f1_ f2_ f3_; subst f4_; subst f5_))
    refine hK.out _ _ ⟨(bC_ BK202.out 0).trans rfl, (bC_ BK202.out 1).trans rfl, (bC_ BK202.out 2).trans rfl, (bC_ BK202.out 3).trans rfl, (bC_ BK202.out 4).trans rfl⟩ (fun hHeld => ?_)
    clear hK K
    refine norm_ (a' := ?_) ?_ ?_
    rotate_left
    ·show Act.put _ (some 15) _ = _
     simp only [Act.put, List.setIfInBounds_toArray, List.set_cons_zero, List.set_cons_succ, i64_w, i32_w]
     rfl
    refine pure_ (i := 8) (N := some 16) (v := ?_) (a' := ?_) #[true, true, true, true, true, true, true, true, true, false, false] rfl rfl (any_of HT_.out (by kernel_rfl)) (fun _ _ _ h => h) (Or.inl ⟨by rfl, ?_⟩) ?_ ?_
    rotate_left
    ·intro w'
     go_simp
     with_reducible rfl
    rotate_left
    ·simp only [Act.put, List.setIfInBounds_toArray, List.set_cons_zero, List.set_cons_succ, i64_w, i32_w]
     rfl
    refine one_ (i := 9) (N := some 3) #[true, true, true, true, true, true, true, true, true, true, false] rfl rfl (one_of HT_.out (by kernel_rfl)) (by decide) (fun K hK => ?_)
    refine box_step ?hg (N := 3) ?hd (cs := #[.slice none 0 0, .int .i64 0, .slice none 0 0, .slice none 0 0, .slice none 0 0]) (t := 38) ?hr ?_; (case hd => rfl); (case hg => rfl); (case hr => first | (go_simp; done) | (go_simp; rfl))
    intro gb210 hg w11 hbox hb
    have n0_ := Am (Kd.R_below (by (with_reducible repeat (first | apply Kd.R_alloc | apply Kd.R_drewN | apply Kd.R_drew)); exact HO206.out) hb)
    have n1_ := Am (Kd.R_below (by (with_reducible repeat (first | apply Kd.R_alloc | apply Kd.R_drewN | apply Kd.R_drew)); exact HO209.out) hb)
    have n2_ := Am (blk_below (g := gb202) (o := .cells #[.slice A0_0 l0_0.length c0_0, .int .i64 a0_1, .slice A0_2 l0_2.length c0_2, .slice A0_3 l0_3.length c0_3, .slice A0_4 l0_4.length c0_4] 29 (0, 0)) (by (with_reducible repeat (first | refine bN_ ?_ _ | refine bD_ ?_ | refine bA_ ?_ _)); exact BK202.out) hb)
    have n3_ := Am (blk_below (g := gb203) (o := .cells #[.slice none 0 0, .int .i64 0, .slice none 0 0, .slice none 0 0, .slice none 0 0] 38 (0, 0)) (by (with_reducible repeat (first | refine bN_ ?_ _ | refine bD_ ?_ | refine bA_ ?_ _)); exact BK203.out) hb)
    have n4_ := Am (pT_ (by repeat (first | (with_reducible first | exact HB.out | apply pA_ | apply pN_ | apply pD_ | refine pS_ ?_ GE202.out | refine pS_ ?_ GE203.out) | exact HB.out)) hb)
    have n5_ := Am (hbox)
    have n6_ := Am ((by rw [hg]; exact (pZ_ (by repeat (first | (with_reducible first | exact HB.out | apply pA_ | apply pN_ | apply pD_ | refine pS_ ?_ GE202.out | refine pS_ ?_ GE203.out) | exact HB.out))) : w.heap.size ≤ gb210))
    have n7_ := Am ((by rw [hg]; exact (pZ_ (by repeat (first | (with_reducible first | exact HB.out | apply pA_ | apply pN_ | apply pD_ | refine pS_ ?_ GE202.out | refine pS_ ?_ GE203.out) | exact HB.out))) : w.heap.size ≤ gb210))
    have n8_ := Am ((by rw [hg]; exact Nat.ne_of_lt (blk_lt (g := gb202) (o := .cells #[.slice A0_0 l0_0.length c0_0, .int .i64 a0_1, .slice A0_2 l0_2.length c0_2, .slice A0_3 l0_3.length c0_3, .slice A0_4 l0_4.length c0_4] 29 (0, 0)) (by (with_reducible repeat (first | refine bN_ ?_ _ | refine bD_ ?_ | refine bA_ ?_ _)); exact BK202.out)) : gb202 ≠ gb210))
    have n9_ := Am ((by rw [hg]; exact Nat.ne_of_gt (blk_lt (g := gb202) (o := .cells #[.slice A0_0 l0_0.length c0_0, .int .i64 a0_1, .slice A0_2 l0_2.length c0_2, .slice A0_3 l0_3.length c0_3, .slice A0_4 l0_4.length c0_4] 29 (0, 0)) (by (with_reducible repeat (first | refine bN_ ?_ _ | refine bD_ ?_ | refine bA_ ?_ _)); exact BK202.out)) : gb210 ≠ gb202))
    have n10_ := Am ((by rw [hg]; exact Nat.ne_of_lt (blk_lt (g := gb203) (o := .cells #[.slice none 0 0, .int .i64 0, .slice none 0 0, .slice none 0 0, .slice none 0 0] 38 (0, 0)) (by (with_reducible repeat (first | refine bN_ ?_ _ | refine bD_ ?_ | refine bA_ ?_ _)); exact BK203.out)) : gb203 ≠ gb210))
    have n11_ := Am ((by rw [hg]; exact Nat.ne_of_gt (blk_lt (g := gb203) (o := .cells #[.slice none 0 0, .int .i64 0, .slice none 0 0, .slice none 0 0, .slice none 0 0] 38 (0, 0)) (by (with_reducible repeat (first | refine bN_ ?_ _ | refine bD_ ?_ | refine bA_ ?_ _)); exact BK203.out)) : gb210 ≠ gb203))
    clear HO206
    clear HO209
    clear BK202
    clear BK203
    clear HB
    have HO206 := n0_
    have HO209 := n1_
    have BK202 := n2_
    have BK203 := n3_
    have HB := n4_
    have BK210 := n5_
    have GW210 := n6_
    have GE210 := n7_
    have NB202_210 := n8_
    have NB210_202 := n9_
    have NB203_210 := n10_
    have NB210_203 := n11_
    clear n0_ n1_ n2_ n3_ n4_ n5_ n6_ n7_ n8_ n9_ n10_ n11_
    clear hb hbox hg
    refine hK.out _ _ ⟨(bC_ BK202.out 0).trans rfl, (bC_ BK202.out 1).trans rfl, (bC_ BK202.out 2).trans rfl, (bC_ BK202.out 3).trans rfl, (bC_ BK202.out 4).trans rfl⟩ (fun hHeld => ?_)
    clear hK K
    refine norm_ (a' := ?_) ?_ ?_
    rotate_left
    ·show Act.put _ (some 3) _ = _
     simp only [Act.put, List.setIfInBounds_toArray, List.set_cons_zero, List.set_cons_succ, i64_w, i32_w]
     rfl
    exact norm_ (by simp only [putAll, Act.put, List.setIfInBounds_toArray, List.set_cons_zero, List.set_cons_succ]) (hCont (.slice Ao10 t204.length co10, .slice Ao9 t207.length co9, gb210) _ ⟨hHeld, (by (with_reducible repeat (first | apply Kd.R_alloc | apply Kd.R_drewN | apply Kd.R_drew)); exact HO206.out), (by (with_reducible repeat (first | apply Kd.R_alloc | apply Kd.R_drewN | apply Kd.R_drew)); exact HO209.out), (by (with_reducible repeat (first | refine bN_ ?_ _ | refine bD_ ?_ | refine bA_ ?_ _)); exact BK202.out), (by (with_reducible repeat (first | refine bN_ ?_ _ | refine bD_ ?_ | refine bA_ ?_ _)); exact BK203.out), (by (with_reducible repeat (first | refine bN_ ?_ _ | refine bD_ ?_ | refine bA_ ?_ _)); exact BK210.out), GW210.out, GE210.out, NB202_210.out, NB210_202.out, NB203_210.out, NB210_203.out, (by repeat (first | (with_reducible first | exact HB.out | apply pA_ | apply pN_ | apply pD_ | refine pS_ ?_ GE202.out | refine pS_ ?_ GE203.out | refine pS_ ?_ GE210.out) | exact HB.out))⟩)
   ·skip
    refine box_step ?hg (N := 3) ?hd (cs := #[.slice none 0 0, .int .i64 0, .slice none 0 0, .slice none 0 0, .slice none 0 0]) (t := 38) ?hr ?_; (case hd => rfl); (case hg => rfl); (case hr => first | (go_simp; done) | (go_simp; rfl))
    intro gb210 hg w8 hbox hb
    have n0_ := Am (Kd.R_below (by (with_reducible repeat (first | apply Kd.R_alloc | apply Kd.R_drewN | apply Kd.R_drew)); exact HO206.out) hb)
    have n1_ := Am (blk_below (g := gb202) (o := .cells #[.slice A0_0 l0_0.length c0_0, .int .i64 a0_1, .slice A0_2 l0_2.length c0_2, .slice A0_3 l0_3.length c0_3, .slice A0_4 l0_4.length c0_4] 29 (0, 0)) (by (with_reducible repeat (first | refine bN_ ?_ _ | refine bD_ ?_ | refine bA_ ?_ _)); exact BK202.out) hb)
    have n2_ := Am (blk_below (g := gb203) (o := .cells #[.slice none 0 0, .int .i64 0, .slice none 0 0, .slice none 0 0, .slice none 0 0] 38 (0, 0)) (by (with_reducible repeat (first | refine bN_ ?_ _ | refine bD_ ?_ | refine bA_ ?_ _)); exact BK203.out) hb)
    have n3_ := Am (pT_ (by repeat (first | (with_reducible first | exact HB.out | apply pA_ | apply pN_ | apply pD_ | refine pS_ ?_ GE202.out | refine pS_ ?_ GE203.out) | exact HB.out)) hb)
    have n4_ := Am (hbox)
    have n5_ := Am ((by rw [hg]; exact (pZ_ (by repeat (first | (with_reducible first | exact HB.out | apply pA_ | apply pN_ | apply pD_ | refine pS_ ?_ GE202.out | refine pS_ ?_ GE203.out) | exact HB.out))) : w.heap.size ≤ gb210))
    have n6_ := Am ((by rw [hg]; exact (pZ_ (by repeat (first | (with_reducible first | exact HB.out | apply pA_ | apply pN_ | apply pD_ | refine pS_ ?_ GE202.out | refine pS_ ?_ GE203.out) | exact HB.out))) : w.heap.size ≤ gb210))
    have n7_ := Am ((by rw [hg]; exact Nat.ne_of_lt (blk_lt (g := gb202) (o := .cells #[.slice A0_0 l0_0.length c0_0, .int .i64 a0_1, .slice A0_2 l0_2.length c0_2, .slice A0_3 l0_3.length c0_3, .slice A0_4 l0_4.length c0_4] 29 (0, 0)) (by (with_reducible repeat (first | refine bN_ ?_ _ | refine bD_ ?_ | refine bA_ ?_ _)); exact BK202.out)) : gb202 ≠ gb210))
    have n8_ := Am ((by rw [hg]; exact Nat.ne_of_gt (blk_lt (g := gb202) (o := .cells #[.slice A0_0 l0_0.length c0_0, .int .i64 a0_1, .slice A0_2 l0_2.length c0_2, .slice A0_3 l0_3.length c0_3, .slice A0_4 l0_4.length c0_4] 29 (0, 0)) (by (with_reducible repeat (first | refine bN_ ?_ _ | refine bD_ ?_ | refine bA_ ?_ _)); exact BK202.out)) : gb210 ≠ gb202))
    have n9_ := Am ((by rw [hg]; exact Nat.ne_of_lt (blk_lt (g := gb203) (o := .cells #[.slice none 0 0, .int .i64 0, .slice none 0 0, .slice none 0 0, .slice none 0 0] 38 (0, 0)) (by (with_reducible repeat (first | refine bN_ ?_ _ | refine bD_ ?_ | refine bA_ ?_ _)); exact BK203.out)) : gb203 ≠ gb210))
    have n10_ := Am ((by rw [hg]; exact Nat.ne_of_gt (blk_lt (g := gb203) (o := .cells #[.slice none 0 0, .int .i64 0, .slice none 0 0, .slice none 0 0, .slice none 0 0] 38 (0, 0)) (by (with_reducible repeat (first | refine bN_ ?_ _ | refine bD_ ?_ | refine bA_ ?_ _)); exact BK203.out)) : gb210 ≠ gb203))
    clear HO206
    clear BK202
    clear BK203
    clear HB
    have HO206 := n0_
    have BK202 := n1_
    have BK203 := n2_
    have HB := n3_
    have BK210 := n4_
    have GW210 := n5_
    have GE210 := n6_
    have NB202_210 := n7_
    have NB210_202 := n8_
    have NB203_210 := n9_
    have NB210_203 := n10_
    clear n0_ n1_ n2_ n3_ n4_ n5_ n6_ n7_ n8_ n9_ n10_
    clear hb hbox hg
    refine hK.out _ _ ⟨(bC_ BK202.out 0).trans rfl, (bC_ BK202.out 1).trans rfl, (bC_ BK202.out 2).trans rfl, (bC_ BK202.out 3).trans rfl, (bC_ BK202.out 4).trans rfl⟩ (fun hHeld => ?_)
    clear hK K
    refine norm_ (a' := ?_) ?_ ?_
    rotate_left
    ·show Act.put _ (some 3) _ = _
     simp only [Act.put, List.setIfInBounds_toArray, List.set_cons_zero, List.set_cons_succ, i64_w, i32_w]
     rfl
    refine one_ (i := 7) (N := some 15) #[true, true, true, true, true, true, true, true, false, true, false] rfl rfl (one_of HT_.out (by kernel_rfl)) (by decide) (fun K hK => ?_)
    refine goes_ Tryz.func39 (by kernel_rfl) rfl #[.slice A0_2 l0_2.length c0_2] (by rfl) rfl rfl (by (try simp only [List.map_toArray, List.map_cons, List.map_nil]); first | done | rfl | (simp only [List.length_drop, List.length_take]; rfl)) ?_
    with_reducible refine (w6list.calls _ _ l0_2 t207 _ ?side1 ?side2 A3.out).mono ?_
    (case side1 => repeat (first | exact (Kd.C_below HR0_2.out HB.out) | (with_reducible refine Kd.C_alloc ?_ _) | (with_reducible refine Kd.C_drewN ?_ _) | (with_reducible refine Kd.C_drew ?_)))
    (case side2 => exact HC0_2.out)
    rintro e w9 ⟨v208, rfl, ho0, hb⟩
    refine ⟨_, rfl, ?_⟩
    have n0_ := Am (Kd.R_below (by (with_reducible repeat (first | apply Kd.R_alloc | apply Kd.R_drewN | apply Kd.R_drew)); exact HO206.out) hb)
    have n1_ := Am (Kd.R_lower ho0 (pZ_ (by repeat (first | (with_reducible first | exact HB.out | apply pA_ | apply pN_ | apply pD_ | refine pS_ ?_ GE202.out | refine pS_ ?_ GE203.out | refine pS_ ?_ GE210.out) | exact HB.out))))
    have n2_ := Am (blk_below (g := gb202) (o := .cells #[.slice A0_0 l0_0.length c0_0, .int .i64 a0_1, .slice A0_2 l0_2.length c0_2, .slice A0_3 l0_3.length c0_3, .slice A0_4 l0_4.length c0_4] 29 (0, 0)) (by (with_reducible repeat (first | refine bN_ ?_ _ | refine bD_ ?_ | refine bA_ ?_ _)); exact BK202.out) hb)
    have n3_ := Am (blk_below (g := gb203) (o := .cells #[.slice none 0 0, .int .i64 0, .slice none 0 0, .slice none 0 0, .slice none 0 0] 38 (0, 0)) (by (with_reducible repeat (first | refine bN_ ?_ _ | refine bD_ ?_ | refine bA_ ?_ _)); exact BK203.out) hb)
    have n4_ := Am (blk_below (g := gb210) (o := .cells #[.slice none 0 0, .int .i64 0, .slice none 0 0, .slice none 0 0, .slice none 0 0] 38 (0, 0)) (by (with_reducible repeat (first | refine bN_ ?_ _ | refine bD_ ?_ | refine bA_ ?_ _)); exact BK210.out) hb)
    have n5_ := Am (pT_ (by repeat (first | (with_reducible first | exact HB.out | apply pA_ | apply pN_ | apply pD_ | refine pS_ ?_ GE202.out | refine pS_ ?_ GE203.out | refine pS_ ?_ GE210.out) | exact HB.out)) hb)
    clear HO206
    clear BK202
    clear BK203
    clear BK210
    clear HB
    have HO206 := n0_
    have HO209 := n1_
    have BK202 := n2_
    have BK203 := n3_
    have BK210 := n4_
    have HB := n5_
    clear n0_ n1_ n2_ n3_ n4_ n5_
    (try clear hb)
    (try clear hb2)
    (try clear hk)
    (try clear hi)
    (try clear ho0)
    obtain ⟨Ao10, co10, eo10⟩ := Kd.R_slice HO209.out
    (first | subst eo10 | (injection eo10 with f1_ f2_ f3_; have f4_ := f1_.symm; have f5_ := f3_.symm; clear f1_ f2_ f3_; subst f4_; subst f5_))
    obtain ⟨Ao11, co11, eo11⟩ := Kd.R_slice HO206.out
    (first | subst eo11 | (injection eo11 with f1_ f2_ f3_; have f4_ := f1_.symm; have f5_ := f3_.symm; clear f1_ f2_ f3_; subst f4_; subst f5_))
    refine hK.out _ _ ⟨(bC_ BK202.out 0).trans rfl, (bC_ BK202.out 1).trans rfl, (bC_ BK202.out 2).trans rfl, (bC_ BK202.out 3).trans rfl, (bC_ BK202.out 4).trans rfl⟩ (fun hHeld => ?_)
    clear hK K
    refine norm_ (a' := ?_) ?_ ?_
    rotate_left
    ·show Act.put _ (some 15) _ = _
     simp only [Act.put, List.setIfInBounds_toArray, List.set_cons_zero, List.set_cons_succ, i64_w, i32_w]
     rfl
    refine pure_ (i := 8) (N := some 16) (v := ?_) (a' := ?_) #[true, true, true, true, true, true, true, true, true, true, false] rfl rfl (any_of HT_.out (by kernel_rfl)) (fun _ _ _ h => h) (Or.inl ⟨by rfl, ?_⟩) ?_ ?_
    rotate_left
    ·intro w'
     go_simp
     with_reducible rfl
    rotate_left
    ·simp only [Act.put, List.setIfInBounds_toArray, List.set_cons_zero, List.set_cons_succ, i64_w, i32_w]
     rfl
    exact norm_ (by simp only [putAll, Act.put, List.setIfInBounds_toArray, List.set_cons_zero, List.set_cons_succ]) (hCont (.slice Ao11 t204.length co11, .slice Ao10 t207.length co10, gb210) _ ⟨hHeld, (by (with_reducible repeat (first | apply Kd.R_alloc | apply Kd.R_drewN | apply Kd.R_drew)); exact HO206.out), (by (with_reducible repeat (first | apply Kd.R_alloc | apply Kd.R_drewN | apply Kd.R_drew)); exact HO209.out), (by (with_reducible repeat (first | refine bN_ ?_ _ | refine bD_ ?_ | refine bA_ ?_ _)); exact BK202.out), (by (with_reducible repeat (first | refine bN_ ?_ _ | refine bD_ ?_ | refine bA_ ?_ _)); exact BK203.out), (by (with_reducible repeat (first | refine bN_ ?_ _ | refine bD_ ?_ | refine bA_ ?_ _)); exact BK210.out), GW210.out, GE210.out, NB202_210.out, NB210_202.out, NB203_210.out, NB210_203.out, (by repeat (first | (with_reducible first | exact HB.out | apply pA_ | apply pN_ | apply pD_ | refine pS_ ?_ GE202.out | refine pS_ ?_ GE203.out | refine pS_ ?_ GE210.out) | exact HB.out))⟩)
  ·skip
   refine box_step ?hg (N := 3) ?hd (cs := #[.slice none 0 0, .int .i64 0, .slice none 0 0, .slice none 0 0, .slice none 0 0]) (t := 38) ?hr ?_; (case hd => rfl); (case hg => rfl); (case hr => first | (go_simp; done) | (go_simp; rfl))
   intro gb210 hg w7 hbox hb
   have n0_ := Am (blk_below (g := gb202) (o := .cells #[.slice A0_0 l0_0.length c0_0, .int .i64 a0_1, .slice A0_2 l0_2.length c0_2, .slice A0_3 l0_3.length c0_3, .slice A0_4 l0_4.length c0_4] 29 (0, 0)) (by (with_reducible repeat (first | refine bN_ ?_ _ | refine bD_ ?_ | refine bA_ ?_ _)); exact BK202.out) hb)
   have n1_ := Am (blk_below (g := gb203) (o := .cells #[.slice none 0 0, .int .i64 0, .slice none 0 0, .slice none 0 0, .slice none 0 0] 38 (0, 0)) (by (with_reducible repeat (first | refine bN_ ?_ _ | refine bD_ ?_ | refine bA_ ?_ _)); exact BK203.out) hb)
   have n2_ := Am (pT_ (by repeat (first | (with_reducible first | exact HB.out | apply pA_ | apply pN_ | apply pD_ | refine pS_ ?_ GE202.out | refine pS_ ?_ GE203.out) | exact HB.out)) hb)
   have n3_ := Am (hbox)
   have n4_ := Am ((by rw [hg]; exact (pZ_ (by repeat (first | (with_reducible first | exact HB.out | apply pA_ | apply pN_ | apply pD_ | refine pS_ ?_ GE202.out | refine pS_ ?_ GE203.out) | exact HB.out))) : w.heap.size ≤ gb210))
   have n5_ := Am ((by rw [hg]; exact (pZ_ (by repeat (first | (with_reducible first | exact HB.out | apply pA_ | apply pN_ | apply pD_ | refine pS_ ?_ GE202.out | refine pS_ ?_ GE203.out) | exact HB.out))) : w.heap.size ≤ gb210))
   have n6_ := Am ((by rw [hg]; exact Nat.ne_of_lt (blk_lt (g := gb202) (o := .cells #[.slice A0_0 l0_0.length c0_0, .int .i64 a0_1, .slice A0_2 l0_2.length c0_2, .slice A0_3 l0_3.length c0_3, .slice A0_4 l0_4.length c0_4] 29 (0, 0)) (by (with_reducible repeat (first | refine bN_ ?_ _ | refine bD_ ?_ | refine bA_ ?_ _)); exact BK202.out)) : gb202 ≠ gb210))
   have n7_ := Am ((by rw [hg]; exact Nat.ne_of_gt (blk_lt (g := gb202) (o := .cells #[.slice A0_0 l0_0.length c0_0, .int .i64 a0_1, .slice A0_2 l0_2.length c0_2, .slice A0_3 l0_3.length c0_3, .slice A0_4 l0_4.length c0_4] 29 (0, 0)) (by (with_reducible repeat (first | refine bN_ ?_ _ | refine bD_ ?_ | refine bA_ ?_ _)); exact BK202.out)) : gb210 ≠ gb202))
   have n8_ := Am ((by rw [hg]; exact Nat.ne_of_lt (blk_lt (g := gb203) (o := .cells #[.slice none 0 0, .int .i64 0, .slice none 0 0, .slice none 0 0, .slice none 0 0] 38 (0, 0)) (by (with_reducible repeat (first | refine bN_ ?_ _ | refine bD_ ?_ | refine bA_ ?_ _)); exact BK203.out)) : gb203 ≠ gb210))
   have n9_ := Am ((by rw [hg]; exact Nat.ne_of_gt (blk_lt (g := gb203) (o := .cells #[.slice none 0 0, .int .i64 0, .slice none 0 0, .slice none 0 0, .slice none 0 0] 38 (0, 0)) (by (with_reducible repeat (first | refine bN_ ?_ _ | refine bD_ ?_ | refine bA_ ?_ _)); exact BK203.out)) : gb210 ≠ gb203))
   clear BK202
   clear BK203
   clear HB
   have BK202 := n0_
   have BK203 := n1_
   have HB := n2_
   have BK210 := n3_
   have GW210 := n4_
   have GE210 := n5_
   have NB202_210 := n6_
   have NB210_202 := n7_
   have NB203_210 := n8_
   have NB210_203 := n9_
   clear n0_ n1_ n2_ n3_ n4_ n5_ n6_ n7_ n8_ n9_
   clear hb hbox hg
   refine hK.out _ _ ⟨(bC_ BK202.out 0).trans rfl, (bC_ BK202.out 1).trans rfl, (bC_ BK202.out 2).trans rfl, (bC_ BK202.out 3).trans rfl, (bC_ BK202.out 4).trans rfl⟩ (fun hHeld => ?_)
   clear hK K
   refine norm_ (a' := ?_) ?_ ?_
   rotate_left
   ·show Act.put _ (some 3) _ = _
    simp only [Act.put, List.setIfInBounds_toArray, List.set_cons_zero, List.set_cons_succ, i64_w, i32_w]
    rfl
   refine one_ (i := 2) (N := some 10) #[true, true, true, true, true, true, true, false, false, true, false] rfl rfl (one_of HT_.out (by kernel_rfl)) (by decide) (fun K hK => ?_)
   refine goes_ Tryz.func63 (by kernel_rfl) rfl #[.agg #[.slice A0_0 l0_0.length c0_0]] (by rfl) rfl rfl (by (try simp only [List.map_toArray, List.map_cons, List.map_nil]); first | done | rfl | (simp only [List.length_drop, List.length_take]; rfl)) ?_
   with_reducible refine (w2Code.calls _ _ l0_0 t204 _ ?side1 ?side2 A2.out).mono ?_
   (case side1 => repeat (first | exact (Kd.C_below HR0_0.out HB.out) | (with_reducible refine Kd.C_alloc ?_ _) | (with_reducible refine Kd.C_drewN ?_ _) | (with_reducible refine Kd.C_drew ?_)))
   (case side2 => exact HC0_0.out)
   rintro e w8 ⟨v205, rfl, ho0, hb⟩
   refine ⟨_, rfl, ?_⟩
   have n0_ := Am (Kd.R_lower ho0 (pZ_ (by repeat (first | (with_reducible first | exact HB.out | apply pA_ | apply pN_ | apply pD_ | refine pS_ ?_ GE202.out | refine pS_ ?_ GE203.out | refine pS_ ?_ GE210.out) | exact HB.out))))
   have n1_ := Am (blk_below (g := gb202) (o := .cells #[.slice A0_0 l0_0.length c0_0, .int .i64 a0_1, .slice A0_2 l0_2.length c0_2, .slice A0_3 l0_3.length c0_3, .slice A0_4 l0_4.length c0_4] 29 (0, 0)) (by (with_reducible repeat (first | refine bN_ ?_ _ | refine bD_ ?_ | refine bA_ ?_ _)); exact BK202.out) hb)
   have n2_ := Am (blk_below (g := gb203) (o := .cells #[.slice none 0 0, .int .i64 0, .slice none 0 0, .slice none 0 0, .slice none 0 0] 38 (0, 0)) (by (with_reducible repeat (first | refine bN_ ?_ _ | refine bD_ ?_ | refine bA_ ?_ _)); exact BK203.out) hb)
   have n3_ := Am (blk_below (g := gb210) (o := .cells #[.slice none 0 0, .int .i64 0, .slice none 0 0, .slice none 0 0, .slice none 0 0] 38 (0, 0)) (by (with_reducible repeat (first | refine bN_ ?_ _ | refine bD_ ?_ | refine bA_ ?_ _)); exact BK210.out) hb)
   have n4_ := Am (pT_ (by repeat (first | (with_reducible first | exact HB.out | apply pA_ | apply pN_ | apply pD_ | refine pS_ ?_ GE202.out | refine pS_ ?_ GE203.out | refine pS_ ?_ GE210.out) | exact HB.out)) hb)
   clear BK202
   clear BK203
   clear BK210
   clear HB
   have HO206 := n0_
   have BK202 := n1_
   have BK203 := n2_
   have BK210 := n3_
   have HB := n4_
   clear n0_ n1_ n2_ n3_ n4_
   (try clear hb)
   (try clear hb2)
   (try clear hk)
   (try clear hi)
   (try clear ho0)
   refine hK.out _ _ ⟨(bC_ BK202.out 0).trans rfl, (bC_ BK202.out 1).trans rfl, (bC_ BK202.out 2).trans rfl, (bC_ BK202.out 3).trans rfl, (bC_ BK202.out 4).trans rfl⟩ (fun hHeld => ?_)
   clear hK K
   refine norm_ (a' := ?_) ?_ ?_
   rotate_left
   ·show Act.put _ (some 10) _ = _
    simp only [Act.put, List.setIfInBounds_toArray, List.set_cons_zero, List.set_cons_succ, i64_w, i32_w]
    rfl
   refine one_ (i := 7) (N := some 15) #[true, true, true, true, true, true, true, true, false, true, false] rfl rfl (one_of HT_.out (by kernel_rfl)) (by decide) (fun K hK => ?_)
   refine goes_ Tryz.func39 (by kernel_rfl) rfl #[.slice A0_2 l0_2.length c0_2] (by rfl) rfl rfl (by (try simp only [List.map_toArray, List.map_cons, List.map_nil]); first | done | rfl | (simp only [List.length_drop, List.length_take]; rfl)) ?_
   with_reducible refine (w6list.calls _ _ l0_2 t207 _ ?side1 ?side2 A3.out).mono ?_
   (case side1 => repeat (first | exact (Kd.C_below HR0_2.out HB.out) | (with_reducible refine Kd.C_alloc ?_ _) | (with_reducible refine Kd.C_drewN ?_ _) | (with_reducible refine Kd.C_drew ?_)))
   (case side2 => exact HC0_2.out)
   rintro e w9 ⟨v208, rfl, ho0, hb⟩
   refine ⟨_, rfl, ?_⟩
   have n0_ := Am (Kd.R_below (by (with_reducible repeat (first | apply Kd.R_alloc | apply Kd.R_drewN | apply Kd.R_drew)); exact HO206.out) hb)
   have n1_ := Am (Kd.R_lower ho0 (pZ_ (by repeat (first | (with_reducible first | exact HB.out | apply pA_ | apply pN_ | apply pD_ | refine pS_ ?_ GE202.out | refine pS_ ?_ GE203.out | refine pS_ ?_ GE210.out) | exact HB.out))))
   have n2_ := Am (blk_below (g := gb202) (o := .cells #[.slice A0_0 l0_0.length c0_0, .int .i64 a0_1, .slice A0_2 l0_2.length c0_2, .slice A0_3 l0_3.length c0_3, .slice A0_4 l0_4.length c0_4] 29 (0, 0)) (by (with_reducible repeat (first | refine bN_ ?_ _ | refine bD_ ?_ | refine bA_ ?_ _)); exact BK202.out) hb)
   have n3_ := Am (blk_below (g := gb203) (o := .cells #[.slice none 0 0, .int .i64 0, .slice none 0 0, .slice none 0 0, .slice none 0 0] 38 (0, 0)) (by (with_reducible repeat (first | refine bN_ ?_ _ | refine bD_ ?_ | refine bA_ ?_ _)); exact BK203.out) hb)
   have n4_ := Am (blk_below (g := gb210) (o := .cells #[.slice none 0 0, .int .i64 0, .slice none 0 0, .slice none 0 0, .slice none 0 0] 38 (0, 0)) (by (with_reducible repeat (first | refine bN_ ?_ _ | refine bD_ ?_ | refine bA_ ?_ _)); exact BK210.out) hb)
   have n5_ := Am (pT_ (by repeat (first | (with_reducible first | exact HB.out | apply pA_ | apply pN_ | apply pD_ | refine pS_ ?_ GE202.out | refine pS_ ?_ GE203.out | refine pS_ ?_ GE210.out) | exact HB.out)) hb)
   clear HO206
   clear BK202
   clear BK203
   clear BK210
   clear HB
   have HO206 := n0_
   have HO209 := n1_
   have BK202 := n2_
   have BK203 := n3_
   have BK210 := n4_
   have HB := n5_
   clear n0_ n1_ n2_ n3_ n4_ n5_
   (try clear hb)
   (try clear hb2)
   (try clear hk)
   (try clear hi)
   (try clear ho0)
   obtain ⟨Ao10, co10, eo10⟩ := Kd.R_slice HO209.out
   (first | subst eo10 | (injection eo10 with f1_ f2_ f3_; have f4_ := f1_.symm; have f5_ := f3_.symm; clear f1_ f2_ f3_; subst f4_; subst f5_))
   obtain ⟨Ao11, co11, eo11⟩ := Kd.R_slice HO206.out
   (first | subst eo11 | (injection eo11 with f1_ f2_ f3_; have f4_ := f1_.symm; have f5_ := f3_.symm; clear f1_ f2_ f3_; subst f4_; subst f5_))
   refine hK.out _ _ ⟨(bC_ BK202.out 0).trans rfl, (bC_ BK202.out 1).trans rfl, (bC_ BK202.out 2).trans rfl, (bC_ BK202.out 3).trans rfl, (bC_ BK202.out 4).trans rfl⟩ (fun hHeld => ?_)
   clear hK K
   refine norm_ (a' := ?_) ?_ ?_
   rotate_left
   ·show Act.put _ (some 15) _ = _
    simp only [Act.put, List.setIfInBounds_toArray, List.set_cons_zero, List.set_cons_succ, i64_w, i32_w]
    rfl
   refine pure_ (i := 8) (N := some 16) (v := ?_) (a' := ?_) #[true, true, true, true, true, true, true, true, true, true, false] rfl rfl (any_of HT_.out (by kernel_rfl)) (fun _ _ _ h => h) (Or.inl ⟨by rfl, ?_⟩) ?_ ?_
   rotate_left
   ·intro w'
    go_simp
    with_reducible rfl
   rotate_left
   ·simp only [Act.put, List.setIfInBounds_toArray, List.set_cons_zero, List.set_cons_succ, i64_w, i32_w]
    rfl
   exact norm_ (by simp only [putAll, Act.put, List.setIfInBounds_toArray, List.set_cons_zero, List.set_cons_succ]) (hCont (.slice Ao11 t204.length co11, .slice Ao10 t207.length co10, gb210) _ ⟨hHeld, (by (with_reducible repeat (first | apply Kd.R_alloc | apply Kd.R_drewN | apply Kd.R_drew)); exact HO206.out), (by (with_reducible repeat (first | apply Kd.R_alloc | apply Kd.R_drewN | apply Kd.R_drew)); exact HO209.out), (by (with_reducible repeat (first | refine bN_ ?_ _ | refine bD_ ?_ | refine bA_ ?_ _)); exact BK202.out), (by (with_reducible repeat (first | refine bN_ ?_ _ | refine bD_ ?_ | refine bA_ ?_ _)); exact BK203.out), (by (with_reducible repeat (first | refine bN_ ?_ _ | refine bD_ ?_ | refine bA_ ?_ _)); exact BK210.out), GW210.out, GE210.out, NB202_210.out, NB210_202.out, NB203_210.out, NB210_203.out, (by repeat (first | (with_reducible first | exact HB.out | apply pA_ | apply pN_ | apply pD_ | refine pS_ ?_ GE202.out | refine pS_ ?_ GE203.out | refine pS_ ?_ GE210.out) | exact HB.out))⟩)
 rintro ⟨v205, v208, gb210⟩ w12 ⟨hS_, h0_, h1_, h2_, h3_, h4_, h5_, h6_, h7_, h8_, h9_, h10_, h11_⟩
 have n0_ : Aside0 (Kd.R Kd.string 9 w12 w.heap.size (fun _ => True) v205 t204) := ⟨h0_⟩
 have n1_ : Aside0 (Kd.R (Kd.int .i64) 3 w12 w.heap.size (fun _ => True) v208 t207) := ⟨h1_⟩
 have n2_ : Aside0 (w12.heap[gb202]? = some (.cells #[.slice A0_0 l0_0.length c0_0, .int .i64 a0_1, .slice A0_2 l0_2.length c0_2, .slice A0_3 l0_3.length c0_3, .slice A0_4 l0_4.length c0_4] 29 (0, 0))) := ⟨h2_⟩
 have n3_ : Aside0 (w12.heap[gb203]? = some (.cells #[.slice none 0 0, .int .i64 0, .slice none 0 0, .slice none 0 0, .slice none 0 0] 38 (0, 0))) := ⟨h3_⟩
 have n4_ : Aside0 (w12.heap[gb210]? = some (.cells #[.slice none 0 0, .int .i64 0, .slice none 0 0, .slice none 0 0, .slice none 0 0] 38 (0, 0))) := ⟨h4_⟩
 have n5_ : Aside0 (w.heap.size ≤ gb210) := ⟨h5_⟩
 have n6_ : Aside0 (w.heap.size ≤ gb210) := ⟨h6_⟩
 have n7_ : Aside0 (gb202 ≠ gb210) := ⟨h7_⟩
 have n8_ : Aside0 (gb210 ≠ gb202) := ⟨h8_⟩
 have n9_ : Aside0 (gb203 ≠ gb210) := ⟨h9_⟩
 have n10_ : Aside0 (gb210 ≠ gb203) := ⟨h10_⟩
 have n11_ : Aside0 (Below w.heap.size w w12) := ⟨h11_⟩
 clear BK202
 clear BK203
 clear HB
 clear h0_ h1_ h2_ h3_ h4_ h5_ h6_ h7_ h8_ h9_ h10_ h11_
 have HO206 := n0_
 have HO209 := n1_
 have BK202 := n2_
 have BK203 := n3_
 have BK210 := n4_
 have GW210 := n5_
 have GE210 := n6_
 have NB202_210 := n7_
 have NB210_202 := n8_
 have NB203_210 := n9_
 have NB210_203 := n10_
 have HB := n11_
 clear n0_ n1_ n2_ n3_ n4_ n5_ n6_ n7_ n8_ n9_ n10_ n11_
 have hHeld : w12.cell? ⟨gb202, 0, none⟩ = some (.slice A0_0 l0_0.length c0_0) ∧ w12.cell? ⟨gb202, 1, none⟩ = some (.int .i64 a0_1) ∧ w12.cell? ⟨gb202, 2, none⟩ = some (.slice A0_2 l0_2.length c0_2) ∧ w12.cell? ⟨gb202, 3, none⟩ = some (.slice A0_3 l0_3.length c0_3) ∧ w12.cell? ⟨gb202, 4, none⟩ = some (.slice A0_4 l0_4.length c0_4) := hS_
 obtain ⟨Ao13, co13, eo13⟩ := Kd.R_slice HO209.out
 (first | subst eo13 | (injection eo13 with f1_ f2_ f3_; have f4_ := f1_.symm; have f5_ := f3_.symm; clear f1_ f2_ f3_; subst f4_; subst f5_))
 obtain ⟨Ao14, co14, eo14⟩ := Kd.R_slice HO206.out
 (first | subst eo14 | (injection eo14 with f1_ f2_ f3_; have f4_ := f1_.symm; have f5_ := f3_.symm; clear f1_ f2_ f3_; subst f4_; subst f5_))
 refine norm_ (a' := ?_) ?_ ?_
 rotate_left
 ·simp only [putAll, Act.put, List.setIfInBounds_toArray, List.set_cons_zero, List.set_cons_succ]
  rfl
 refine one_ (i := 10) (N := none) #[true, true, true, true, true, true, true, true, true, true, true] rfl rfl (one_of HT_.out (by kernel_rfl)) (by decide) (fun K hK => ?_)
 have hs15 : w12.cell? ⟨gb210, 0, none⟩ = some (.slice none 0 0) := (bC_ BK210.out 0).trans rfl
 have hfs15 := bF_ BK210.out 0
 have hns15_0 := NB202_210.out
 have hns15_1 := NB203_210.out
 have hms15_0 := NB210_202.out
 have hms15_1 := NB210_203.out
 have hs16 : w12.cell? ⟨gb210, 1, none⟩ = some (.int .i64 0) := (bC_ BK210.out 1).trans rfl
 have hfs16 := bF_ BK210.out 1
 have hns16_0 := NB202_210.out
 have hns16_1 := NB203_210.out
 have hms16_0 := NB210_202.out
 have hms16_1 := NB210_203.out
 have hs17 : w12.cell? ⟨gb210, 2, none⟩ = some (.slice none 0 0) := (bC_ BK210.out 2).trans rfl
 have hfs17 := bF_ BK210.out 2
 have hns17_0 := NB202_210.out
 have hns17_1 := NB203_210.out
 have hms17_0 := NB210_202.out
 have hms17_1 := NB210_203.out
 have hs18 : w12.cell? ⟨gb210, 3, none⟩ = some (.slice none 0 0) := (bC_ BK210.out 3).trans rfl
 have hfs18 := bF_ BK210.out 3
 have hns18_0 := NB202_210.out
 have hns18_1 := NB203_210.out
 have hms18_0 := NB210_202.out
 have hms18_1 := NB210_203.out
 have hs19 : w12.cell? ⟨gb210, 4, none⟩ = some (.slice none 0 0) := (bC_ BK210.out 4).trans rfl
 have hfs19 := bF_ BK210.out 4
 have hns19_0 := NB202_210.out
 have hns19_1 := NB203_210.out
 have hms19_0 := NB210_202.out
 have hms19_1 := NB210_203.out
 refine skip_ (w1 := ?_) (by rfl) rfl ?_ ?_
 rotate_left
 ·go_simp
  rfl
 refine hK.out _ _ ⟨((cell_far (p := ⟨gb210, _, none⟩) NB202_210.out _).trans (((cell_far (p := ⟨gb210, _, none⟩) NB202_210.out _).trans (((cell_far (p := ⟨gb210, _, none⟩) NB202_210.out _).trans (((cell_far (p := ⟨gb210, _, none⟩) NB202_210.out _).trans (((cell_far (p := ⟨gb210, _, none⟩) NB202_210.out _).trans (hHeld.1)))))))))), ((cell_far (p := ⟨gb210, _, none⟩) NB202_210.out _).trans (((cell_far (p := ⟨gb210, _, none⟩) NB202_210.out _).trans (((cell_far (p := ⟨gb210, _, none⟩) NB202_210.out _).trans (((cell_far (p := ⟨gb210, _, none⟩) NB202_210.out _).trans (((cell_far (p := ⟨gb210, _, none⟩) NB202_210.out _).trans (hHeld.2.1)))))))))), ((cell_far (p := ⟨gb210, _, none⟩) NB202_210.out _).trans (((cell_far (p := ⟨gb210, _, none⟩) NB202_210.out _).trans (((cell_far (p := ⟨gb210, _, none⟩) NB202_210.out _).trans (((cell_far (p := ⟨gb210, _, none⟩) NB202_210.out _).trans (((cell_far (p := ⟨gb210, _, none⟩) NB202_210.out _).trans (hHeld.2.2.1)))))))))), ((cell_far (p := ⟨gb210, _, none⟩) NB202_210.out _).trans (((cell_far (p := ⟨gb210, _, none⟩) NB202_210.out _).trans (((cell_far (p := ⟨gb210, _, none⟩) NB202_210.out _).trans (((cell_far (p := ⟨gb210, _, none⟩) NB202_210.out _).trans (((cell_far (p := ⟨gb210, _, none⟩) NB202_210.out _).trans (hHeld.2.2.2.1)))))))))), ((cell_far (p := ⟨gb210, _, none⟩) NB202_210.out _).trans (((cell_far (p := ⟨gb210, _, none⟩) NB202_210.out _).trans (((cell_far (p := ⟨gb210, _, none⟩) NB202_210.out _).trans (((cell_far (p := ⟨gb210, _, none⟩) NB202_210.out _).trans (((cell_far (p := ⟨gb210, _, none⟩) NB202_210.out _).trans (hHeld.2.2.2.2))))))))))⟩ (fun hHeld => ?_)
 clear hK K
 refine done_ (done_of HT_.out (by kernel_rfl)) ?_
 try go_wp2
 go_loopg [4] k (fun kq v4 w' => ∃ (x4_1 : Int) (x211003_1 : List (S76)) (u211003 : Value), v4 = .int .i64 x4_1 ∧ Aside0 (w6Log.l0 kq x4_1 l0_0 a0_1 l0_2 l0_3 l0_4 t204 a0_1 t207 x211003_1 = some (r1, r2, r3, r4, r5)) ∧ Aside0 (kq ≤ k) ∧ Aside0 (Kd.R Kd.string 9 w' w.heap.size (fun _ => True) (.slice Ao14 t204.length co14) t204) ∧ Aside0 (Kd.R (Kd.int .i64) 3 w' w.heap.size (fun _ => True) (.slice Ao13 t207.length co13) t207) ∧ Aside0 (Kd.S k76 76 w' w.heap.size (fun k_ => some k_ ≠ ((.slice Ao13 t207.length co13) : Value).ownBlock) u211003 x211003_1) ∧ Aside0 (w'.heap[gb202]? = some (.cells #[(.slice A0_0 l0_0.length c0_0), .int .i64 a0_1, (.slice A0_2 l0_2.length c0_2), (.slice A0_3 l0_3.length c0_3), (.slice A0_4 l0_4.length c0_4)] 29 (0, 0))) ∧ Aside0 (w'.heap[gb203]? = some (.cells #[(.slice none 0 0), .int .i64 0, (.slice none 0 0), (.slice none 0 0), (.slice none 0 0)] 38 (0, 0))) ∧ Aside0 (w'.heap[gb210]? = some (.cells #[(.slice Ao14 t204.length co14), .int .i64 a0_1, (.slice Ao13 t207.length co13), u211003, (.slice none 0 0)] 38 (0, 0))) ∧ Aside0 (Below w.heap.size w w'))
 case atStart => exact ⟨(0), (([] : List (S76))), (.slice none 0 0), (by first | rfl | (simp; done) | (simp [*]; done)), H', ⟨Nat.le_refl _⟩, ⟨by (with_reducible repeat (first | apply Kd.R_alloc | apply Kd.R_drewN | apply Kd.R_drew)); exact Kd.R_mono (Kd.R_far (p := ⟨gb210, 4, none⟩) (Kd.R_far (p := ⟨gb210, 3, none⟩) (Kd.R_far (p := ⟨gb210, 2, none⟩) (Kd.R_far (p := ⟨gb210, 1, none⟩) (Kd.R_far (p := ⟨gb210, 0, none⟩) (Kd.R_types HO206.out BK210.out (by decide)) (fun _ hk => hk.2) (.slice Ao14 t204.length co14)) (fun _ hk => hk.2) (.int .i64 a0_1)) (fun _ hk => hk.2) (.slice Ao13 t207.length co13)) (fun _ hk => hk.2) (.slice none 0 0)) (fun _ hk => hk.2) (.slice none 0 0)) (fun _ hk => trivial)⟩, ⟨by (with_reducible repeat (first | apply Kd.R_alloc | apply Kd.R_drewN | apply Kd.R_drew)); exact Kd.R_mono (Kd.R_far (p := ⟨gb210, 4, none⟩) (Kd.R_far (p := ⟨gb210, 3, none⟩) (Kd.R_far (p := ⟨gb210, 2, none⟩) (Kd.R_far (p := ⟨gb210, 1, none⟩) (Kd.R_far (p := ⟨gb210, 0, none⟩) (Kd.R_types HO209.out BK210.out (by decide)) (fun _ hk => hk.2) (.slice Ao14 t204.length co14)) (fun _ hk => hk.2) (.int .i64 a0_1)) (fun _ hk => hk.2) (.slice Ao13 t207.length co13)) (fun _ hk => hk.2) (.slice none 0 0)) (fun _ hk => hk.2) (.slice none 0 0)) (fun _ hk => trivial)⟩, ⟨by first | exact Kd.S_nil _ _ _ _ _ | exact Kd.N_nil _ _ _ _ _ | exact Kd.V_nil _ _ _ _ _ | exact Kd.Q_nil _ _ _ _ _ | exact Kd.R_nil _ _ _ _ _⟩, ⟨by (with_reducible repeat (first | refine bN_ ?_ _ | refine bD_ ?_ | refine bA_ ?_ _)); refine blk_far ?_ NB202_210.out _; (with_reducible repeat (first | refine bN_ ?_ _ | refine bD_ ?_ | refine bA_ ?_ _)); refine blk_far ?_ NB202_210.out _; (with_reducible repeat (first | refine bN_ ?_ _ | refine bD_ ?_ | refine bA_ ?_ _)); refine blk_far ?_ NB202_210.out _; (with_reducible repeat (first | refine bN_ ?_ _ | refine bD_ ?_ | refine bA_ ?_ _)); refine blk_far ?_ NB202_210.out _; (with_reducible repeat (first | refine bN_ ?_ _ | refine bD_ ?_ | refine bA_ ?_ _)); refine blk_far ?_ NB202_210.out _; (with_reducible repeat (first | refine bN_ ?_ _ | refine bD_ ?_ | refine bA_ ?_ _)); exact BK202.out⟩, ⟨by (with_reducible repeat (first | refine bN_ ?_ _ | refine bD_ ?_ | refine bA_ ?_ _)); refine blk_far ?_ NB203_210.out _; (with_reducible repeat (first | refine bN_ ?_ _ | refine bD_ ?_ | refine bA_ ?_ _)); refine blk_far ?_ NB203_210.out _; (with_reducible repeat (first | refine bN_ ?_ _ | refine bD_ ?_ | refine bA_ ?_ _)); refine blk_far ?_ NB203_210.out _; (with_reducible repeat (first | refine bN_ ?_ _ | refine bD_ ?_ | refine bA_ ?_ _)); refine blk_far ?_ NB203_210.out _; (with_reducible repeat (first | refine bN_ ?_ _ | refine bD_ ?_ | refine bA_ ?_ _)); refine blk_far ?_ NB203_210.out _; (with_reducible repeat (first | refine bN_ ?_ _ | refine bD_ ?_ | refine bA_ ?_ _)); exact BK203.out⟩, ⟨by (with_reducible repeat (first | refine bN_ ?_ _ | refine bD_ ?_ | refine bA_ ?_ _)); refine blk_put (cs := #[.slice Ao14 t204.length co14, .int .i64 a0_1, .slice Ao13 t207.length co13, .slice none 0 0, .slice none 0 0]) ?_ 4 _ rfl; (with_reducible repeat (first | refine bN_ ?_ _ | refine bD_ ?_ | refine bA_ ?_ _)); refine blk_put (cs := #[.slice Ao14 t204.length co14, .int .i64 a0_1, .slice Ao13 t207.length co13, .slice none 0 0, .slice none 0 0]) ?_ 3 _ rfl; (with_reducible repeat (first | refine bN_ ?_ _ | refine bD_ ?_ | refine bA_ ?_ _)); refine blk_put (cs := #[.slice Ao14 t204.length co14, .int .i64 a0_1, .slice none 0 0, .slice none 0 0, .slice none 0 0]) ?_ 2 _ rfl; (with_reducible repeat (first | refine bN_ ?_ _ | refine bD_ ?_ | refine bA_ ?_ _)); refine blk_put (cs := #[.slice Ao14 t204.length co14, .int .i64 0, .slice none 0 0, .slice none 0 0, .slice none 0 0]) ?_ 1 _ rfl; (with_reducible repeat (first | refine bN_ ?_ _ | refine bD_ ?_ | refine bA_ ?_ _)); refine blk_put (cs := #[.slice none 0 0, .int .i64 0, .slice none 0 0, .slice none 0 0, .slice none 0 0]) ?_ 0 _ rfl; (with_reducible repeat (first | refine bN_ ?_ _ | refine bD_ ?_ | refine bA_ ?_ _)); exact BK210.out⟩, ⟨by repeat (first | (with_reducible first | exact HB.out | apply pA_ | apply pN_ | apply pD_ | refine pS_ ?_ GE202.out | refine pS_ ?_ GE203.out | refine pS_ ?_ GE210.out) | exact HB.out)⟩⟩
 case round =>
  clear H'
  try clear c2
  try clear p2
  try clear c3
  try clear c6
  obtain ⟨x4_1, x211003_1, u211003, rfl, HA, HK1, HO_211000, HO_211002, HO_211003, BK202, BK203, BK210, HB⟩ := hrel
  cases gk with
  | zero => exact absurd HA.out (by simp [w6Log.l0])
  | succ k1 =>
   have H := HA.out
   clear HA
   simp only [w6Log.l0] at H
   by_cases c20 : x4_1 < (l0_3.length : Int)
   ·rw [if_pos c20] at H
    have c20b0 : decide (x4_1 < (l0_3.length : Int)) = true := decide_eq_true c20
    clear c20
    by_cases c21 : 0 ≤ x4_1
    ·rw [if_pos c21] at H
     have c21b0 : decide (0 ≤ x4_1) = true := decide_eq_true c21
     clear c21
     replace H := Option.bind_eq_some_iff.mp H
     obtain ⟨t213, A220, H⟩ := H
     replace H : (if x211003_1.length < 3518437208883 then (w6Log.l0 k1 (wrap64 (x4_1 + 1)) l0_0 a0_1 l0_2 l0_3 l0_4 t204 a0_1 t207 (x211003_1 ++ [(⟨(rd_T69 l0_3 x4_1).f0, (rd_T69 l0_3 x4_1).f1, t213⟩ : S76)])) else (none)) = some (r1, r2, r3, r4, r5) := H
     have A22 := Am A220
     clear A220
     by_cases c23 : x211003_1.length < 3518437208883
     ·rw [if_pos c23] at H
      have LMc23 := Am c23
      clear c23
      obtain ⟨y216, hy216⟩ : ∃ y_ : List (S76), y_ = (x211003_1 ++ [(⟨(rd_T69 l0_3 x4_1).f0, (rd_T69 l0_3 x4_1).f1, t213⟩ : S76)]) := ⟨_, rfl⟩
      replace H : (w6Log.l0 k1 (wrap64 (x4_1 + 1)) l0_0 a0_1 l0_2 l0_3 l0_4 t204 a0_1 t207 y216) = some (r1, r2, r3, r4, r5) := by first | (rw [hy216]; with_reducible exact H) | (have H2_ := (Option.bind_some _ _).symm.trans H; rw [hy216]; with_reducible exact H2_) | (have H2_ := (Option.bind_some _ _).symm.trans H; with_reducible exact H2_) | with_reducible exact H | (rw [hy216]; exact H) | exact H
      have Ny216 := Am hy216
      clear hy216
      have H' := Am H
      clear H
      have hnb24 := NB202_203.out
      have hnc24 := NB203_202.out
      have hnb25 := NB202_210.out
      have hnc25 := NB210_202.out
      have hcz26_0 : wr.cell? ⟨gb202, 0, none⟩ = some (.slice A0_0 l0_0.length c0_0) := (bC_ BK202.out 0).trans rfl
      have hcz26_1 : wr.cell? ⟨gb202, 1, none⟩ = some (.int .i64 a0_1) := (bC_ BK202.out 1).trans rfl
      have hcz26_2 : wr.cell? ⟨gb202, 2, none⟩ = some (.slice A0_2 l0_2.length c0_2) := (bC_ BK202.out 2).trans rfl
      have hcz26_3 : wr.cell? ⟨gb202, 3, none⟩ = some (.slice A0_3 l0_3.length c0_3) := (bC_ BK202.out 3).trans rfl
      have hcz26_4 : wr.cell? ⟨gb202, 4, none⟩ = some (.slice A0_4 l0_4.length c0_4) := (bC_ BK202.out 4).trans rfl
      have hfz26_0 := bF_ BK202.out 0
      have hfz26_1 := bF_ BK202.out 1
      have hfz26_2 := bF_ BK202.out 2
      have hfz26_3 := bF_ BK202.out 3
      have hfz26_4 := bF_ BK202.out 4
      have p211 : 0 ≤ (x4_1 : Int) := of_decide_eq_true (by first | (with_reducible assumption) | assumption)
      have q211 : x4_1 < (l0_3.length : Int) := of_decide_eq_true (by first | (with_reducible assumption) | assumption)
      obtain ⟨ad211, A211_2, c211_2, e211, hx211_0, hx211_1, hx211_2, hl211_2, hi211_2⟩ := at_T69 HR0_3.out x4_1 p211 q211
      cases e211
      replace hx211_0 := (HB.out.cell (World.block_lt_of_cell? w _ hx211_0)).trans hx211_0
      replace hx211_1 := (HB.out.cell (World.block_lt_of_cell? w _ hx211_1)).trans hx211_1
      replace hx211_2 := (HB.out.cell (World.block_lt_of_cell? w _ hx211_2)).trans hx211_2
      have HR211_2 := Am hi211_2
      have HC211_2 := Am hl211_2
      clear hi211_2 hl211_2
      replace p211 := eq_true p211
      replace q211 := eq_true q211
      try go_wp2_with (first | ((with_reducible refine gate_dst (N := 5) rfl ?_); refine box_event ?hg (N := 5) ?hd (cs := #[.int .i64 0, .int .i64 0, .slice none 0 0]) (t := 69) ?hr ?_; (case hd => rfl); (case hg => rfl); (case hr => first | (go_simp; done) | (go_simp; rfl)); intro gb212 hg w27 hbox hb; have n0_ := Am (Kd.R_below (by (with_reducible repeat (first | apply Kd.R_alloc | apply Kd.R_drewN | apply Kd.R_drew)); exact HO_211000.out) hb); have n1_ := Am (Kd.R_below (by (with_reducible repeat (first | apply Kd.R_alloc | apply Kd.R_drewN | apply Kd.R_drew)); exact HO_211002.out) hb); have n2_ := Am (Kd.S_below (by (with_reducible repeat (first | apply Kd.S_alloc | apply Kd.S_drewN | apply Kd.S_drew)); exact HO_211003.out) hb); have n3_ := Am (blk_below (g := gb202) (o := .cells #[.slice A0_0 l0_0.length c0_0, .int .i64 a0_1, .slice A0_2 l0_2.length c0_2, .slice (some ad211) l0_3.length c0_3, .slice A0_4 l0_4.length c0_4] 29 (0, 0)) (by (with_reducible repeat (first | refine bN_ ?_ _ | refine bD_ ?_ | refine bA_ ?_ _)); exact BK202.out) hb); have n4_ := Am (blk_below (g := gb203) (o := .cells #[.slice none 0 0, .int .i64 0, .slice none 0 0, .slice none 0 0, .slice none 0 0] 38 (0, 0)) (by (with_reducible repeat (first | refine bN_ ?_ _ | refine bD_ ?_ | refine bA_ ?_ _)); exact BK203.out) hb); have n5_ := Am (blk_below (g := gb210) (o := .cells #[.slice Ao14 t204.length co14, .int .i64 a0_1, .slice Ao13 t207.length co13, u211003, .slice none 0 0] 38 (0, 0)) (by (with_reducible repeat (first | refine bN_ ?_ _ | refine bD_ ?_ | refine bA_ ?_ _)); exact BK210.out) hb); have n6_ := Am (pT_ (by repeat (first | (with_reducible first | exact HB.out | apply pA_ | apply pN_ | apply pD_ | refine pS_ ?_ GE202.out | refine pS_ ?_ GE203.out | refine pS_ ?_ GE210.out) | exact HB.out)) hb); have n7_ := Am (hbox); have n8_ := Am ((by rw [hg]; exact (pZ_ (by repeat (first | (with_reducible first | exact HB.out | apply pA_ | apply pN_ | apply pD_ | refine pS_ ?_ GE202.out | refine pS_ ?_ GE203.out | refine pS_ ?_ GE210.out) | exact HB.out))) : w.heap.size ≤ gb212)); have n9_ := Am ((by rw [hg]; exact (pZ_ (by repeat (first | (with_reducible first | exact HB.out | apply pA_ | apply pN_ | apply pD_ | refine pS_ ?_ GE202.out | refine pS_ ?_ GE203.out | refine pS_ ?_ GE210.out) | exact HB.out))) : w.heap.size ≤ gb212)); have n10_ := Am ((by rw [hg]; exact Nat.ne_of_lt (blk_lt (g := gb202) (o := .cells #[.slice A0_0 l0_0.length c0_0, .int .i64 a0_1, .slice A0_2 l0_2.length c0_2, .slice (some ad211) l0_3.length c0_3, .slice A0_4 l0_4.length c0_4] 29 (0, 0)) (by (with_reducible repeat (first | refine bN_ ?_ _ | refine bD_ ?_ | refine bA_ ?_ _)); exact BK202.out)) : gb202 ≠ gb212)); have n11_ := Am ((by rw [hg]; exact Nat.ne_of_gt (blk_lt (g := gb202) (o := .cells #[.slice A0_0 l0_0.length c0_0, .int .i64 a0_1, .slice A0_2 l0_2.length c0_2, .slice (some ad211) l0_3.length c0_3, .slice A0_4 l0_4.length c0_4] 29 (0, 0)) (by (with_reducible repeat (first | refine bN_ ?_ _ | refine bD_ ?_ | refine bA_ ?_ _)); exact BK202.out)) : gb212 ≠ gb202)); have n12_ := Am ((by rw [hg]; exact Nat.ne_of_lt (blk_lt (g := gb203) (o := .cells #[.slice none 0 0, .int .i64 0, .slice none 0 0, .slice none 0 0, .slice none 0 0] 38 (0, 0)) (by (with_reducible repeat (first | refine bN_ ?_ _ | refine bD_ ?_ | refine bA_ ?_ _)); exact BK203.out)) : gb203 ≠ gb212)); have n13_ := Am ((by rw [hg]; exact Nat.ne_of_gt (blk_lt (g := gb203) (o := .cells #[.slice none 0 0, .int .i64 0, .slice none 0 0, .slice none 0 0, .slice none 0 0] 38 (0, 0)) (by (with_reducible repeat (first | refine bN_ ?_ _ | refine bD_ ?_ | refine bA_ ?_ _)); exact BK203.out)) : gb212 ≠ gb203)); have n14_ := Am ((by rw [hg]; exact Nat.ne_of_lt (blk_lt (g := gb210) (o := .cells #[.slice Ao14 t204.length co14, .int .i64 a0_1, .slice Ao13 t207.length co13, u211003, .slice none 0 0] 38 (0, 0)) (by (with_reducible repeat (first | refine bN_ ?_ _ | refine bD_ ?_ | refine bA_ ?_ _)); exact BK210.out)) : gb210 ≠ gb212)); have n15_ := Am ((by rw [hg]; exact Nat.ne_of_gt (blk_lt (g := gb210) (o := .cells #[.slice Ao14 t204.length co14, .int .i64 a0_1, .slice Ao13 t207.length co13, u211003, .slice none 0 0] 38 (0, 0)) (by (with_reducible repeat (first | refine bN_ ?_ _ | refine bD_ ?_ | refine bA_ ?_ _)); exact BK210.out)) : gb212 ≠ gb210)); clear HO_211000; clear HO_211002; clear HO_211003; clear BK202; clear BK203; clear BK210; clear HB; have HO_211000 := n0_; have HO_211002 := n1_; have HO_211003 := n2_; have BK202 := n3_; have BK203 := n4_; have BK210 := n5_; have HB := n6_; have BK212 := n7_; have GW212 := n8_; have GE212 := n9_; have NB202_212 := n10_; have NB212_202 := n11_; have NB203_212 := n12_; have NB212_203 := n13_; have NB210_212 := n14_; have NB212_210 := n15_; clear n0_ n1_ n2_ n3_ n4_ n5_ n6_ n7_ n8_ n9_ n10_ n11_ n12_ n13_ n14_ n15_; clear hb hbox hg; have hnb28 := NB212_202.out; have hnc28 := NB202_212.out; have hnb29 := NB212_203.out; have hnc29 := NB203_212.out; have hnb30 := NB212_210.out; have hnc30 := NB210_212.out; have hcz31_0 : w27.cell? ⟨gb212, 0, none⟩ = some (.int .i64 0) := (bC_ BK212.out 0).trans rfl; have hcz31_1 : w27.cell? ⟨gb212, 1, none⟩ = some (.int .i64 0) := (bC_ BK212.out 1).trans rfl; have hcz31_2 : w27.cell? ⟨gb212, 2, none⟩ = some (.slice none 0 0) := (bC_ BK212.out 2).trans rfl; have hfz31_0 := bF_ BK212.out 0; have hfz31_1 := bF_ BK212.out 1; have hfz31_2 := bF_ BK212.out 2))
      have n0_ : Aside0 (Kd.R Kd.string 9 (((w27.setCell ⟨gb212, 0, none⟩ (.int .i64 ((rd_T69 l0_3 x4_1).f0))).setCell ⟨gb212, 1, none⟩ (.int .i64 ((rd_T69 l0_3 x4_1).f1))).setCell ⟨gb212, 2, none⟩ (.slice A211_2 ((rd_T69 l0_3 x4_1).f2).length c211_2)) w.heap.size (fun _ => True) (.slice Ao14 t204.length co14) t204) := ⟨by (with_reducible repeat (first | apply Kd.R_alloc | apply Kd.R_drewN | apply Kd.R_drew)); exact Kd.R_mono (Kd.R_far (p := ⟨gb212, 2, none⟩) (Kd.R_far (p := ⟨gb212, 1, none⟩) (Kd.R_far (p := ⟨gb212, 0, none⟩) (Kd.R_types HO_211000.out BK212.out (by decide)) (fun _ hk => hk.2) (.int .i64 ((rd_T69 l0_3 x4_1).f0))) (fun _ hk => hk.2) (.int .i64 ((rd_T69 l0_3 x4_1).f1))) (fun _ hk => hk.2) (.slice A211_2 ((rd_T69 l0_3 x4_1).f2).length c211_2)) (fun _ hk => trivial)⟩
      have n1_ : Aside0 (Kd.R (Kd.int .i64) 3 (((w27.setCell ⟨gb212, 0, none⟩ (.int .i64 ((rd_T69 l0_3 x4_1).f0))).setCell ⟨gb212, 1, none⟩ (.int .i64 ((rd_T69 l0_3 x4_1).f1))).setCell ⟨gb212, 2, none⟩ (.slice A211_2 ((rd_T69 l0_3 x4_1).f2).length c211_2)) w.heap.size (fun _ => True) (.slice Ao13 t207.length co13) t207) := ⟨by (with_reducible repeat (first | apply Kd.R_alloc | apply Kd.R_drewN | apply Kd.R_drew)); exact Kd.R_mono (Kd.R_far (p := ⟨gb212, 2, none⟩) (Kd.R_far (p := ⟨gb212, 1, none⟩) (Kd.R_far (p := ⟨gb212, 0, none⟩) (Kd.R_types HO_211002.out BK212.out (by decide)) (fun _ hk => hk.2) (.int .i64 ((rd_T69 l0_3 x4_1).f0))) (fun _ hk => hk.2) (.int .i64 ((rd_T69 l0_3 x4_1).f1))) (fun _ hk => hk.2) (.slice A211_2 ((rd_T69 l0_3 x4_1).f2).length c211_2)) (fun _ hk => trivial)⟩
      have n2_ : Aside0 (Kd.S k76 76 (((w27.setCell ⟨gb212, 0, none⟩ (.int .i64 ((rd_T69 l0_3 x4_1).f0))).setCell ⟨gb212, 1, none⟩ (.int .i64 ((rd_T69 l0_3 x4_1).f1))).setCell ⟨gb212, 2, none⟩ (.slice A211_2 ((rd_T69 l0_3 x4_1).f2).length c211_2)) w.heap.size (fun k_ => some k_ ≠ (.slice Ao13 t207.length co13 : Value).ownBlock) u211003 x211003_1) := ⟨by (with_reducible repeat (first | apply Kd.S_alloc | apply Kd.S_drewN | apply Kd.S_drew)); exact Kd.S_mono (Kd.S_far (p := ⟨gb212, 2, none⟩) (Kd.S_far (p := ⟨gb212, 1, none⟩) (Kd.S_far (p := ⟨gb212, 0, none⟩) (Kd.S_types HO_211003.out BK212.out (by decide)) (fun _ hk => hk.2) (.int .i64 ((rd_T69 l0_3 x4_1).f0))) (fun _ hk => hk.2) (.int .i64 ((rd_T69 l0_3 x4_1).f1))) (fun _ hk => hk.2) (.slice A211_2 ((rd_T69 l0_3 x4_1).f2).length c211_2)) (fun _ hk => hk.1)⟩
      have n3_ : Aside0 ((((w27.setCell ⟨gb212, 0, none⟩ (.int .i64 ((rd_T69 l0_3 x4_1).f0))).setCell ⟨gb212, 1, none⟩ (.int .i64 ((rd_T69 l0_3 x4_1).f1))).setCell ⟨gb212, 2, none⟩ (.slice A211_2 ((rd_T69 l0_3 x4_1).f2).length c211_2)).heap[gb202]? = some (.cells #[.slice A0_0 l0_0.length c0_0, .int .i64 a0_1, .slice A0_2 l0_2.length c0_2, .slice (some ad211) l0_3.length c0_3, .slice A0_4 l0_4.length c0_4] 29 (0, 0))) := ⟨by (with_reducible repeat (first | refine bN_ ?_ _ | refine bD_ ?_ | refine bA_ ?_ _)); refine blk_far ?_ NB202_212.out _; (with_reducible repeat (first | refine bN_ ?_ _ | refine bD_ ?_ | refine bA_ ?_ _)); refine blk_far ?_ NB202_212.out _; (with_reducible repeat (first | refine bN_ ?_ _ | refine bD_ ?_ | refine bA_ ?_ _)); refine blk_far ?_ NB202_212.out _; (with_reducible repeat (first | refine bN_ ?_ _ | refine bD_ ?_ | refine bA_ ?_ _)); exact BK202.out⟩
      have n4_ : Aside0 ((((w27.setCell ⟨gb212, 0, none⟩ (.int .i64 ((rd_T69 l0_3 x4_1).f0))).setCell ⟨gb212, 1, none⟩ (.int .i64 ((rd_T69 l0_3 x4_1).f1))).setCell ⟨gb212, 2, none⟩ (.slice A211_2 ((rd_T69 l0_3 x4_1).f2).length c211_2)).heap[gb203]? = some (.cells #[.slice none 0 0, .int .i64 0, .slice none 0 0, .slice none 0 0, .slice none 0 0] 38 (0, 0))) := ⟨by (with_reducible repeat (first | refine bN_ ?_ _ | refine bD_ ?_ | refine bA_ ?_ _)); refine blk_far ?_ NB203_212.out _; (with_reducible repeat (first | refine bN_ ?_ _ | refine bD_ ?_ | refine bA_ ?_ _)); refine blk_far ?_ NB203_212.out _; (with_reducible repeat (first | refine bN_ ?_ _ | refine bD_ ?_ | refine bA_ ?_ _)); refine blk_far ?_ NB203_212.out _; (with_reducible repeat (first | refine bN_ ?_ _ | refine bD_ ?_ | refine bA_ ?_ _)); exact BK203.out⟩
      have n5_ : Aside0 ((((w27.setCell ⟨gb212, 0, none⟩ (.int .i64 ((rd_T69 l0_3 x4_1).f0))).setCell ⟨gb212, 1, none⟩ (.int .i64 ((rd_T69 l0_3 x4_1).f1))).setCell ⟨gb212, 2, none⟩ (.slice A211_2 ((rd_T69 l0_3 x4_1).f2).length c211_2)).heap[gb210]? = some (.cells #[.slice Ao14 t204.length co14, .int .i64 a0_1, .slice Ao13 t207.length co13, u211003, .slice none 0 0] 38 (0, 0))) := ⟨by (with_reducible repeat (first | refine bN_ ?_ _ | refine bD_ ?_ | refine bA_ ?_ _)); refine blk_far ?_ NB210_212.out _; (with_reducible repeat (first | refine bN_ ?_ _ | refine bD_ ?_ | refine bA_ ?_ _)); refine blk_far ?_ NB210_212.out _; (with_reducible repeat (first | refine bN_ ?_ _ | refine bD_ ?_ | refine bA_ ?_ _)); refine blk_far ?_ NB210_212.out _; (with_reducible repeat (first | refine bN_ ?_ _ | refine bD_ ?_ | refine bA_ ?_ _)); exact BK210.out⟩
      have n6_ : Aside0 ((((w27.setCell ⟨gb212, 0, none⟩ (.int .i64 ((rd_T69 l0_3 x4_1).f0))).setCell ⟨gb212, 1, none⟩ (.int .i64 ((rd_T69 l0_3 x4_1).f1))).setCell ⟨gb212, 2, none⟩ (.slice A211_2 ((rd_T69 l0_3 x4_1).f2).length c211_2)).heap[gb212]? = some (.cells #[.int .i64 ((rd_T69 l0_3 x4_1).f0), .int .i64 ((rd_T69 l0_3 x4_1).f1), .slice A211_2 ((rd_T69 l0_3 x4_1).f2).length c211_2] 69 (0, 0))) := ⟨by (with_reducible repeat (first | refine bN_ ?_ _ | refine bD_ ?_ | refine bA_ ?_ _)); refine blk_put (cs := #[.int .i64 ((rd_T69 l0_3 x4_1).f0), .int .i64 ((rd_T69 l0_3 x4_1).f1), .slice none 0 0]) ?_ 2 _ rfl; (with_reducible repeat (first | refine bN_ ?_ _ | refine bD_ ?_ | refine bA_ ?_ _)); refine blk_put (cs := #[.int .i64 ((rd_T69 l0_3 x4_1).f0), .int .i64 0, .slice none 0 0]) ?_ 1 _ rfl; (with_reducible repeat (first | refine bN_ ?_ _ | refine bD_ ?_ | refine bA_ ?_ _)); refine blk_put (cs := #[.int .i64 0, .int .i64 0, .slice none 0 0]) ?_ 0 _ rfl; (with_reducible repeat (first | refine bN_ ?_ _ | refine bD_ ?_ | refine bA_ ?_ _)); exact BK212.out⟩
      have n7_ : Aside0 (Below w.heap.size w (((w27.setCell ⟨gb212, 0, none⟩ (.int .i64 ((rd_T69 l0_3 x4_1).f0))).setCell ⟨gb212, 1, none⟩ (.int .i64 ((rd_T69 l0_3 x4_1).f1))).setCell ⟨gb212, 2, none⟩ (.slice A211_2 ((rd_T69 l0_3 x4_1).f2).length c211_2))) := ⟨by repeat (first | (with_reducible first | exact HB.out | apply pA_ | apply pN_ | apply pD_ | refine pS_ ?_ GE202.out | refine pS_ ?_ GE203.out | refine pS_ ?_ GE210.out | refine pS_ ?_ GE212.out) | exact HB.out)⟩
      (try clear HO_211000)
      (try clear HO_211002)
      (try clear HO_211003)
      (try clear BK202)
      (try clear BK203)
      (try clear BK210)
      (try clear BK212)
      (try clear HB)
      generalize (((w27.setCell ⟨gb212, 0, none⟩ (.int .i64 ((rd_T69 l0_3 x4_1).f0))).setCell ⟨gb212, 1, none⟩ (.int .i64 ((rd_T69 l0_3 x4_1).f1))).setCell ⟨gb212, 2, none⟩ (.slice A211_2 ((rd_T69 l0_3 x4_1).f2).length c211_2)) = w32 at n0_ n1_ n2_ n3_ n4_ n5_ n6_ n7_ ⊢
      have HO_211000 := n0_
      have HO_211002 := n1_
      have HO_211003 := n2_
      have BK202 := n3_
      have BK203 := n4_
      have BK210 := n5_
      have BK212 := n6_
      have HB := n7_
      clear n0_ n1_ n2_ n3_ n4_ n5_ n6_ n7_
      have n0_ := Am (Kd.R_drew HO_211000.out)
      have n1_ := Am (Kd.R_drew HO_211002.out)
      have n2_ := Am (Kd.S_drew HO_211003.out)
      have n3_ := Am (bD_ BK202.out)
      have n4_ := Am (bD_ BK203.out)
      have n5_ := Am (bD_ BK210.out)
      have n6_ := Am (bD_ BK212.out)
      have n7_ := Am (pD_ HB.out)
      clear HO_211000
      clear HO_211002
      clear HO_211003
      clear BK202
      clear BK203
      clear BK210
      clear BK212
      clear HB
      have HO_211000 := n0_
      have HO_211002 := n1_
      have HO_211003 := n2_
      have BK202 := n3_
      have BK203 := n4_
      have BK210 := n5_
      have BK212 := n6_
      have HB := n7_
      clear n0_ n1_ n2_ n3_ n4_ n5_ n6_ n7_
      refine start_ (n := 14) (S := fun w' => w'.cell? ⟨gb210, 0, none⟩ = some (.slice Ao14 t204.length co14) ∧ w'.cell? ⟨gb210, 1, none⟩ = some (.int .i64 a0_1) ∧ w'.cell? ⟨gb210, 2, none⟩ = some (.slice Ao13 t207.length co13) ∧ w'.cell? ⟨gb210, 3, none⟩ = some (u211003) ∧ w'.cell? ⟨gb210, 4, none⟩ = some (.slice none 0 0) ∧ w'.cell? ⟨gb212, 0, none⟩ = some (.int .i64 ((rd_T69 l0_3 x4_1).f0)) ∧ w'.cell? ⟨gb212, 1, none⟩ = some (.int .i64 ((rd_T69 l0_3 x4_1).f1)) ∧ w'.cell? ⟨gb212, 2, none⟩ = some (.slice A211_2 ((rd_T69 l0_3 x4_1).f2).length c211_2)) (ds := [13]) #[false, false, false, false, false, false, false, false, false, false, false, false, false, false] (by kernel_rfl) rfl rfl ⟨(bC_ BK210.out 0).trans rfl, (bC_ BK210.out 1).trans rfl, (bC_ BK210.out 2).trans rfl, (bC_ BK210.out 3).trans rfl, (bC_ BK210.out 4).trans rfl, (bC_ BK212.out 0).trans rfl, (bC_ BK212.out 1).trans rfl, (bC_ BK212.out 2).trans rfl⟩ (fun hHeld => ?_); refine with_tabW w6Log.tab6 w6Log.bits6 (fun HT_ HW_ => ?_)
      generalize w32.drew = w33 at HO_211000 HO_211002 HO_211003 BK202 BK203 BK210 BK212 HB hHeld ⊢
      refine pure_ (i := 0) (N := some 29) (v := ?_) (a' := ?_) #[true, false, false, false, false, false, false, false, false, false, false, false, false, false] rfl rfl (any_of HT_.out (by kernel_rfl)) (fun _ _ _ h => h) (Or.inl ⟨by rfl, ?_⟩) ?_ ?_
      rotate_left
      ·intro w'
       go_simp
       with_reducible rfl
      rotate_left
      ·simp only [Act.put, List.setIfInBounds_toArray, List.set_cons_zero, List.set_cons_succ, i64_w, i32_w]
       rfl
      refine pure_ (i := 2) (N := some 31) (v := ?_) (a' := ?_) #[true, false, true, false, false, false, false, false, false, false, false, false, false, false] rfl rfl (any_of HT_.out (by kernel_rfl)) (fun _ _ _ h => h) (Or.inl ⟨by rfl, ?_⟩) ?_ ?_
      rotate_left
      ·intro w'
       go_simp
       with_reducible rfl
      rotate_left
      ·simp only [Act.put, List.setIfInBounds_toArray, List.set_cons_zero, List.set_cons_succ, i64_w, i32_w]
       rfl
      refine pure_ (i := 4) (N := some 33) (v := ?_) (a' := ?_) #[true, false, true, false, true, false, false, false, false, false, false, false, false, false] rfl rfl (any_of HT_.out (by kernel_rfl)) (fun _ _ _ h => h) (Or.inl ⟨by rfl, ?_⟩) ?_ ?_
      rotate_left
      ·intro w'
       go_simp
       with_reducible rfl
      rotate_left
      ·simp only [Act.put, List.setIfInBounds_toArray, List.set_cons_zero, List.set_cons_succ, i64_w, i32_w]
       rfl
      refine pure_ (i := 6) (N := some 35) (v := ?_) (a' := ?_) #[true, false, true, false, true, false, true, false, false, false, false, false, false, false] rfl rfl (any_of HT_.out (by kernel_rfl)) (fun _ _ _ h => h) (Or.inl ⟨by rfl, ?_⟩) ?_ ?_
      rotate_left
      ·intro w'
       go_simp
       with_reducible rfl
      rotate_left
      ·simp only [Act.put, List.setIfInBounds_toArray, List.set_cons_zero, List.set_cons_succ, i64_w, i32_w]
       rfl
      refine take_ (i := 1) (N := some 30) (v := ?_) (a' := ?_) #[true, true, true, false, true, false, true, false, false, false, false, false, false, false] rfl rfl (take_ofW HT_.out HW_.out (by kernel_rfl)) (fun _ _ _ h => h) (Or.inl ⟨by rfl, ?_⟩) hHeld ?_ ?_
      rotate_left
      ·rintro w' ⟨s0, s1, s2, s3, s4, s5, s6, s7⟩
       go_simp
       with_reducible rfl
      rotate_left
      ·simp only [Act.put, List.setIfInBounds_toArray, List.set_cons_zero, List.set_cons_succ, i64_w, i32_w]
       rfl
      refine take_ (i := 3) (N := some 32) (v := ?_) (a' := ?_) #[true, true, true, true, true, false, true, false, false, false, false, false, false, false] rfl rfl (take_ofW HT_.out HW_.out (by kernel_rfl)) (fun _ _ _ h => h) (Or.inl ⟨by rfl, ?_⟩) hHeld ?_ ?_
      rotate_left
      ·rintro w' ⟨s0, s1, s2, s3, s4, s5, s6, s7⟩
       go_simp
       with_reducible rfl
      rotate_left
      ·simp only [Act.put, List.setIfInBounds_toArray, List.set_cons_zero, List.set_cons_succ, i64_w, i32_w]
       rfl
      refine take_ (i := 5) (N := some 34) (v := ?_) (a' := ?_) #[true, true, true, true, true, true, true, false, false, false, false, false, false, false] rfl rfl (take_ofW HT_.out HW_.out (by kernel_rfl)) (fun _ _ _ h => h) (Or.inl ⟨by rfl, ?_⟩) hHeld ?_ ?_
      rotate_left
      ·rintro w' ⟨s0, s1, s2, s3, s4, s5, s6, s7⟩
       go_simp
       with_reducible rfl
      rotate_left
      ·simp only [Act.put, List.setIfInBounds_toArray, List.set_cons_zero, List.set_cons_succ, i64_w, i32_w]
       rfl
      refine take_ (i := 7) (N := some 36) (v := ?_) (a' := ?_) #[true, true, true, true, true, true, true, true, false, false, false, false, false, false] rfl rfl (take_ofW HT_.out HW_.out (by kernel_rfl)) (fun _ _ _ h => h) (Or.inl ⟨by rfl, ?_⟩) hHeld ?_ ?_
      rotate_left
      ·rintro w' ⟨s0, s1, s2, s3, s4, s5, s6, s7⟩
       go_simp
       with_reducible rfl
      rotate_left
      ·simp only [Act.put, List.setIfInBounds_toArray, List.set_cons_zero, List.set_cons_succ, i64_w, i32_w]
       rfl
      refine one_ (i := 8) (N := some 37) #[true, true, true, true, true, true, true, true, true, false, false, false, false, false] rfl rfl (one_of HT_.out (by kernel_rfl)) (by decide) (fun K hK => ?_)
      refine goes_ Tryz.func39 (by kernel_rfl) rfl #[.slice A211_2 ((rd_T69 l0_3 x4_1).f2).length c211_2] (by rfl) rfl rfl (by (try simp only [List.map_toArray, List.map_cons, List.map_nil]); first | done | rfl | (simp only [List.length_drop, List.length_take]; rfl)) ?_
      with_reducible refine (w6list.calls _ _ ((rd_T69 l0_3 x4_1).f2) t213 _ ?side1 ?side2 A22.out).mono ?_
      (case side1 => repeat (first | exact (Kd.C_below HR211_2.out HB.out) | (with_reducible refine Kd.C_alloc ?_ _) | (with_reducible refine Kd.C_drewN ?_ _) | (with_reducible refine Kd.C_drew ?_)))
      (case side2 => exact HC211_2.out)
      rintro e w34 ⟨v214, rfl, ho0, hb⟩
      refine ⟨_, rfl, ?_⟩
      have n0_ := Am (Kd.R_below (by (with_reducible repeat (first | apply Kd.R_alloc | apply Kd.R_drewN | apply Kd.R_drew)); exact HO_211000.out) hb)
      have n1_ := Am (Kd.R_elder' (by (with_reducible repeat (first | apply Kd.R_alloc | apply Kd.R_drewN | apply Kd.R_drew)); exact HO_211002.out) (Kd.R_base ho0) hb)
      have n2_ := Am (Kd.S_elder' (by (with_reducible repeat (first | apply Kd.S_alloc | apply Kd.S_drewN | apply Kd.S_drew)); exact HO_211003.out) (Kd.R_base ho0) hb)
      have n3_ := Am (Kd.R_lower (Kd.R_new' ho0 (Kd.R_lt (by (with_reducible repeat (first | apply Kd.R_alloc | apply Kd.R_drewN | apply Kd.R_drew)); exact HO_211002.out))) (pZ_ (by repeat (first | (with_reducible first | exact HB.out | apply pA_ | apply pN_ | apply pD_ | refine pS_ ?_ GE202.out | refine pS_ ?_ GE203.out | refine pS_ ?_ GE210.out | refine pS_ ?_ GE212.out) | exact HB.out))))
      have n4_ := Am (blk_below (g := gb202) (o := .cells #[.slice A0_0 l0_0.length c0_0, .int .i64 a0_1, .slice A0_2 l0_2.length c0_2, .slice (some ad211) l0_3.length c0_3, .slice A0_4 l0_4.length c0_4] 29 (0, 0)) (by (with_reducible repeat (first | refine bN_ ?_ _ | refine bD_ ?_ | refine bA_ ?_ _)); exact BK202.out) hb)
      have n5_ := Am (blk_below (g := gb203) (o := .cells #[.slice none 0 0, .int .i64 0, .slice none 0 0, .slice none 0 0, .slice none 0 0] 38 (0, 0)) (by (with_reducible repeat (first | refine bN_ ?_ _ | refine bD_ ?_ | refine bA_ ?_ _)); exact BK203.out) hb)
      have n6_ := Am (blk_below (g := gb210) (o := .cells #[.slice Ao14 t204.length co14, .int .i64 a0_1, .slice Ao13 t207.length co13, u211003, .slice none 0 0] 38 (0, 0)) (by (with_reducible repeat (first | refine bN_ ?_ _ | refine bD_ ?_ | refine bA_ ?_ _)); exact BK210.out) hb)
      have n7_ := Am (blk_below (g := gb212) (o := .cells #[.int .i64 ((rd_T69 l0_3 x4_1).f0), .int .i64 ((rd_T69 l0_3 x4_1).f1), .slice A211_2 ((rd_T69 l0_3 x4_1).f2).length c211_2] 69 (0, 0)) (by (with_reducible repeat (first | refine bN_ ?_ _ | refine bD_ ?_ | refine bA_ ?_ _)); exact BK212.out) hb)
      have n8_ := Am (pT_ (by repeat (first | (with_reducible first | exact HB.out | apply pA_ | apply pN_ | apply pD_ | refine pS_ ?_ GE202.out | refine pS_ ?_ GE203.out | refine pS_ ?_ GE210.out | refine pS_ ?_ GE212.out) | exact HB.out)) hb)
      clear HO_211000
      clear HO_211002
      clear HO_211003
      clear BK202
      clear BK203
      clear BK210
      clear BK212
      clear HB
      have HO_211000 := n0_
      have HO_211002 := n1_
      have HO_211003 := n2_
      have HO215 := n3_
      have BK202 := n4_
      have BK203 := n5_
      have BK210 := n6_
      have BK212 := n7_
      have HB := n8_
      clear n0_ n1_ n2_ n3_ n4_ n5_ n6_ n7_ n8_
      (try clear hb)
      (try clear hb2)
      (try clear hk)
      (try clear hi)
      (try clear ho0)
      obtain ⟨Ao35, co35, eo35⟩ := Kd.R_slice HO215.out
      (first | subst eo35 | (injection eo35 with f1_ f2_ f3_; have f4_ := f1_.symm; have f5_ := f3_.symm; clear f1_ f2_ f3_; subst f4_; subst f5_))
      refine hK.out _ _ ⟨(bC_ BK210.out 0).trans rfl, (bC_ BK210.out 1).trans rfl, (bC_ BK210.out 2).trans rfl, (bC_ BK210.out 3).trans rfl, (bC_ BK210.out 4).trans rfl, (bC_ BK212.out 0).trans rfl, (bC_ BK212.out 1).trans rfl, (bC_ BK212.out 2).trans rfl⟩ (fun hHeld => ?_)
      clear hK K
      refine norm_ (a' := ?_) ?_ ?_
      rotate_left
      ·show Act.put _ (some 37) _ = _
       simp only [Act.put, List.setIfInBounds_toArray, List.set_cons_zero, List.set_cons_succ, i64_w, i32_w]
       rfl
      refine pure_ (i := 9) (N := some 38) (v := ?_) (a' := ?_) #[true, true, true, true, true, true, true, true, true, true, false, false, false, false] rfl rfl (any_of HT_.out (by kernel_rfl)) (fun _ _ _ h => h) (Or.inl ⟨by rfl, ?_⟩) ?_ ?_
      rotate_left
      ·intro w'
       go_simp
       with_reducible rfl
      rotate_left
      ·simp only [Act.put, List.setIfInBounds_toArray, List.set_cons_zero, List.set_cons_succ, i64_w, i32_w]
       rfl
      refine one_ (i := 10) (N := some 39) #[true, true, true, true, true, true, true, true, true, true, true, false, false, false] rfl rfl (one_of HT_.out (by kernel_rfl)) (by decide) (fun K hK => ?_)
      refine value_ (w1 := ?_) (v := ?_) (by rfl) rfl ?_ ?_
      rotate_left 2
      ·go_simp
       constructor
       ·rfl
       ·rfl
      refine hK.out _ _ ⟨(bC_ (bA_ BK210.out _) 0).trans rfl, (bC_ (bA_ BK210.out _) 1).trans rfl, (bC_ (bA_ BK210.out _) 2).trans rfl, (bC_ (bA_ BK210.out _) 3).trans rfl, (bC_ (bA_ BK210.out _) 4).trans rfl, (bC_ (bA_ BK212.out _) 0).trans rfl, (bC_ (bA_ BK212.out _) 1).trans rfl, (bC_ (bA_ BK212.out _) 2).trans rfl⟩ (fun hHeld => ?_)
      clear hK K
      refine norm_ (a' := ?_) ?_ ?_
      rotate_left
      ·show Act.put _ (some 39) _ = _
       simp only [Act.put, List.setIfInBounds_toArray, List.set_cons_zero, List.set_cons_succ, i64_w, i32_w]
       rfl
      refine one_ (i := 11) (N := some 40) #[true, true, true, true, true, true, true, true, true, true, true, true, false, false] rfl rfl (one_of HT_.out (by kernel_rfl)) (by decide) (fun K hK => ?_)
      refine Kd.S_append_step k76 (w0 := w) w.heap.size (by rfl) (.tmp 30) (.tmp 39) 35 76 (.agg #[(.int .i64 0), (.int .i64 0), (.slice none 0 0)]) 40 rfl Tryz.underlying35 info76 rfl (by decide) (by omega) u211003 x211003_1 (⟨(rd_T69 l0_3 x4_1).f0, (rd_T69 l0_3 x4_1).f1, t213⟩ : S76) [.int .i64 ((rd_T69 l0_3 x4_1).f0), .int .i64 ((rd_T69 l0_3 x4_1).f1), .slice Ao35 t213.length co35] (fun k_ => some k_ ≠ (.slice Ao13 t207.length co13 : Value).ownBlock) (fun k_ => some k_ = (.slice Ao35 t213.length co35 : Value).ownBlock) rfl rfl ?aP (fun k_ hk_ => ((Kd.R_mono (ok' := fun k_ => ((fun k_ => some k_ ≠ (.slice Ao13 t207.length co13 : Value).ownBlock)) k_ ∧ some k_ ≠ (u211003 : Value).ownBlock) (Kd.R_apart' (HO215.out) (Kd.S_typed HO_211003.out) (by decide)) (fun k_ hk => ⟨hk.1.2, hk.2⟩))).1 k_ hk_.symm) ?aF ?aO ?aB ?aS ?aL ?_
      (case aP => exact k76_mkM _ _ _ (⟨(rd_T69 l0_3 x4_1).f0, (rd_T69 l0_3 x4_1).f1, t213⟩ : S76) (Kd.R_mono (Kd.R_tight rfl (Kd.R_mono (ok' := fun k_ => ((fun k_ => some k_ ≠ (.slice Ao13 t207.length co13 : Value).ownBlock)) k_ ∧ some k_ ≠ (u211003 : Value).ownBlock) (Kd.R_apart' (HO215.out) (Kd.S_typed HO_211003.out) (by decide)) (fun k_ hk => ⟨hk.1.2, hk.2⟩))) (fun _ h_ => h_)))
      (case aB => exact (by repeat (first | (with_reducible first | exact HB.out | apply pA_ | apply pN_ | apply pD_ | refine pS_ ?_ GE202.out | refine pS_ ?_ GE203.out | refine pS_ ?_ GE210.out | refine pS_ ?_ GE212.out) | exact HB.out)))
      (case aF => exact (fun k_ hk => Kd.fresh' (Kd.R_lt (by (with_reducible repeat (first | apply Kd.R_alloc | apply Kd.R_drewN | apply Kd.R_drew)); exact HO_211002.out)) k_ hk))
      (case aO => exact (by (with_reducible repeat (first | apply Kd.S_alloc | apply Kd.S_drewN | apply Kd.S_drew)); exact Kd.S_mono HO_211003.out (fun k_ hk => ⟨hk.1, fun e_ => hk.2 e_⟩)))
      (case aS => exact (pZ_ (by repeat (first | (with_reducible first | exact HB.out | apply pA_ | apply pN_ | apply pD_ | refine pS_ ?_ GE202.out | refine pS_ ?_ GE203.out | refine pS_ ?_ GE210.out | refine pS_ ?_ GE212.out) | exact HB.out))))
      (case aL => have := LMc23.out; omega)
      intro v217 w36 ho hb hg hat
      rw [← Ny216.out] at ho
      have n0_ := Am (Kd.R_over' (by (with_reducible repeat (first | apply Kd.R_alloc | apply Kd.R_drewN | apply Kd.R_drew)); exact HO_211000.out) (Kd.S_typed (by (with_reducible repeat (first | apply Kd.S_alloc | apply Kd.S_drewN | apply Kd.S_drew)); exact HO_211003.out)) (by decide) hg)
      have n1_ := Am (Kd.R_over' (by (with_reducible repeat (first | apply Kd.R_alloc | apply Kd.R_drewN | apply Kd.R_drew)); exact HO_211002.out) (Kd.S_typed (by (with_reducible repeat (first | apply Kd.S_alloc | apply Kd.S_drewN | apply Kd.S_drew)); exact HO_211003.out)) (by decide) hg)
      have n2_ := Am (blk_grown (g := gb202) (o := .cells #[.slice A0_0 l0_0.length c0_0, .int .i64 a0_1, .slice A0_2 l0_2.length c0_2, .slice (some ad211) l0_3.length c0_3, .slice A0_4 l0_4.length c0_4] 29 (0, 0)) (by (with_reducible repeat (first | refine bN_ ?_ _ | refine bD_ ?_ | refine bA_ ?_ _)); exact BK202.out) hg (Kd.S_ne HO_211003.out BK202.out (by decide)))
      have n3_ := Am (blk_grown (g := gb203) (o := .cells #[.slice none 0 0, .int .i64 0, .slice none 0 0, .slice none 0 0, .slice none 0 0] 38 (0, 0)) (by (with_reducible repeat (first | refine bN_ ?_ _ | refine bD_ ?_ | refine bA_ ?_ _)); exact BK203.out) hg (Kd.S_ne HO_211003.out BK203.out (by decide)))
      have n4_ := Am (blk_grown (g := gb210) (o := .cells #[.slice Ao14 t204.length co14, .int .i64 a0_1, .slice Ao13 t207.length co13, u211003, .slice none 0 0] 38 (0, 0)) (by (with_reducible repeat (first | refine bN_ ?_ _ | refine bD_ ?_ | refine bA_ ?_ _)); exact BK210.out) hg (Kd.S_ne HO_211003.out BK210.out (by decide)))
      have n5_ := Am (blk_grown (g := gb212) (o := .cells #[.int .i64 ((rd_T69 l0_3 x4_1).f0), .int .i64 ((rd_T69 l0_3 x4_1).f1), .slice A211_2 ((rd_T69 l0_3 x4_1).f2).length c211_2] 69 (0, 0)) (by (with_reducible repeat (first | refine bN_ ?_ _ | refine bD_ ?_ | refine bA_ ?_ _)); exact BK212.out) hg (Kd.S_ne HO_211003.out BK212.out (by decide)))
      have n6_ := Am (hb)
      have n7_ := Am (ho)
      clear HO_211000
      clear HO_211002
      clear BK202
      clear BK203
      clear BK210
      clear BK212
      clear HB
      clear HO_211003
      clear HO215
      have HO_211000 := n0_
      have HO_211002 := n1_
      have BK202 := n2_
      have BK203 := n3_
      have BK210 := n4_
      have BK212 := n5_
      have HB := n6_
      have HO218 := n7_
      clear n0_ n1_ n2_ n3_ n4_ n5_ n6_ n7_
      clear ho hb hg hat
      obtain ⟨Ao37, co37, eo37⟩ := Kd.S_slice HO218.out
      (first | subst eo37 | (injection eo37 with f1_ f2_ f3_; have f4_ := f1_.symm; have f5_ := f3_.symm; clear f1_ f2_ f3_; subst f4_; subst f5_))
      refine hK.out _ _ ⟨(bC_ BK210.out 0).trans rfl, (bC_ BK210.out 1).trans rfl, (bC_ BK210.out 2).trans rfl, (bC_ BK210.out 3).trans rfl, (bC_ BK210.out 4).trans rfl, (bC_ BK212.out 0).trans rfl, (bC_ BK212.out 1).trans rfl, (bC_ BK212.out 2).trans rfl⟩ (fun hHeld => ?_)
      clear hK K
      refine norm_ (a' := ?_) ?_ ?_
      rotate_left
      ·show Act.put _ (some 40) _ = _
       simp only [Act.put, List.setIfInBounds_toArray, List.set_cons_zero, List.set_cons_succ, i64_w, i32_w]
       rfl
      refine pure_ (i := 12) (N := some 41) (v := ?_) (a' := ?_) #[true, true, true, true, true, true, true, true, true, true, true, true, true, false] rfl rfl (any_of HT_.out (by kernel_rfl)) (fun _ _ _ h => h) (Or.inl ⟨by rfl, ?_⟩) ?_ ?_
      rotate_left
      ·intro w'
       go_simp
       with_reducible rfl
      rotate_left
      ·simp only [Act.put, List.setIfInBounds_toArray, List.set_cons_zero, List.set_cons_succ, i64_w, i32_w]
       rfl
      refine last_ (i := 13) (N := none) #[true, true, true, true, true, true, true, true, true, true, true, true, true, true] rfl rfl (one_of HT_.out (by kernel_rfl)) (by decide) (fun K hK => ?_)
      have hs38 : w36.cell? ⟨gb210, 3, none⟩ = some (u211003) := (bC_ BK210.out 3).trans rfl
      have hfs38 := bF_ BK210.out 3
      have hns38_0 := NB202_210.out
      have hns38_1 := NB203_210.out
      have hns38_3 := NB212_210.out
      have hms38_0 := NB210_202.out
      have hms38_1 := NB210_203.out
      have hms38_3 := NB210_212.out
      refine skip_ (w1 := ?_) (by rfl) rfl ?_ ?_
      rotate_left
      ·go_simp
       rfl
      refine hK.out _ _ ?_
      clear hK K
      refine done_ (done_of HT_.out (by kernel_rfl)) ?_
      try go_wp2
      go_roundg k1
      case measure => have := HK1.out; omega
      case rel => exact ⟨(wrap64 (x4_1 + 1)), (y216), (.slice Ao37 y216.length co37), (by first | rfl | (simp; done) | (simp [*]; done)), H', ⟨by have := HK1.out; omega⟩, ⟨by (with_reducible repeat (first | apply Kd.R_alloc | apply Kd.R_drewN | apply Kd.R_drew)); exact Kd.R_mono (Kd.R_far (p := ⟨gb210, 3, none⟩) (Kd.R_types HO_211000.out BK210.out (by decide)) (fun _ hk => hk.2) (.slice Ao37 y216.length co37)) (fun _ hk => trivial)⟩, ⟨by (with_reducible repeat (first | apply Kd.R_alloc | apply Kd.R_drewN | apply Kd.R_drew)); exact Kd.R_mono (Kd.R_far (p := ⟨gb210, 3, none⟩) (Kd.R_types HO_211002.out BK210.out (by decide)) (fun _ hk => hk.2) (.slice Ao37 y216.length co37)) (fun _ hk => trivial)⟩, ⟨by (with_reducible repeat (first | apply Kd.S_alloc | apply Kd.S_drewN | apply Kd.S_drew)); exact Kd.S_mono (Kd.S_far (p := ⟨gb210, 3, none⟩) (Kd.S_types HO218.out BK210.out (by decide)) (fun _ hk => hk.2) (.slice Ao37 y216.length co37)) (fun _ hk => hk.1)⟩, ⟨by (with_reducible repeat (first | refine bN_ ?_ _ | refine bD_ ?_ | refine bA_ ?_ _)); refine blk_far ?_ NB202_210.out _; (with_reducible repeat (first | refine bN_ ?_ _ | refine bD_ ?_ | refine bA_ ?_ _)); exact BK202.out⟩, ⟨by (with_reducible repeat (first | refine bN_ ?_ _ | refine bD_ ?_ | refine bA_ ?_ _)); refine blk_far ?_ NB203_210.out _; (with_reducible repeat (first | refine bN_ ?_ _ | refine bD_ ?_ | refine bA_ ?_ _)); exact BK203.out⟩, ⟨by (with_reducible repeat (first | refine bN_ ?_ _ | refine bD_ ?_ | refine bA_ ?_ _)); refine blk_put (cs := #[.slice Ao14 t204.length co14, .int .i64 a0_1, .slice Ao13 t207.length co13, u211003, .slice none 0 0]) ?_ 3 _ rfl; (with_reducible repeat (first | refine bN_ ?_ _ | refine bD_ ?_ | refine bA_ ?_ _)); exact BK210.out⟩, ⟨by repeat (first | (with_reducible first | exact HB.out | apply pA_ | apply pN_ | apply pD_ | refine pS_ ?_ GE202.out | refine pS_ ?_ GE203.out | refine pS_ ?_ GE210.out | refine pS_ ?_ GE212.out) | exact HB.out)⟩⟩
     ·rw [if_neg c23] at H
      exact absurd H (by simp)
    ·rw [if_neg c21] at H
     exact absurd H (by simp)
   ·rw [if_neg c20] at H
    have c20b0 : decide (x4_1 < (l0_3.length : Int)) = false := decide_eq_false c20
    clear c20
    have H' := Am H
    clear H
    have hnb39 := NB202_203.out
    have hnc39 := NB203_202.out
    have hnb40 := NB202_210.out
    have hnc40 := NB210_202.out
    have hcz41_0 : wr.cell? ⟨gb202, 0, none⟩ = some (.slice A0_0 l0_0.length c0_0) := (bC_ BK202.out 0).trans rfl
    have hcz41_1 : wr.cell? ⟨gb202, 1, none⟩ = some (.int .i64 a0_1) := (bC_ BK202.out 1).trans rfl
    have hcz41_2 : wr.cell? ⟨gb202, 2, none⟩ = some (.slice A0_2 l0_2.length c0_2) := (bC_ BK202.out 2).trans rfl
    have hcz41_3 : wr.cell? ⟨gb202, 3, none⟩ = some (.slice A0_3 l0_3.length c0_3) := (bC_ BK202.out 3).trans rfl
    have hcz41_4 : wr.cell? ⟨gb202, 4, none⟩ = some (.slice A0_4 l0_4.length c0_4) := (bC_ BK202.out 4).trans rfl
    have hfz41_0 := bF_ BK202.out 0
    have hfz41_1 := bF_ BK202.out 1
    have hfz41_2 := bF_ BK202.out 2
    have hfz41_3 := bF_ BK202.out 3
    have hfz41_4 := bF_ BK202.out 4
    go_wp2
    go_loopg [6] k1 (fun kq v6 w' => ∃ (x6_2 : Int) (x211004_2 : List (S75)) (u211004 : Value), v6 = .int .i64 x6_2 ∧ Aside0 (w6Log.l1 kq x6_2 l0_0 a0_1 l0_2 l0_3 l0_4 t204 a0_1 t207 x211003_1 x211004_2 = some (r1, r2, r3, r4, r5)) ∧ Aside0 (kq ≤ k1) ∧ Aside0 (Kd.R Kd.string 9 w' w.heap.size (fun _ => True) (.slice Ao14 t204.length co14) t204) ∧ Aside0 (Kd.R (Kd.int .i64) 3 w' w.heap.size (fun _ => True) (.slice Ao13 t207.length co13) t207) ∧ Aside0 (Kd.S k76 76 w' w.heap.size (fun k_ => some k_ ≠ ((.slice Ao13 t207.length co13) : Value).ownBlock) u211003 x211003_1) ∧ Aside0 (Kd.R k75 75 w' w.heap.size (fun _ => True) u211004 x211004_2) ∧ Aside0 (w'.heap[gb202]? = some (.cells #[(.slice A0_0 l0_0.length c0_0), .int .i64 a0_1, (.slice A0_2 l0_2.length c0_2), (.slice A0_3 l0_3.length c0_3), (.slice A0_4 l0_4.length c0_4)] 29 (0, 0))) ∧ Aside0 (w'.heap[gb203]? = some (.cells #[(.slice none 0 0), .int .i64 0, (.slice none 0 0), (.slice none 0 0), (.slice none 0 0)] 38 (0, 0))) ∧ Aside0 (w'.heap[gb210]? = some (.cells #[(.slice Ao14 t204.length co14), .int .i64 a0_1, (.slice Ao13 t207.length co13), u211003, u211004] 38 (0, 0))) ∧ Aside0 (Below w.heap.size w w'))
    case atStart => exact ⟨(0), (([] : List (S75))), (.slice none 0 0), (by first | rfl | (simp; done) | (simp [*]; done)), H', ⟨Nat.le_refl _⟩, ⟨by (with_reducible repeat (first | apply Kd.R_alloc | apply Kd.R_drewN | apply Kd.R_drew)); exact HO_211000.out⟩, ⟨by (with_reducible repeat (first | apply Kd.R_alloc | apply Kd.R_drewN | apply Kd.R_drew)); exact HO_211002.out⟩, ⟨by (with_reducible repeat (first | apply Kd.S_alloc | apply Kd.S_drewN | apply Kd.S_drew)); exact HO_211003.out⟩, ⟨by first | exact Kd.R_nil _ _ _ _ _ | exact Kd.N_nil _ _ _ _ _ | exact Kd.V_nil _ _ _ _ _ | exact Kd.Q_nil _ _ _ _ _ | exact Kd.S_nil _ _ _ _ _⟩, ⟨by (with_reducible repeat (first | refine bN_ ?_ _ | refine bD_ ?_ | refine bA_ ?_ _)); exact BK202.out⟩, ⟨by (with_reducible repeat (first | refine bN_ ?_ _ | refine bD_ ?_ | refine bA_ ?_ _)); exact BK203.out⟩, ⟨by (with_reducible repeat (first | refine bN_ ?_ _ | refine bD_ ?_ | refine bA_ ?_ _)); exact BK210.out⟩, ⟨by repeat (first | (with_reducible first | exact HB.out | apply pA_ | apply pN_ | apply pD_ | refine pS_ ?_ GE202.out | refine pS_ ?_ GE203.out | refine pS_ ?_ GE210.out) | exact HB.out)⟩⟩
    case round =>
     clear H'
     try clear c2
     try clear p2
     try clear q2
     try clear hx2
     try clear c3
     try clear c4
     try clear c6
     try clear p6
     try clear c20
     try clear c20b0
     try clear c21
     try clear c21b0
     try clear p21
     try clear q21
     try clear hx21
     try clear c23
     try clear c24
     try clear c25
     try clear c28
     try clear c29
     try clear c30
     try clear c39
     try clear c40
     try clear hcz26_0
     try clear hcz26_1
     try clear hcz26_2
     try clear hcz26_3
     try clear hcz26_4
     try clear hcz31_0
     try clear hcz31_1
     try clear hcz31_2
     try clear hcz41_0
     try clear hcz41_1
     try clear hcz41_2
     try clear hcz41_3
     try clear hcz41_4
     try clear hfz26_0
     try clear hfz26_1
     try clear hfz26_2
     try clear hfz26_3
     try clear hfz26_4
     try clear hfz31_0
     try clear hfz31_1
     try clear hfz31_2
     try clear hfz41_0
     try clear hfz41_1
     try clear hfz41_2
     try clear hfz41_3
     try clear hfz41_4
     try clear hx211_0
     try clear hx211_1
     try clear hx211_2
     try clear p2
     try clear p211
     try clear q211
     obtain ⟨x6_2, x211004_2, u211004, rfl, HA, HK2, HO_211000, HO_211002, HO_211003, HO_211004, BK202, BK203, BK210, HB⟩ := hrel
     cases gk with
     | zero => exact absurd HA.out (by simp [w6Log.l1])
     | succ k2 =>
      have H := HA.out
      clear HA
      simp only [w6Log.l1] at H
      by_cases c42 : x6_2 < (l0_4.length : Int)
      ·rw [if_pos c42] at H
       have c42b0 : decide (x6_2 < (l0_4.length : Int)) = true := decide_eq_true c42
       clear c42
       by_cases c43 : 0 ≤ x6_2
       ·rw [if_pos c43] at H
        have c43b0 : decide (0 ≤ x6_2) = true := decide_eq_true c43
        clear c43
        by_cases c44 : x211004_2.length < 4398046511104
        ·rw [if_pos c44] at H
         have LMc44 := Am c44
         clear c44
         obtain ⟨y221, hy221⟩ : ∃ y_ : List (S75), y_ = (x211004_2 ++ [(⟨(rd_T61 l0_4 x6_2).f0, (rd_T61 l0_4 x6_2).f1, (rd_T61 l0_4 x6_2).f2⟩ : S75)]) := ⟨_, rfl⟩
         replace H : (w6Log.l1 k2 (wrap64 (x6_2 + 1)) l0_0 a0_1 l0_2 l0_3 l0_4 t204 a0_1 t207 x211003_1 y221) = some (r1, r2, r3, r4, r5) := by first | (rw [hy221]; with_reducible exact H) | (have H2_ := (Option.bind_some _ _).symm.trans H; rw [hy221]; with_reducible exact H2_) | (have H2_ := (Option.bind_some _ _).symm.trans H; with_reducible exact H2_) | with_reducible exact H | (rw [hy221]; exact H) | exact H
         have Ny221 := Am hy221
         clear hy221
         have H' := Am H
         clear H
         have hnb45 := NB202_203.out
         have hnc45 := NB203_202.out
         have hnb46 := NB202_210.out
         have hnc46 := NB210_202.out
         have hcz47_0 : wr.cell? ⟨gb202, 0, none⟩ = some (.slice A0_0 l0_0.length c0_0) := (bC_ BK202.out 0).trans rfl
         have hcz47_1 : wr.cell? ⟨gb202, 1, none⟩ = some (.int .i64 a0_1) := (bC_ BK202.out 1).trans rfl
         have hcz47_2 : wr.cell? ⟨gb202, 2, none⟩ = some (.slice A0_2 l0_2.length c0_2) := (bC_ BK202.out 2).trans rfl
         have hcz47_3 : wr.cell? ⟨gb202, 3, none⟩ = some (.slice A0_3 l0_3.length c0_3) := (bC_ BK202.out 3).trans rfl
         have hcz47_4 : wr.cell? ⟨gb202, 4, none⟩ = some (.slice A0_4 l0_4.length c0_4) := (bC_ BK202.out 4).trans rfl
         have hfz47_0 := bF_ BK202.out 0
         have hfz47_1 := bF_ BK202.out 1
         have hfz47_2 := bF_ BK202.out 2
         have hfz47_3 := bF_ BK202.out 3
         have hfz47_4 := bF_ BK202.out 4
         have p219 : 0 ≤ (x6_2 : Int) := of_decide_eq_true (by first | (with_reducible assumption) | assumption)
         have q219 : x6_2 < (l0_4.length : Int) := of_decide_eq_true (by first | (with_reducible assumption) | assumption)
         obtain ⟨ad219, e219, hx219_0, hx219_1, hx219_2⟩ := at_T61 HR0_4.out x6_2 p219 q219
         cases e219
         replace hx219_0 := (HB.out.cell (World.block_lt_of_cell? w _ hx219_0)).trans hx219_0
         replace hx219_1 := (HB.out.cell (World.block_lt_of_cell? w _ hx219_1)).trans hx219_1
         replace hx219_2 := (HB.out.cell (World.block_lt_of_cell? w _ hx219_2)).trans hx219_2
         replace p219 := eq_true p219
         replace q219 := eq_true q219
         go_wp2_with (first | ((with_reducible refine gate_dst (N := 7) rfl ?_); refine box_event ?hg (N := 7) ?hd (cs := #[.int .i64 0, .int .i64 0, .string (⟨#[]⟩ : ByteArray)]) (t := 61) ?hr ?_; (case hd => rfl); (case hg => rfl); (case hr => first | (go_simp; done) | (go_simp; rfl)); intro gb220 hg w48 hbox hb; have n0_ := Am (Kd.R_below (by (with_reducible repeat (first | apply Kd.R_alloc | apply Kd.R_drewN | apply Kd.R_drew)); exact HO_211000.out) hb); have n1_ := Am (Kd.R_below (by (with_reducible repeat (first | apply Kd.R_alloc | apply Kd.R_drewN | apply Kd.R_drew)); exact HO_211002.out) hb); have n2_ := Am (Kd.S_below (by (with_reducible repeat (first | apply Kd.S_alloc | apply Kd.S_drewN | apply Kd.S_drew)); exact HO_211003.out) hb); have n3_ := Am (Kd.R_below (by (with_reducible repeat (first | apply Kd.R_alloc | apply Kd.R_drewN | apply Kd.R_drew)); exact HO_211004.out) hb); have n4_ := Am (blk_below (g := gb202) (o := .cells #[.slice A0_0 l0_0.length c0_0, .int .i64 a0_1, .slice A0_2 l0_2.length c0_2, .slice A0_3 l0_3.length c0_3, .slice (some ad219) l0_4.length c0_4] 29 (0, 0)) (by (with_reducible repeat (first | refine bN_ ?_ _ | refine bD_ ?_ | refine bA_ ?_ _)); exact BK202.out) hb); have n5_ := Am (blk_below (g := gb203) (o := .cells #[.slice none 0 0, .int .i64 0, .slice none 0 0, .slice none 0 0, .slice none 0 0] 38 (0, 0)) (by (with_reducible repeat (first | refine bN_ ?_ _ | refine bD_ ?_ | refine bA_ ?_ _)); exact BK203.out) hb); have n6_ := Am (blk_below (g := gb210) (o := .cells #[.slice Ao14 t204.length co14, .int .i64 a0_1, .slice Ao13 t207.length co13, u211003, u211004] 38 (0, 0)) (by (with_reducible repeat (first | refine bN_ ?_ _ | refine bD_ ?_ | refine bA_ ?_ _)); exact BK210.out) hb); have n7_ := Am (pT_ (by repeat (first | (with_reducible first | exact HB.out | apply pA_ | apply pN_ | apply pD_ | refine pS_ ?_ GE202.out | refine pS_ ?_ GE203.out | refine pS_ ?_ GE210.out) | exact HB.out)) hb); have n8_ := Am (hbox); have n9_ := Am ((by rw [hg]; exact (pZ_ (by repeat (first | (with_reducible first | exact HB.out | apply pA_ | apply pN_ | apply pD_ | refine pS_ ?_ GE202.out | refine pS_ ?_ GE203.out | refine pS_ ?_ GE210.out) | exact HB.out))) : w.heap.size ≤ gb220)); have n10_ := Am ((by rw [hg]; exact (pZ_ (by repeat (first | (with_reducible first | exact HB.out | apply pA_ | apply pN_ | apply pD_ | refine pS_ ?_ GE202.out | refine pS_ ?_ GE203.out | refine pS_ ?_ GE210.out) | exact HB.out))) : w.heap.size ≤ gb220)); have n11_ := Am ((by rw [hg]; exact Nat.ne_of_lt (blk_lt (g := gb202) (o := .cells #[.slice A0_0 l0_0.length c0_0, .int .i64 a0_1, .slice A0_2 l0_2.length c0_2, .slice A0_3 l0_3.length c0_3, .slice (some ad219) l0_4.length c0_4] 29 (0, 0)) (by (with_reducible repeat (first | refine bN_ ?_ _ | refine bD_ ?_ | refine bA_ ?_ _)); exact BK202.out)) : gb202 ≠ gb220)); have n12_ := Am ((by rw [hg]; exact Nat.ne_of_gt (blk_lt (g := gb202) (o := .cells #[.slice A0_0 l0_0.length c0_0, .int .i64 a0_1, .slice A0_2 l0_2.length c0_2, .slice A0_3 l0_3.length c0_3, .slice (some ad219) l0_4.length c0_4] 29 (0, 0)) (by (with_reducible repeat (first | refine bN_ ?_ _ | refine bD_ ?_ | refine bA_ ?_ _)); exact BK202.out)) : gb220 ≠ gb202)); have n13_ := Am ((by rw [hg]; exact Nat.ne_of_lt (blk_lt (g := gb203) (o := .cells #[.slice none 0 0, .int .i64 0, .slice none 0 0, .slice none 0 0, .slice none 0 0] 38 (0, 0)) (by (with_reducible repeat (first | refine bN_ ?_ _ | refine bD_ ?_ | refine bA_ ?_ _)); exact BK203.out)) : gb203 ≠ gb220)); have n14_ := Am ((by rw [hg]; exact Nat.ne_of_gt (blk_lt (g := gb203) (o := .cells #[.slice none 0 0, .int .i64 0, .slice none 0 0, .slice none 0 0, .slice none 0 0] 38 (0, 0)) (by (with_reducible repeat (first | refine bN_ ?_ _ | refine bD_ ?_ | refine bA_ ?_ _)); exact BK203.out)) : gb220 ≠ gb203)); have n15_ := Am ((by rw [hg]; exact Nat.ne_of_lt (blk_lt (g := gb210) (o := .cells #[.slice Ao14 t204.length co14, .int .i64 a0_1, .slice Ao13 t207.length co13, u211003, u211004] 38 (0, 0)) (by (with_reducible repeat (first | refine bN_ ?_ _ | refine bD_ ?_ | refine bA_ ?_ _)); exact BK210.out)) : gb210 ≠ gb220)); have n16_ := Am ((by rw [hg]; exact Nat.ne_of_gt (blk_lt (g := gb210) (o := .cells #[.slice Ao14 t204.length co14, .int .i64 a0_1, .slice Ao13 t207.length co13, u211003, u211004] 38 (0, 0)) (by (with_reducible repeat (first | refine bN_ ?_ _ | refine bD_ ?_ | refine bA_ ?_ _)); exact BK210.out)) : gb220 ≠ gb210)); clear HO_211000; clear HO_211002; clear HO_211003; clear HO_211004; clear BK202; clear BK203; clear BK210; clear HB; have HO_211000 := n0_; have HO_211002 := n1_; have HO_211003 := n2_; have HO_211004 := n3_; have BK202 := n4_; have BK203 := n5_; have BK210 := n6_; have HB := n7_; have BK220 := n8_; have GW220 := n9_; have GE220 := n10_; have NB202_220 := n11_; have NB220_202 := n12_; have NB203_220 := n13_; have NB220_203 := n14_; have NB210_220 := n15_; have NB220_210 := n16_; clear n0_ n1_ n2_ n3_ n4_ n5_ n6_ n7_ n8_ n9_ n10_ n11_ n12_ n13_ n14_ n15_ n16_; clear hb hbox hg; have hnb49 := NB220_202.out; have hnc49 := NB202_220.out; have hnb50 := NB220_203.out; have hnc50 := NB203_220.out; have hnb51 := NB220_210.out; have hnc51 := NB210_220.out; have hcz52_0 : w48.cell? ⟨gb220, 0, none⟩ = some (.int .i64 0) := (bC_ BK220.out 0).trans rfl; have hcz52_1 : w48.cell? ⟨gb220, 1, none⟩ = some (.int .i64 0) := (bC_ BK220.out 1).trans rfl; have hcz52_2 : w48.cell? ⟨gb220, 2, none⟩ = some (.string (⟨#[]⟩ : ByteArray)) := (bC_ BK220.out 2).trans rfl; have hfz52_0 := bF_ BK220.out 0; have hfz52_1 := bF_ BK220.out 1; have hfz52_2 := bF_ BK220.out 2; have hnb53 := NB210_203.out; have hnc53 := NB203_210.out; have hcz54_0 : w48.cell? ⟨gb210, 0, none⟩ = some (.slice Ao14 t204.length co14) := (bC_ BK210.out 0).trans rfl; have hcz54_1 : w48.cell? ⟨gb210, 1, none⟩ = some (.int .i64 a0_1) := (bC_ BK210.out 1).trans rfl; have hcz54_2 : w48.cell? ⟨gb210, 2, none⟩ = some (.slice Ao13 t207.length co13) := (bC_ BK210.out 2).trans rfl; have hcz54_3 : w48.cell? ⟨gb210, 3, none⟩ = some (u211003) := (bC_ BK210.out 3).trans rfl; have hcz54_4 : w48.cell? ⟨gb210, 4, none⟩ = some (u211004) := (bC_ BK210.out 4).trans rfl; have hfz54_0 := bF_ BK210.out 0; have hfz54_1 := bF_ BK210.out 1; have hfz54_2 := bF_ BK210.out 2; have hfz54_3 := bF_ BK210.out 3; have hfz54_4 := bF_ BK210.out 4) | ((with_reducible refine gate_builtin (b := .append) (xs := #[.tmp 55, .tmp 63]) rfl ?_); at_builtin; refine Kd.R_append k75 (w0 := w) w.heap.size rfl (.tmp 55) (.tmp 63) 36 75 (.agg #[(.int .i64 0), (.int .i64 0), (.string ⟨#[]⟩)]) 32 rfl Tryz.underlying36 info75 rfl (by decide) (by omega) u211004 x211004_2 (⟨(rd_T61 l0_4 x6_2).f0, (rd_T61 l0_4 x6_2).f1, (rd_T61 l0_4 x6_2).f2⟩ : S75) [.int .i64 ((rd_T61 l0_4 x6_2).f0), .int .i64 ((rd_T61 l0_4 x6_2).f1), .string ((rd_T61 l0_4 x6_2).f2)] (fun _ => True) (fun _ => False) rfl (by first | (go_simp; done) | (go_simp; rfl)) ?aP (fun _ hk => hk.elim) ?aF ?aO ?aB ?aS ?aL ?_; (case aP => exact k75_mkM _ _ _ (⟨(rd_T61 l0_4 x6_2).f0, (rd_T61 l0_4 x6_2).f1, (rd_T61 l0_4 x6_2).f2⟩ : S75)); (case aB => exact (by repeat (first | (with_reducible first | exact HB.out | apply pA_ | apply pN_ | apply pD_ | refine pS_ ?_ GE202.out | refine pS_ ?_ GE203.out | refine pS_ ?_ GE210.out | refine pS_ ?_ GE220.out) | exact HB.out))); (case aF => exact (fun _ _ => trivial)); (case aO => exact (by (with_reducible repeat (first | apply Kd.R_alloc | apply Kd.R_drewN | apply Kd.R_drew)); exact Kd.R_mono (Kd.R_far (p := ⟨gb220, 2, none⟩) (Kd.R_far (p := ⟨gb220, 1, none⟩) (Kd.R_far (p := ⟨gb220, 0, none⟩) (Kd.R_types HO_211004.out BK220.out (by decide)) (fun _ hk => hk.2) (.int .i64 ((rd_T61 l0_4 x6_2).f0))) (fun _ hk => hk.2) (.int .i64 ((rd_T61 l0_4 x6_2).f1))) (fun _ hk => hk.2) (.string ((rd_T61 l0_4 x6_2).f2))) (fun _ hk => trivial))); (case aS => exact (pZ_ (by repeat (first | (with_reducible first | exact HB.out | apply pA_ | apply pN_ | apply pD_ | refine pS_ ?_ GE202.out | refine pS_ ?_ GE203.out | refine pS_ ?_ GE210.out | refine pS_ ?_ GE220.out) | exact HB.out)))); (case aL => have := LMc44.out; omega); intro v222 w55 ho hb hg hat; rw [← Ny221.out] at ho; have n0_ := Am (Kd.R_over' (by (with_reducible repeat (first | apply Kd.R_alloc | apply Kd.R_drewN | apply Kd.R_drew)); exact (Kd.R_mono (Kd.R_far (p := ⟨gb220, 2, none⟩) (Kd.R_far (p := ⟨gb220, 1, none⟩) (Kd.R_far (p := ⟨gb220, 0, none⟩) (Kd.R_types HO_211000.out BK220.out (by decide)) (fun _ hk => hk.2) (.int .i64 ((rd_T61 l0_4 x6_2).f0))) (fun _ hk => hk.2) (.int .i64 ((rd_T61 l0_4 x6_2).f1))) (fun _ hk => hk.2) (.string ((rd_T61 l0_4 x6_2).f2))) (fun _ h_ => h_.1))) (Kd.R_typed (by (with_reducible repeat (first | apply Kd.R_alloc | apply Kd.R_drewN | apply Kd.R_drew)); exact (Kd.R_mono (Kd.R_far (p := ⟨gb220, 2, none⟩) (Kd.R_far (p := ⟨gb220, 1, none⟩) (Kd.R_far (p := ⟨gb220, 0, none⟩) (Kd.R_types HO_211004.out BK220.out (by decide)) (fun _ hk => hk.2) (.int .i64 ((rd_T61 l0_4 x6_2).f0))) (fun _ hk => hk.2) (.int .i64 ((rd_T61 l0_4 x6_2).f1))) (fun _ hk => hk.2) (.string ((rd_T61 l0_4 x6_2).f2))) (fun _ h_ => h_.1)))) (by decide) hg); have n1_ := Am (Kd.R_over' (by (with_reducible repeat (first | apply Kd.R_alloc | apply Kd.R_drewN | apply Kd.R_drew)); exact (Kd.R_mono (Kd.R_far (p := ⟨gb220, 2, none⟩) (Kd.R_far (p := ⟨gb220, 1, none⟩) (Kd.R_far (p := ⟨gb220, 0, none⟩) (Kd.R_types HO_211002.out BK220.out (by decide)) (fun _ hk => hk.2) (.int .i64 ((rd_T61 l0_4 x6_2).f0))) (fun _ hk => hk.2) (.int .i64 ((rd_T61 l0_4 x6_2).f1))) (fun _ hk => hk.2) (.string ((rd_T61 l0_4 x6_2).f2))) (fun _ h_ => h_.1))) (Kd.R_typed (by (with_reducible repeat (first | apply Kd.R_alloc | apply Kd.R_drewN | apply Kd.R_drew)); exact (Kd.R_mono (Kd.R_far (p := ⟨gb220, 2, none⟩) (Kd.R_far (p := ⟨gb220, 1, none⟩) (Kd.R_far (p := ⟨gb220, 0, none⟩) (Kd.R_types HO_211004.out BK220.out (by decide)) (fun _ hk => hk.2) (.int .i64 ((rd_T61 l0_4 x6_2).f0))) (fun _ hk => hk.2) (.int .i64 ((rd_T61 l0_4 x6_2).f1))) (fun _ hk => hk.2) (.string ((rd_T61 l0_4 x6_2).f2))) (fun _ h_ => h_.1)))) (by decide) hg); have n2_ := Am (Kd.S_over' (by (with_reducible repeat (first | apply Kd.S_alloc | apply Kd.S_drewN | apply Kd.S_drew)); exact (Kd.S_mono (Kd.S_far (p := ⟨gb220, 2, none⟩) (Kd.S_far (p := ⟨gb220, 1, none⟩) (Kd.S_far (p := ⟨gb220, 0, none⟩) (Kd.S_types HO_211003.out BK220.out (by decide)) (fun _ hk => hk.2) (.int .i64 ((rd_T61 l0_4 x6_2).f0))) (fun _ hk => hk.2) (.int .i64 ((rd_T61 l0_4 x6_2).f1))) (fun _ hk => hk.2) (.string ((rd_T61 l0_4 x6_2).f2))) (fun _ h_ => h_.1))) (Kd.R_typed (by (with_reducible repeat (first | apply Kd.R_alloc | apply Kd.R_drewN | apply Kd.R_drew)); exact (Kd.R_mono (Kd.R_far (p := ⟨gb220, 2, none⟩) (Kd.R_far (p := ⟨gb220, 1, none⟩) (Kd.R_far (p := ⟨gb220, 0, none⟩) (Kd.R_types HO_211004.out BK220.out (by decide)) (fun _ hk => hk.2) (.int .i64 ((rd_T61 l0_4 x6_2).f0))) (fun _ hk => hk.2) (.int .i64 ((rd_T61 l0_4 x6_2).f1))) (fun _ hk => hk.2) (.string ((rd_T61 l0_4 x6_2).f2))) (fun _ h_ => h_.1)))) (by decide) hg); have n3_ := Am (blk_grown (g := gb202) (o := .cells #[.slice A0_0 l0_0.length c0_0, .int .i64 a0_1, .slice A0_2 l0_2.length c0_2, .slice A0_3 l0_3.length c0_3, .slice (some ad219) l0_4.length c0_4] 29 (0, 0)) (by (with_reducible repeat (first | refine bN_ ?_ _ | refine bD_ ?_ | refine bA_ ?_ _)); refine blk_far ?_ NB202_220.out _; (with_reducible repeat (first | refine bN_ ?_ _ | refine bD_ ?_ | refine bA_ ?_ _)); refine blk_far ?_ NB202_220.out _; (with_reducible repeat (first | refine bN_ ?_ _ | refine bD_ ?_ | refine bA_ ?_ _)); refine blk_far ?_ NB202_220.out _; (with_reducible repeat (first | refine bN_ ?_ _ | refine bD_ ?_ | refine bA_ ?_ _)); exact BK202.out) hg (Kd.R_ne HO_211004.out BK202.out (by decide))); have n4_ := Am (blk_grown (g := gb203) (o := .cells #[.slice none 0 0, .int .i64 0, .slice none 0 0, .slice none 0 0, .slice none 0 0] 38 (0, 0)) (by (with_reducible repeat (first | refine bN_ ?_ _ | refine bD_ ?_ | refine bA_ ?_ _)); refine blk_far ?_ NB203_220.out _; (with_reducible repeat (first | refine bN_ ?_ _ | refine bD_ ?_ | refine bA_ ?_ _)); refine blk_far ?_ NB203_220.out _; (with_reducible repeat (first | refine bN_ ?_ _ | refine bD_ ?_ | refine bA_ ?_ _)); refine blk_far ?_ NB203_220.out _; (with_reducible repeat (first | refine bN_ ?_ _ | refine bD_ ?_ | refine bA_ ?_ _)); exact BK203.out) hg (Kd.R_ne HO_211004.out BK203.out (by decide))); have n5_ := Am (blk_grown (g := gb210) (o := .cells #[.slice Ao14 t204.length co14, .int .i64 a0_1, .slice Ao13 t207.length co13, u211003, u211004] 38 (0, 0)) (by (with_reducible repeat (first | refine bN_ ?_ _ | refine bD_ ?_ | refine bA_ ?_ _)); refine blk_far ?_ NB210_220.out _; (with_reducible repeat (first | refine bN_ ?_ _ | refine bD_ ?_ | refine bA_ ?_ _)); refine blk_far ?_ NB210_220.out _; (with_reducible repeat (first | refine bN_ ?_ _ | refine bD_ ?_ | refine bA_ ?_ _)); refine blk_far ?_ NB210_220.out _; (with_reducible repeat (first | refine bN_ ?_ _ | refine bD_ ?_ | refine bA_ ?_ _)); exact BK210.out) hg (Kd.R_ne HO_211004.out BK210.out (by decide))); have n6_ := Am (blk_grown (g := gb220) (o := .cells #[.int .i64 ((rd_T61 l0_4 x6_2).f0), .int .i64 ((rd_T61 l0_4 x6_2).f1), .string ((rd_T61 l0_4 x6_2).f2)] 61 (0, 0)) (by (with_reducible repeat (first | refine bN_ ?_ _ | refine bD_ ?_ | refine bA_ ?_ _)); refine blk_put (cs := #[.int .i64 ((rd_T61 l0_4 x6_2).f0), .int .i64 ((rd_T61 l0_4 x6_2).f1), .string (⟨#[]⟩ : ByteArray)]) ?_ 2 _ rfl; (with_reducible repeat (first | refine bN_ ?_ _ | refine bD_ ?_ | refine bA_ ?_ _)); refine blk_put (cs := #[.int .i64 ((rd_T61 l0_4 x6_2).f0), .int .i64 0, .string (⟨#[]⟩ : ByteArray)]) ?_ 1 _ rfl; (with_reducible repeat (first | refine bN_ ?_ _ | refine bD_ ?_ | refine bA_ ?_ _)); refine blk_put (cs := #[.int .i64 0, .int .i64 0, .string (⟨#[]⟩ : ByteArray)]) ?_ 0 _ rfl; (with_reducible repeat (first | refine bN_ ?_ _ | refine bD_ ?_ | refine bA_ ?_ _)); exact BK220.out) hg (Kd.R_ne HO_211004.out BK220.out (by decide))); have n7_ := Am (hb); have n8_ := Am (ho); clear HO_211000; clear HO_211002; clear HO_211003; clear BK202; clear BK203; clear BK210; clear BK220; clear HB; clear HO_211004; have HO_211000 := n0_; have HO_211002 := n1_; have HO_211003 := n2_; have BK202 := n3_; have BK203 := n4_; have BK210 := n5_; have BK220 := n6_; have HB := n7_; have HO223 := n8_; clear n0_ n1_ n2_ n3_ n4_ n5_ n6_ n7_ n8_; clear ho hb hg hat; obtain ⟨Ao56, co56, eo56⟩ := Kd.R_slice HO223.out; subst eo56; have hcz57_0 : w55.cell? ⟨gb210, 0, none⟩ = some (.slice Ao14 t204.length co14) := (bC_ BK210.out 0).trans rfl; have hcz57_1 : w55.cell? ⟨gb210, 1, none⟩ = some (.int .i64 a0_1) := (bC_ BK210.out 1).trans rfl; have hcz57_2 : w55.cell? ⟨gb210, 2, none⟩ = some (.slice Ao13 t207.length co13) := (bC_ BK210.out 2).trans rfl; have hcz57_3 : w55.cell? ⟨gb210, 3, none⟩ = some (u211003) := (bC_ BK210.out 3).trans rfl; have hcz57_4 : w55.cell? ⟨gb210, 4, none⟩ = some (u211004) := (bC_ BK210.out 4).trans rfl; have hfz57_0 := bF_ BK210.out 0; have hfz57_1 := bF_ BK210.out 1; have hfz57_2 := bF_ BK210.out 2; have hfz57_3 := bF_ BK210.out 3; have hfz57_4 := bF_ BK210.out 4))
         go_roundg k2
         case measure => have := HK1.out; have := HK2.out; omega
         case rel => exact ⟨(wrap64 (x6_2 + 1)), (y221), (.slice Ao56 y221.length co56), (by first | rfl | (simp; done) | (simp [*]; done)), H', ⟨by have := HK1.out; have := HK2.out; omega⟩, ⟨by (with_reducible repeat (first | apply Kd.R_alloc | apply Kd.R_drewN | apply Kd.R_drew)); exact Kd.R_mono (Kd.R_far (p := ⟨gb210, 4, none⟩) (Kd.R_types HO_211000.out BK210.out (by decide)) (fun _ hk => hk.2) (.slice Ao56 y221.length co56)) (fun _ hk => trivial)⟩, ⟨by (with_reducible repeat (first | apply Kd.R_alloc | apply Kd.R_drewN | apply Kd.R_drew)); exact Kd.R_mono (Kd.R_far (p := ⟨gb210, 4, none⟩) (Kd.R_types HO_211002.out BK210.out (by decide)) (fun _ hk => hk.2) (.slice Ao56 y221.length co56)) (fun _ hk => trivial)⟩, ⟨by (with_reducible repeat (first | apply Kd.S_alloc | apply Kd.S_drewN | apply Kd.S_drew)); exact Kd.S_mono (Kd.S_far (p := ⟨gb210, 4, none⟩) (Kd.S_types HO_211003.out BK210.out (by decide)) (fun _ hk => hk.2) (.slice Ao56 y221.length co56)) (fun _ hk => hk.1)⟩, ⟨by (with_reducible repeat (first | apply Kd.R_alloc | apply Kd.R_drewN | apply Kd.R_drew)); exact Kd.R_mono (Kd.R_far (p := ⟨gb210, 4, none⟩) (Kd.R_types HO223.out BK210.out (by decide)) (fun _ hk => hk.2) (.slice Ao56 y221.length co56)) (fun _ hk => trivial)⟩, ⟨by (with_reducible repeat (first | refine bN_ ?_ _ | refine bD_ ?_ | refine bA_ ?_ _)); refine blk_far ?_ NB202_210.out _; (with_reducible repeat (first | refine bN_ ?_ _ | refine bD_ ?_ | refine bA_ ?_ _)); exact BK202.out⟩, ⟨by (with_reducible repeat (first | refine bN_ ?_ _ | refine bD_ ?_ | refine bA_ ?_ _)); refine blk_far ?_ NB203_210.out _; (with_reducible repeat (first | refine bN_ ?_ _ | refine bD_ ?_ | refine bA_ ?_ _)); exact BK203.out⟩, ⟨by (with_reducible repeat (first | refine bN_ ?_ _ | refine bD_ ?_ | refine bA_ ?_ _)); refine blk_put (cs := #[.slice Ao14 t204.length co14, .int .i64 a0_1, .slice Ao13 t207.length co13, u211003, u211004]) ?_ 4 _ rfl; (with_reducible repeat (first | refine bN_ ?_ _ | refine bD_ ?_ | refine bA_ ?_ _)); exact BK210.out⟩, ⟨by repeat (first | (with_reducible first | exact HB.out | apply pA_ | apply pN_ | apply pD_ | refine pS_ ?_ GE202.out | refine pS_ ?_ GE203.out | refine pS_ ?_ GE210.out | refine pS_ ?_ GE220.out) | exact HB.out)⟩⟩
        ·rw [if_neg c44] at H
         exact absurd H (by simp)
       ·rw [if_neg c43] at H
        exact absurd H (by simp)
      ·rw [if_neg c42] at H
       have c42b0 : decide (x6_2 < (l0_4.length : Int)) = false := decide_eq_false c42
       clear c42
       simp only [Option.some.injEq, Prod.mk.injEq] at H
       obtain ⟨rfl, rfl, rfl, rfl, rfl⟩ := H
       have hnb58 := NB202_203.out
       have hnc58 := NB203_202.out
       have hnb59 := NB202_210.out
       have hnc59 := NB210_202.out
       have hcz60_0 : wr.cell? ⟨gb202, 0, none⟩ = some (.slice A0_0 l0_0.length c0_0) := (bC_ BK202.out 0).trans rfl
       have hcz60_1 : wr.cell? ⟨gb202, 1, none⟩ = some (.int .i64 a0_1) := (bC_ BK202.out 1).trans rfl
       have hcz60_2 : wr.cell? ⟨gb202, 2, none⟩ = some (.slice A0_2 l0_2.length c0_2) := (bC_ BK202.out 2).trans rfl
       have hcz60_3 : wr.cell? ⟨gb202, 3, none⟩ = some (.slice A0_3 l0_3.length c0_3) := (bC_ BK202.out 3).trans rfl
       have hcz60_4 : wr.cell? ⟨gb202, 4, none⟩ = some (.slice A0_4 l0_4.length c0_4) := (bC_ BK202.out 4).trans rfl
       have hfz60_0 := bF_ BK202.out 0
       have hfz60_1 := bF_ BK202.out 1
       have hfz60_2 := bF_ BK202.out 2
       have hfz60_3 := bF_ BK202.out 3
       have hfz60_4 := bF_ BK202.out 4
       have hnb61 := NB210_203.out
       have hnc61 := NB203_210.out
       have hcz62_0 : wr.cell? ⟨gb210, 0, none⟩ = some (.slice Ao14 t204.length co14) := (bC_ BK210.out 0).trans rfl
       have hcz62_1 : wr.cell? ⟨gb210, 1, none⟩ = some (.int .i64 a0_1) := (bC_ BK210.out 1).trans rfl
       have hcz62_2 : wr.cell? ⟨gb210, 2, none⟩ = some (.slice Ao13 t207.length co13) := (bC_ BK210.out 2).trans rfl
       have hcz62_3 : wr.cell? ⟨gb210, 3, none⟩ = some (u211003) := (bC_ BK210.out 3).trans rfl
       have hcz62_4 : wr.cell? ⟨gb210, 4, none⟩ = some (u211004) := (bC_ BK210.out 4).trans rfl
       have hfz62_0 := bF_ BK210.out 0
       have hfz62_1 := bF_ BK210.out 1
       have hfz62_2 := bF_ BK210.out 2
       have hfz62_3 := bF_ BK210.out 3
       have hfz62_4 := bF_ BK210.out 4
       have hcz63_0 : wr.cell? ⟨gb203, 0, none⟩ = some (.slice none 0 0) := (bC_ BK203.out 0).trans rfl
       have hcz63_1 : wr.cell? ⟨gb203, 1, none⟩ = some (.int .i64 0) := (bC_ BK203.out 1).trans rfl
       have hcz63_2 : wr.cell? ⟨gb203, 2, none⟩ = some (.slice none 0 0) := (bC_ BK203.out 2).trans rfl
       have hcz63_3 : wr.cell? ⟨gb203, 3, none⟩ = some (.slice none 0 0) := (bC_ BK203.out 3).trans rfl
       have hcz63_4 : wr.cell? ⟨gb203, 4, none⟩ = some (.slice none 0 0) := (bC_ BK203.out 4).trans rfl
       have hfz63_0 := bF_ BK203.out 0
       have hfz63_1 := bF_ BK203.out 1
       have hfz63_2 := bF_ BK203.out 2
       have hfz63_3 := bF_ BK203.out 3
       have hfz63_4 := bF_ BK203.out 4
       obtain ⟨Ao64, co64, eo64⟩ := Kd.S_slice HO_211003.out
       subst eo64
       obtain ⟨Ao65, co65, eo65⟩ := Kd.R_slice HO_211004.out
       subst eo65
       go_wp2
       refine bodyPost_ret (results_cell_row rfl _ _ gb203 38 #[.slice Ao14 t204.length co14, .int .i64 a0_1, .slice Ao13 t207.length co13, .slice Ao64 x211003_1.length co64, .slice Ao65 x211004_2.length co65] (0, 0) _ rfl (by (with_reducible repeat (first | refine bN_ ?_ _ | refine bD_ ?_ | refine bA_ ?_ _)); refine blk_put (cs := #[.slice Ao14 t204.length co14, .int .i64 a0_1, .slice Ao13 t207.length co13, .slice Ao64 x211003_1.length co64, .slice none 0 0]) ?_ 4 _ rfl; (with_reducible repeat (first | refine bN_ ?_ _ | refine bD_ ?_ | refine bA_ ?_ _)); refine blk_put (cs := #[.slice Ao14 t204.length co14, .int .i64 a0_1, .slice Ao13 t207.length co13, .slice none 0 0, .slice none 0 0]) ?_ 3 _ rfl; (with_reducible repeat (first | refine bN_ ?_ _ | refine bD_ ?_ | refine bA_ ?_ _)); refine blk_put (cs := #[.slice Ao14 t204.length co14, .int .i64 a0_1, .slice none 0 0, .slice none 0 0, .slice none 0 0]) ?_ 2 _ rfl; (with_reducible repeat (first | refine bN_ ?_ _ | refine bD_ ?_ | refine bA_ ?_ _)); refine blk_put (cs := #[.slice Ao14 t204.length co14, .int .i64 0, .slice none 0 0, .slice none 0 0, .slice none 0 0]) ?_ 1 _ rfl; (with_reducible repeat (first | refine bN_ ?_ _ | refine bD_ ?_ | refine bA_ ?_ _)); refine blk_put (cs := #[.slice none 0 0, .int .i64 0, .slice none 0 0, .slice none 0 0, .slice none 0 0]) ?_ 0 _ rfl; (with_reducible repeat (first | refine bN_ ?_ _ | refine bD_ ?_ | refine bA_ ?_ _)); exact BK203.out) Tryz.underlying38 rfl (by kernel_rfl)) rfl ?_
       exact ⟨_, _, _, _, by first | rfl | (simp [errW_none, errW_some] <;> rfl) | (simp [*, errW_none, errW_some] <;> rfl), by (with_reducible repeat (first | apply Kd.R_alloc | apply Kd.R_drewN | apply Kd.R_drew)); exact Kd.R_mono (Kd.R_far (p := ⟨gb203, 4, none⟩) (Kd.R_far (p := ⟨gb203, 3, none⟩) (Kd.R_far (p := ⟨gb203, 2, none⟩) (Kd.R_far (p := ⟨gb203, 1, none⟩) (Kd.R_far (p := ⟨gb203, 0, none⟩) (Kd.R_types HO_211000.out BK203.out (by decide)) (fun _ hk => hk.2) (.slice Ao14 t204.length co14)) (fun _ hk => hk.2) (.int .i64 a0_1)) (fun _ hk => hk.2) (.slice Ao13 t207.length co13)) (fun _ hk => hk.2) (.slice Ao64 x211003_1.length co64)) (fun _ hk => hk.2) (.slice Ao65 x211004_2.length co65)) (fun _ hk => trivial), by (with_reducible repeat (first | apply Kd.R_alloc | apply Kd.R_drewN | apply Kd.R_drew)); exact Kd.R_mono (Kd.R_far (p := ⟨gb203, 4, none⟩) (Kd.R_far (p := ⟨gb203, 3, none⟩) (Kd.R_far (p := ⟨gb203, 2, none⟩) (Kd.R_far (p := ⟨gb203, 1, none⟩) (Kd.R_far (p := ⟨gb203, 0, none⟩) (Kd.R_types HO_211002.out BK203.out (by decide)) (fun _ hk => hk.2) (.slice Ao14 t204.length co14)) (fun _ hk => hk.2) (.int .i64 a0_1)) (fun _ hk => hk.2) (.slice Ao13 t207.length co13)) (fun _ hk => hk.2) (.slice Ao64 x211003_1.length co64)) (fun _ hk => hk.2) (.slice Ao65 x211004_2.length co65)) (fun _ hk => trivial), by (with_reducible repeat (first | apply Kd.S_alloc | apply Kd.S_drewN | apply Kd.S_drew)); exact Kd.S_mono (Kd.S_far (p := ⟨gb203, 4, none⟩) (Kd.S_far (p := ⟨gb203, 3, none⟩) (Kd.S_far (p := ⟨gb203, 2, none⟩) (Kd.S_far (p := ⟨gb203, 1, none⟩) (Kd.S_far (p := ⟨gb203, 0, none⟩) (Kd.S_types HO_211003.out BK203.out (by decide)) (fun _ hk => hk.2) (.slice Ao14 t204.length co14)) (fun _ hk => hk.2) (.int .i64 a0_1)) (fun _ hk => hk.2) (.slice Ao13 t207.length co13)) (fun _ hk => hk.2) (.slice Ao64 x211003_1.length co64)) (fun _ hk => hk.2) (.slice Ao65 x211004_2.length co65)) (fun _ hk => hk.1), by (with_reducible repeat (first | apply Kd.R_alloc | apply Kd.R_drewN | apply Kd.R_drew)); exact Kd.R_mono (Kd.R_far (p := ⟨gb203, 4, none⟩) (Kd.R_far (p := ⟨gb203, 3, none⟩) (Kd.R_far (p := ⟨gb203, 2, none⟩) (Kd.R_far (p := ⟨gb203, 1, none⟩) (Kd.R_far (p := ⟨gb203, 0, none⟩) (Kd.R_types HO_211004.out BK203.out (by decide)) (fun _ hk => hk.2) (.slice Ao14 t204.length co14)) (fun _ hk => hk.2) (.int .i64 a0_1)) (fun _ hk => hk.2) (.slice Ao13 t207.length co13)) (fun _ hk => hk.2) (.slice Ao64 x211003_1.length co64)) (fun _ hk => hk.2) (.slice Ao65 x211004_2.length co65)) (fun _ hk => trivial), by repeat (first | (with_reducible first | exact HB.out | apply pA_ | apply pN_ | apply pD_ | refine pS_ ?_ GE202.out | refine pS_ ?_ GE203.out | refine pS_ ?_ GE210.out) | exact HB.out)⟩
end Go.Proofs.YthgfhgjlilmieaaGreat.B
namespace Go.Proofs.YthgfhgjlilmieaaGreat.B
open Go.RowKit Go.Proofs.YthgfhgjlilmieaaGreatW.PrintWords Go.Proofs.YthgfhgjlilmieaaGreatW.PrintLast Go.Proofs.YthgfhgjlilmieaaGreatW.PrintMore
attribute [local go_sem] max2_int min2_int max_two min_two max_three min_three max_four min_four
set_option linter.unusedVariables false
set_option linter.unusedSimpArgs false
def w6line.f (l0 : List (S75)) : Option (List ByteArray × Int × List Int × (List (S76)) × (List (S75))) := (some (([(⟨6, 0, (⟨#[45, 32, 46]⟩ : ByteArray)⟩ : S75), (⟨8, 1, (⟨#[45]⟩ : ByteArray)⟩ : S75), (⟨9, 0, (⟨#[46]⟩ : ByteArray)⟩ : S75)] : List (S75)) : List (S75))).bind fun y179 => (if y179.length + l0.length < 4398046511104 then (some ((([(⟨#[46]⟩ : ByteArray), (⟨#[45]⟩ : ByteArray), (⟨#[46, 46]⟩ : ByteArray)] : List ByteArray)), 1, (([5, (-1)] : List Int)), (([(⟨6, 0, (([1, 0] : List Int))⟩ : S76), (⟨8, 1, (([2] : List Int))⟩ : S76)] : List (S76))), (y179 ++ l0))) else (none))
set_option maxHeartbeats 8000000 in
set_option maxRecDepth 100000 in
theorem w6line.calls (A0 : Option Addr) (c0 : Nat) (l0 : List (S75)) (r1 : List ByteArray) (r2 : Int) (r3 : List Int) (r4 : List (S76)) (r5 : List (S75)) (w : World) (hr0 : Kd.C k75 w A0 l0.length l0) (hc0 : l0.length ≤ c0) (h : w6line.f l0 = some (r1, r2, r3, r4, r5)) :
 Calls Tryz.prog 49 #[.slice A0 l0.length c0] w fun e w' => ∃ v0_ v2_ v3_ v4_ : Value, e = .returned (.agg #[v0_, .int .i64 r2, v2_, v3_, v4_]) ∧ Kd.R Kd.string 9 w' w.heap.size (fun k_ => (w.heap.size ≤ k_)) v0_ r1 ∧ Kd.R (Kd.int .i64) 3 w' w.heap.size (fun k_ => (w.heap.size ≤ k_)) v2_ r3 ∧ Kd.N k76 76 w' w.heap.size (fun k_ => (w.heap.size ≤ k_) ∧ some k_ ≠ (v0_ : Value).ownBlock ∧ some k_ ≠ (v2_ : Value).ownBlock ∧ some k_ ≠ (v4_ : Value).ownBlock) v3_ r4 ∧ Kd.R k75 75 w' w.heap.size (fun k_ => (w.heap.size ≤ k_)) v4_ r5 ∧ Below w.heap.size w w' := by
 have hu38 := Tryz.underlying38
 have hu34 := Tryz.underlying34
 have hu76 := Tryz.underlying76
 have hu75 := Tryz.underlying75
 have HR0 := Am hr0
 have HC0 := Am hc0
 clear hr0 hc0
 have HB := Am (Below.refl w.heap.size w)
 have H : ((some (([(⟨6, 0, (⟨#[45, 32, 46]⟩ : ByteArray)⟩ : S75), (⟨8, 1, (⟨#[45]⟩ : ByteArray)⟩ : S75), (⟨9, 0, (⟨#[46]⟩ : ByteArray)⟩ : S75)] : List (S75)) : List (S75))).bind fun y179 => (if y179.length + l0.length < 4398046511104 then (some ((([(⟨#[46]⟩ : ByteArray), (⟨#[45]⟩ : ByteArray), (⟨#[46, 46]⟩ : ByteArray)] : List ByteArray)), 1, (([5, (-1)] : List Int)), (([(⟨6, 0, (([1, 0] : List Int))⟩ : S76), (⟨8, 1, (([2] : List Int))⟩ : S76)] : List (S76))), (y179 ++ l0))) else (none))) = some (r1, r2, r3, r4, r5) := h
 clear h
 obtain ⟨y164, hy164⟩ : ∃ y_ : List ByteArray, y_ = (([(⟨#[46]⟩ : ByteArray), (⟨#[45]⟩ : ByteArray), (⟨#[46, 46]⟩ : ByteArray)] : List ByteArray)) := ⟨_, rfl⟩
 replace H : ((some (([(⟨6, 0, (⟨#[45, 32, 46]⟩ : ByteArray)⟩ : S75), (⟨8, 1, (⟨#[45]⟩ : ByteArray)⟩ : S75), (⟨9, 0, (⟨#[46]⟩ : ByteArray)⟩ : S75)] : List (S75)) : List (S75))).bind fun y179 => (if y179.length + l0.length < 4398046511104 then (some (y164, 1, (([5, (-1)] : List Int)), (([(⟨6, 0, (([1, 0] : List Int))⟩ : S76), (⟨8, 1, (([2] : List Int))⟩ : S76)] : List (S76))), (y179 ++ l0))) else (none))) = some (r1, r2, r3, r4, r5) := by first | (rw [hy164]; with_reducible exact H) | (have H2_ := (Option.bind_some _ _).symm.trans H; rw [hy164]; with_reducible exact H2_) | (have H2_ := (Option.bind_some _ _).symm.trans H; with_reducible exact H2_) | with_reducible exact H | (rw [hy164]; exact H) | exact H
 have Ny164 := Am hy164
 clear hy164
 obtain ⟨y167, hy167⟩ : ∃ y_ : List Int, y_ = (([5, (-1)] : List Int)) := ⟨_, rfl⟩
 replace H : ((some (([(⟨6, 0, (⟨#[45, 32, 46]⟩ : ByteArray)⟩ : S75), (⟨8, 1, (⟨#[45]⟩ : ByteArray)⟩ : S75), (⟨9, 0, (⟨#[46]⟩ : ByteArray)⟩ : S75)] : List (S75)) : List (S75))).bind fun y179 => (if y179.length + l0.length < 4398046511104 then (some (y164, 1, y167, (([(⟨6, 0, (([1, 0] : List Int))⟩ : S76), (⟨8, 1, (([2] : List Int))⟩ : S76)] : List (S76))), (y179 ++ l0))) else (none))) = some (r1, r2, r3, r4, r5) := by first | (rw [hy167]; with_reducible exact H) | (have H2_ := (Option.bind_some _ _).symm.trans H; rw [hy167]; with_reducible exact H2_) | (have H2_ := (Option.bind_some _ _).symm.trans H; with_reducible exact H2_) | with_reducible exact H | (rw [hy167]; exact H) | exact H
 have Ny167 := Am hy167
 clear hy167
 obtain ⟨y170, hy170⟩ : ∃ y_ : List Int, y_ = (([1, 0] : List Int)) := ⟨_, rfl⟩
 replace H : ((some (([(⟨6, 0, (⟨#[45, 32, 46]⟩ : ByteArray)⟩ : S75), (⟨8, 1, (⟨#[45]⟩ : ByteArray)⟩ : S75), (⟨9, 0, (⟨#[46]⟩ : ByteArray)⟩ : S75)] : List (S75)) : List (S75))).bind fun y179 => (if y179.length + l0.length < 4398046511104 then (some (y164, 1, y167, (([(⟨6, 0, y170⟩ : S76), (⟨8, 1, (([2] : List Int))⟩ : S76)] : List (S76))), (y179 ++ l0))) else (none))) = some (r1, r2, r3, r4, r5) := by first | (rw [hy170]; with_reducible exact H) | (have H2_ := (Option.bind_some _ _).symm.trans H; rw [hy170]; with_reducible exact H2_) | (have H2_ := (Option.bind_some _ _).symm.trans H; with_reducible exact H2_) | with_reducible exact H | (rw [hy170]; exact H) | exact H
 have Ny170 := Am hy170
 clear hy170
 obtain ⟨y173, hy173⟩ : ∃ y_ : List Int, y_ = (([2] : List Int)) := ⟨_, rfl⟩
 replace H : ((some (([(⟨6, 0, (⟨#[45, 32, 46]⟩ : ByteArray)⟩ : S75), (⟨8, 1, (⟨#[45]⟩ : ByteArray)⟩ : S75), (⟨9, 0, (⟨#[46]⟩ : ByteArray)⟩ : S75)] : List (S75)) : List (S75))).bind fun y179 => (if y179.length + l0.length < 4398046511104 then (some (y164, 1, y167, (([(⟨6, 0, y170⟩ : S76), (⟨8, 1, y173⟩ : S76)] : List (S76))), (y179 ++ l0))) else (none))) = some (r1, r2, r3, r4, r5) := by first | (rw [hy173]; with_reducible exact H) | (have H2_ := (Option.bind_some _ _).symm.trans H; rw [hy173]; with_reducible exact H2_) | (have H2_ := (Option.bind_some _ _).symm.trans H; with_reducible exact H2_) | with_reducible exact H | (rw [hy173]; exact H) | exact H
 have Ny173 := Am hy173
 clear hy173
 obtain ⟨y176, hy176⟩ : ∃ y_ : List (S76), y_ = (([(⟨6, 0, y170⟩ : S76), (⟨8, 1, y173⟩ : S76)] : List (S76))) := ⟨_, rfl⟩
 replace H : ((some (([(⟨6, 0, (⟨#[45, 32, 46]⟩ : ByteArray)⟩ : S75), (⟨8, 1, (⟨#[45]⟩ : ByteArray)⟩ : S75), (⟨9, 0, (⟨#[46]⟩ : ByteArray)⟩ : S75)] : List (S75)) : List (S75))).bind fun y179 => (if y179.length + l0.length < 4398046511104 then (some (y164, 1, y167, y176, (y179 ++ l0))) else (none))) = some (r1, r2, r3, r4, r5) := by first | (rw [hy176]; with_reducible exact H) | (have H2_ := (Option.bind_some _ _).symm.trans H; rw [hy176]; with_reducible exact H2_) | (have H2_ := (Option.bind_some _ _).symm.trans H; with_reducible exact H2_) | with_reducible exact H | (rw [hy176]; exact H) | exact H
 have Ny176 := Am hy176
 clear hy176
 obtain ⟨y179, hy179⟩ : ∃ y_ : List (S75), y_ = (([(⟨6, 0, (⟨#[45, 32, 46]⟩ : ByteArray)⟩ : S75), (⟨8, 1, (⟨#[45]⟩ : ByteArray)⟩ : S75), (⟨9, 0, (⟨#[46]⟩ : ByteArray)⟩ : S75)] : List (S75))) := ⟨_, rfl⟩
 replace H : (if y179.length + l0.length < 4398046511104 then (some (y164, 1, y167, y176, (y179 ++ l0))) else (none)) = some (r1, r2, r3, r4, r5) := by first | (rw [hy179]; with_reducible exact H) | (have H2_ := (Option.bind_some _ _).symm.trans H; rw [hy179]; with_reducible exact H2_) | (have H2_ := (Option.bind_some _ _).symm.trans H; with_reducible exact H2_) | with_reducible exact H | (rw [hy179]; exact H) | exact H
 have Ny179 := Am hy179
 clear hy179
 by_cases c2 : y179.length + l0.length < 4398046511104
 ·rw [if_pos c2] at H
  have LMc2 := Am c2
  clear c2
  obtain ⟨y182, hy182⟩ : ∃ y_ : List (S75), y_ = (y179 ++ l0) := ⟨_, rfl⟩
  replace H : (some (y164, 1, y167, y176, y182)) = some (r1, r2, r3, r4, r5) := by first | (rw [hy182]; with_reducible exact H) | (have H2_ := (Option.bind_some _ _).symm.trans H; rw [hy182]; with_reducible exact H2_) | (have H2_ := (Option.bind_some _ _).symm.trans H; with_reducible exact H2_) | with_reducible exact H | (rw [hy182]; exact H) | exact H
  have Ny182 := Am hy182
  clear hy182
  simp only [Option.some.injEq, Prod.mk.injEq] at H
  obtain ⟨rfl, rfl, rfl, rfl, rfl⟩ := H
  go_enter Tryz.func49, Tryz.ntmps49
  go_wp2_with (first | ((with_reducible refine gate_dst (N := 2) rfl ?_); refine box_event ?hg (N := 2) ?hd (cs := #[.slice none 0 0, .int .i64 0, .slice none 0 0, .slice none 0 0, .slice none 0 0]) (t := 38) ?hr ?_; (case hd => rfl); (case hg => rfl); (case hr => first | (go_simp; done) | (go_simp; rfl)); intro gb163 hg w3 hbox hb; have n0_ := Am (pT_ (by repeat (first | (with_reducible first | exact HB.out | apply pA_ | apply pN_ | apply pD_) | exact HB.out)) hb); have n1_ := Am (hbox); have n2_ := Am ((by rw [hg]; exact (pZ_ (by repeat (first | (with_reducible first | exact HB.out | apply pA_ | apply pN_ | apply pD_) | exact HB.out))) : w.heap.size ≤ gb163)); have n3_ := Am ((by rw [hg]; exact (pZ_ (by repeat (first | (with_reducible first | exact HB.out | apply pA_ | apply pN_ | apply pD_) | exact HB.out))) : w.heap.size ≤ gb163)); clear HB; have HB := n0_; have BK163 := n1_; have GW163 := n2_; have GE163 := n3_; clear n0_ n1_ n2_ n3_; clear hb hbox hg) | ((with_reducible refine gate_dst (N := 3) rfl ?_); refine Kd.R_lit Kd.string _ 9 ?hg (N := 3) ?hd (xs := ([(⟨#[46]⟩ : ByteArray), (⟨#[45]⟩ : ByteArray), (⟨#[46, 46]⟩ : ByteArray)] : List ByteArray)) (inner := [.string (⟨#[46]⟩ : ByteArray), .string (⟨#[45]⟩ : ByteArray), .string (⟨#[46, 46]⟩ : ByteArray)]) (ok := fun _ => True) (okp := fun _ => True) ?hr ?hp (fun _ hk => hk) trivial (Below.refl _ _) (Nat.le_refl _) (by simp) ?_; (case hd => rfl); (case hg => rfl); (case hr => first | (go_simp; done) | (go_simp; rfl)); (case hp => exact (Reps.one (show Kd.M Kd.string _ _ _ (⟨#[46]⟩ : ByteArray) [.string (⟨#[46]⟩ : ByteArray)] from rfl) (Reps.one (show Kd.M Kd.string _ _ _ (⟨#[45]⟩ : ByteArray) [.string (⟨#[45]⟩ : ByteArray)] from rfl) (Reps.one (show Kd.M Kd.string _ _ _ (⟨#[46, 46]⟩ : ByteArray) [.string (⟨#[46, 46]⟩ : ByteArray)] from rfl) (Reps.none _ _))))); intro v165 w4 ho5 hb hg_ hnew_; clear hg_ hnew_; (first | rw [← Ny164.out] at ho5 | (simp only [Int.reduceToNat] at ho5; rw [← Ny164.out] at ho5)); have n0_ := Am (Kd.R_lower (Kd.R_newM (M := fun k_ => (w.heap.size ≤ k_)) ho5 (pZ_ (by repeat (first | (with_reducible first | exact HB.out | apply pA_ | apply pN_ | apply pD_ | refine pS_ ?_ GE163.out) | exact HB.out))) (fun k_ h_ => h_)) (pZ_ (by repeat (first | (with_reducible first | exact HB.out | apply pA_ | apply pN_ | apply pD_ | refine pS_ ?_ GE163.out) | exact HB.out)))); have n1_ := Am (blk_below (g := gb163) (o := .cells #[.slice none 0 0, .int .i64 0, .slice none 0 0, .slice none 0 0, .slice none 0 0] 38 (0, 0)) (by (with_reducible repeat (first | refine bN_ ?_ _ | refine bD_ ?_ | refine bA_ ?_ _)); exact BK163.out) hb); have n2_ := Am (pT_ (by repeat (first | (with_reducible first | exact HB.out | apply pA_ | apply pN_ | apply pD_ | refine pS_ ?_ GE163.out) | exact HB.out)) hb); clear BK163; clear HB; have HO166 := n0_; have BK163 := n1_; have HB := n2_; clear n0_ n1_ n2_; clear hb ho5; obtain ⟨Ao6, co6, eo6⟩ := Kd.R_slice HO166.out; subst eo6) | ((with_reducible refine gate_dst (N := 5) rfl ?_); refine Kd.R_lit (Kd.int .i64) _ 3 ?hg (N := 5) ?hd (xs := ([5, (-1)] : List Int)) (inner := [.int .i64 5, .int .i64 (-1)]) (ok := fun _ => True) (okp := fun _ => True) ?hr ?hp (fun _ hk => hk) trivial (Below.refl _ _) (Nat.le_refl _) (by simp) ?_; (case hd => rfl); (case hg => rfl); (case hr => first | (go_simp; done) | (go_simp; rfl)); (case hp => exact (Reps.one (show Kd.M (Kd.int .i64) _ _ _ 5 [.int .i64 5] from rfl) (Reps.one (show Kd.M (Kd.int .i64) _ _ _ (-1) [.int .i64 (-1)] from rfl) (Reps.none _ _)))); intro v168 w7 ho8 hb hg_ hnew_; clear hg_ hnew_; (first | rw [← Ny167.out] at ho8 | (simp only [Int.reduceToNat] at ho8; rw [← Ny167.out] at ho8)); have n0_ := Am (Kd.R_below (by (with_reducible repeat (first | apply Kd.R_alloc | apply Kd.R_drewN | apply Kd.R_drew)); exact HO166.out) hb); have n1_ := Am (Kd.R_lower (Kd.R_newM (M := fun k_ => (w.heap.size ≤ k_)) ho8 (pZ_ (by repeat (first | (with_reducible first | exact HB.out | apply pA_ | apply pN_ | apply pD_ | refine pS_ ?_ GE163.out) | exact HB.out))) (fun k_ h_ => h_)) (pZ_ (by repeat (first | (with_reducible first | exact HB.out | apply pA_ | apply pN_ | apply pD_ | refine pS_ ?_ GE163.out) | exact HB.out)))); have n2_ := Am (blk_below (g := gb163) (o := .cells #[.slice none 0 0, .int .i64 0, .slice none 0 0, .slice none 0 0, .slice none 0 0] 38 (0, 0)) (by (with_reducible repeat (first | refine bN_ ?_ _ | refine bD_ ?_ | refine bA_ ?_ _)); exact BK163.out) hb); have n3_ := Am (pT_ (by repeat (first | (with_reducible first | exact HB.out | apply pA_ | apply pN_ | apply pD_ | refine pS_ ?_ GE163.out) | exact HB.out)) hb); clear HO166; clear BK163; clear HB; have HO166 := n0_; have HO169 := n1_; have BK163 := n2_; have HB := n3_; clear n0_ n1_ n2_ n3_; clear hb ho8) | ((with_reducible refine gate_dst (N := 6) rfl ?_); refine Kd.R_lit (Kd.int .i64) _ 3 ?hg (N := 6) ?hd (xs := ([1, 0] : List Int)) (inner := [.int .i64 1, .int .i64 0]) (ok := fun _ => True) (okp := fun _ => True) ?hr ?hp (fun _ hk => hk) trivial (Below.refl _ _) (Nat.le_refl _) (by simp) ?_; (case hd => rfl); (case hg => rfl); (case hr => first | (go_simp; done) | (go_simp; rfl)); (case hp => exact (Reps.one (show Kd.M (Kd.int .i64) _ _ _ 1 [.int .i64 1] from rfl) (Reps.one (show Kd.M (Kd.int .i64) _ _ _ 0 [.int .i64 0] from rfl) (Reps.none _ _)))); intro v171 w9 ho10 hb hg_ hnew_; clear hg_ hnew_; (first | rw [← Ny170.out] at ho10 | (simp only [Int.reduceToNat] at ho10; rw [← Ny170.out] at ho10)); have n0_ := Am (Kd.R_below (by (with_reducible repeat (first | apply Kd.R_alloc | apply Kd.R_drewN | apply Kd.R_drew)); exact HO166.out) hb); have n1_ := Am (Kd.R_elder' (by (with_reducible repeat (first | apply Kd.R_alloc | apply Kd.R_drewN | apply Kd.R_drew)); exact HO169.out) (Kd.R_base ho10) hb); have n2_ := Am (Kd.R_lower (Kd.R_new' (Kd.R_newM (M := fun k_ => (w.heap.size ≤ k_)) ho10 (pZ_ (by repeat (first | (with_reducible first | exact HB.out | apply pA_ | apply pN_ | apply pD_ | refine pS_ ?_ GE163.out) | exact HB.out))) (fun k_ h_ => h_)) (Kd.R_lt (by (with_reducible repeat (first | apply Kd.R_alloc | apply Kd.R_drewN | apply Kd.R_drew)); exact HO169.out))) (pZ_ (by repeat (first | (with_reducible first | exact HB.out | apply pA_ | apply pN_ | apply pD_ | refine pS_ ?_ GE163.out) | exact HB.out)))); have n3_ := Am (blk_below (g := gb163) (o := .cells #[.slice none 0 0, .int .i64 0, .slice none 0 0, .slice none 0 0, .slice none 0 0] 38 (0, 0)) (by (with_reducible repeat (first | refine bN_ ?_ _ | refine bD_ ?_ | refine bA_ ?_ _)); exact BK163.out) hb); have n4_ := Am (pT_ (by repeat (first | (with_reducible first | exact HB.out | apply pA_ | apply pN_ | apply pD_ | refine pS_ ?_ GE163.out) | exact HB.out)) hb); clear HO166; clear HO169; clear BK163; clear HB; have HO166 := n0_; have HO169 := n1_; have HO172 := n2_; have BK163 := n3_; have HB := n4_; clear n0_ n1_ n2_ n3_ n4_; clear hb ho10; obtain ⟨Ao11, co11, eo11⟩ := Kd.R_slice HO172.out; subst eo11) | ((with_reducible refine gate_dst (N := 8) rfl ?_); refine Kd.R_lit (Kd.int .i64) _ 3 ?hg (N := 8) ?hd (xs := ([2] : List Int)) (inner := [.int .i64 2]) (ok := fun _ => True) (okp := fun _ => True) ?hr ?hp (fun _ hk => hk) trivial (Below.refl _ _) (Nat.le_refl _) (by simp) ?_; (case hd => rfl); (case hg => rfl); (case hr => first | (go_simp; done) | (go_simp; rfl)); (case hp => exact (Reps.one (show Kd.M (Kd.int .i64) _ _ _ 2 [.int .i64 2] from rfl) (Reps.none _ _))); intro v174 w12 ho13 hb hg_ hnew_; clear hg_ hnew_; (first | rw [← Ny173.out] at ho13 | (simp only [Int.reduceToNat] at ho13; rw [← Ny173.out] at ho13)); have n0_ := Am (Kd.R_below (by (with_reducible repeat (first | apply Kd.R_alloc | apply Kd.R_drewN | apply Kd.R_drew)); exact HO166.out) hb); have n1_ := Am (Kd.R_elder' (by (with_reducible repeat (first | apply Kd.R_alloc | apply Kd.R_drewN | apply Kd.R_drew)); exact HO169.out) (Kd.R_base ho13) hb); have n2_ := Am (Kd.R_elder' (by (with_reducible repeat (first | apply Kd.R_alloc | apply Kd.R_drewN | apply Kd.R_drew)); exact HO172.out) (Kd.R_base ho13) hb); have n3_ := Am (Kd.R_lower (Kd.R_new' (Kd.R_new' (Kd.R_newM (M := fun k_ => (w.heap.size ≤ k_)) ho13 (pZ_ (by repeat (first | (with_reducible first | exact HB.out | apply pA_ | apply pN_ | apply pD_ | refine pS_ ?_ GE163.out) | exact HB.out))) (fun k_ h_ => h_)) (Kd.R_lt (by (with_reducible repeat (first | apply Kd.R_alloc | apply Kd.R_drewN | apply Kd.R_drew)); exact HO169.out))) (Kd.R_lt (by (with_reducible repeat (first | apply Kd.R_alloc | apply Kd.R_drewN | apply Kd.R_drew)); exact HO172.out))) (pZ_ (by repeat (first | (with_reducible first | exact HB.out | apply pA_ | apply pN_ | apply pD_ | refine pS_ ?_ GE163.out) | exact HB.out)))); have n4_ := Am (blk_below (g := gb163) (o := .cells #[.slice none 0 0, .int .i64 0, .slice none 0 0, .slice none 0 0, .slice none 0 0] 38 (0, 0)) (by (with_reducible repeat (first | refine bN_ ?_ _ | refine bD_ ?_ | refine bA_ ?_ _)); exact BK163.out) hb); have n5_ := Am (pT_ (by repeat (first | (with_reducible first | exact HB.out | apply pA_ | apply pN_ | apply pD_ | refine pS_ ?_ GE163.out) | exact HB.out)) hb); clear HO166; clear HO169; clear HO172; clear BK163; clear HB; have HO166 := n0_; have HO169 := n1_; have HO172 := n2_; have HO175 := n3_; have BK163 := n4_; have HB := n5_; clear n0_ n1_ n2_ n3_ n4_ n5_; clear hb ho13; obtain ⟨Ao14, co14, eo14⟩ := Kd.R_slice HO175.out; subst eo14) | ((with_reducible refine gate_dst (N := 10) rfl ?_); refine Kd.N_lit k76 _ 76 ?hg (N' := 10) ?hd (xs := ([(⟨6, 0, y170⟩ : S76), (⟨8, 1, y173⟩ : S76)] : List (S76))) (inner := [.int .i64 6, .int .i64 0, .slice Ao11 y170.length co11, .int .i64 8, .int .i64 1, .slice Ao14 y173.length co14]) (ok := (fun k_ => (w.heap.size ≤ k_) ∧ some k_ ≠ (.slice Ao6 y164.length co6 : Value).ownBlock ∧ some k_ ≠ (v168 : Value).ownBlock ∧ k_ ≠ gb163)) (okp := (fun k_ => (w.heap.size ≤ k_) ∧ some k_ ≠ (.slice Ao6 y164.length co6 : Value).ownBlock ∧ some k_ ≠ (v168 : Value).ownBlock ∧ k_ ≠ gb163)) ?hr ?hp (fun _ hk => hk) ((show ∀ k_, w12.heap.size ≤ k_ → (fun k_ => (w.heap.size ≤ k_) ∧ some k_ ≠ (.slice Ao6 y164.length co6 : Value).ownBlock ∧ some k_ ≠ (v168 : Value).ownBlock ∧ k_ ≠ gb163) k_ from fun k_ hk => ⟨(Nat.le_trans (pZ_ (by repeat (first | (with_reducible first | exact HB.out | apply pA_ | apply pN_ | apply pD_ | refine pS_ ?_ GE163.out) | exact HB.out))) hk), Kd.fresh' (Kd.R_lt (by (with_reducible repeat (first | apply Kd.R_alloc | apply Kd.R_drewN | apply Kd.R_drew)); exact HO166.out)) k_ hk, Kd.fresh' (Kd.R_lt (by (with_reducible repeat (first | apply Kd.R_alloc | apply Kd.R_drewN | apply Kd.R_drew)); exact HO169.out)) k_ hk, Kd.freshB (g := gb163) (o := .cells #[.slice none 0 0, .int .i64 0, .slice none 0 0, .slice none 0 0, .slice none 0 0] 38 (0, 0)) (by (with_reducible repeat (first | refine bN_ ?_ _ | refine bD_ ?_ | refine bA_ ?_ _)); exact BK163.out) k_ hk⟩) _ (Nat.le_refl _)) (Below.refl _ _) (Nat.le_refl _) (by simp) ?_; (case hd => rfl); (case hg => rfl); (case hr => first | (go_simp; done) | (go_simp; rfl)); (case hp => exact (Reps.c3 (show Kd.FK k76 _ _ (⟨6, 0, y170⟩ : S76) [.int .i64 6, .int .i64 0, .slice Ao11 y170.length co11] from (k76_mkF _ _ (⟨6, 0, y170⟩ : S76) (Kd.R_reads' (Kd.R_mono (ok' := (fun k_ => (w.heap.size ≤ k_) ∧ some k_ ≠ (.slice Ao6 y164.length co6 : Value).ownBlock ∧ some k_ ≠ (v168 : Value).ownBlock ∧ k_ ≠ gb163)) (Kd.R_types (Kd.R_apart' (HO172.out) (Kd.R_typed HO166.out) (by decide)) BK163.out (by decide)) (fun k_ hk => ⟨hk.1.1.1.1.1, ⟨hk.1.2, ⟨hk.1.1.1.2, hk.2⟩⟩⟩))).2.1 (Kd.R_F (Kd.R_mono (ok' := (fun k_ => (w.heap.size ≤ k_) ∧ some k_ ≠ (.slice Ao6 y164.length co6 : Value).ownBlock ∧ some k_ ≠ (v168 : Value).ownBlock ∧ k_ ≠ gb163)) (Kd.R_types (Kd.R_apart' (HO172.out) (Kd.R_typed HO166.out) (by decide)) BK163.out (by decide)) (fun k_ hk => ⟨hk.1.1.1.1.1, ⟨hk.1.2, ⟨hk.1.1.1.2, hk.2⟩⟩⟩))))) (Reps.c3 (show Kd.FK k76 _ _ (⟨8, 1, y173⟩ : S76) [.int .i64 8, .int .i64 1, .slice Ao14 y173.length co14] from (k76_mkF _ _ (⟨8, 1, y173⟩ : S76) (Kd.R_reads' (Kd.R_mono (ok' := (fun k_ => (w.heap.size ≤ k_) ∧ some k_ ≠ (.slice Ao6 y164.length co6 : Value).ownBlock ∧ some k_ ≠ (v168 : Value).ownBlock ∧ k_ ≠ gb163)) (Kd.R_types (Kd.R_apart' (HO175.out) (Kd.R_typed HO166.out) (by decide)) BK163.out (by decide)) (fun k_ hk => ⟨hk.1.1.1.1.1, ⟨hk.1.2, ⟨hk.1.1.1.2, hk.2⟩⟩⟩))).2.1 (Kd.R_F (Kd.R_mono (ok' := (fun k_ => (w.heap.size ≤ k_) ∧ some k_ ≠ (.slice Ao6 y164.length co6 : Value).ownBlock ∧ some k_ ≠ (v168 : Value).ownBlock ∧ k_ ≠ gb163)) (Kd.R_types (Kd.R_apart' (HO175.out) (Kd.R_typed HO166.out) (by decide)) BK163.out (by decide)) (fun k_ hk => ⟨hk.1.1.1.1.1, ⟨hk.1.2, ⟨hk.1.1.1.2, hk.2⟩⟩⟩))))) (Reps.none _ _)))); intro v177 w15 ho16 hb hg_ hnew_; clear hg_ hnew_; (first | rw [← Ny176.out] at ho16 | (simp only [Int.reduceToNat] at ho16; rw [← Ny176.out] at ho16)); have n0_ := Am (Kd.R_below (by (with_reducible repeat (first | apply Kd.R_alloc | apply Kd.R_drewN | apply Kd.R_drew)); exact HO166.out) hb); have n1_ := Am (Kd.R_below (by (with_reducible repeat (first | apply Kd.R_alloc | apply Kd.R_drewN | apply Kd.R_drew)); exact HO169.out) hb); have n2_ := Am (Kd.N_lower ho16 (pZ_ (by repeat (first | (with_reducible first | exact HB.out | apply pA_ | apply pN_ | apply pD_ | refine pS_ ?_ GE163.out) | exact HB.out)))); have n3_ := Am (blk_below (g := gb163) (o := .cells #[.slice none 0 0, .int .i64 0, .slice none 0 0, .slice none 0 0, .slice none 0 0] 38 (0, 0)) (by (with_reducible repeat (first | refine bN_ ?_ _ | refine bD_ ?_ | refine bA_ ?_ _)); exact BK163.out) hb); have n4_ := Am (pT_ (by repeat (first | (with_reducible first | exact HB.out | apply pA_ | apply pN_ | apply pD_ | refine pS_ ?_ GE163.out) | exact HB.out)) hb); clear HO166; clear HO169; clear BK163; clear HB; clear HO172; clear HO175; have HO166 := n0_; have HO169 := n1_; have HO178 := n2_; have BK163 := n3_; have HB := n4_; clear n0_ n1_ n2_ n3_ n4_; clear hb ho16) | ((with_reducible refine gate_dst (N := 14) rfl ?_); refine Kd.R_lit k75 _ 75 ?hg (N := 14) ?hd (xs := ([(⟨6, 0, (⟨#[45, 32, 46]⟩ : ByteArray)⟩ : S75), (⟨8, 1, (⟨#[45]⟩ : ByteArray)⟩ : S75), (⟨9, 0, (⟨#[46]⟩ : ByteArray)⟩ : S75)] : List (S75))) (inner := [.int .i64 6, .int .i64 0, .string (⟨#[45, 32, 46]⟩ : ByteArray), .int .i64 8, .int .i64 1, .string (⟨#[45]⟩ : ByteArray), .int .i64 9, .int .i64 0, .string (⟨#[46]⟩ : ByteArray)]) (ok := fun _ => True) (okp := fun _ => True) ?hr ?hp (fun _ hk => hk) trivial (Below.refl _ _) (Nat.le_refl _) (by simp) ?_; (case hd => rfl); (case hg => rfl); (case hr => first | (go_simp; done) | (go_simp; rfl)); (case hp => exact (Reps.c3 (show Kd.M k75 _ _ _ (⟨6, 0, (⟨#[45, 32, 46]⟩ : ByteArray)⟩ : S75) [.int .i64 6, .int .i64 0, .string (⟨#[45, 32, 46]⟩ : ByteArray)] from (k75_mkM _ _ _ (⟨6, 0, (⟨#[45, 32, 46]⟩ : ByteArray)⟩ : S75) )) (Reps.c3 (show Kd.M k75 _ _ _ (⟨8, 1, (⟨#[45]⟩ : ByteArray)⟩ : S75) [.int .i64 8, .int .i64 1, .string (⟨#[45]⟩ : ByteArray)] from (k75_mkM _ _ _ (⟨8, 1, (⟨#[45]⟩ : ByteArray)⟩ : S75) )) (Reps.c3 (show Kd.M k75 _ _ _ (⟨9, 0, (⟨#[46]⟩ : ByteArray)⟩ : S75) [.int .i64 9, .int .i64 0, .string (⟨#[46]⟩ : ByteArray)] from (k75_mkM _ _ _ (⟨9, 0, (⟨#[46]⟩ : ByteArray)⟩ : S75) )) (Reps.none _ _))))); intro v180 w17 ho18 hb hg_ hnew_; clear hg_ hnew_; (first | rw [← Ny179.out] at ho18 | (simp only [Int.reduceToNat] at ho18; rw [← Ny179.out] at ho18)); have n0_ := Am (Kd.R_below (by (with_reducible repeat (first | apply Kd.R_alloc | apply Kd.R_drewN | apply Kd.R_drew)); exact HO166.out) hb); have n1_ := Am (Kd.R_below (by (with_reducible repeat (first | apply Kd.R_alloc | apply Kd.R_drewN | apply Kd.R_drew)); exact HO169.out) hb); have n2_ := Am (Kd.N_elder' (by (with_reducible repeat (first | apply Kd.N_alloc | apply Kd.N_drewN | apply Kd.N_drew)); exact HO178.out) (Kd.R_base ho18) hb); have n3_ := Am (Kd.R_lower (Kd.R_newM (M := fun k_ => (w.heap.size ≤ k_)) ho18 (pZ_ (by repeat (first | (with_reducible first | exact HB.out | apply pA_ | apply pN_ | apply pD_ | refine pS_ ?_ GE163.out) | exact HB.out))) (fun k_ h_ => h_)) (pZ_ (by repeat (first | (with_reducible first | exact HB.out | apply pA_ | apply pN_ | apply pD_ | refine pS_ ?_ GE163.out) | exact HB.out)))); have n4_ := Am (blk_below (g := gb163) (o := .cells #[.slice none 0 0, .int .i64 0, .slice none 0 0, .slice none 0 0, .slice none 0 0] 38 (0, 0)) (by (with_reducible repeat (first | refine bN_ ?_ _ | refine bD_ ?_ | refine bA_ ?_ _)); exact BK163.out) hb); have n5_ := Am (pT_ (by repeat (first | (with_reducible first | exact HB.out | apply pA_ | apply pN_ | apply pD_ | refine pS_ ?_ GE163.out) | exact HB.out)) hb); clear HO166; clear HO169; clear HO178; clear BK163; clear HB; have HO166 := n0_; have HO169 := n1_; have HO178 := n2_; have HO181 := n3_; have BK163 := n4_; have HB := n5_; clear n0_ n1_ n2_ n3_ n4_ n5_; clear hb ho18) | ((with_reducible refine gate_builtin (b := .append) (xs := #[.tmp 14, .tmp 15]) rfl ?_); at_builtin; refine Kd.R_append_rows k75 (w0 := w) w.heap.size rfl (.tmp 14) (.tmp 15) 36 75 (.agg #[(.int .i64 0), (.int .i64 0), (.string ⟨#[]⟩)]) 32 rfl Tryz.underlying36 info75 rfl (by decide) (by omega) v180 y179 l0 _ _ _ (fun k_ => (w.heap.size ≤ k_)) (fun _ => False) rfl rfl ?aO ?aR (fun _ _ h => h) (fun _ h => h.elim) ?aF ?aB ?aS ?aL ?_; (case aR => repeat (first | exact (Kd.C_below HR0.out HB.out) | (with_reducible refine Kd.C_alloc ?_ _) | (with_reducible refine Kd.C_drewN ?_ _) | (with_reducible refine Kd.C_drew ?_))); (case aB => exact (by repeat (first | (with_reducible first | exact HB.out | apply pA_ | apply pN_ | apply pD_ | refine pS_ ?_ GE163.out) | exact HB.out))); (case aF => exact (fun k_ hk => (Nat.le_trans (pZ_ (by repeat (first | (with_reducible first | exact HB.out | apply pA_ | apply pN_ | apply pD_ | refine pS_ ?_ GE163.out) | exact HB.out))) hk))); (case aO => exact (by (with_reducible repeat (first | apply Kd.R_alloc | apply Kd.R_drewN | apply Kd.R_drew)); exact Kd.R_mono HO181.out (fun _ hk => hk.1))); (case aS => exact (pZ_ (by repeat (first | (with_reducible first | exact HB.out | apply pA_ | apply pN_ | apply pD_ | refine pS_ ?_ GE163.out) | exact HB.out)))); (case aL => have := LMc2.out; omega); intro v183 w19 ho hb hg hat; rw [← Ny182.out] at ho; have n0_ := Am (blk_grown (g := gb163) (o := .cells #[.slice none 0 0, .int .i64 0, .slice none 0 0, .slice none 0 0, .slice none 0 0] 38 (0, 0)) (by (with_reducible repeat (first | refine bN_ ?_ _ | refine bD_ ?_ | refine bA_ ?_ _)); exact BK163.out) hg (Kd.R_ne HO181.out BK163.out (by decide))); have n1_ := Am (Kd.R_over' (by (with_reducible repeat (first | apply Kd.R_alloc | apply Kd.R_drewN | apply Kd.R_drew)); exact HO166.out) (Kd.R_typed (by (with_reducible repeat (first | apply Kd.R_alloc | apply Kd.R_drewN | apply Kd.R_drew)); exact HO181.out)) (by decide) hg); have n2_ := Am (Kd.R_over' (by (with_reducible repeat (first | apply Kd.R_alloc | apply Kd.R_drewN | apply Kd.R_drew)); exact HO169.out) (Kd.R_typed (by (with_reducible repeat (first | apply Kd.R_alloc | apply Kd.R_drewN | apply Kd.R_drew)); exact HO181.out)) (by decide) hg); have n3_ := Am (Kd.N_afterv (ok := (fun k_ => (w.heap.size ≤ k_) ∧ some k_ ≠ (.slice Ao6 y164.length co6 : Value).ownBlock ∧ some k_ ≠ (v168 : Value).ownBlock ∧ k_ ≠ gb163)) (by (with_reducible repeat (first | apply Kd.N_alloc | apply Kd.N_drewN | apply Kd.N_drew)); exact HO178.out) hg hat); have n4_ := Am (hb); have n5_ := Am (ho); clear BK163; clear HO166; clear HO169; clear HO178; clear HB; clear HO181; have BK163 := n0_; have HO166 := n1_; have HO169 := n2_; have HO178 := n3_; have HB := n4_; have HO184 := n5_; clear n0_ n1_ n2_ n3_ n4_ n5_; clear ho hb hg hat; obtain ⟨Ao20, co20, eo20⟩ := Kd.R_slice HO184.out; subst eo20; obtain ⟨Ao21, co21, eo21⟩ := Kd.N_slice HO178.out; subst eo21; obtain ⟨Ao22, co22, eo22⟩ := Kd.R_slice HO169.out; subst eo22; have hcz23_0 : w19.cell? ⟨gb163, 0, none⟩ = some (.slice none 0 0) := (bC_ BK163.out 0).trans rfl; have hcz23_1 : w19.cell? ⟨gb163, 1, none⟩ = some (.int .i64 0) := (bC_ BK163.out 1).trans rfl; have hcz23_2 : w19.cell? ⟨gb163, 2, none⟩ = some (.slice none 0 0) := (bC_ BK163.out 2).trans rfl; have hcz23_3 : w19.cell? ⟨gb163, 3, none⟩ = some (.slice none 0 0) := (bC_ BK163.out 3).trans rfl; have hcz23_4 : w19.cell? ⟨gb163, 4, none⟩ = some (.slice none 0 0) := (bC_ BK163.out 4).trans rfl; have hfz23_0 := bF_ BK163.out 0; have hfz23_1 := bF_ BK163.out 1; have hfz23_2 := bF_ BK163.out 2; have hfz23_3 := bF_ BK163.out 3; have hfz23_4 := bF_ BK163.out 4))
  refine bodyPost_ret (results_cell_row rfl _ _ gb163 38 #[.slice Ao6 y164.length co6, .int .i64 1, .slice Ao22 y167.length co22, .slice Ao21 y176.length co21, .slice Ao20 y182.length co20] (0, 0) _ rfl (by (with_reducible repeat (first | refine bN_ ?_ _ | refine bD_ ?_ | refine bA_ ?_ _)); refine blk_put (cs := #[.slice Ao6 y164.length co6, .int .i64 1, .slice Ao22 y167.length co22, .slice Ao21 y176.length co21, .slice none 0 0]) ?_ 4 _ rfl; (with_reducible repeat (first | refine bN_ ?_ _ | refine bD_ ?_ | refine bA_ ?_ _)); refine blk_put (cs := #[.slice Ao6 y164.length co6, .int .i64 1, .slice Ao22 y167.length co22, .slice none 0 0, .slice none 0 0]) ?_ 3 _ rfl; (with_reducible repeat (first | refine bN_ ?_ _ | refine bD_ ?_ | refine bA_ ?_ _)); refine blk_put (cs := #[.slice Ao6 y164.length co6, .int .i64 1, .slice none 0 0, .slice none 0 0, .slice none 0 0]) ?_ 2 _ rfl; (with_reducible repeat (first | refine bN_ ?_ _ | refine bD_ ?_ | refine bA_ ?_ _)); refine blk_put (cs := #[.slice Ao6 y164.length co6, .int .i64 0, .slice none 0 0, .slice none 0 0, .slice none 0 0]) ?_ 1 _ rfl; (with_reducible repeat (first | refine bN_ ?_ _ | refine bD_ ?_ | refine bA_ ?_ _)); refine blk_put (cs := #[.slice none 0 0, .int .i64 0, .slice none 0 0, .slice none 0 0, .slice none 0 0]) ?_ 0 _ rfl; (with_reducible repeat (first | refine bN_ ?_ _ | refine bD_ ?_ | refine bA_ ?_ _)); exact BK163.out) Tryz.underlying38 rfl (by kernel_rfl)) rfl ?_
  exact ⟨_, _, _, _, by first | rfl | (simp [errW_none, errW_some] <;> rfl) | (simp [*, errW_none, errW_some] <;> rfl), by (with_reducible repeat (first | apply Kd.R_alloc | apply Kd.R_drewN | apply Kd.R_drew)); exact Kd.R_mono (Kd.R_far (p := ⟨gb163, 4, none⟩) (Kd.R_far (p := ⟨gb163, 3, none⟩) (Kd.R_far (p := ⟨gb163, 2, none⟩) (Kd.R_far (p := ⟨gb163, 1, none⟩) (Kd.R_far (p := ⟨gb163, 0, none⟩) (Kd.R_types HO166.out BK163.out (by decide)) (fun _ hk => hk.2) (.slice Ao6 y164.length co6)) (fun _ hk => hk.2) (.int .i64 1)) (fun _ hk => hk.2) (.slice Ao22 y167.length co22)) (fun _ hk => hk.2) (.slice Ao21 y176.length co21)) (fun _ hk => hk.2) (.slice Ao20 y182.length co20)) (fun _ hk => hk.1.1), by (with_reducible repeat (first | apply Kd.R_alloc | apply Kd.R_drewN | apply Kd.R_drew)); exact Kd.R_mono (Kd.R_far (p := ⟨gb163, 4, none⟩) (Kd.R_far (p := ⟨gb163, 3, none⟩) (Kd.R_far (p := ⟨gb163, 2, none⟩) (Kd.R_far (p := ⟨gb163, 1, none⟩) (Kd.R_far (p := ⟨gb163, 0, none⟩) (Kd.R_types HO169.out BK163.out (by decide)) (fun _ hk => hk.2) (.slice Ao6 y164.length co6)) (fun _ hk => hk.2) (.int .i64 1)) (fun _ hk => hk.2) (.slice Ao22 y167.length co22)) (fun _ hk => hk.2) (.slice Ao21 y176.length co21)) (fun _ hk => hk.2) (.slice Ao20 y182.length co20)) (fun _ hk => hk.1.1.1.1), by (with_reducible repeat (first | apply Kd.N_alloc | apply Kd.N_drewN | apply Kd.N_drew)); exact Kd.N_mono (Kd.N_far (p := ⟨gb163, 4, none⟩) (Kd.N_far (p := ⟨gb163, 3, none⟩) (Kd.N_far (p := ⟨gb163, 2, none⟩) (Kd.N_far (p := ⟨gb163, 1, none⟩) (Kd.N_far (p := ⟨gb163, 0, none⟩) (Kd.N_mono HO178.out (fun k_ hk => (⟨hk, hk.1.2.2.2⟩ : _ ∧ k_ ≠ gb163))) (fun _ hk => hk.2) (.slice Ao6 y164.length co6)) (fun _ hk => hk.2) (.int .i64 1)) (fun _ hk => hk.2) (.slice Ao22 y167.length co22)) (fun _ hk => hk.2) (.slice Ao21 y176.length co21)) (fun _ hk => hk.2) (.slice Ao20 y182.length co20)) (fun _ hk => ⟨hk.1.1.1, ⟨hk.1.1.2.1, ⟨hk.1.1.2.2.1, hk.1.2⟩⟩⟩), by (with_reducible repeat (first | apply Kd.R_alloc | apply Kd.R_drewN | apply Kd.R_drew)); exact Kd.R_mono (Kd.R_far (p := ⟨gb163, 4, none⟩) (Kd.R_far (p := ⟨gb163, 3, none⟩) (Kd.R_far (p := ⟨gb163, 2, none⟩) (Kd.R_far (p := ⟨gb163, 1, none⟩) (Kd.R_far (p := ⟨gb163, 0, none⟩) (Kd.R_types HO184.out BK163.out (by decide)) (fun _ hk => hk.2) (.slice Ao6 y164.length co6)) (fun _ hk => hk.2) (.int .i64 1)) (fun _ hk => hk.2) (.slice Ao22 y167.length co22)) (fun _ hk => hk.2) (.slice Ao21 y176.length co21)) (fun _ hk => hk.2) (.slice Ao20 y182.length co20)) (fun _ hk => hk.1), by repeat (first | (with_reducible first | exact HB.out | apply pA_ | apply pN_ | apply pD_ | refine pS_ ?_ GE163.out) | exact HB.out)⟩
 ·rw [if_neg c2] at H
  exact absurd H (by simp)
end Go.Proofs.YthgfhgjlilmieaaGreat.B
