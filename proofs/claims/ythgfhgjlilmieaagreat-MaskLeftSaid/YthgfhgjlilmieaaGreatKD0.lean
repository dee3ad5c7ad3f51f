/- texts of this claim, merged by a program of this session out of its own texts and the print's words -/
import Derived.ArgAppend
import Derived.Below
import Derived.BigQuiet
import Derived.Deep.AppendLies
import Derived.Deep.CutBlock
import Derived.Deep.DeepCutAuto
import Derived.Deep.Draws
import Derived.Deep.LoopGhost
import Derived.Deep.OwnRows
import Derived.Deep.QuietTactic
import Derived.Deep.RegionHeld3
import Derived.KernelRfl
import Derived.Laws.BitsLemmas
import Derived.Laws.BytesArg
import Derived.Laws.IdiomCopy
import Derived.Laws.MakeOwn
import Derived.Laws.OwnMore
import Derived.Laws.Rows
import Derived.Laws.Slices
import Derived.Lib.AppendStr
import Derived.Lib.ConvBytes
import Derived.Maps.AppendAt
import Derived.OrdersHeld
import Derived.OwnWalk
import Derived.RowKit
import Derived.RowKit3
import Derived.Tactics
import Derived.Test.YthgfhgjlilmieaaGreatProg
import Derived.WalkKit
import Derived.WideLaws
import Derived.Test.YthgfhgjlilmieaaGreatKA0
import Derived.Test.YthgfhgjlilmieaaGreatKA1
import Derived.Test.YthgfhgjlilmieaaGreatKA2
import Derived.Test.YthgfhgjlilmieaaGreatKA3
import Derived.Test.YthgfhgjlilmieaaGreatKA4
namespace Go.Proofs.YthgfhgjlilmieaaGreatW.PrintMore
open Go.RowKit Go.Proofs.YthgfhgjlilmieaaGreatW.PrintWords
namespace Kd
open Go.Proofs.YthgfhgjlilmieaaGreatW.PrintWords.Kd
end Kd
namespace Kd
open Go.Proofs.YthgfhgjlilmieaaGreatW.PrintWords.Kd
section
variable {α : Type} {d : Kd α} {e base g N : Nat} {ok : Nat → Prop} {W w1 : World} {u v : Value} {xs : List α}
end
end Kd
end Go.Proofs.YthgfhgjlilmieaaGreatW.PrintMore
namespace Go.Proofs.YthgfhgjlilmieaaGreatW.PrintWords
open Go.RowKit
section
variable {P : Program} {ops : Array Oper} {rest : List Oper} {o : Oper} {a : Act} {Q : Exit → Act → World → Prop} {W : World}
end
def shr (k : IntKind) (x y : Int) : Int := x / 2 ^ min y.toNat k.bits
theorem shr_small {k : IntKind} {x y j : Int} (h : shr k x y = j) (hy : y ≤ k.bits) : x / 2 ^ y.toNat = j := by rw [← h]; unfold shr; rw [Nat.min_eq_left (by omega)]
namespace Kd
section
variable {α : Type} {d : Kd α} {e base : Nat} {ok : Nat → Prop} {W w1 : World} {v : Value} {xs : List α}
end
section
variable {α : Type} {d : Kd α} {e base g n cap : Nat} {ok oki okp : Nat → Prop} {W : World} {xs : List α} {i : Int} {c : List Value}
end
section
variable {α : Type} {d : Kd α} {e base b b' g N : Nat} {ok ok1 : Nat → Prop} {W W2 w1 : World} {u v : Value} {xs ys : List α} {S : Nat → Prop}
end
end Kd
end Go.Proofs.YthgfhgjlilmieaaGreatW.PrintWords
namespace Go.Proofs.YthgfhgjlilmieaaGreatW.PrintWords
open Go.RowKit
namespace Kd
section
variable {α β : Type} {d : Kd α} {e base base' n m c g N' lo hi : Nat} {ok ok' S : Nat → Prop} {w W w1 : World} {A : Option Addr} {ad : Addr} {u v v1 : Value} {xs : List α}
end
end Kd
end Go.Proofs.YthgfhgjlilmieaaGreatW.PrintWords
namespace Go.Proofs.YthgfhgjlilmieaaGreat.B
open Go.RowKit Go.Proofs.YthgfhgjlilmieaaGreatW.PrintWords Go.Proofs.YthgfhgjlilmieaaGreatW.PrintLast Go.Proofs.YthgfhgjlilmieaaGreatW.PrintMore
attribute [local go_sem] max2_int min2_int max_two min_two max_three min_three max_four min_four
set_option linter.unusedVariables false
set_option linter.unusedSimpArgs false
theorem info61 : (Tryz.prog.info? 61).map (fun i => (i.zero, i.size, i.bytes)) = some (some (.agg #[(.int .i64 0), (.int .i64 0), (.string ⟨#[]⟩)]), 3, 32) := by kernel_rfl
end Go.Proofs.YthgfhgjlilmieaaGreat.B
namespace Go.Proofs.YthgfhgjlilmieaaGreat.G
open Go.RowKit Go.Shelf Go.Proofs.YthgfhgjlilmieaaGreatW.PrintWords Go.Proofs.YthgfhgjlilmieaaGreatW.PrintLast Go.Proofs.YthgfhgjlilmieaaGreatW.PrintMore
open Go.Proofs.YthgfhgjlilmieaaGreat.B
set_option linter.unusedVariables false
set_option linter.unusedSimpArgs false
theorem uC_set (u : List Bool) (k : Nat) (hk : k < 8) (hu : u.length = 8) (i : Nat) : (u.set k true).getD i false = if k = i then true else u.getD i false := by
  simp only [List.getD_eq_getElem?_getD, List.getElem?_set]
  by_cases e : k = i
  · subst e
    rw [if_pos rfl, if_pos (by omega), if_pos rfl]; rfl
  · rw [if_neg e, if_neg e]
end Go.Proofs.YthgfhgjlilmieaaGreat.G
namespace Go.Proofs.YthgfhgjlilmieaaGreat.G
open Go.RowKit Go.Shelf Go.Proofs.YthgfhgjlilmieaaGreatW.PrintWords Go.Proofs.YthgfhgjlilmieaaGreatW.PrintLast Go.Proofs.YthgfhgjlilmieaaGreatW.PrintMore
open Go.Proofs.YthgfhgjlilmieaaGreat.B
set_option linter.unusedVariables false
set_option linter.unusedSimpArgs false
theorem mem_esK (l : Lg) (n : Nat) (r b : Int) : (r, b) ∈ esK l n ↔ ∃ k : Nat, k < n ∧ r = k ∧ (b ∈ statL l (rd_T75 l.rc k) ∨ b ∈ falL l (rd_T75 l.rc k)) := by
  simp only [esK, List.mem_flatMap, List.mem_range]
  constructor
  · rintro ⟨k, hk, hm⟩
    have e : esR l k 2 = (statL l (rd_T75 l.rc k)).map (fun y => ((k : Int), y)) ++ (falL l (rd_T75 l.rc k)).map (fun y => ((k : Int), y)) := by
      simp [esR, List.range_succ, srcL]
    rw [e, List.mem_append] at hm
    rcases hm with hm | hm
    · obtain ⟨y, hy, e⟩ := List.mem_map.1 hm
      cases e
      exact ⟨k, hk, rfl, .inl hy⟩
    · obtain ⟨y, hy, e⟩ := List.mem_map.1 hm
      cases e
      exact ⟨k, hk, rfl, .inr hy⟩
  · rintro ⟨k, hk, rfl, hb⟩
    refine ⟨k, hk, ?_⟩
    have e : esR l k 2 = (statL l (rd_T75 l.rc k)).map (fun y => ((k : Int), y)) ++ (falL l (rd_T75 l.rc k)).map (fun y => ((k : Int), y)) := by
      simp [esR, List.range_succ, srcL]
    rw [e, List.mem_append]
    rcases hb with hb | hb
    · exact .inl (List.mem_map.2 ⟨b, hb, rfl⟩)
    · exact .inr (List.mem_map.2 ⟨b, hb, rfl⟩)
end Go.Proofs.YthgfhgjlilmieaaGreat.G
namespace Go.Proofs.YthgfhgjlilmieaaGreat.G
open Go.RowKit Go.Shelf
set_option linter.unusedVariables false
set_option linter.unusedSimpArgs false
def outB (out : List Int) (r : Int) : Bool := out.any fun x => r == x
def IsW (ES : List (Int × Int)) (J R : Nat) (out : List Int) : Nat → List Bool → List Int → Prop
  | 0, _, bs => bs = []
  | n + 1, u, [] => False
  | n + 1, u, b :: bs => if outB out ((R : Int) - (n + 1)) = true then b = -2 ∧ IsW ES J R out n u bs
      else b ∈ bys J ∧ freeB ES u ((R : Int) - (n + 1)) b = true ∧ IsW ES J R out n (freeU ES u ((R : Int) - (n + 1)) b) bs
def fals (bs : List Int) : Int := (bs.countP (· == -1) : Nat)
theorem fals_cons (b : Int) (bs : List Int) : fals (b :: bs) = fals bs + if b = -1 then 1 else 0 := by
  by_cases h : b = -1 <;> simp [fals, List.countP_cons, h]
theorem fals_nil : fals [] = 0 := rfl
theorem fals_append (xs ys : List Int) : fals (xs ++ ys) = fals xs + fals ys := by simp [fals, List.countP_append]
theorem fals_le (bs : List Int) : fals bs ≤ bs.length := by
  have := List.countP_le_length (p := (· == (-1 : Int))) (l := bs)
  simp only [fals]; omega
theorem fold_min (p : Int → Bool) (g : Int → Int) : ∀ (xs : List Int) (m : Int), (xs.foldl (fun m b => if p b = true then min m (g b) else m) m ≤ m) ∧ (∀ b, b ∈ xs → p b = true → xs.foldl (fun m b => if p b = true then min m (g b) else m) m ≤ g b) ∧ (xs.foldl (fun m b => if p b = true then min m (g b) else m) m = m ∨ ∃ b, b ∈ xs ∧ p b = true ∧ xs.foldl (fun m b => if p b = true then min m (g b) else m) m = g b)
  | [], m => ⟨by simp, by simp, .inl rfl⟩
  | x :: xs, m => by
    simp only [List.foldl_cons]
    obtain ⟨h1, h2, h3⟩ := fold_min p g xs (if p x = true then min m (g x) else m)
    refine ⟨?_, ?_, ?_⟩
    · by_cases hp : p x = true
      · rw [if_pos hp] at h1 ⊢; omega
      · rw [if_neg hp] at h1 ⊢; exact h1
    · intro b hb hp
      rcases List.mem_cons.1 hb with e | hb
      · subst e; rw [if_pos hp] at h1 ⊢; omega
      · exact h2 b hb hp
    · rcases h3 with h3 | ⟨b, hb, hp, h3⟩
      · by_cases hp : p x = true
        · rw [if_pos hp] at h3 ⊢
          rcases Int.le_total m (g x) with hm | hm
          · exact .inl (by rw [h3]; omega)
          · exact .inr ⟨x, by simp, hp, by rw [h3]; omega⟩
        · rw [if_neg hp] at h3 ⊢; exact .inl h3
      · exact .inr ⟨b, List.mem_cons_of_mem _ hb, hp, h3⟩
theorem least_succ (ES : List (Int × Int)) (J R : Nat) (out : List Int) (n : Nat) (u : List Bool) : leastN ES J R out (n + 1) u = if outB out ((R : Int) - (n + 1)) = true then leastN ES J R out n u else (bys J).foldl (fun m b => if freeB ES u ((R : Int) - (n + 1)) b = true then min m (leastN ES J R out n (freeU ES u ((R : Int) - (n + 1)) b) + if b = -1 then 1 else 0) else m) 1024 := rfl
theorem least_le (ES : List (Int × Int)) (J R : Nat) (out : List Int) : ∀ n u bs, IsW ES J R out n u bs → leastN ES J R out n u ≤ fals bs
  | 0, u, bs, h => by simp only [IsW] at h; subst h; simp [leastN, fals]
  | n + 1, u, [], h => by simp only [IsW] at h
  | n + 1, u, b :: bs, h => by
    simp only [IsW] at h
    rw [least_succ, fals_cons]
    by_cases ho : outB out ((R : Int) - (n + 1)) = true
    · rw [if_pos ho] at h
      rw [if_pos ho]
      have := least_le ES J R out n u bs h.2
      split <;> omega
    · rw [if_neg ho] at h
      rw [if_neg ho]
      have h1 := least_le ES J R out n _ bs h.2.2
      have h2 := (fold_min (freeB ES u ((R : Int) - (n + 1))) (fun b => leastN ES J R out n (freeU ES u ((R : Int) - (n + 1)) b) + if b = -1 then 1 else 0) (bys J) 1024).2.1 b h.1 h.2.1
      omega
theorem least_get (ES : List (Int × Int)) (J R : Nat) (out : List Int) : ∀ n u, leastN ES J R out n u < 1024 → ∃ bs, IsW ES J R out n u bs ∧ fals bs = leastN ES J R out n u
  | 0, u, h => ⟨[], rfl, rfl⟩
  | n + 1, u, h => by
    rw [least_succ] at h
    by_cases ho : outB out ((R : Int) - (n + 1)) = true
    · rw [if_pos ho] at h
      obtain ⟨bs, h1, h2⟩ := least_get ES J R out n u h
      refine ⟨-2 :: bs, ?_, ?_⟩
      · simp only [IsW, if_pos ho]; exact ⟨trivial, h1⟩
      · rw [fals_cons, least_succ, if_pos ho, h2]; simp
    · rw [if_neg ho] at h
      obtain ⟨h1, h2, h3⟩ := fold_min (freeB ES u ((R : Int) - (n + 1))) (fun b => leastN ES J R out n (freeU ES u ((R : Int) - (n + 1)) b) + if b = -1 then 1 else 0) (bys J) 1024
      rcases h3 with h3 | ⟨b, hb, hp, h3⟩
      · omega
      · obtain ⟨bs, h4, h5⟩ := least_get ES J R out n (freeU ES u ((R : Int) - (n + 1)) b) (by split at h3 <;> omega)
        refine ⟨b :: bs, ?_, ?_⟩
        · simp only [IsW, if_neg ho]; exact ⟨hb, hp, h4⟩
        · rw [fals_cons, h5, least_succ, if_neg ho, h3]
theorem isW_len (ES : List (Int × Int)) (J R : Nat) (out : List Int) : ∀ n u bs, IsW ES J R out n u bs → bs.length = n
  | 0, u, bs, h => by simp only [IsW] at h; subst h; rfl
  | n + 1, u, [], h => by simp only [IsW] at h
  | n + 1, u, b :: bs, h => by
    simp only [IsW] at h
    split at h
    · simp [isW_len ES J R out n u bs h.2]
    · simp [isW_len ES J R out n _ bs h.2.2]
theorem least_ex (ES : List (Int × Int)) (J R : Nat) (out : List Int) (n : Nat) (u : List Bool) (hn : n < 1024) : leastN ES J R out n u < 1024 ↔ ∃ bs, IsW ES J R out n u bs := by
  constructor
  · intro h; obtain ⟨bs, h1, _⟩ := least_get ES J R out n u h; exact ⟨bs, h1⟩
  · rintro ⟨bs, h⟩
    have h1 := least_le ES J R out n u bs h
    have h2 := fals_le bs
    rw [isW_len _ _ _ _ _ _ _ h] at h2
    omega
theorem poss_iff (ES : List (Int × Int)) (J R : Nat) (rec : Int) (fal : Bool) : ∀ n u, possN ES J R rec fal n u = true ↔ ∃ bs, IsW ES J R [] n u bs ∧ ∀ (i : Nat) (b : Int), bs[i]? = some b → (R : Int) - n + i = rec → (b == -1) = fal
  | 0, u => by simp [possN, IsW]
  | n + 1, u => by
    unfold possN
    rw [List.any_eq_true]
    constructor
    · rintro ⟨b, hb, hp⟩
      simp only [Bool.and_eq_true, Bool.or_eq_true] at hp
      obtain ⟨bs, h1, h2⟩ := (poss_iff ES J R rec fal n _).1 hp.2
      refine ⟨b :: bs, ?_, ?_⟩
      · simp only [IsW, outB, List.any_nil, Bool.false_eq_true, if_false]; exact ⟨hb, hp.1.1, h1⟩
      · intro i c hi he
        cases i with
        | zero =>
          simp at hi; subst hi
          rcases hp.1.2 with h | h
          · simp at h; omega
          · simpa using h
        | succ i => exact h2 i c (by simpa using hi) (by push_cast at he ⊢; omega)
    · rintro ⟨bs, h1, h2⟩
      cases bs with
      | nil => simp only [IsW] at h1
      | cons b bs =>
        simp only [IsW, outB, List.any_nil, Bool.false_eq_true, if_false] at h1
        refine ⟨b, h1.1, ?_⟩
        simp only [Bool.and_eq_true, Bool.or_eq_true]
        refine ⟨⟨h1.2.1, ?_⟩, (poss_iff ES J R rec fal n _).2 ⟨bs, h1.2.2, fun i c hi he => h2 (i + 1) c (by simpa using hi) (by push_cast at he ⊢; omega)⟩⟩
        by_cases e : (R : Int) - (n + 1) = rec
        · exact .inr (by simpa using h2 0 b (by simp) (by push_cast; omega))
        · exact .inl (by simpa using e)
theorem asgK_way (ES : List (Int × Int)) (J R : Nat) (h0 : leastN ES J R [] R u0 < 1024) : ∀ k, k ≤ R → leastN ES J R [] (R - k) (asgK ES J R k).u = (asgK ES J R k).left ∧ (asgK ES J R k).left < 1024 ∧ (asgK ES J R k).out.length = k ∧ fals (asgK ES J R k).out + (asgK ES J R k).left = leastN ES J R [] R u0 ∧ (∀ bs, IsW ES J R [] (R - k) (asgK ES J R k).u bs → IsW ES J R [] R u0 ((asgK ES J R k).out ++ bs))
    ∧ (∀ cs, IsW ES J R [] R u0 cs → fals cs = leastN ES J R [] R u0 → (∃ bs, cs = (asgK ES J R k).out ++ bs ∧ IsW ES J R [] (R - k) (asgK ES J R k).u bs) ∨ ∃ p x y q r, (asgK ES J R k).out = p ++ x :: q ∧ cs = p ++ y :: r ∧ x < y)
  | 0, _ => ⟨rfl, h0, rfl, by simp [asgK, fals], fun bs h => h, fun cs h _ => .inl ⟨cs, rfl, h⟩⟩
  | k + 1, hk => by
    obtain ⟨i1, i2, i3, i4, i5, i6⟩ := asgK_way ES J R h0 k (by omega)
    rw [show asgK ES J R (k + 1) = asgS ES J R k (asgK ES J R k) from rfl]
    generalize hs : asgK ES J R k = s at *
    have en : R - k = (R - (k + 1)) + 1 := by omega
    have er : (R : Int) - ((R - (k + 1) : Nat) + 1) = k := by omega
    rw [en] at i1 i5 i6
    obtain ⟨bs, hb1, hb2⟩ := least_get ES J R [] (R - (k + 1) + 1) s.u (by omega)
    have hcs : ∀ cs, IsW ES J R [] (R - (k + 1) + 1) s.u cs → fals cs = s.left → ∃ b rs, cs = b :: rs ∧ b ∈ bys J ∧ asgF ES J R k s.u s.left b = true ∧ IsW ES J R [] (R - (k + 1)) (freeU ES s.u k b) rs := by
      intro cs h1 h2
      cases cs with
      | nil => simp only [IsW] at h1
      | cons b rs =>
        simp only [IsW, outB, List.any_nil, Bool.false_eq_true, if_false, er] at h1
        refine ⟨b, rs, rfl, h1.1, ?_, h1.2.2⟩
        unfold asgF
        rw [h1.2.1, Bool.true_and, decide_eq_true_eq]
        have h3 := least_le ES J R [] _ _ _ h1.2.2
        rw [fals_cons] at h2
        have h4 := (fold_min (freeB ES s.u k) (fun b => leastN ES J R [] (R - (k + 1)) (freeU ES s.u k b) + if b = -1 then 1 else 0) (bys J) 1024).2.1 b h1.1 h1.2.1
        have h5 : leastN ES J R [] (R - (k + 1) + 1) s.u = (bys J).foldl (fun m b => if freeB ES s.u k b = true then min m (leastN ES J R [] (R - (k + 1)) (freeU ES s.u k b) + if b = -1 then 1 else 0) else m) 1024 := by
          rw [least_succ, if_neg (by simp [outB]), er]
        rw [← h5, i1] at h4
        omega
    obtain ⟨b0, r0, e0, m0, f0, w0⟩ := hcs bs hb1 (by rw [hb2, i1])
    unfold asgS
    cases hf : (bys J).find? (asgF ES J R k s.u s.left) with
    | none => exact absurd (List.find?_eq_none.1 hf b0 m0) (by simp [f0])
    | some b =>
      have hfb := List.find?_some hf
      have hmb := List.mem_of_find?_eq_some hf
      simp only [asgF, Bool.and_eq_true, decide_eq_true_eq] at hfb
      dsimp only
      refine ⟨hfb.2, ?_, by simp [i3], ?_, ?_, ?_⟩
      · split <;> omega
      · rw [fals_append, fals_cons, fals_nil]; omega
      · intro bs h
        rw [List.append_assoc]
        refine i5 (b :: bs) ?_
        simp only [IsW, outB, List.any_nil, Bool.false_eq_true, if_false, er]
        exact ⟨hmb, hfb.1, h⟩
      · intro cs h1 h2
        rcases i6 cs h1 h2 with ⟨ds, rfl, h3⟩ | ⟨p, x, y, q, r, e1, e2, e3⟩
        · rw [fals_append] at h2
          obtain ⟨c, rs, rfl, mc, fc, wc⟩ := hcs ds h3 (by omega)
          by_cases e : c = b
          · subst e
            exact .inl ⟨rs, by simp, wc⟩
          · refine .inr ⟨s.out, b, c, [], rs, rfl, rfl, ?_⟩
            obtain ⟨_, pre, suf, he, hpre⟩ := List.find?_eq_some_iff_append.1 hf
            have hnp : c ∉ pre := fun hc => by have := hpre c hc; simp [fc] at this
            have hsuf : c ∈ suf := by
              rw [he] at mc
              simp only [List.mem_append, List.mem_cons] at mc
              rcases mc with h | h | h
              · exact absurd h hnp
              · exact absurd h e
              · exact h
            have hp : (bys J).Pairwise (· < ·) := by
              unfold bys
              rw [List.pairwise_map]
              exact List.pairwise_lt_range.imp fun {a b} h => by omega
            rw [he] at hp
            exact (List.pairwise_cons.1 (List.pairwise_append.1 hp).2.1).1 c hsuf
        · refine .inr ⟨p, x, y, q ++ [b], r, by rw [e1]; simp, e2, e3⟩
end Go.Proofs.YthgfhgjlilmieaaGreat.G
namespace Go.Proofs.YthgfhgjlilmieaaGreat.B
open Go.RowKit Go.Proofs.YthgfhgjlilmieaaGreatW.PrintWords Go.Proofs.YthgfhgjlilmieaaGreatW.PrintLast Go.Proofs.YthgfhgjlilmieaaGreatW.PrintMore
attribute [local go_sem] max2_int min2_int max_two min_two max_three min_three max_four min_four
set_option linter.unusedVariables false
set_option linter.unusedSimpArgs false
def glisterref06_Has.l0 : Nat → List Int → Int → Int → Option (Bool)
 | 0, _, _, _ => none
 | k + 1, x0, x1, x5 => if x5 < (x0.length : Int) then (if 0 ≤ x5 then (if (rd x0 x5) = x1 then (some true) else (glisterref06_Has.l0 k x0 x1 (wrap64 (x5 + 1)))) else (none)) else (some false)
def glisterref06_Has.f (k : Nat) (l0 : List Int) (a1 : Int) : Option (Bool) := glisterref06_Has.l0 k l0 a1 0
set_option maxHeartbeats 8000000 in
set_option maxRecDepth 100000 in
theorem glisterref06_Has.calls (k : Nat) (A0 : Option Addr) (c0 : Nat) (l0 : List Int) (a1 : Int) (r : Bool) (w : World) (hr0 : Kd.C (Kd.int .i64) w A0 l0.length l0) (hc0 : l0.length ≤ c0) (h : glisterref06_Has.f k l0 a1 = some r) :
  Calls Tryz.prog 37 #[.slice A0 l0.length c0, .int .i64 a1] w fun e w' => e = .returned (.bool r) ∧ Drawn0 w w' := by
 have HR0 := Aside0.mk hr0
 have HC0 := Aside0.mk hc0
 clear hr0 hc0
 have H : (glisterref06_Has.l0 k l0 a1 0) = some r := h
 clear h
 have H' := Aside0.mk H
 clear H
 go_enter Tryz.func37, Tryz.ntmps37
 go_wp2
 go_loopg [5] k (fun kq v5 w' => ∃ (x5_1 : Int), v5 = .int .i64 x5_1 ∧ Aside0 (glisterref06_Has.l0 kq l0 a1 x5_1 = some r) ∧ Aside0 (kq ≤ k) ∧ Drawn0 w w')
 case atStart => exact ⟨(0), (by first | rfl | (simp; done) | (simp [*]; done)), H', ⟨Nat.le_refl _⟩, by repeat (first | exact Drawn0.refl _ | apply Drawn0.step)⟩
 case round =>
  clear H'
  try clear p2
  obtain ⟨x5_1, rfl, HA, HK1, ⟨m1, rfl⟩⟩ := hrel
  cases gk with
  | zero => exact absurd HA.out (by simp [glisterref06_Has.l0])
  | succ k1 =>
   have H := HA.out
   clear HA
   simp only [glisterref06_Has.l0] at H
   by_cases c3 : x5_1 < (l0.length : Int)
   ·rw [if_pos c3] at H
    have c3b0 : decide (x5_1 < (l0.length : Int)) = true := decide_eq_true c3
    clear c3
    by_cases c4 : 0 ≤ x5_1
    ·rw [if_pos c4] at H
     have c4b0 : decide (0 ≤ x5_1) = true := decide_eq_true c4
     clear c4
     by_cases c5 : (rd l0 x5_1) = a1
     ·rw [if_pos c5] at H
      have c5b0 : ((rd l0 x5_1) == a1) = true := beq_iff_eq.mpr c5
      have c5b1 : ((rd l0 x5_1) != a1) = false := bne_eq_false_iff_eq.mpr c5
      clear c5
      obtain rfl := Option.some.inj H
      have p431 : 0 ≤ (x5_1 : Int) := of_decide_eq_true (by first | (with_reducible assumption) | assumption)
      have q431 : x5_1 < (l0.length : Int) := of_decide_eq_true (by first | (with_reducible assumption) | assumption)
      obtain ⟨ad431, e431, hx431_0⟩ := Kd.at_int HR0.out x5_1 p431 q431
      cases e431
      replace p431 := eq_true p431
      replace q431 := eq_true q431
      go_wp2
      go_ret
      exact ⟨by first | rfl | (simp; done) | (simp [*]; done), by repeat (first | exact Drawn0.refl _ | apply Drawn0.step)⟩
     ·rw [if_neg c5] at H
      have c5b0 : ((rd l0 x5_1) == a1) = false := beq_eq_false_iff_ne.mpr c5
      have c5b1 : ((rd l0 x5_1) != a1) = true := bne_iff_ne.mpr c5
      have H' := Aside0.mk H
      clear H
      have p431 : 0 ≤ (x5_1 : Int) := of_decide_eq_true (by first | (with_reducible assumption) | assumption)
      have q431 : x5_1 < (l0.length : Int) := of_decide_eq_true (by first | (with_reducible assumption) | assumption)
      obtain ⟨ad431, e431, hx431_0⟩ := Kd.at_int HR0.out x5_1 p431 q431
      cases e431
      replace p431 := eq_true p431
      replace q431 := eq_true q431
      go_wp2
      go_roundg k1
      case measure => have := HK1.out; omega
      case rel => exact ⟨(wrap64 (x5_1 + 1)), (by first | rfl | (simp; done) | (simp [*]; done)), H', ⟨by have := HK1.out; omega⟩, by repeat (first | exact Drawn0.refl _ | apply Drawn0.step)⟩
    ·rw [if_neg c4] at H
     exact absurd H (by simp)
   ·rw [if_neg c3] at H
    have c3b0 : decide (x5_1 < (l0.length : Int)) = false := decide_eq_false c3
    clear c3
    obtain rfl := Option.some.inj H
    go_wp2
    go_ret
    exact ⟨by first | rfl | (simp; done) | (simp [*]; done), by repeat (first | exact Drawn0.refl _ | apply Drawn0.step)⟩
mutual
def glisterref06_Before.l0 : Nat → List Int → List Int → Int → Option (Bool)
 | 0, _, _, _ => none
 | k + 1, x0, x1, x5 => if x5 < (x0.length : Int) then (glisterref06_Before.j1 k x0 x1 x5 (decide (x5 < (x1.length : Int)))) else (glisterref06_Before.j1 k x0 x1 x5 false)
def glisterref06_Before.j1 : Nat → List Int → List Int → Int → Bool → Option (Bool)
 | 0, _, _, _, _ => none
 | k + 1, x0, x1, x5, x15 => if x15 = true then (if 0 ≤ x5 then (if x5 < (x0.length : Int) then (if x5 < (x1.length : Int) then (if (rd x0 x5) = (rd x1 x5) then (glisterref06_Before.l0 k x0 x1 (wrap64 (x5 + 1))) else (some (decide ((rd x0 x5) < (rd x1 x5))))) else (none)) else (none)) else (none)) else (some (decide ((x0.length : Int) < (x1.length : Int))))
end
def glisterref06_Before.f (k : Nat) (l0 : List Int) (l1 : List Int) : Option (Bool) := glisterref06_Before.l0 k l0 l1 0
set_option maxHeartbeats 8000000 in
set_option maxRecDepth 100000 in
theorem glisterref06_Before.calls (k : Nat) (A0 : Option Addr) (c0 : Nat) (l0 : List Int) (A1 : Option Addr) (c1 : Nat) (l1 : List Int) (r : Bool) (w : World) (hr0 : Kd.C (Kd.int .i64) w A0 l0.length l0) (hc0 : l0.length ≤ c0) (hr1 : Kd.C (Kd.int .i64) w A1 l1.length l1) (hc1 : l1.length ≤ c1) (h : glisterref06_Before.f k l0 l1 = some r) :
  Calls Tryz.prog 52 #[.slice A0 l0.length c0, .slice A1 l1.length c1] w fun e w' => e = .returned (.bool r) ∧ Drawn0 w w' := by
 have HR0 := Aside0.mk hr0
 have HC0 := Aside0.mk hc0
 clear hr0 hc0
 have HR1 := Aside0.mk hr1
 have HC1 := Aside0.mk hc1
 clear hr1 hc1
 have H : (glisterref06_Before.l0 k l0 l1 0) = some r := h
 clear h
 have H' := Aside0.mk H
 clear H
 go_enter Tryz.func52, Tryz.ntmps52
 go_wp2
 repeat (go_quiet (fail); try go_wp2)
 go_loopg [5] k (fun kq v5 w' => ∃ (x5_1 : Int), v5 = .int .i64 x5_1 ∧ Aside0 (glisterref06_Before.l0 kq l0 l1 x5_1 = some r) ∧ Aside0 (kq ≤ k) ∧ Drawn0 w w')
 case atStart => exact ⟨(0), (by first | rfl | (simp; done) | (simp [*]; done)), H', ⟨Nat.le_refl _⟩, by repeat (first | exact Drawn0.refl _ | apply Drawn0.step)⟩
 case round =>
  clear H'
  try clear c1
  try clear p2
  obtain ⟨x5_1, rfl, HA, HK1, ⟨m1, rfl⟩⟩ := hrel
  cases gk with
  | zero => exact absurd HA.out (by simp [glisterref06_Before.l0])
  | succ k1 =>
   have H := HA.out
   clear HA
   simp only [glisterref06_Before.l0] at H
   have HC3 := Aside0.mk H
   clear H
   go_upto_region 2 with (fail)
   repeat (go_quiet (fail); go_upto_region 2 with (fail))
   go_cut [15] (fun v15 wc => ∃ (kq : Nat) (x15_2 : Bool), v15 = .bool x15_2 ∧ Aside0 (glisterref06_Before.j1 kq l0 l1 x5_1 x15_2 = some r) ∧ Aside0 (kq ≤ k1) ∧ Drawn0 w wc)
   case first =>
    have H := HC3.out
    clear HC3
    by_cases c4 : x5_1 < (l0.length : Int)
    ·rw [if_pos c4] at H
     have c4b0 : decide (x5_1 < (l0.length : Int)) = true := decide_eq_true c4
     clear c4
     (first | rw [c4b0] | (simp only [i64_w, i32_w]; rw [c4b0]) | skip)
     have H' := Aside0.mk H
     clear H
     go_wp2
     repeat (go_quiet (fail); try go_wp2)
     go_meet
     case rel => exact ⟨_, (decide (x5_1 < (l1.length : Int))), (by first | rfl | (simp; done) | (simp [*]; done)), H', ⟨by have := HK1.out; first | omega | exact Nat.le_refl _⟩, by repeat (first | exact Drawn0.refl _ | apply Drawn0.step)⟩
    ·rw [if_neg c4] at H
     have c4b0 : decide (x5_1 < (l0.length : Int)) = false := decide_eq_false c4
     clear c4
     (first | rw [c4b0] | (simp only [i64_w, i32_w]; rw [c4b0]) | skip)
     have H' := Aside0.mk H
     clear H
     go_wp2
     repeat (go_quiet (fail); try go_wp2)
     go_meet
     case rel => exact ⟨_, (false), (by first | rfl | (simp; done) | (simp [*]; done)), H', ⟨by have := HK1.out; first | omega | exact Nat.le_refl _⟩, by repeat (first | exact Drawn0.refl _ | apply Drawn0.step)⟩
   case rest =>
    clear HC3
    try clear c1
    try clear p2
    try clear c4
    try clear c4b0
    try clear p2
    obtain ⟨kq, x15_2, rfl, HA, HJ2, ⟨mc2, rfl⟩⟩ := hcut
    cases kq with
    | zero => exact absurd HA.out (by simp [glisterref06_Before.j1])
    | succ kj2 =>
     have H := HA.out
     clear HA
     simp only [glisterref06_Before.j1] at H
     by_cases c5 : x15_2 = true
     ·subst c5
      have H1 : (if 0 ≤ x5_1 then (if x5_1 < (l0.length : Int) then (if x5_1 < (l1.length : Int) then (if (rd l0 x5_1) = (rd l1 x5_1) then (glisterref06_Before.l0 kj2 l0 l1 (wrap64 (x5_1 + 1))) else (some (decide ((rd l0 x5_1) < (rd l1 x5_1))))) else (none)) else (none)) else (none)) = some r := by rw [if_pos rfl] at H; exact H
      clear H
      have H := H1
      clear H1
      by_cases c6 : 0 ≤ x5_1
      ·rw [if_pos c6] at H
       have c6b0 : decide (0 ≤ x5_1) = true := decide_eq_true c6
       clear c6
       by_cases c7 : x5_1 < (l0.length : Int)
       ·rw [if_pos c7] at H
        have c7b0 : decide (x5_1 < (l0.length : Int)) = true := decide_eq_true c7
        clear c7
        by_cases c8 : x5_1 < (l1.length : Int)
        ·rw [if_pos c8] at H
         have c8b0 : decide (x5_1 < (l1.length : Int)) = true := decide_eq_true c8
         clear c8
         by_cases c9 : (rd l0 x5_1) = (rd l1 x5_1)
         ·rw [if_pos c9] at H
          have c9b0 : ((rd l0 x5_1) == (rd l1 x5_1)) = true := beq_iff_eq.mpr c9
          have c9b1 : ((rd l0 x5_1) != (rd l1 x5_1)) = false := bne_eq_false_iff_eq.mpr c9
          clear c9
          have H' := Aside0.mk H
          clear H
          have p322 : 0 ≤ (x5_1 : Int) := of_decide_eq_true (by first | (with_reducible assumption) | assumption)
          have q322 : x5_1 < (l0.length : Int) := of_decide_eq_true (by first | (with_reducible assumption) | assumption)
          obtain ⟨ad322, e322, hx322_0⟩ := Kd.at_int HR0.out x5_1 p322 q322
          cases e322
          replace p322 := eq_true p322
          replace q322 := eq_true q322
          have p323 : 0 ≤ (x5_1 : Int) := of_decide_eq_true (by first | (with_reducible assumption) | assumption)
          have q323 : x5_1 < (l1.length : Int) := of_decide_eq_true (by first | (with_reducible assumption) | assumption)
          obtain ⟨ad323, e323, hx323_0⟩ := Kd.at_int HR1.out x5_1 p323 q323
          cases e323
          replace p323 := eq_true p323
          replace q323 := eq_true q323
          go_wp2
          repeat (go_quiet (fail); try go_wp2)
          go_roundg kj2
          case measure => have := HK1.out; have := HJ2.out; omega
          case rel => exact ⟨(wrap64 (x5_1 + 1)), (by first | rfl | (simp; done) | (simp [*]; done)), H', ⟨by have := HK1.out; have := HJ2.out; omega⟩, by repeat (first | exact Drawn0.refl _ | apply Drawn0.step)⟩
         ·rw [if_neg c9] at H
          have c9b0 : ((rd l0 x5_1) == (rd l1 x5_1)) = false := beq_eq_false_iff_ne.mpr c9
          have c9b1 : ((rd l0 x5_1) != (rd l1 x5_1)) = true := bne_iff_ne.mpr c9
          obtain rfl := Option.some.inj H
          have p322 : 0 ≤ (x5_1 : Int) := of_decide_eq_true (by first | (with_reducible assumption) | assumption)
          have q322 : x5_1 < (l0.length : Int) := of_decide_eq_true (by first | (with_reducible assumption) | assumption)
          obtain ⟨ad322, e322, hx322_0⟩ := Kd.at_int HR0.out x5_1 p322 q322
          cases e322
          replace p322 := eq_true p322
          replace q322 := eq_true q322
          have p323 : 0 ≤ (x5_1 : Int) := of_decide_eq_true (by first | (with_reducible assumption) | assumption)
          have q323 : x5_1 < (l1.length : Int) := of_decide_eq_true (by first | (with_reducible assumption) | assumption)
          obtain ⟨ad323, e323, hx323_0⟩ := Kd.at_int HR1.out x5_1 p323 q323
          cases e323
          replace p323 := eq_true p323
          replace q323 := eq_true q323
          have p324 : 0 ≤ (x5_1 : Int) := of_decide_eq_true (by first | (with_reducible assumption) | assumption)
          have q324 : x5_1 < (l0.length : Int) := of_decide_eq_true (by first | (with_reducible assumption) | assumption)
          obtain ⟨ad324, e324, hx324_0⟩ := Kd.at_int HR0.out x5_1 p324 q324
          obtain rfl : ad322 = ad324 := (by injection e324)
          replace p324 := eq_true p324
          replace q324 := eq_true q324
          have p325 : 0 ≤ (x5_1 : Int) := of_decide_eq_true (by first | (with_reducible assumption) | assumption)
          have q325 : x5_1 < (l1.length : Int) := of_decide_eq_true (by first | (with_reducible assumption) | assumption)
          obtain ⟨ad325, e325, hx325_0⟩ := Kd.at_int HR1.out x5_1 p325 q325
          obtain rfl : ad323 = ad325 := (by injection e325)
          replace p325 := eq_true p325
          replace q325 := eq_true q325
          go_wp2
          repeat (go_quiet (fail); try go_wp2)
          go_ret
          exact ⟨by first | rfl | (simp; done) | (simp [*]; done), by repeat (first | exact Drawn0.refl _ | apply Drawn0.step)⟩
        ·rw [if_neg c8] at H
         exact absurd H (by simp)
       ·rw [if_neg c7] at H
        exact absurd H (by simp)
      ·rw [if_neg c6] at H
       exact absurd H (by simp)
     ·replace c5 := Bool.eq_false_iff.mpr c5
      subst c5
      have H1 : (some (decide ((l0.length : Int) < (l1.length : Int)))) = some r := by rw [if_neg (show ¬ (false = true) by decide)] at H; exact H
      clear H
      have H := H1
      clear H1
      obtain rfl := Option.some.inj H
      go_wp2
      repeat (go_quiet (fail); try go_wp2)
      go_ret
      exact ⟨by first | rfl | (simp; done) | (simp [*]; done), by repeat (first | exact Drawn0.refl _ | apply Drawn0.step)⟩
def glisterref06_Shorter.f (k : Nat) (l0 : List Int) (l1 : List Int) : Option (Bool) := if (l0.length : Int) < (l1.length : Int) then (some true) else (if (l0.length : Int) = (l1.length : Int) then ((glisterref06_Before.f k l0 l1).bind fun t430 => (some t430)) else (some false))
set_option maxHeartbeats 8000000 in
set_option maxRecDepth 100000 in
theorem glisterref06_Shorter.calls (k : Nat) (A0 : Option Addr) (c0 : Nat) (l0 : List Int) (A1 : Option Addr) (c1 : Nat) (l1 : List Int) (r : Bool) (w : World) (hr0 : Kd.C (Kd.int .i64) w A0 l0.length l0) (hc0 : l0.length ≤ c0) (hr1 : Kd.C (Kd.int .i64) w A1 l1.length l1) (hc1 : l1.length ≤ c1) (h : glisterref06_Shorter.f k l0 l1 = some r) :
  Calls Tryz.prog 43 #[.slice A0 l0.length c0, .slice A1 l1.length c1] w fun e w' => e = .returned (.bool r) ∧ Drawn0 w w' := by
 have HR0 := Aside0.mk hr0
 have HC0 := Aside0.mk hc0
 clear hr0 hc0
 have HR1 := Aside0.mk hr1
 have HC1 := Aside0.mk hc1
 clear hr1 hc1
 have H : (if (l0.length : Int) < (l1.length : Int) then (some true) else (if (l0.length : Int) = (l1.length : Int) then ((glisterref06_Before.f k l0 l1).bind fun t430 => (some t430)) else (some false))) = some r := h
 clear h
 by_cases c3 : (l0.length : Int) < (l1.length : Int)
 ·rw [if_pos c3] at H
  have c3b0 : decide ((l0.length : Int) < (l1.length : Int)) = true := decide_eq_true c3
  have c3b1 : decide (l0.length < l1.length) = true := decide_eq_true (Int.ofNat_lt.mp c3)
  clear c3
  obtain rfl := Option.some.inj H
  go_enter Tryz.func43, Tryz.ntmps43
  go_wp2
  go_ret
  exact ⟨by first | rfl | (simp; done) | (simp [*]; done), by repeat (first | exact Drawn0.refl _ | apply Drawn0.step)⟩
 ·rw [if_neg c3] at H
  have c3b0 : decide ((l0.length : Int) < (l1.length : Int)) = false := decide_eq_false c3
  have c3b1 : decide (l0.length < l1.length) = false := decide_eq_false (fun h => c3 (Int.ofNat_lt.mpr h))
  clear c3
  by_cases c4 : (l0.length : Int) = (l1.length : Int)
  ·rw [if_pos c4] at H
   have c4b0 : ((l0.length : Int) == (l1.length : Int)) = true := beq_iff_eq.mpr c4
   have c4b1 : ((l0.length : Int) != (l1.length : Int)) = false := bne_eq_false_iff_eq.mpr c4
   have c4b2 : (l0.length == l1.length) = true := by first | simpa using c4 | (simp at c4 ⊢; omega)
   clear c4
   replace H := Option.bind_eq_some_iff.mp H
   obtain ⟨t430, A50, H⟩ := H
   replace H : (some t430) = some r := H
   have A5 := Aside0.mk A50
   clear A50
   obtain rfl := Option.some.inj H
   go_enter Tryz.func43, Tryz.ntmps43
   go_wp2_with (first | (go_at_call 52; (with_reducible refine (glisterref06_Before.calls k _ _ l0 _ _ l1 t430 _ ?side1 ?side2 ?side3 ?side4 A5.out).mono ?_); (case side1 => repeat (first | exact HR0.out | (with_reducible refine Kd.C_alloc ?_ _) | (with_reducible refine Kd.C_drewN ?_ _) | (with_reducible refine Kd.C_drew ?_))); (case side2 => exact HC0.out); (case side3 => repeat (first | exact HR1.out | (with_reducible refine Kd.C_alloc ?_ _) | (with_reducible refine Kd.C_drewN ?_ _) | (with_reducible refine Kd.C_drew ?_))); (case side4 => exact HC1.out); rintro e w' ⟨rfl, ⟨nd, rfl⟩⟩))
   go_ret
   exact ⟨by first | rfl | (simp; done) | (simp [*]; done), by repeat (first | exact Drawn0.refl _ | apply Drawn0.step)⟩
  ·rw [if_neg c4] at H
   have c4b0 : ((l0.length : Int) == (l1.length : Int)) = false := beq_eq_false_iff_ne.mpr c4
   have c4b1 : ((l0.length : Int) != (l1.length : Int)) = true := bne_iff_ne.mpr c4
   have c4b2 : (l0.length == l1.length) = false := by first | simpa using c4 | (simp at c4 ⊢; omega)
   obtain rfl := Option.some.inj H
   go_enter Tryz.func43, Tryz.ntmps43
   go_wp2
   go_ret
   exact ⟨by first | rfl | (simp; done) | (simp [*]; done), by repeat (first | exact Drawn0.refl _ | apply Drawn0.step)⟩
end Go.Proofs.YthgfhgjlilmieaaGreat.B
namespace Go.Proofs.YthgfhgjlilmieaaGreat.G
open Go.RowKit Go.Shelf Go.Proofs.YthgfhgjlilmieaaGreatW.PrintWords Go.Proofs.YthgfhgjlilmieaaGreatW.PrintLast Go.Proofs.YthgfhgjlilmieaaGreatW.PrintMore
open Go.Proofs.YthgfhgjlilmieaaGreat.B
set_option linter.unusedVariables false
set_option linter.unusedSimpArgs false
theorem has_l (xs : List Int) (n : Int) (hb : xs.length ≤ 9223372036854775807) : ∀ (d i k : Nat), d = xs.length - i → i ≤ xs.length → d < k → glisterref06_Has.l0 k xs n i = some ((xs.drop i).contains n) := by
  intro d
  induction d with
  | zero =>
    intro i k hd hi hk
    obtain ⟨k, rfl⟩ : ∃ m, k = m + 1 := ⟨k - 1, by omega⟩
    simp only [glisterref06_Has.l0]
    rw [if_neg (by omega), List.drop_eq_nil_of_le (by omega)]
    rfl
  | succ d ih =>
    intro i k hd hi hk
    obtain ⟨k, rfl⟩ : ∃ m, k = m + 1 := ⟨k - 1, by omega⟩
    have h1 : i < xs.length := by omega
    simp only [glisterref06_Has.l0]
    rw [if_pos (by omega), if_pos (by omega), rd_nat xs i h1, wrap_nat i xs.length h1 hb, ih (i + 1) k (by omega) (by omega) (by omega), List.drop_eq_getElem_cons h1, List.contains_cons]
    by_cases hx : xs[i] = n
    · rw [if_pos hx]; simp [hx]
    · rw [if_neg hx]
      have : (n == xs[i]) = false := by simp; exact fun h => hx h.symm
      rw [this, Bool.false_or]
theorem has_f (xs : List Int) (n : Int) (hb : xs.length ≤ 9223372036854775807) (k : Nat) (hk : xs.length < k) : glisterref06_Has.f k xs n = some (xs.contains n) := by
  unfold glisterref06_Has.f
  have := has_l xs n hb xs.length 0 k (by omega) (by omega) (by omega)
  simpa using this
theorem has37_any (A : Option Addr) (c : Nat) (xs : List Int) (n : Int) (w : World) (hx : Kd.C (Kd.int .i64) w A xs.length xs) (hc : xs.length ≤ c) :
    Calls Tryz.prog 37 #[.slice A xs.length c, .int .i64 n] w fun e w' => e = .returned (.bool (xs.contains n)) ∧ Below w.heap.size w w' := by
  have hb : xs.length ≤ 9223372036854775807 := by have := hx.2.1; omega
  refine (glisterref06_Has.calls (xs.length + 1) A c xs n _ w hx hc (has_f xs n hb _ (by omega))).mono ?_
  rintro e w' ⟨he, m, rfl⟩
  exact ⟨he, belowN w m⟩
theorem assign36_at (a : LV) (l : Lg) (w : World) (hL : LogAt w a l) : Calls Tryz.prog 36 #[logV a l] w (OwnP (asgL l) (asgE l) w) := (assign_any a l w hL).mono fun e w' ⟨v, he, hR, hb⟩ => by
  obtain ⟨A, c, rfl, hl, hC⟩ := Kd.R_reads hR
  exact ⟨A, c, he, hl, hC, hb⟩
theorem leave32_at (a : LV) (l : Lg) (w : World) (hL : LogAt w a l) : Calls Tryz.prog 32 #[logV a l] w (OwnP (leaveL l) (leaveE l) w) := (leave32_any a l w hL).mono fun e w' ⟨v, he, hR, hb⟩ => by
  obtain ⟨A, c, rfl, hl, hC⟩ := Kd.R_reads hR
  exact ⟨A, c, he, hl, hC, hb⟩
def Q34 (l : Lg) (b : Bool) : Prop := b = true → ThinOk l ∧ logE l = 0
set_option maxRecDepth 100000 in
set_option maxHeartbeats 4000000 in
theorem ready34_any (a : LV) (l : Lg) (w : World) (hL : LogAt w a l) : Calls Tryz.prog 34 #[logV a l] w (SomeB (Q34 l) w) := by
  have hu := Tryz.underlying29
  have hz : ∀ W, Below (w.heap.size + 1) (w.alloc (logD a l)) W → LogAt W a l := fun W h => hL.below (toW h)
  have HTH := Aside0.mk (fun W h => thin17_any a l W (hz W h))
  have HFL := Aside0.mk (fun W h => fault22_any a l W (hz W h))
  have HCE := Aside0.mk (logCells a l w)
  have HTW := Aside0.mk (fun W h => toW (a := a) (l := l) (w := w) (W := W) h)
  have BW := Aside0.mk (Below.refl (w.heap.size + 1) (w.alloc (logD a l)))
  have HN : Aside0 (w.heap.size + 1 ≤ (w.alloc (logD a l)).heap.size) := ⟨by simp⟩
  obtain ⟨A0, A2, A3, A4, c0, c2, c3, c4⟩ := a
  dsimp only [logV] at HTH HFL HCE ⊢
  clear hz hL
  have HQ : Aside0 (∀ b, (b = true → ThinOk l) → Q34 l (b && logE l == 0)) := ⟨fun b h e => by
    simp only [Bool.and_eq_true, beq_iff_eq] at e
    exact ⟨h e.1, e.2⟩⟩
  generalize hE : logE l = E at HFL HQ
  clear hE
  generalize Q34 l = Q at *
  go_enter Tryz.func34, Tryz.ntmps34
  go_wp2_with (fail)
  refine (HTH.out _ BW.out).mono ?_
  rintro e w1_ ⟨b, rfl, hq, hb⟩
  have HQ1 := Aside0.mk hq
  clear hq
  have BW := Aside0.mk (step_b BW.out HN.out hb)
  obtain ⟨b0, b1, b2, b3, b4⟩ := HCE.out _ BW.out
  clear hb
  cases b with
  | false =>
    go_wp2
    go_ret
    exact ⟨_, rfl, by simpa using HQ.out false HQ1.out, HTW.out _ BW.out⟩
  | true =>
    go_wp2_with (fail)
    refine (HFL.out _ BW.out).mono ?_
    rintro e w2_ ⟨rfl, hb⟩
    have BW := Aside0.mk (step_b BW.out HN.out hb)
    clear b0 b1 b2 b3 b4 hb
    go_wp2
    go_ret
    exact ⟨_, rfl, by simpa using HQ.out true HQ1.out, HTW.out _ BW.out⟩
end Go.Proofs.YthgfhgjlilmieaaGreat.G
namespace Go.Proofs.YthgfhgjlilmieaaGreat.G
open Go.RowKit Go.Shelf Go.Proofs.YthgfhgjlilmieaaGreatW.PrintWords Go.Proofs.YthgfhgjlilmieaaGreatW.PrintLast Go.Proofs.YthgfhgjlilmieaaGreatW.PrintMore
open Go.Proofs.YthgfhgjlilmieaaGreat.B
set_option linter.unusedVariables false
set_option linter.unusedSimpArgs false
theorem inR_rec {l : Lg} {r : Nat} (h : r < l.rc.length) : inR (r : Int) 0 ((l.rc.length : Int) - 1) = true := by
  simp only [inR, Bool.and_eq_true, decide_eq_true_eq]; omega
theorem mem_can (l : Lg) {r : Nat} (hr : r < l.rc.length) (b : Int) : ((r : Int), b) ∈ esK l l.rc.length ↔ b ∈ statL l (rd_T75 l.rc r) ∨ (b = -1 ∧ anyB l (rd_T75 l.rc r) = true) := by
  rw [mem_esK]
  have hf : b ∈ falL l (rd_T75 l.rc r) ↔ b = -1 ∧ anyB l (rd_T75 l.rc r) = true := by
    unfold falL
    split <;> simp_all
  rw [← hf]
  constructor
  · rintro ⟨k, h1, h2, h3⟩
    obtain rfl : r = k := by omega
    exact h3
  · exact fun h => ⟨r, hr, rfl, h⟩
def Way (l : Lg) (bs : List Int) : Prop := IsW (esK l l.rc.length) l.jn.length l.rc.length [] l.rc.length u0 bs
theorem way_len {l : Lg} {bs : List Int} (h : Way l bs) : bs.length = l.rc.length := isW_len _ _ _ _ _ _ _ h
theorem possB_iff (l : Lg) (r : Nat) (hr : r < l.rc.length) (f : Bool) : possB l r f = true ↔ ∃ bs, Way l bs ∧ (rd bs r == -1) = f := by
  unfold possB
  rw [poss_iff]
  constructor
  · rintro ⟨bs, h1, h2⟩
    refine ⟨bs, h1, h2 r _ ?_ (by omega)⟩
    have hl := way_len h1
    rw [List.getElem?_eq_getElem (by omega), rd_nat bs r (by omega)]
  · rintro ⟨bs, h1, h2⟩
    refine ⟨bs, h1, fun i b hi he => ?_⟩
    obtain rfl : i = r := by omega
    have hl := way_len h1
    rw [List.getElem?_eq_getElem (by omega)] at hi
    rw [rd_nat bs i (by omega)] at h2
    simpa [Option.some.inj hi] using h2
theorem left_iff (l : Lg) (h6 : l.rc.length ≤ 6) : leftL l < 1024 ↔ ∃ bs, Way l bs := least_ex _ _ _ _ _ _ (by omega)
theorem verdV_iff (l : Lg) (r : Nat) (hr : r < l.rc.length) : (verdV l r).isSome = true ↔ ∃ bs, Way l bs := by
  unfold verdV
  constructor
  · intro h
    by_cases h1 : possB l r false = true
    · obtain ⟨bs, h, _⟩ := (possB_iff l r hr false).1 h1; exact ⟨bs, h⟩
    · rw [if_neg h1] at h
      by_cases h2 : possB l r true = true
      · obtain ⟨bs, h, _⟩ := (possB_iff l r hr true).1 h2; exact ⟨bs, h⟩
      · rw [if_neg h2] at h; simp at h
  · rintro ⟨bs, h⟩
    cases hx : (rd bs r == -1) with
    | false =>
      rw [if_pos ((possB_iff l r hr false).2 ⟨bs, h, hx⟩)]
      split <;> rfl
    | true =>
      have ht := (possB_iff l r hr true).2 ⟨bs, h, hx⟩
      simp only [ht, if_true]
      split <;> rfl
theorem verdK_get (l : Lg) : ∀ k xs, verdK l k = some xs → ∀ (r : Nat), r < k → verdV l r = xs[r]?
  | 0, xs, h, r, hr => by omega
  | k + 1, xs, h, r, hr => by
    simp only [verdK] at h
    cases hx : verdK l k with
    | none => rw [hx] at h; cases h
    | some ys =>
      rw [hx] at h
      simp only [Option.bind_some] at h
      cases hv : verdV l k with
      | none => rw [hv] at h; cases h
      | some v =>
        rw [hv] at h
        simp only [Option.map_some, Option.some.injEq] at h
        subst h
        have hl := verdK_len l k ys hx
        by_cases e : r = k
        · subst e; rw [hv, List.getElem?_append_right (by omega), hl]; simp
        · rw [verdK_get l k ys hx r (by omega), List.getElem?_append_left (by omega)]
theorem verd_none {l : Lg} (hE : logE l = 0) (h6 : l.rc.length ≤ 6) (h : ¬ ∃ bs, Way l bs) : verdE l = 11 ∧ verdL l = [] ∧ asgE l = 11 ∧ asgL l = [] := by
  have ha : ¬ leftL l < 1024 := fun hl => h ((left_iff l h6).1 hl)
  have hv : verdK l l.rc.length = none := by
    by_cases h0 : l.rc.length = 0
    · exfalso
      apply h
      refine ⟨[], ?_⟩
      unfold Way
      rw [h0]
      rfl
    · cases hv : verdK l 1 with
      | none => exact verdK_none l 1 hv _ (by omega)
      | some xs =>
        have := verdK_get l 1 xs hv 0 (by omega)
        have hl := verdK_len l 1 xs hv
        exact absurd ((verdV_iff l 0 (by omega)).1 (by rw [this, List.getElem?_eq_getElem (by omega)]; rfl)) h
  refine ⟨?_, ?_, ?_, ?_⟩
  · unfold verdE; rw [if_neg (by simp [hE]), hv]; rfl
  · unfold verdL; rw [if_neg (by simp [hE]), hv]; rfl
  · unfold asgE; rw [if_neg (by simp [hE]), if_pos (by omega)]
  · unfold asgL; rw [if_neg (by simp [hE]), if_pos (by omega)]
theorem asg_way {l : Lg} (hE : logE l = 0) (h6 : l.rc.length ≤ 6) (h : ∃ bs, Way l bs) : asgE l = 0 ∧ Way l (asgL l) := by
  have ha := (left_iff l h6).2 h
  refine ⟨?_, ?_⟩
  · unfold asgE; rw [if_neg (by simp [hE]), if_neg (by omega)]
  · unfold asgL; rw [if_neg (by simp [hE]), if_neg (by omega)]
    obtain ⟨_, _, _, _, h5, _⟩ := asgK_way (esK l l.rc.length) l.jn.length l.rc.length ha l.rc.length (Nat.le_refl _)
    have := h5 [] (by rw [Nat.sub_self]; rfl)
    rw [List.append_nil] at this
    exact this
structure VF (l : Lg) (r : Nat) (v a : Int) : Prop where
  ask : askE l r = 0
  val : v = 1 ∨ v = 2 ∨ v = 3
  m : mskE l r = 0 ∨ mskE l r = 7
  o : ownL l r = [] → v = 2
  n : mskE l r = 7 → v = 1
  f : a < 0 → v ≠ 1 ∧ mskE l r = 0
  t : 0 ≤ a → v ≠ 2 ∧ (ownL l r).contains a = true
end Go.Proofs.YthgfhgjlilmieaaGreat.G
namespace Go.Proofs.YthgfhgjlilmieaaGreat.G
open Go.RowKit Go.Shelf Go.Proofs.YthgfhgjlilmieaaGreatW.PrintWords Go.Proofs.YthgfhgjlilmieaaGreatW.PrintLast Go.Proofs.YthgfhgjlilmieaaGreatW.PrintMore
open Go.Proofs.YthgfhgjlilmieaaGreat.B
set_option linter.unusedVariables false
set_option linter.unusedSimpArgs false
theorem mem_bys (J : Nat) (b : Int) : b ∈ bys J ↔ -1 ≤ b ∧ b < J := by
  simp only [bys, List.mem_map, List.mem_range]
  exact ⟨fun ⟨i, h, e⟩ => by omega, fun ⟨h1, h2⟩ => ⟨(b + 1).toNat, by omega, by omega⟩⟩
structure Wy (ES : List (Int × Int)) (J R : Nat) (out : List Int) (n : Nat) (u : List Bool) (bs : List Int) : Prop where
  len : bs.length = n
  no : ∀ (i : Nat) (b : Int), bs[i]? = some b → outB out ((R : Int) - n + i) = true → b = -2
  yes : ∀ (i : Nat) (b : Int), bs[i]? = some b → outB out ((R : Int) - n + i) = false → -1 ≤ b ∧ b < J ∧ ((R : Int) - n + i, b) ∈ ES ∧ (b ≠ -1 → u.getD b.toNat false = false)
  two : ∀ (i j : Nat) (b : Int), i < j → bs[i]? = some b → bs[j]? = some b → b < 0
theorem getD_free (ES : List (Int × Int)) (u : List Bool) (r b : Int) (hf : freeB ES u r b = true) (hu : u.length = 8) (hb : -1 ≤ b ∧ b < 8) (c : Int) (hc : 0 ≤ c) : (freeU ES u r b).getD c.toNat false = if c = b then true else u.getD c.toNat false := by
  unfold freeU
  by_cases h : b = -1
  · rw [if_neg (by simp [h]), if_neg (by omega)]
  · rw [if_pos ⟨hf, h⟩, uC_set u b.toNat (by omega) hu]
    by_cases e : b.toNat = c.toNat
    · rw [if_pos e, if_pos (by omega)]
    · rw [if_neg e, if_neg (by omega)]
theorem isW_iff (ES : List (Int × Int)) (J R : Nat) (out : List Int) (hJ : J ≤ 8) : ∀ n u bs, u.length = 8 → (IsW ES J R out n u bs ↔ Wy ES J R out n u bs)
  | 0, u, bs, hu => by
    simp only [IsW]
    constructor
    · rintro rfl
      exact ⟨rfl, by simp, by simp, by simp⟩
    · intro h; exact List.length_eq_zero_iff.1 h.len
  | n + 1, u, [], hu => by
    simp only [IsW, false_iff]
    intro h; have := h.len; simp at this
  | n + 1, u, b :: bs, hu => by
    have e0 : (R : Int) - (n + 1 : Nat) + (0 : Nat) = (R : Int) - (n + 1) := by push_cast; omega
    have e1 : ∀ i : Nat, (R : Int) - (n + 1 : Nat) + (i + 1 : Nat) = (R : Int) - n + i := fun i => by push_cast; omega
    simp only [IsW]
    by_cases ho : outB out ((R : Int) - (n + 1)) = true
    · rw [if_pos ho, isW_iff ES J R out hJ n u bs hu]
      constructor
      · rintro ⟨rfl, h⟩
        refine ⟨by simp [h.len], ?_, ?_, ?_⟩
        · intro i c hi hq
          cases i with
          | zero => simpa using hi.symm
          | succ i => rw [e1] at hq; exact h.no i c (by simpa using hi) hq
        · intro i c hi hq
          cases i with
          | zero => rw [e0, ho] at hq; cases hq
          | succ i => rw [e1] at hq ⊢; exact h.yes i c (by simpa using hi) hq
        · intro i j c hij hi hj
          cases i with
          | zero => simp at hi; omega
          | succ i =>
            cases j with
            | zero => omega
            | succ j => exact h.two i j c (by omega) (by simpa using hi) (by simpa using hj)
      · intro h
        refine ⟨h.no 0 b (by simp) (by rw [e0]; exact ho), ⟨by have := h.len; simpa using this, ?_, ?_, ?_⟩⟩
        · intro i c hi hq
          exact h.no (i + 1) c (by simpa using hi) (by rw [e1]; exact hq)
        · intro i c hi hq
          have := h.yes (i + 1) c (by simpa using hi) (by rw [e1]; exact hq)
          rwa [e1] at this
        · intro i j c hij hi hj
          exact h.two (i + 1) (j + 1) c (by omega) (by simpa using hi) (by simpa using hj)
    · have ho' : outB out ((R : Int) - (n + 1)) = false := by simpa using ho
      rw [if_neg ho, isW_iff ES J R out hJ n (freeU ES u ((R : Int) - (n + 1)) b) bs (by rw [freeU_len, hu]), mem_bys]
      constructor
      · rintro ⟨hb, hf, h⟩
        have hf2 := hf
        simp only [freeB, Bool.and_eq_true, decide_eq_true_eq, Bool.not_eq_true', Bool.and_eq_false_iff, bne_eq_false_iff_eq] at hf2
        have hget := getD_free ES u _ b hf hu ⟨hb.1, by omega⟩
        refine ⟨by simp [h.len], ?_, ?_, ?_⟩
        · intro i c hi hq
          cases i with
          | zero => rw [e0, ho'] at hq; cases hq
          | succ i => rw [e1] at hq; exact h.no i c (by simpa using hi) hq
        · intro i c hi hq
          cases i with
          | zero =>
            simp at hi; subst hi; rw [e0]
            exact ⟨hb.1, hb.2, hf2.1, fun hne => hf2.2.resolve_left hne⟩
          | succ i =>
            rw [e1] at hq ⊢
            obtain ⟨h1, h2, h3, h4⟩ := h.yes i c (by simpa using hi) hq
            refine ⟨h1, h2, h3, fun hne => ?_⟩
            have := h4 hne
            rw [hget c (by omega)] at this
            split at this
            · cases this
            · exact this
        · intro i j c hij hi hj
          cases j with
          | zero => omega
          | succ j =>
            cases i with
            | zero =>
              simp at hi; subst hi
              have hj2 : bs[j]? = some b := by simpa using hj
              by_cases hn : b < 0
              · exact hn
              · exfalso
                cases hq : outB out ((R : Int) - n + j) with
                | true => have := h.no j b hj2 hq; omega
                | false =>
                  have := (h.yes j b hj2 hq).2.2.2 (by omega)
                  rw [hget b (by omega), if_pos rfl] at this
                  cases this
            | succ i => exact h.two i j c (by omega) (by simpa using hi) (by simpa using hj)
      · intro h
        obtain ⟨h1, h2, h3, h4⟩ := h.yes 0 b (by simp) (by rw [e0]; exact ho')
        rw [e0] at h3
        have hf : freeB ES u ((R : Int) - (n + 1)) b = true := by
          simp only [freeB, Bool.and_eq_true, decide_eq_true_eq, Bool.not_eq_true', Bool.and_eq_false_iff, bne_eq_false_iff_eq]
          refine ⟨h3, ?_⟩
          by_cases e : b = -1
          · exact .inl e
          · exact .inr (h4 e)
        have hget := getD_free ES u _ b hf hu ⟨h1, by omega⟩
        refine ⟨⟨h1, h2⟩, hf, ⟨by have := h.len; simpa using this, ?_, ?_, ?_⟩⟩
        · intro i c hi hq
          exact h.no (i + 1) c (by simpa using hi) (by rw [e1]; exact hq)
        · intro i c hi hq
          obtain ⟨k1, k2, k3, k4⟩ := h.yes (i + 1) c (by simpa using hi) (by rw [e1]; exact hq)
          rw [e1] at k3
          refine ⟨k1, k2, k3, fun hne => ?_⟩
          rw [hget c (by omega)]
          by_cases e : c = b
          · subst e
            have := h.two 0 (i + 1) c (by omega) (by simp) (by simpa using hi)
            omega
          · rw [if_neg e]; exact k4 hne
        · intro i j c hij hi hj
          exact h.two (i + 1) (j + 1) c (by omega) (by simpa using hi) (by simpa using hj)
def Feas (ES : List (Int × Int)) (J R : Nat) (out : List Int) : Prop := ∃ bs, Wy ES J R out R u0 bs
theorem feas_iff (ES : List (Int × Int)) (J R : Nat) (out : List Int) (hJ : J ≤ 8) (hR : R < 1024) : leastN ES J R out R u0 < 1024 ↔ Feas ES J R out := by
  rw [least_ex _ _ _ _ _ _ hR]
  exact ⟨fun ⟨bs, h⟩ => ⟨bs, (isW_iff _ _ _ _ hJ _ _ _ rfl).1 h⟩, fun ⟨bs, h⟩ => ⟨bs, (isW_iff _ _ _ _ hJ _ _ _ rfl).2 h⟩⟩
structure Picks (R m from_ : Nat) (ps : List Int) : Prop where
  len : ps.length = m
  lt : ps.Pairwise (· < ·)
  rng : ∀ p, p ∈ ps → (from_ : Int) ≤ p ∧ p < R
theorem picks_cons {R m from_ : Nat} {p : Int} {ps : List Int} (h : Picks R (m + 1) from_ (p :: ps)) : ∃ r : Nat, p = r ∧ from_ ≤ r ∧ r < R ∧ Picks R m (r + 1) ps := by
  have h1 := h.rng p (by simp)
  refine ⟨p.toNat, by omega, by omega, by omega, by have := h.len; simpa using this, (List.pairwise_cons.1 h.lt).2, fun q hq => ?_⟩
  have h2 := (List.pairwise_cons.1 h.lt).1 q hq
  have h3 := h.rng q (List.mem_cons_of_mem _ hq)
  omega
inductive LexLe : List Int → List Int → Prop
  | refl (xs : List Int) : LexLe xs xs
  | lt (x y : Int) (xs ys : List Int) : x < y → LexLe (x :: xs) (y :: ys)
  | cons (x : Int) (xs ys : List Int) : LexLe xs ys → LexLe (x :: xs) (x :: ys)
theorem leave_spec (ES : List (Int × Int)) (J R : Nat) (hJ : J ≤ 8) (hR : R < 1024) : ∀ m out from_, (leaveP ES J R m out from_ = none ∧ ∀ ps, Picks R m from_ ps → ¬ Feas ES J R (out ++ ps)) ∨ ∃ ps, leaveP ES J R m out from_ = some (out ++ ps) ∧ Picks R m from_ ps ∧ Feas ES J R (out ++ ps) ∧ ∀ qs, Picks R m from_ qs → Feas ES J R (out ++ qs) → LexLe ps qs
  | 0, out, from_ => by
    unfold leaveP
    by_cases h : leastN ES J R out R u0 < 1024
    · rw [if_pos h]
      refine .inr ⟨[], by simp, ⟨rfl, List.Pairwise.nil, by simp⟩, by rw [List.append_nil]; exact (feas_iff _ _ _ _ hJ hR).1 h, fun qs hq _ => ?_⟩
      rw [List.length_eq_zero_iff.1 hq.len]
      exact .refl _
    · rw [if_neg h]
      refine .inl ⟨rfl, fun ps hp hf => h ?_⟩
      rw [List.length_eq_zero_iff.1 hp.len, List.append_nil] at hf
      exact (feas_iff _ _ _ _ hJ hR).2 hf
  | m + 1, out, from_ => by
    unfold leaveP
    have key : ∀ d from_, (((List.range' from_ d).findSome? fun (r : Nat) => leaveP ES J R m (out ++ [(r : Int)]) (r + 1)) = none ∧ ∀ r : Nat, from_ ≤ r → r < from_ + d → ∀ ps, Picks R m (r + 1) ps → ¬ Feas ES J R (out ++ (r : Int) :: ps)) ∨ ∃ (r : Nat) (ps : List Int), ((List.range' from_ d).findSome? fun (r : Nat) => leaveP ES J R m (out ++ [(r : Int)]) (r + 1)) = some (out ++ (r : Int) :: ps) ∧ from_ ≤ r ∧ r < from_ + d ∧ Picks R m (r + 1) ps ∧ Feas ES J R (out ++ (r : Int) :: ps) ∧ (∀ q : Nat, from_ ≤ q → q < r → ∀ qs, Picks R m (q + 1) qs → ¬ Feas ES J R (out ++ (q : Int) :: qs)) ∧ ∀ qs, Picks R m (r + 1) qs → Feas ES J R (out ++ (r : Int) :: qs) → LexLe ps qs := by
      intro d
      induction d with
      | zero => intro from_; exact .inl ⟨rfl, fun r h1 h2 => by omega⟩
      | succ d ih =>
        intro from_
        rw [List.range'_succ, List.findSome?_cons]
        rcases leave_spec ES J R hJ hR m (out ++ [(from_ : Int)]) (from_ + 1) with ⟨h1, h2⟩ | ⟨ps, h1, h2, h3, h4⟩
        · rw [h1]
          simp only [List.append_assoc, List.singleton_append] at h2
          dsimp only
          rcases ih (from_ + 1) with ⟨k1, k2⟩ | ⟨r, ps, k1, k2, k3, k4, k5, k6, k7⟩
          · refine .inl ⟨k1, fun r hr1 hr2 => ?_⟩
            by_cases e : r = from_
            · subst e; exact h2
            · exact k2 r (by omega) (by omega)
          · refine .inr ⟨r, ps, k1, by omega, by omega, k4, k5, fun q hq1 hq2 => ?_, k7⟩
            by_cases e : q = from_
            · subst e; exact h2
            · exact k6 q (by omega) hq2
        · rw [h1]
          simp only [List.append_assoc, List.singleton_append] at h3 h4 ⊢
          exact .inr ⟨from_, ps, rfl, Nat.le_refl _, by omega, h2, h3, fun q h5 h6 => by omega, h4⟩
    rcases key (R - from_) from_ with ⟨h1, h2⟩ | ⟨r, ps, h1, h2, h3, h4, h5, h6, h7⟩
    · refine .inl ⟨h1, fun ps hp => ?_⟩
      cases ps with
      | nil => have := hp.len; simp at this
      | cons p ps =>
        obtain ⟨r, rfl, hr1, hr2, hq⟩ := picks_cons hp
        exact h2 r hr1 (by omega) ps hq
    · refine .inr ⟨(r : Int) :: ps, h1, ⟨by simp [h4.len], List.pairwise_cons.2 ⟨fun q hq => by have := h4.rng q hq; omega, h4.lt⟩, fun p hp => ?_⟩, h5, fun qs hq hf => ?_⟩
      · rcases List.mem_cons.1 hp with rfl | hp
        · omega
        · have := h4.rng p hp; omega
      · cases qs with
        | nil => have := hq.len; simp at this
        | cons q qs =>
          obtain ⟨q, rfl, hq1, hq2, hq3⟩ := picks_cons hq
          by_cases e1 : q < r
          · exact absurd hf (h6 q hq1 e1 qs hq3)
          · by_cases e2 : q = r
            · subst e2; exact .cons _ _ _ (h7 qs hq3 hf)
            · exact .lt _ _ _ _ (by omega)
theorem size_spec (ES : List (Int × Int)) (J R : Nat) (hJ : J ≤ 8) (hR : R < 1024) : ∀ n, (sizeFind ES J R n = none ∧ ∀ m, m < n → ∀ ps, Picks R m 0 ps → ¬ Feas ES J R ps) ∨ ∃ ps m, m < n ∧ sizeFind ES J R n = some ps ∧ Picks R m 0 ps ∧ Feas ES J R ps ∧ (∀ k, k < m → ∀ qs, Picks R k 0 qs → ¬ Feas ES J R qs) ∧ ∀ qs, Picks R m 0 qs → Feas ES J R qs → LexLe ps qs
  | 0 => .inl ⟨rfl, fun m h => by omega⟩
  | n + 1 => by
    rcases size_spec ES J R hJ hR n with ⟨h1, h2⟩ | ⟨ps, m, h0, h1, h2⟩
    · rw [sizeFind_succ _ _ _ _ h1]
      rcases leave_spec ES J R hJ hR n [] 0 with ⟨k1, k2⟩ | ⟨ps, k1, k2, k3, k4⟩
      · simp only [List.nil_append] at k2
        refine .inl ⟨k1, fun m hm => ?_⟩
        by_cases e : m = n
        · subst e; exact k2
        · exact h2 m (by omega)
      · simp only [List.nil_append] at k1 k3 k4
        exact .inr ⟨ps, n, by omega, k1, k2, k3, h2, k4⟩
    · exact .inr ⟨ps, m, by omega, sizeFind_some _ _ _ _ _ _ (by omega) h1, h2⟩
structure LvOk (l : Lg) (ps : List Int) : Prop where
  picks : Picks l.rc.length ps.length 0 ps
  feas : Feas (esK l l.rc.length) l.jn.length l.rc.length ps
  short : ∀ k, k < ps.length → ∀ qs, Picks l.rc.length k 0 qs → ¬ Feas (esK l l.rc.length) l.jn.length l.rc.length qs
  first : ∀ qs, Picks l.rc.length ps.length 0 qs → Feas (esK l l.rc.length) l.jn.length l.rc.length qs → LexLe ps qs
theorem leaveL_ok {l : Lg} (hE : logE l = 0) (hJ : l.jn.length ≤ 8) (hR : l.rc.length ≤ 6) : LvOk l (leaveL l) := by
  unfold leaveL
  rw [if_neg (by simp [hE])]
  rcases size_spec (esK l l.rc.length) l.jn.length l.rc.length hJ (by omega) (l.rc.length + 1) with ⟨h1, h2⟩ | ⟨ps, m, h0, h1, h2, h3, h4, h5⟩
  · exact (sizeFind_end _ _ _ h1).elim
  · rw [h1]
    obtain rfl := h2.len
    exact ⟨h2, h3, h4, h5⟩
end Go.Proofs.YthgfhgjlilmieaaGreat.G
namespace Go.Proofs.YthgfhgjlilmieaaGreat.G
open Go.RowKit Go.Shelf Go.Proofs.YthgfhgjlilmieaaGreatW.PrintWords Go.Proofs.YthgfhgjlilmieaaGreatW.PrintLast Go.Proofs.YthgfhgjlilmieaaGreatW.PrintMore
open Go.Proofs.YthgfhgjlilmieaaGreat.B
set_option linter.unusedVariables false
set_option linter.unusedSimpArgs false
def LisP (n : Nat) (xs : List Int) (q : Int) (w : World) (e : Ending) (w' : World) : Prop := ∃ A c, e = .returned (.tuple #[.slice A n c, .int .i64 q]) ∧ n ≤ c ∧ Kd.C (Kd.int .i64) w' A n xs ∧ Below w.heap.size w w'
theorem lisP_of {xs : List Int} {q : Int} {w : World} {n : Nat} {r : Int} (hn : xs.length = n) (hq : q = r) {e : Ending} {w' : World} (h : OwnP xs q w e w') : LisP n xs r w e w' := by
  subst hn hq; exact h
end Go.Proofs.YthgfhgjlilmieaaGreat.G
namespace Go.Proofs.YthgfhgjlilmieaaGreat.G
open Go.RowKit Go.Shelf Go.Proofs.YthgfhgjlilmieaaGreatW.PrintWords Go.Proofs.YthgfhgjlilmieaaGreatW.PrintLast Go.Proofs.YthgfhgjlilmieaaGreatW.PrintMore
open Go.Proofs.YthgfhgjlilmieaaGreat.B
set_option linter.unusedVariables false
set_option linter.unusedSimpArgs false
theorem logCellsAt (a : LV) (l : Lg) {b N : Nat} {W0 : World} (h0 : W0.heap[b]? = some (logD a l)) (hb : b < N) : ∀ W, Below N W0 W → W.cell? ⟨b, 0, none⟩ = some (.slice a.A0 l.ls.length a.c0) ∧ W.cell? ⟨b, 1, none⟩ = some (.int .i64 l.errs) ∧ W.cell? ⟨b, 2, none⟩ = some (.slice a.A2 l.sees.length a.c2) ∧ W.cell? ⟨b, 3, none⟩ = some (.slice a.A3 l.jn.length a.c3) ∧ W.cell? ⟨b, 4, none⟩ = some (.slice a.A4 l.rc.length a.c4) := by
  intro W h
  have hc : ∀ i, W.cell? ⟨b, i, none⟩ = #[.slice a.A0 l.ls.length a.c0, .int .i64 l.errs, .slice a.A2 l.sees.length a.c2, .slice a.A3 l.jn.length a.c3, .slice a.A4 l.rc.length a.c4][i]? := fun i => (h.cell (p := ⟨b, i, none⟩) (by simpa using hb)).trans (by simp only [World.cell?, h0]; rfl)
  exact ⟨hc 0, hc 1, hc 2, hc 3, hc 4⟩
structure LeLog (l l' : Lg) : Prop where
  ls : l'.ls = l.ls
  jn : l'.jn = l.jn
  rc : l'.rc = l.rc
  errs : l.errs ≤ l'.errs
  sees : ∀ s b, heardB l s b = true → heardB l' s b = true
theorem reads_le {l l' : Lg} (h : LeLog l l') {t : List Int} {r : ByteArray} (hr : readsB l t r = true) : readsB l' t r = true := by
  unfold readsB at *
  rw [h.ls]
  simp only [Bool.and_eq_true, decide_eq_true_eq] at *
  exact ⟨hr.1, by have := h.errs; omega⟩
theorem stat_le {l l' : Lg} (h : LeLog l l') {r : S75} {b : Int} (hb : b ∈ statL l r) : b ∈ statL l' r := by
  simp only [statL, statK, List.mem_map, List.mem_filter, hitB, Bool.and_eq_true] at *
  obtain ⟨i, ⟨h1, h2, h3⟩, rfl⟩ := hb
  rw [h.jn]
  exact ⟨i, ⟨h1, h2, reads_le h h3⟩, rfl⟩
theorem own_le {l l' : Lg} (h : LeLog l l') (h1 : logE l = 0) (h2 : logE l' = 0) {r : Nat} (hr : r < l.rc.length) : (ownL l r).all ((ownL l' r).contains ·) = true := by
  rw [own_in (ask_in h1 (inR_rec hr)), own_in (ask_in h2 (inR_rec (by rw [h.rc]; exact hr))), List.all_eq_true]
  intro b hb
  rw [List.contains_iff_mem, h.rc]
  exact stat_le h hb
end Go.Proofs.YthgfhgjlilmieaaGreat.G
namespace Go.Proofs.YthgfhgjlilmieaaGreat.B
open Go.RowKit Go.Proofs.YthgfhgjlilmieaaGreatW.PrintWords Go.Proofs.YthgfhgjlilmieaaGreatW.PrintLast Go.Proofs.YthgfhgjlilmieaaGreatW.PrintMore
attribute [local go_sem] max2_int min2_int max_two min_two max_three min_three max_four min_four
set_option linter.unusedVariables false
set_option linter.unusedSimpArgs false
def glisterref06_Bits.l0 : Nat → Int → List Int → Int → Option (List Int)
 | 0, _, _, _ => none
 | k + 1, x0, x3, x4 => if 0 ≤ (IntKind.u64.wrap (x4)) then (if (shr .i64 x0 (IntKind.u64.wrap (x4))) > 0 then (if (Int.tmod (shr .i64 x0 (IntKind.u64.wrap (x4))) 2) = 1 then (if x3.length < 17592186044416 then (glisterref06_Bits.l0 k x0 (x3 ++ [x4]) (wrap64 (x4 + 1))) else (none)) else (glisterref06_Bits.l0 k x0 x3 (wrap64 (x4 + 1)))) else (some x3)) else (none)
def glisterref06_Bits.f (k : Nat) (a0 : Int) : Option (List Int) := glisterref06_Bits.l0 k a0 ([] : List Int) 0
set_option maxHeartbeats 8000000 in
set_option maxRecDepth 100000 in
theorem glisterref06_Bits.calls (k : Nat) (a0 : Int) (r : List Int) (w : World) (h : glisterref06_Bits.f k a0 = some r) :
  Calls Tryz.prog 41 #[.int .i64 a0] w fun e w' => ∃ v0_ : Value, e = .returned (v0_) ∧ Kd.R (Kd.int .i64) 3 w' w.heap.size (fun _ => True) v0_ r ∧ Below w.heap.size w w' := by
 have HB := Aside0.mk (Below.refl w.heap.size w)
 have H : (glisterref06_Bits.l0 k a0 ([] : List Int) 0) = some r := h
 clear h
 have H' := Aside0.mk H
 clear H
 go_enter Tryz.func41, Tryz.ntmps41
 go_wp2
 go_loopg [3, 4] k (fun kq v3 v4 w' => ∃ (x3_1 : List Int) (x4_1 : Int), v4 = .int .i64 x4_1 ∧ Aside0 (glisterref06_Bits.l0 kq a0 x3_1 x4_1 = some r) ∧ Aside0 (kq ≤ k) ∧ Aside0 (Kd.R (Kd.int .i64) 3 w' w.heap.size (fun _ => True) v3 x3_1) ∧ Aside0 (Below w.heap.size w w'))
 case atStart => exact ⟨(([] : List Int)), (0), (by first | rfl | (simp; done) | (simp [*]; done)), H', ⟨Nat.le_refl _⟩, ⟨by first | exact Kd.R_nil _ _ _ _ _ | exact Kd.N_nil _ _ _ _ _ | exact Kd.V_nil _ _ _ _ _ | exact Kd.Q_nil _ _ _ _ _ | exact Kd.S_nil _ _ _ _ _⟩, ⟨by repeat (first | (with_reducible first | exact HB.out | apply below_alloc | apply pw_below_drewN | apply below_drew1) | exact HB.out)⟩⟩
 case round =>
  clear H'
  obtain ⟨x3_1, x4_1, rfl, HA, HK1, HO_3, HB⟩ := hrel
  cases gk with
  | zero => exact absurd HA.out (by simp [glisterref06_Bits.l0])
  | succ k1 =>
   have H := HA.out
   clear HA
   simp only [glisterref06_Bits.l0] at H
   obtain ⟨ji2, hji2⟩ : ∃ j_ : Int, (IntKind.u64.wrap (x4_1)) = j_ := ⟨_, rfl⟩
   replace H : (if 0 ≤ (ji2) then (if (shr .i64 a0 (ji2)) > 0 then (if (Int.tmod (shr .i64 a0 (ji2)) 2) = 1 then (if x3_1.length < 17592186044416 then (glisterref06_Bits.l0 k1 a0 (x3_1 ++ [x4_1]) (wrap64 (x4_1 + 1))) else (none)) else (glisterref06_Bits.l0 k1 a0 x3_1 (wrap64 (x4_1 + 1)))) else (some x3_1)) else (none)) = some r := by first | (rw [hji2] at H; exact H) | (simp only [hji2] at H ⊢; exact H)
   by_cases c3 : 0 ≤ (ji2)
   ·rw [if_pos c3] at H
    have c3b0 := eq_true c3
    have c3b1 : decide (0 ≤ (ji2)) = true := decide_eq_true c3
    clear c3
    obtain ⟨ji4, hji4⟩ : ∃ j_ : Int, (shr .i64 a0 (ji2)) = j_ := ⟨_, rfl⟩
    replace H : (if (ji4) > 0 then (if (Int.tmod (ji4) 2) = 1 then (if x3_1.length < 17592186044416 then (glisterref06_Bits.l0 k1 a0 (x3_1 ++ [x4_1]) (wrap64 (x4_1 + 1))) else (none)) else (glisterref06_Bits.l0 k1 a0 x3_1 (wrap64 (x4_1 + 1)))) else (some x3_1)) = some r := by first | (rw [hji4] at H; exact H) | (simp only [hji4] at H ⊢; exact H)
    have hji4_ : (a0 / 2 ^ min (ji2).toNat 64) = ji4 := hji4
    have hji4z : (ji2) ≤ 64 → (a0 / 2 ^ (ji2).toNat) = ji4 := shr_small hji4
    by_cases c5 : (ji4) > 0
    ·rw [if_pos c5] at H
     have c5b0 : decide (0 < (ji4)) = true := decide_eq_true c5
     clear c5
     have c6b0 := eq_true (of_decide_eq_true (by first | (with_reducible assumption) | assumption) : 0 ≤ (ji2))
     by_cases c8 : (Int.tmod (ji4) 2) = 1
     ·rw [if_pos c8] at H
      have c8b0 : ((Int.tmod (ji4) 2) == 1) = true := beq_iff_eq.mpr c8
      have c8b1 : ((Int.tmod (ji4) 2) != 1) = false := bne_eq_false_iff_eq.mpr c8
      clear c8
      by_cases c9 : x3_1.length < 17592186044416
      ·rw [if_pos c9] at H
       have LMc9 := Aside0.mk c9
       clear c9
       obtain ⟨y427, hy427⟩ : ∃ y_ : List Int, y_ = (x3_1 ++ [x4_1]) := ⟨_, rfl⟩
       replace H : (glisterref06_Bits.l0 k1 a0 y427 (wrap64 (x4_1 + 1))) = some r := by first | (rw [hy427]; with_reducible exact H) | (have H2_ := (Option.bind_some _ _).symm.trans H; rw [hy427]; with_reducible exact H2_) | (have H2_ := (Option.bind_some _ _).symm.trans H; with_reducible exact H2_) | with_reducible exact H | (rw [hy427]; exact H) | exact H
       have Ny427 := Aside0.mk hy427
       clear hy427
       have H' := Aside0.mk H
       clear H
       go_wp2_with (first | ((with_reducible refine gate_builtin (b := .append) (xs := #[.tmp 18, .tmp 20]) rfl ?_); at_builtin; refine Kd.R_append (Kd.int .i64) (w0 := w) w.heap.size rfl (.tmp 18) (.tmp 20) 25 3 (.int .i64 0) 8 rfl Tryz.underlying25 info3 rfl (by decide) (by omega) u3 x3_1 x4_1 [.int .i64 x4_1] (fun _ => True) (fun _ => False) rfl rfl ?aP (fun _ hk => hk.elim) ?aF ?aO ?aB ?aS ?aL ?_; (case aP => exact rfl); (case aB => exact (by repeat (first | (with_reducible first | exact HB.out | apply below_alloc | apply pw_below_drewN | apply below_drew1) | exact HB.out))); (case aF => exact (fun _ _ => trivial)); (case aO => exact (by (with_reducible repeat (first | apply Kd.R_alloc | apply Kd.R_drewN | apply Kd.R_drew)); exact HO_3.out)); (case aS => exact (below_size (by repeat (first | (with_reducible first | exact HB.out | apply below_alloc | apply pw_below_drewN | apply below_drew1) | exact HB.out)))); (case aL => have := LMc9.out; omega); intro v428 w10 ho hb hg hat; rw [← Ny427.out] at ho; have n0_ := Aside0.mk (hb); have n1_ := Aside0.mk (ho); clear HB; clear HO_3; have HB := n0_; have HO429 := n1_; clear n0_ n1_; clear ho hb hg hat))
       go_roundg k1
       case measure => have := HK1.out; omega
       case rel => exact ⟨(y427), (wrap64 (x4_1 + 1)), (by first | rfl | (simp; done) | (simp [*]; done)), H', ⟨by have := HK1.out; omega⟩, ⟨by (with_reducible repeat (first | apply Kd.R_alloc | apply Kd.R_drewN | apply Kd.R_drew)); exact HO429.out⟩, ⟨by repeat (first | (with_reducible first | exact HB.out | apply below_alloc | apply pw_below_drewN | apply below_drew1) | exact HB.out)⟩⟩
      ·rw [if_neg c9] at H
       exact absurd H (by simp)
     ·rw [if_neg c8] at H
      have c8b0 : ((Int.tmod (ji4) 2) == 1) = false := beq_eq_false_iff_ne.mpr c8
      have c8b1 : ((Int.tmod (ji4) 2) != 1) = true := bne_iff_ne.mpr c8
      have H' := Aside0.mk H
      clear H
      go_wp2
      go_roundg k1
      case measure => have := HK1.out; omega
      case rel => exact ⟨(x3_1), (wrap64 (x4_1 + 1)), (by first | rfl | (simp; done) | (simp [*]; done)), H', ⟨by have := HK1.out; omega⟩, ⟨by (with_reducible repeat (first | apply Kd.R_alloc | apply Kd.R_drewN | apply Kd.R_drew)); exact HO_3.out⟩, ⟨by repeat (first | (with_reducible first | exact HB.out | apply below_alloc | apply pw_below_drewN | apply below_drew1) | exact HB.out)⟩⟩
    ·rw [if_neg c5] at H
     have c5b0 : decide (0 < (ji4)) = false := decide_eq_false c5
     clear c5
     obtain rfl := Option.some.inj H
     go_wp2
     go_ret
     exact ⟨_, by first | rfl | (simp [errW_none, errW_some] <;> rfl) | (simp only [← hji2, ← hji4]; first | rfl | (simp [errW_none, errW_some] <;> rfl)) | (simp [*, errW_none, errW_some] <;> rfl), by (with_reducible repeat (first | apply Kd.R_alloc | apply Kd.R_drewN | apply Kd.R_drew)); exact HO_3.out, by repeat (first | (with_reducible first | exact HB.out | apply below_alloc | apply pw_below_drewN | apply below_drew1) | exact HB.out)⟩
   ·rw [if_neg c3] at H
    exact absurd H (by simp)
end Go.Proofs.YthgfhgjlilmieaaGreat.B
namespace Go.Proofs.YthgfhgjlilmieaaGreat.G
open Go.RowKit Go.Shelf Go.Proofs.YthgfhgjlilmieaaGreatW.PrintWords Go.Proofs.YthgfhgjlilmieaaGreatW.PrintLast Go.Proofs.YthgfhgjlilmieaaGreatW.PrintMore
open Go.Proofs.YthgfhgjlilmieaaGreat.B
set_option linter.unusedVariables false
set_option linter.unusedSimpArgs false
def keepI (out : List Int) (k : Nat) : List Nat := (List.range k).filter fun (i : Nat) => !out.contains (i : Int)
def woK (l : Lg) (out : List Int) (k : Nat) : List S75 := (keepI out k).map fun (i : Nat) => rd_T75 l.rc (i : Int)
def woL (l : Lg) (out : List Int) : Lg := { l with rc := woK l out l.rc.length }
theorem woK_hit {l : Lg} {out : List Int} {k : Nat} (h : out.contains (k : Int) = false) : woK l out (k + 1) = woK l out k ++ [rd_T75 l.rc (k : Int)] := by
  unfold woK keepI
  rw [List.range_succ, List.filter_append, List.map_append]
  simp only [List.filter_cons, h, List.filter_nil, Bool.not_false, if_true, List.map_cons, List.map_nil]
theorem woK_miss {l : Lg} {out : List Int} {k : Nat} (h : out.contains (k : Int) = true) : woK l out (k + 1) = woK l out k := by
  unfold woK keepI
  rw [List.range_succ, List.filter_append, List.map_append]
  simp only [List.filter_cons, h, List.filter_nil, Bool.not_true, Bool.false_eq_true, if_false, List.map_nil, List.append_nil]
theorem woK_len (l : Lg) (out : List Int) (k : Nat) : (woK l out k).length ≤ k := by
  unfold woK keepI
  rw [List.length_map]
  exact Nat.le_trans (List.length_filter_le _ _) (by simp)
theorem woK_mem {l : Lg} {out : List Int} {k : Nat} (hk : k ≤ l.rc.length) {r : S75} (h : r ∈ woK l out k) : r ∈ l.rc := by
  simp only [woK, keepI, List.mem_map, List.mem_filter, List.mem_range] at h
  obtain ⟨i, ⟨hi, _⟩, rfl⟩ := h
  rw [rd75_get l i (by omega)]
  exact List.getElem_mem _
set_option maxRecDepth 100000 in
set_option maxHeartbeats 16000000 in
theorem without42_any (a : LV) (l : Lg) (B : Option Addr) (d : Nat) (out : List Int) (w : World) (hL : LogAt w a l) (h6 : l.rc.length ≤ 1000) (hO : Kd.C (Kd.int .i64) w B out.length out) (hd : out.length ≤ d) :
    Calls Tryz.prog 42 #[logV a l, .slice B out.length d] w fun e w' => ∃ a', e = .returned (logV a' (woL l out)) ∧ LogAt w' a' (woL l out) ∧ Below w.heap.size w w' := by
  have hu := Tryz.underlying29
  have hu2 := Tryz.underlying61
  have hu3 := Tryz.underlying27
  obtain ⟨W0, hW0⟩ : ∃ W0, W0 = (w.alloc (logD a l)).alloc (.cells #[.slice none 0 0, .int .i64 0, .slice none 0 0, .slice none 0 0, .slice none 0 0] 29) := ⟨_, rfl⟩
  have hsz : W0.heap.size = w.heap.size + 2 := by rw [hW0]; simp
  have hTW : ∀ W, Below (w.heap.size + 2) W0 W → Below w.heap.size w W := fun W h => by
    have h0 : Below w.heap.size w W0 := by rw [hW0]; exact ((Below.refl _ w).alloc (Nat.le_refl _) _).alloc (by simp) _
    exact h0.trans (h.mono (by omega))
  have HCE := Aside0.mk (logCellsAt a l (b := w.heap.size) (N := w.heap.size + 2) (W0 := W0) (by rw [hW0]; exact heap_old (alloc_new w _) _) (by omega))
  have HCO := Aside0.mk (fun W (h : Below (w.heap.size + 2) W0 W) => Kd.C_below hO (hTW W h))
  have HRC := Aside0.mk (fun W (h : Below (w.heap.size + 2) W0 W) => Kd.C_below hL.h4 (hTW W h))
  have HHS := Aside0.mk (fun n W (h : Below (w.heap.size + 2) W0 W) => has37_any B d out n W (Kd.C_below hO (hTW W h)) hd)
  have HTW := Aside0.mk hTW
  have HN : Aside0 (w.heap.size + 2 ≤ W0.heap.size) := ⟨by omega⟩
  have HR0 : Aside0 (Below (w.heap.size + 2) W0 ((w.alloc (logD a l)).alloc (.cells #[.slice none 0 0, .int .i64 0, .slice none 0 0, .slice none 0 0, .slice none 0 0] 29))) := ⟨hW0 ▸ Below.refl _ _⟩
  have HB0 : Aside0 (∀ W g cs, Below (w.heap.size + 2) W0 W → w.heap.size ≤ g → Below w.heap.size w (W.setRow g cs)) := ⟨fun W g cs h hg => bel_setRow (hTW W h) hg cs⟩
  have HOB : Aside0 (∀ W, Below (w.heap.size + 2) W0 W → W.heap[w.heap.size]? = some (logD a l) ∧ W.heap[w.heap.size + 1]? = some (.cells #[.slice none 0 0, .int .i64 0, .slice none 0 0, .slice none 0 0, .slice none 0 0] 29)) := ⟨fun W h => ⟨(h.block _ (by omega)).trans (by rw [hW0]; exact heap_old (alloc_new w _) _), (h.block _ (by omega)).trans (by rw [hW0]; exact alloc_at _ _ (by simp))⟩⟩
  have HPO := Aside0.mk (fun W A5 c5 (h : Below w.heap.size w W) (hc : Kd.C k75 W A5 (woK l out l.rc.length).length (woK l out l.rc.length)) (hl : (woK l out l.rc.length).length ≤ c5) => (show LogAt W ⟨a.A0, a.A2, a.A3, A5, a.c0, a.c2, a.c3, c5⟩ (woL l out) from ⟨(hL.below h).h0, (hL.below h).h2, (hL.below h).h3, hc, hL.l0, hL.l2, hL.l3, hl, hL.z0, fun r hr => hL.z4 r (woK_mem (Nat.le_refl _) hr)⟩))
  clear hO hTW hL hsz hW0
  obtain ⟨A0, A2, A3, A4, c0, c2, c3, c4⟩ := a
  dsimp only [logV, logD] at HCE HCO HRC HHS HTW HN HR0 HOB HB0 HPO ⊢
  go_enter Tryz.func42, Tryz.ntmps42
  go_wp2
  go_loopg [5, 6] l.rc.length (fun gg v5 v6 wr => ∃ kk : Nat, kk ≤ l.rc.length ∧ l.rc.length - kk ≤ gg ∧ v6 = .int .i64 kk ∧ Aside0 (Kd.R k75 61 wr (w.heap.size + 2) (fun k_ => w.heap.size + 2 ≤ k_) v5 (woK l out kk)) ∧ Aside0 (Below (w.heap.size + 2) W0 wr))
  case atStart => exact ⟨0, Nat.zero_le _, by omega, rfl, ⟨Kd.R_nil _ _ _ _ _⟩, HR0⟩
  case round =>
    obtain ⟨kk, hkk, hg, rfl, HO, BW⟩ := hrel
    obtain ⟨b0, b1, b2, b3, b4⟩ := HCE.out _ BW.out
    by_cases hlt : kk < l.rc.length
    · have hltz : (kk : Int) < (l.rc.length : Int) := by omega
      have hcall := HHS.out (kk : Int) wr BW.out
      have hlen := woK_len l out kk
      have HHIT := Aside0.mk (fun h => woK_hit (l := l) (out := out) (k := kk) h)
      have HMISS := Aside0.mk (fun h => woK_miss (l := l) (out := out) (k := kk) h)
      cases q : out.contains (kk : Int) with
      | true =>
        rw [q] at hcall
        have HC := Aside0.mk hcall
        have HH := Aside0.mk (HMISS.out q)
        clear hcall q
        go_wp2_with (fail)
        refine HC.out.mono ?_
        rintro e w9 ⟨rfl, hb⟩
        have BW := Aside0.mk (step_b BW.out HN.out hb)
        have HO := Aside0.mk (Kd.R_below HO.out hb)
        clear b0 b1 b2 b3 b4 hb
        go_wp2
        go_roundg (l.rc.length - (kk + 1))
        case measure => omega
        case rel => exact ⟨kk + 1, by omega, by omega, by go_num, ⟨by rw [HH.out]; exact HO.out⟩, BW⟩
      | false =>
        rw [q] at hcall
        have HC := Aside0.mk hcall
        have HH := Aside0.mk (HHIT.out q)
        clear hcall q
        go_wp2_with (fail)
        refine HC.out.mono ?_
        rintro e w9 ⟨rfl, hb⟩
        have BW := Aside0.mk (step_b BW.out HN.out hb)
        have HO := Aside0.mk (Kd.R_below HO.out hb)
        clear b0 b1 b2 b3 b4 hb
        obtain ⟨b0, b1, b2, b3, b4⟩ := HCE.out _ BW.out
        obtain ⟨ad, e1, y0, y1, y2⟩ := at_T75 (HRC.out _ BW.out) (kk : Int) (by omega) hltz
        cases e1
        simp only [Int.toNat_natCast] at y0 y1 y2
        generalize rd_T75 l.rc (kk : Int) = r at *
        go_wp2_with (first
          | ((with_reducible refine gate_builtin (b := .append) (xs := #[.tmp 18, .tmp 24]) rfl ?_); at_builtin; refine Kd.R_append k75 (w0 := W0) (w.heap.size + 2) rfl (.tmp 18) (.tmp 24) 27 61 (.agg #[(.int .i64 0), (.int .i64 0), (.string ⟨#[]⟩)]) 32 rfl Tryz.underlying27 info61 rfl (by decide) (by omega) u5 (woK l out kk) r [.int .i64 r.f0, .int .i64 r.f1, .string r.f2] (fun k_ => w.heap.size + 2 ≤ k_) (fun _ => False) rfl rfl ?aP (fun _ hk => hk.elim) ?aF ?aO ?aB ?aS ?aL ?_; (case aP => exact k75_mkM _ _ _ r); (case aB => exact BW.out); (case aF => exact (fun k_ hk => by have := BW.out.size; have := HN.out; omega)); (case aO => exact HO.out); (case aS => have := BW.out.size; have := HN.out; omega); (case aL => omega); intro v1 w1 ho hb hg hat; rw [← HH.out] at ho; have HO1 := Aside0.mk ho; have HB1 := Aside0.mk hb; clear ho hb hg hat))
        go_roundg (l.rc.length - (kk + 1))
        case measure => omega
        case rel => exact ⟨kk + 1, by omega, by omega, by go_num, HO1, HB1⟩
    · have hk : kk = l.rc.length := by omega
      subst hk
      have hltz : ¬ (l.rc.length : Int) < (l.rc.length : Int) := by omega
      obtain ⟨hbx, hrs⟩ := HOB.out _ BW.out
      obtain ⟨A5, c5, rfl, l5, _⟩ := Kd.R_reads HO.out
      have HL5 := Aside0.mk l5
      clear l5
      have ez : (woL l out).rc.length = (woK l out l.rc.length).length := rfl
      generalize woK l out l.rc.length = xs at *
      have g4 := blk_frozen hbx 4
      have d0 : wr.cell? ⟨w.heap.size + 1, 0, none⟩ = some (.slice none 0 0) := by simp only [World.cell?, hrs]; rfl
      have f0 := blk_frozen hrs 0
      have d1 : wr.cell? ⟨w.heap.size + 1, 1, none⟩ = some (.int .i64 0) := by simp only [World.cell?, hrs]; rfl
      have f1 := blk_frozen hrs 1
      have d2 : wr.cell? ⟨w.heap.size + 1, 2, none⟩ = some (.slice none 0 0) := by simp only [World.cell?, hrs]; rfl
      have f2 := blk_frozen hrs 2
      have d3 : wr.cell? ⟨w.heap.size + 1, 3, none⟩ = some (.slice none 0 0) := by simp only [World.cell?, hrs]; rfl
      have f3 := blk_frozen hrs 3
      have d4 : wr.cell? ⟨w.heap.size + 1, 4, none⟩ = some (.slice none 0 0) := by simp only [World.cell?, hrs]; rfl
      have f4 := blk_frozen hrs 4
      go_wp2
      refine bodyPost_ret (results_cell_row rfl _ _ (w.heap.size + 1) 29 #[.slice A0 l.ls.length c0, .int .i64 l.errs, .slice A2 l.sees.length c2, .slice A3 l.jn.length c3, .slice A5 xs.length c5] (0, 0) _ rfl (by
        refine blk_put (cs := #[.slice A0 l.ls.length c0, .int .i64 l.errs, .slice A2 l.sees.length c2, .slice A3 l.jn.length c3, .slice none 0 0]) ?_ 4 _ rfl
        refine blk_put (cs := #[.slice A0 l.ls.length c0, .int .i64 l.errs, .slice A2 l.sees.length c2, .slice none 0 0, .slice none 0 0]) ?_ 3 _ rfl
        refine blk_put (cs := #[.slice A0 l.ls.length c0, .int .i64 l.errs, .slice none 0 0, .slice none 0 0, .slice none 0 0]) ?_ 2 _ rfl
        refine blk_put (cs := #[.slice A0 l.ls.length c0, .int .i64 0, .slice none 0 0, .slice none 0 0, .slice none 0 0]) ?_ 1 _ rfl
        refine blk_put (cs := #[.slice none 0 0, .int .i64 0, .slice none 0 0, .slice none 0 0, .slice none 0 0]) ?_ 0 _ rfl
        exact blk_far hrs (by simp) _) Tryz.underlying29 rfl (by kernel_rfl)) rfl ?_
      have hB : Below w.heap.size w ((((((wr.setCell { block := w.heap.size, off := 4 } (Value.slice A5 xs.length c5)).setCell { block := w.heap.size + 1, off := 0 } (Value.slice A0 l.ls.length c0)).setCell { block := w.heap.size + 1, off := 1 } (Value.int IntKind.i64 l.errs)).setCell { block := w.heap.size + 1, off := 2 } (Value.slice A2 l.sees.length c2)).setCell { block := w.heap.size + 1, off := 3 } (Value.slice A3 l.jn.length c3)).setCell { block := w.heap.size + 1, off := 4 } (Value.slice A5 xs.length c5)) :=
        by refine below_set (below_set (below_set (below_set (below_set (below_set (HTW.out _ BW.out) ?_) ?_) ?_) ?_) ?_) ?_ <;> omega
      have hR := (Kd.R_far (p := ⟨w.heap.size + 1, 4, none⟩) (Kd.R_far (p := ⟨w.heap.size + 1, 3, none⟩) (Kd.R_far (p := ⟨w.heap.size + 1, 2, none⟩) (Kd.R_far (p := ⟨w.heap.size + 1, 1, none⟩) (Kd.R_far (p := ⟨w.heap.size + 1, 0, none⟩) (Kd.R_far (p := ⟨w.heap.size, 4, none⟩) HO.out (fun k hk e => by dsimp only at e; omega) (.slice A5 xs.length c5)) (fun k hk e => by dsimp only at e; omega) (.slice A0 l.ls.length c0)) (fun k hk e => by dsimp only at e; omega) (.int .i64 l.errs)) (fun k hk e => by dsimp only at e; omega) (.slice A2 l.sees.length c2)) (fun k hk e => by dsimp only at e; omega) (.slice A3 l.jn.length c3)) (fun k hk e => by dsimp only at e; omega) (.slice A5 xs.length c5))
      obtain ⟨A6, c6, e6, l6, q6⟩ := Kd.R_reads hR
      cases e6
      exact ⟨⟨A0, A2, A3, A5, c0, c2, c3, c5⟩, rfl, HPO.out _ A5 c5 hB q6 HL5.out, hB⟩
end Go.Proofs.YthgfhgjlilmieaaGreat.G
namespace Go.Proofs.YthgfhgjlilmieaaGreat.G
open Go.RowKit Go.Shelf Go.Proofs.YthgfhgjlilmieaaGreatW.PrintWords Go.Proofs.YthgfhgjlilmieaaGreatW.PrintLast Go.Proofs.YthgfhgjlilmieaaGreatW.PrintMore
open Go.Proofs.YthgfhgjlilmieaaGreat.B
set_option linter.unusedVariables false
set_option linter.unusedSimpArgs false
def bitsL (b : Int) : List Int := (glisterref06_Bits.f 10 b).getD []
def bitsOk (n : Nat) : Bool := (glisterref06_Bits.f 10 (n : Int)).isSome && decide ((bitsL n).Pairwise (· < ·)) && (bitsL n).all fun p => decide (0 ≤ p) && decide (2 ^ p.toNat ≤ n)
theorem bits_all : (List.range 64).all bitsOk = true := by decide +kernel
theorem bits_ok (n : Nat) (h : n < 64) : glisterref06_Bits.f 10 (n : Int) = some (bitsL n) ∧ (bitsL n).Pairwise (· < ·) ∧ ∀ p, p ∈ bitsL n → 0 ≤ p ∧ 2 ^ p.toNat ≤ n := by
  have := List.all_eq_true.1 bits_all n (List.mem_range.2 h)
  simp only [bitsOk, Bool.and_eq_true, decide_eq_true_eq, List.all_eq_true] at this
  refine ⟨?_, this.1.2, this.2⟩
  obtain ⟨r, hr⟩ := Option.isSome_iff_exists.1 this.1.1
  rw [bitsL, hr]; rfl
theorem bits41_any (n : Nat) (h : n < 64) (w : World) : Calls Tryz.prog 41 #[.int .i64 n] w fun e w' => ∃ A c, e = .returned (.slice A (bitsL n).length c) ∧ (bitsL n).length ≤ c ∧ Kd.C (Kd.int .i64) w' A (bitsL n).length (bitsL n) ∧ Below w.heap.size w w' :=
  (glisterref06_Bits.calls 10 n _ w (bits_ok n h).1).mono fun e w' ⟨v, he, hR, hb⟩ => by
    obtain ⟨A, c, rfl, hl, hC⟩ := Kd.R_reads hR
    exact ⟨A, c, he, hl, hC, hb⟩
theorem bits_picks {n R : Nat} (h : n < 2 ^ R) (hR : R ≤ 6) : Picks R (bitsL n).length 0 (bitsL n) := by
  have h64 : n < 64 := Nat.lt_of_lt_of_le h (Nat.le_trans (Nat.pow_le_pow_right (by omega) hR) (by decide))
  obtain ⟨_, h1, h2⟩ := bits_ok n h64
  refine ⟨rfl, h1, fun p hp => ⟨by have := (h2 p hp).1; omega, ?_⟩⟩
  have h3 := h2 p hp
  by_cases hc : R ≤ p.toNat
  · have := Nat.pow_le_pow_right (n := 2) (by omega) hc; omega
  · omega
def beforeB : List Int → List Int → Bool
  | [], [] => false
  | [], _ :: _ => true
  | _ :: _, [] => false
  | x :: xs, y :: ys => if x = y then beforeB xs ys else decide (x < y)
theorem before_l (xs ys : List Int) (hx : xs.length ≤ 9223372036854775807) : ∀ (d i k : Nat), d = xs.length - i → i ≤ xs.length → i ≤ ys.length → 2 * d + 2 ≤ k → glisterref06_Before.l0 k xs ys i = some (beforeB (xs.drop i) (ys.drop i)) := by
  intro d
  induction d with
  | zero =>
    intro i k hd hi hj hk
    obtain ⟨k, rfl⟩ : ∃ m, k = m + 1 + 1 := ⟨k - 2, by omega⟩
    simp only [glisterref06_Before.l0, glisterref06_Before.j1]
    rw [if_neg (by omega), if_neg (by simp)]
    have e : xs.drop i = [] := List.drop_eq_nil_of_le (by omega)
    rw [e]
    by_cases h : i < ys.length
    · rw [List.drop_eq_getElem_cons h]
      simp only [beforeB]
      rw [decide_eq_true (by omega)]
    · rw [List.drop_eq_nil_of_le (show ys.length ≤ i by omega)]
      simp only [beforeB]
      rw [decide_eq_false (by omega)]
  | succ d ih =>
    intro i k hd hi hj hk
    obtain ⟨k, rfl⟩ : ∃ m, k = m + 1 + 1 := ⟨k - 2, by omega⟩
    have h1 : i < xs.length := by omega
    simp only [glisterref06_Before.l0, glisterref06_Before.j1]
    rw [if_pos (by omega)]
    by_cases h : i < ys.length
    · rw [decide_eq_true (show (i : Int) < (ys.length : Int) by omega), if_pos rfl, if_pos (by omega), if_pos (by omega), if_pos (by omega), rd_nat xs i h1, rd_nat ys i h, List.drop_eq_getElem_cons h1, List.drop_eq_getElem_cons h]
      simp only [beforeB]
      by_cases e : xs[i] = ys[i]
      · rw [if_pos e, if_pos e, wrap_nat i xs.length h1 hx]
        exact ih (i + 1) k (by omega) (by omega) (by omega) (by omega)
      · rw [if_neg e, if_neg e]
    · rw [decide_eq_false (show ¬ (i : Int) < (ys.length : Int) by omega), if_neg (by simp), List.drop_eq_getElem_cons h1, List.drop_eq_nil_of_le (show ys.length ≤ i by omega)]
      simp only [beforeB]
      rw [decide_eq_false (by omega)]
def shortB (xs ys : List Int) : Bool := if xs.length < ys.length then true else if xs.length = ys.length then beforeB xs ys else false
theorem shorter43_any (A B : Option Addr) (c d : Nat) (xs ys : List Int) (w : World) (hx : Kd.C (Kd.int .i64) w A xs.length xs) (hc : xs.length ≤ c) (hy : Kd.C (Kd.int .i64) w B ys.length ys) (hd : ys.length ≤ d) :
    Calls Tryz.prog 43 #[.slice A xs.length c, .slice B ys.length d] w fun e w' => e = .returned (.bool (shortB xs ys)) ∧ Below w.heap.size w w' := by
  have hb : xs.length ≤ 9223372036854775807 := by have := hx.2.1; omega
  have hf : glisterref06_Shorter.f (2 * xs.length + 2) xs ys = some (shortB xs ys) := by
    unfold glisterref06_Shorter.f shortB
    by_cases h1 : xs.length < ys.length
    · rw [if_pos (by omega), if_pos h1]
    · rw [if_neg (by omega), if_neg h1]
      by_cases h2 : xs.length = ys.length
      · rw [if_pos (by omega), if_pos h2]
        unfold glisterref06_Before.f
        have := before_l xs ys hb xs.length 0 (2 * xs.length + 2) (by omega) (by omega) (by omega) (by omega)
        simp only [List.drop_zero] at this
        rw [show (0 : Int) = ((0 : Nat) : Int) from rfl, this]
        rfl
      · rw [if_neg (by omega), if_neg h2]
  refine (glisterref06_Shorter.calls _ A c xs B d ys _ w hx hc hy hd hf).mono ?_
  rintro e w' ⟨he, m, rfl⟩
  exact ⟨he, belowN w m⟩
theorem before_irr : ∀ xs, beforeB xs xs = false
  | [] => rfl
  | x :: xs => by simp only [beforeB, if_true]; exact before_irr xs
theorem lexLe_before {xs ys : List Int} (h : LexLe xs ys) : beforeB ys xs = false := by
  induction h with
  | refl xs => exact before_irr xs
  | lt x y xs ys h => simp only [beforeB]; rw [if_neg (by omega), decide_eq_false (by omega)]
  | cons x xs ys _ ih => simp only [beforeB, if_true]; exact ih
theorem logE_rc {l l' : Lg} (h : logE l = 0) (h1 : l'.ls = l.ls) (h2 : l'.errs = l.errs) (h3 : l'.sees = l.sees) (h4 : l'.jn = l.jn) (h5 : l'.rc.length ≤ 6) (h6 : ∀ r, r ∈ l'.rc → r ∈ l.rc) : logE l' = 0 := by
  have hs := sound_of h
  refine logE_good ?_ (by rw [h1]; exact hs.code) (good_all ?_ ?_ ?_ ?_ ?_)
  · simp only [overB, h3, h4]
    have := hs.sees.2; have := hs.jlen
    simp; omega
  · rw [h2]; simp only [inR, Bool.and_eq_true, decide_eq_true_eq]; exact hs.errs
  · rw [h3]; have := hs.sees.1; omega
  · intro j hj
    have hm : l'.sees[j] ∈ l.sees := by rw [← h3]; exact List.getElem_mem hj
    exact hs.see _ hm
  · intro j hj
    have hm : l'.jn[j] ∈ l.jn := by rw [← h4]; exact List.getElem_mem hj
    have := hs.jn _ hm
    unfold sentB at *
    unfold atB at *
    rw [h3, h1]
    exact this
  · intro j hj
    have := hs.rc _ (h6 _ (List.getElem_mem hj))
    unfold recordB at *
    unfold atB at *
    rw [h3]
    exact this
theorem outB_eq (out : List Int) (r : Int) : outB out r = out.contains r := by
  rw [Bool.eq_iff_iff]
  simp [outB, List.any_eq_true]
theorem keep_lt (out : List Int) (n : Nat) : (keepI out n).Pairwise (· < ·) := List.Pairwise.filter _ List.pairwise_lt_range
theorem keep_mem {out : List Int} {n k : Nat} : k ∈ keepI out n ↔ k < n ∧ out.contains (k : Int) = false := by
  simp [keepI, List.mem_filter]
theorem keep_succ (out : List Int) (n : Nat) : keepI out (n + 1) = keepI out n ++ if out.contains (n : Int) = true then [] else [n] := by
  unfold keepI
  rw [List.range_succ, List.filter_append]
  cases h : out.contains (n : Int) <;> simp only [List.filter_cons, h, List.filter_nil, Bool.not_false, Bool.not_true, Bool.false_eq_true, if_true, if_false]
theorem keep_get (out : List Int) {k : Nat} (hk : out.contains (k : Int) = false) : ∀ n, k < n → (keepI out n)[(keepI out k).length]? = some k
  | 0, h => by omega
  | n + 1, h => by
    rw [keep_succ]
    by_cases e : k = n
    · subst e
      rw [List.getElem?_append_right (Nat.le_refl _), if_neg (by rw [hk]; simp)]
      simp
    · have := keep_get out hk n (by omega)
      rw [List.getElem?_append_left (List.getElem?_eq_some_iff.1 this).1]
      exact this
theorem keep_len_mono (out : List Int) {i : Nat} : ∀ j, i ≤ j → (keepI out i).length ≤ (keepI out j).length
  | 0, h => by rw [show i = 0 by omega]; exact Nat.le_refl _
  | j + 1, h => by
    by_cases e : i = j + 1
    · rw [e]; exact Nat.le_refl _
    · rw [keep_succ, List.length_append]
      have := keep_len_mono (i := i) out j (by omega)
      omega
theorem u0_false (n : Nat) : u0.getD n false = false := by
  match n with
  | 0 | 1 | 2 | 3 | 4 | 5 | 6 | 7 => rfl
  | n + 8 => simp [u0]
theorem wo_len (l : Lg) (out : List Int) : (woL l out).rc.length = (keepI out l.rc.length).length := by
  show (woK l out l.rc.length).length = _
  unfold woK; rw [List.length_map]
theorem wo_rec (l : Lg) (out : List Int) {i k : Nat} (h : (keepI out l.rc.length)[i]? = some k) : rd_T75 (woL l out).rc (i : Int) = rd_T75 l.rc (k : Int) := by
  show rd_T75 (woK l out l.rc.length) (i : Int) = _
  obtain ⟨hi, he⟩ := List.getElem?_eq_some_iff.1 h
  unfold woK rd_T75
  simp [List.getD_eq_getElem?_getD, hi, he]
theorem wo_can (l : Lg) (out : List Int) {i k : Nat} (h : (keepI out l.rc.length)[i]? = some k) (b : Int) : ((i : Int), b) ∈ esK (woL l out) (woL l out).rc.length ↔ ((k : Int), b) ∈ esK l l.rc.length := by
  have hi := (List.getElem?_eq_some_iff.1 h).1
  have hk := (keep_mem.1 (List.mem_of_getElem? h)).1
  rw [mem_can (woL l out) (by rw [wo_len]; exact hi), mem_can l hk, wo_rec l out h]
  exact Iff.rfl
theorem feas_wo (l : Lg) (out : List Int) (hJ : l.jn.length ≤ 8) : Feas (esK l l.rc.length) l.jn.length l.rc.length out ↔ ∃ bs, Way (woL l out) bs := by
  have hw : (∃ bs, Way (woL l out) bs) ↔ Feas (esK (woL l out) (woL l out).rc.length) l.jn.length (woL l out).rc.length [] := by
    constructor
    · rintro ⟨bs, h⟩; exact ⟨bs, (isW_iff _ _ _ _ hJ _ _ _ rfl).1 h⟩
    · rintro ⟨bs, h⟩; exact ⟨bs, (isW_iff _ _ _ _ hJ _ _ _ rfl).2 h⟩
  rw [hw]
  have hR : ∀ (i : Nat), ((l.rc.length : Int) - (l.rc.length : Nat) + i) = i := fun i => by omega
  have hR' : ∀ (i : Nat), (((woL l out).rc.length : Int) - ((woL l out).rc.length : Nat) + i) = i := fun i => by omega
  constructor
  · rintro ⟨bs, hb⟩
    have hl := hb.len
    have hcs : ∀ (i : Nat) (b : Int), ((keepI out l.rc.length).map fun (k : Nat) => rd bs (k : Int))[i]? = some b → ∃ k, (keepI out l.rc.length)[i]? = some k ∧ bs[k]? = some b ∧ k < l.rc.length ∧ out.contains (k : Int) = false := by
      intro i b h
      rw [List.getElem?_map] at h
      cases hk : (keepI out l.rc.length)[i]? with
      | none => rw [hk] at h; cases h
      | some k =>
        rw [hk] at h
        simp only [Option.map_some, Option.some.injEq] at h
        have hm := keep_mem.1 (List.mem_of_getElem? hk)
        exact ⟨k, rfl, by rw [List.getElem?_eq_getElem (by omega), ← h, rd_nat bs k (by omega)], hm.1, hm.2⟩
    refine ⟨(keepI out l.rc.length).map fun (k : Nat) => rd bs (k : Int), ⟨by rw [wo_len, List.length_map], ?_, ?_, ?_⟩⟩
    · intro i b _ h; cases h
    · intro i b h _
      obtain ⟨k, h1, h2, h3, h4⟩ := hcs i b h
      obtain ⟨k1, k2, k3, _⟩ := hb.yes k b h2 (by rw [hR, outB_eq]; exact h4)
      rw [hR] at k3
      rw [hR']
      exact ⟨k1, k2, (wo_can l out h1 b).2 k3, fun _ => u0_false _⟩
    · intro i j b hij hi hj
      obtain ⟨k, h1, h2, _, _⟩ := hcs i b hi
      obtain ⟨m, h5, h6, _, _⟩ := hcs j b hj
      refine hb.two k m b ?_ h2 h6
      obtain ⟨x1, x2⟩ := List.getElem?_eq_some_iff.1 h1
      obtain ⟨x3, x4⟩ := List.getElem?_eq_some_iff.1 h5
      have := List.pairwise_iff_getElem.1 (keep_lt out l.rc.length) i j x1 x3 hij
      omega
  · rintro ⟨cs, hc⟩
    have hl := hc.len
    rw [wo_len] at hl
    have hbs : ∀ (k : Nat) (b : Int), ((List.range l.rc.length).map fun (k : Nat) => if out.contains (k : Int) = true then (-2 : Int) else rd cs (((keepI out k).length : Nat) : Int))[k]? = some b → k < l.rc.length ∧ ((out.contains (k : Int) = true ∧ b = -2) ∨ (out.contains (k : Int) = false ∧ cs[(keepI out k).length]? = some b ∧ (keepI out l.rc.length)[(keepI out k).length]? = some k)) := by
      intro k b h
      rw [List.getElem?_map] at h
      by_cases hk : k < l.rc.length
      · rw [List.getElem?_range hk] at h
        simp only [Option.map_some, Option.some.injEq] at h
        refine ⟨hk, ?_⟩
        cases hq : out.contains (k : Int) with
        | true => rw [hq, if_pos rfl] at h; exact .inl ⟨rfl, h.symm⟩
        | false =>
          rw [hq, if_neg (by simp)] at h
          have hg := keep_get out hq _ hk
          have hx := (List.getElem?_eq_some_iff.1 hg).1
          exact .inr ⟨rfl, by rw [List.getElem?_eq_getElem (by omega), ← h, rd_nat cs _ (by omega)], hg⟩
      · rw [List.getElem?_eq_none (by simpa using hk)] at h; cases h
    refine ⟨(List.range l.rc.length).map fun (k : Nat) => if out.contains (k : Int) = true then (-2 : Int) else rd cs (((keepI out k).length : Nat) : Int), ⟨by simp, ?_, ?_, ?_⟩⟩
    · intro k b h hq
      rw [hR, outB_eq] at hq
      rcases (hbs k b h).2 with ⟨_, h2⟩ | ⟨h1, _⟩
      · exact h2
      · rw [h1] at hq; cases hq
    · intro k b h hq
      rw [hR, outB_eq] at hq
      rcases (hbs k b h).2 with ⟨h1, _⟩ | ⟨_, h2, h3⟩
      · rw [h1] at hq; cases hq
      · obtain ⟨k1, k2, k3, _⟩ := hc.yes _ b h2 rfl
        rw [hR'] at k3
        rw [hR]
        exact ⟨k1, k2, (wo_can l out h3 b).1 k3, fun _ => u0_false _⟩
    · intro i j b hij hi hj
      rcases (hbs i b hi).2 with ⟨_, h2⟩ | ⟨q1, h2, h3⟩
      · omega
      · rcases (hbs j b hj).2 with ⟨_, h5⟩ | ⟨q2, h5, h6⟩
        · omega
        · refine hc.two _ _ b ?_ h2 h5
          have h7 := keep_len_mono out (i := i + 1) j (by omega)
          rw [keep_succ, q1, if_neg (by simp), List.length_append] at h7
          simp only [List.length_singleton] at h7
          omega
theorem pw_len (R : Nat) : ∀ (ps : List Int) (f : Nat), ps.Pairwise (· < ·) → (∀ p, p ∈ ps → (f : Int) ≤ p ∧ p < R) → f ≤ R → ps.length + f ≤ R
  | [], f, _, _, h => by simpa using h
  | p :: ps, f, hp, hr, h => by
    have h1 := hr p (by simp)
    have := pw_len R ps (p.toNat + 1) (List.pairwise_cons.1 hp).2 (fun q hq => by
      have h2 := (List.pairwise_cons.1 hp).1 q hq
      have h3 := hr q (List.mem_cons_of_mem _ hq)
      omega) (by omega)
    simp only [List.length_cons]
    omega
structure LF (l : Lg) (tried : List Int) : Prop where
  len : (leaveL l).length ≤ l.rc.length
  f : asgE (woL l (leaveL l)) = 0
  g : asgE (woL l tried) = 0 ∨ asgE (woL l tried) = 11
  s : asgE (woL l tried) = 0 → shortB tried (leaveL l) = false
theorem lf_of {l : Lg} (hE : logE l = 0) {n : Nat} (hn : n < 2 ^ l.rc.length) : LF l (bitsL n) := by
  have hs := sound_of hE
  have hlv := leaveL_ok hE hs.jlen hs.rlen
  have hwo : ∀ out, logE (woL l out) = 0 := fun out => logE_rc hE rfl rfl rfl rfl (Nat.le_trans (woK_len l out _) hs.rlen) (fun r hr => woK_mem (Nat.le_refl _) hr)
  have hwl : ∀ out, (woL l out).rc.length ≤ 6 := fun out => Nat.le_trans (woK_len l out _) hs.rlen
  have hasg : ∀ out, asgE (woL l out) = 0 ∨ asgE (woL l out) = 11 := fun out => by
    by_cases h : ∃ bs, Way (woL l out) bs
    · exact .inl (asg_way (hwo out) (hwl out) h).1
    · exact .inr (verd_none (hwo out) (hwl out) h).2.2.1
  refine ⟨?_, (asg_way (hwo _) (hwl _) ((feas_wo l _ hs.jlen).1 hlv.feas)).1, hasg _, fun h => ?_⟩
  · have := pw_len l.rc.length (leaveL l) 0 hlv.picks.lt hlv.picks.rng (by omega)
    omega
  · have hw : ∃ bs, Way (woL l (bitsL n)) bs := by
      by_cases h' : ∃ bs, Way (woL l (bitsL n)) bs
      · exact h'
      · have := (verd_none (hwo _) (hwl _) h').2.2.1
        omega
    have hf := (feas_wo l _ hs.jlen).2 hw
    have hp := bits_picks hn hs.rlen
    unfold shortB
    by_cases h1 : (bitsL n).length < (leaveL l).length
    · exact absurd hf (hlv.short _ h1 _ hp)
    · rw [if_neg h1]
      by_cases h2 : (bitsL n).length = (leaveL l).length
      · rw [if_pos h2]
        exact lexLe_before (hlv.first _ (h2 ▸ hp) hf)
      · rw [if_neg h2]
end Go.Proofs.YthgfhgjlilmieaaGreat.G
namespace Go.Proofs.YthgfhgjlilmieaaGreat.G
open Go.RowKit Go.Shelf Go.Proofs.YthgfhgjlilmieaaGreatW.PrintWords Go.Proofs.YthgfhgjlilmieaaGreatW.PrintLast Go.Proofs.YthgfhgjlilmieaaGreatW.PrintMore
open Go.Proofs.YthgfhgjlilmieaaGreat.B
set_option linter.unusedVariables false
set_option linter.unusedSimpArgs false
set_option maxRecDepth 100000 in
set_option maxHeartbeats 16000000 in
theorem maskLeft_any (a : LV) (l : Lg) (n : Nat) (w : World) (hL : LogAt w a l) (hn : n < 256) : Calls Tryz.prog 10 #[logV a l, .int .u8 n] w fun e w' => e = .returned (.bool true) ∧ Below w.heap.size w w' := by
  have hu := Tryz.underlying29
  have hu1 := Tryz.underlying25
  have hu3 := Tryz.underlying3
  have hu5 := Tryz.underlying5
  have hu64 := Tryz.underlying64
  have hz : ∀ W, Below (w.heap.size + 1) (w.alloc (logD a l)) W → LogAt W a l := fun W h => hL.below (toW h)
  have HRD := Aside0.mk (fun W h => ready34_any a l W (hz W h))
  have HLG := Aside0.mk (fun W h (hf : Fits l) => log20_any a l W (hz W h) hf)
  have HWO := Aside0.mk (fun out B d W h (h6 : l.rc.length ≤ 1000) (hO : Kd.C (Kd.int .i64) W B out.length out) (hd : out.length ≤ d) => without42_any a l B d out W (hz W h) h6 hO hd)
  have HAW := Aside0.mk awake_any
  have HCE := Aside0.mk (logCells a l w)
  have HTW := Aside0.mk (fun W h => toW (a := a) (l := l) (w := w) (W := W) h)
  have BW := Aside0.mk (Below.refl (w.heap.size + 1) (w.alloc (logD a l)))
  have HN : Aside0 (w.heap.size + 1 ≤ (w.alloc (logD a l)).heap.size) := ⟨by simp⟩
  obtain ⟨A0, A2, A3, A4, c0, c2, c3, c4⟩ := a
  dsimp only [logV] at HRD HLG HWO HCE ⊢
  clear hz hL
  go_enter Tryz.func10, Tryz.ntmps10
  go_wp2_with (fail)
  refine (HRD.out _ BW.out).mono ?_
  rintro e w1_ ⟨b, rfl, hq, hb⟩
  have BW := Aside0.mk (step_b BW.out HN.out hb)
  obtain ⟨b0, b1, b2, b3, b4⟩ := HCE.out _ BW.out
  clear hb
  cases b with
  | false =>
    go_wp2_with (fail)
    refine (HAW.out _).mono ?_
    rintro e w2_ ⟨rfl, hb⟩
    have BW := Aside0.mk (step_b BW.out HN.out hb)
    clear b0 b1 b2 b3 b4
    obtain ⟨b0, b1, b2, b3, b4⟩ := HCE.out _ BW.out
    clear hb
    go_wp2
    go_ret
    exact ⟨rfl, HTW.out _ BW.out⟩
  | true =>
    have hE := (hq rfl).2
    have hf := (hq rfl).1.fits
    have hs := sound_of hE
    have h6 : l.rc.length ≤ 6 := hs.rlen
    clear hq
    have hpw : 0 < 2 ^ l.rc.length := Nat.pow_pos (by decide)
    have hp64 : 2 ^ l.rc.length ≤ 64 := Nat.le_trans (Nat.pow_le_pow_right (by decide) h6) (by decide)
    have hm : n % 2 ^ l.rc.length < 2 ^ l.rc.length := Nat.mod_lt _ hpw
    have hLF := lf_of hE hm
    have hbt : ∀ W, Calls Tryz.prog 41 #[.int .i64 ((n : Int) % ((2 ^ l.rc.length : Nat) : Int))] W fun e w' => ∃ A c, e = .returned (.slice A (bitsL (n % 2 ^ l.rc.length : Nat)).length c) ∧ (bitsL (n % 2 ^ l.rc.length : Nat)).length ≤ c ∧ Kd.C (Kd.int .i64) w' A (bitsL (n % 2 ^ l.rc.length : Nat)).length (bitsL (n % 2 ^ l.rc.length : Nat)) ∧ Below W.heap.size W w' := fun W => by rw [← Int.natCast_emod]; exact bits41_any (n % 2 ^ l.rc.length) (by omega) W
    have hsh : wrap64 (2 ^ l.rc.length) = ((2 ^ l.rc.length : Nat) : Int) := by
      have e : ((2 : Int) ^ l.rc.length) = ((2 ^ l.rc.length : Nat) : Int) := by push_cast; rfl
      rw [e]; unfold wrap64; omega
    have HLV := Aside0.mk (fun a' W (h : LogAt W a' l) => (leave32_at a' l W h).mono fun e w' h => lisP_of rfl (show leaveE l = 0 from hE) h)
    have hfw : ∀ out, Fits (woL l out) := fun out => ⟨hf.ls, hf.sees, hf.jn, Nat.le_trans (woK_len l out _) (Nat.le_trans h6 (by decide)), hf.tx⟩
    have HLW := Aside0.mk (fun out a' W (h : LogAt W a' (woL l out)) => log20_any a' (woL l out) W h (hfw out))
    have HAS := Aside0.mk (fun out a' W (h : LogAt W a' (woL l out)) => assign36_at a' (woL l out) W h)
    obtain ⟨f1, f2, f3, f4⟩ := hLF
    have hR1000 : l.rc.length ≤ 1000 := by omega
    have hwx : ∀ B d W, Below (w.heap.size + 1) (w.alloc (logD ⟨A0, A2, A3, A4, c0, c2, c3, c4⟩ l)) W → Kd.C (Kd.int .i64) W B (leaveL l).length (leaveL l) → (leaveL l).length ≤ d → _ := fun B d W h hO hd => HWO.out (leaveL l) B d W h hR1000 hO hd
    have hwy : ∀ B d W, Below (w.heap.size + 1) (w.alloc (logD ⟨A0, A2, A3, A4, c0, c2, c3, c4⟩ l)) W → Kd.C (Kd.int .i64) W B (bitsL ((n % 2 ^ l.rc.length : Nat) : Int)).length (bitsL ((n % 2 ^ l.rc.length : Nat) : Int)) → (bitsL ((n % 2 ^ l.rc.length : Nat) : Int)).length ≤ d → _ := fun B d W h hO hd => HWO.out (bitsL ((n % 2 ^ l.rc.length : Nat) : Int)) B d W h hR1000 hO hd
    have hlx := HLW.out (leaveL l)
    have hly := HLW.out (bitsL ((n % 2 ^ l.rc.length : Nat) : Int))
    have hax := fun a' W h => (HAS.out (leaveL l) a' W h).mono fun e w' h => lisP_of rfl f2 h
    have hay := fun a' W h => HAS.out (bitsL ((n % 2 ^ l.rc.length : Nat) : Int)) a' W h
    clear HWO HLW HAS f2
    generalize hbn : bitsL ((n % 2 ^ l.rc.length : Nat) : Int) = T at *
    generalize leaveL l = L at *
    generalize woL l L = X at *
    generalize woL l T = Y at *
    generalize hpp : (2 : Nat) ^ l.rc.length = p at *
    generalize asgL X = XL at *
    generalize asgL Y = YL at *
    generalize asgE Y = g at *
    have hp0 : ¬ (p : Int) = 0 := by omega
    have HBT := Aside0.mk hbt
    have HWX := Aside0.mk hwx
    have HWY := Aside0.mk hwy
    have HLX := Aside0.mk hlx
    have HLY := Aside0.mk hly
    have HAX := Aside0.mk hax
    have y1 : decide ((L.length : Int) > l.rc.length) = false := decide_eq_false (by omega)
    have y2 := eq_false (show ¬ (L.length : Int) > l.rc.length by omega)
    have y3 : decide ((l.rc.length : Int) < L.length) = false := decide_eq_false (by omega)
    have y4 := eq_false (show ¬ (l.rc.length : Int) < L.length by omega)
    have HSH := Aside0.mk (fun (h : g = 0) A B c d W hx hc hy hd => by have := shorter43_any A B c d T L W hx hc hy hd; rwa [f4 h] at this)
    clear hbn hE hs hfw hbt hpp hm hp64 hpw hwx hwy hlx hly hax f1 f4
    rcases f3 with rfl | rfl
    · skip
      have HAY := Aside0.mk (fun a' W h => (hay a' W h).mono fun e w' h => lisP_of rfl rfl h)
      clear hay
      have HS2 := Aside0.mk (HSH.out rfl)
      go_wp2_with (fail)
      refine (HLG.out _ BW.out hf).mono ?_
      rintro e w2_ ⟨a1, rfl, hl, hb⟩
      have HL1 := Aside0.mk hl
      clear hl
      have BW := Aside0.mk (step_b BW.out HN.out hb)
      clear b0 b1 b2 b3 b4
      obtain ⟨b0, b1, b2, b3, b4⟩ := HCE.out _ BW.out
      clear hb
      go_wp2_with (fail)
      refine (HLV.out a1 _ HL1.out).mono ?_
      rintro e w3_ ⟨L0, p0, rfl, hlc, hC, hb⟩
      have HLCL0 := Aside0.mk hlc
      have HCL0 := Aside0.mk hC
      clear hlc hC
      have BW := Aside0.mk (step_b BW.out HN.out hb)
      clear b0 b1 b2 b3 b4
      obtain ⟨b0, b1, b2, b3, b4⟩ := HCE.out _ BW.out
      clear hb
      go_wp2_with (fail)
      refine (HBT.out _).mono ?_
      rintro e w4_ ⟨T0, t0, rfl, hlc, hC, hb⟩
      have HLCT0 := Aside0.mk hlc
      have HCT0 := Aside0.mk hC
      clear hlc hC
      have BW := Aside0.mk (step_b BW.out HN.out hb)
      have HCL0 := Aside0.mk (Kd.C_below HCL0.out hb)
      clear b0 b1 b2 b3 b4
      obtain ⟨b0, b1, b2, b3, b4⟩ := HCE.out _ BW.out
      clear hb
      go_wp2_with (fail)
      refine (HWX.out _ _ _ BW.out HCL0.out HLCL0.out).mono ?_
      rintro e w5_ ⟨a2, rfl, hl, hb⟩
      have HL2 := Aside0.mk hl
      clear hl
      have BW := Aside0.mk (step_b BW.out HN.out hb)
      have HCL0 := Aside0.mk (Kd.C_below HCL0.out hb)
      have HCT0 := Aside0.mk (Kd.C_below HCT0.out hb)
      clear b0 b1 b2 b3 b4
      obtain ⟨b0, b1, b2, b3, b4⟩ := HCE.out _ BW.out
      clear hb
      go_wp2_with (fail)
      refine (HLX.out a2 _ HL2.out).mono ?_
      rintro e w6_ ⟨a3, rfl, hl, hb⟩
      have HL3 := Aside0.mk hl
      clear hl
      have BW := Aside0.mk (step_b BW.out HN.out hb)
      have HCL0 := Aside0.mk (Kd.C_below HCL0.out hb)
      have HCT0 := Aside0.mk (Kd.C_below HCT0.out hb)
      clear b0 b1 b2 b3 b4
      obtain ⟨b0, b1, b2, b3, b4⟩ := HCE.out _ BW.out
      clear hb
      go_wp2_with (fail)
      refine (HAX.out a3 _ HL3.out).mono ?_
      rintro e w7_ ⟨F0, f0, rfl, hlc, hC, hb⟩
      clear hlc hC
      have BW := Aside0.mk (step_b BW.out HN.out hb)
      have HCL0 := Aside0.mk (Kd.C_below HCL0.out hb)
      have HCT0 := Aside0.mk (Kd.C_below HCT0.out hb)
      clear b0 b1 b2 b3 b4
      obtain ⟨b0, b1, b2, b3, b4⟩ := HCE.out _ BW.out
      clear hb
      go_wp2_with (fail)
      refine (HWY.out _ _ _ BW.out HCT0.out HLCT0.out).mono ?_
      rintro e w8_ ⟨a4, rfl, hl, hb⟩
      have HL4 := Aside0.mk hl
      clear hl
      have BW := Aside0.mk (step_b BW.out HN.out hb)
      have HCL0 := Aside0.mk (Kd.C_below HCL0.out hb)
      have HCT0 := Aside0.mk (Kd.C_below HCT0.out hb)
      clear b0 b1 b2 b3 b4
      obtain ⟨b0, b1, b2, b3, b4⟩ := HCE.out _ BW.out
      clear hb
      go_wp2_with (fail)
      refine (HLY.out a4 _ HL4.out).mono ?_
      rintro e w9_ ⟨a5, rfl, hl, hb⟩
      have HL5 := Aside0.mk hl
      clear hl
      have BW := Aside0.mk (step_b BW.out HN.out hb)
      have HCL0 := Aside0.mk (Kd.C_below HCL0.out hb)
      have HCT0 := Aside0.mk (Kd.C_below HCT0.out hb)
      clear b0 b1 b2 b3 b4
      obtain ⟨b0, b1, b2, b3, b4⟩ := HCE.out _ BW.out
      clear hb
      go_wp2_with (fail)
      refine (HAY.out a5 _ HL5.out).mono ?_
      rintro e w10_ ⟨G0, g0, rfl, hlc, hC, hb⟩
      clear hlc hC
      have BW := Aside0.mk (step_b BW.out HN.out hb)
      have HCL0 := Aside0.mk (Kd.C_below HCL0.out hb)
      have HCT0 := Aside0.mk (Kd.C_below HCT0.out hb)
      clear b0 b1 b2 b3 b4
      obtain ⟨b0, b1, b2, b3, b4⟩ := HCE.out _ BW.out
      clear hb
      go_wp2_with (fail)
      refine (HS2.out _ _ _ _ _ HCT0.out HLCT0.out HCL0.out HLCL0.out).mono ?_
      rintro e w11_ ⟨rfl, hb⟩
      have BW := Aside0.mk (step_b BW.out HN.out hb)
      have HCL0 := Aside0.mk (Kd.C_below HCL0.out hb)
      have HCT0 := Aside0.mk (Kd.C_below HCT0.out hb)
      clear b0 b1 b2 b3 b4
      obtain ⟨b0, b1, b2, b3, b4⟩ := HCE.out _ BW.out
      clear hb
      go_wp2_with (fail)
      refine (HAW.out _).mono ?_
      rintro e w12_ ⟨rfl, hb⟩
      have BW := Aside0.mk (step_b BW.out HN.out hb)
      have HCL0 := Aside0.mk (Kd.C_below HCL0.out hb)
      have HCT0 := Aside0.mk (Kd.C_below HCT0.out hb)
      clear b0 b1 b2 b3 b4
      obtain ⟨b0, b1, b2, b3, b4⟩ := HCE.out _ BW.out
      clear hb
      go_wp2
      go_ret
      exact ⟨rfl, HTW.out _ BW.out⟩
    · skip
      have HAY := Aside0.mk (fun a' W h => (hay a' W h).mono fun e w' h => lisP_of rfl rfl h)
      clear hay
      go_wp2_with (fail)
      refine (HLG.out _ BW.out hf).mono ?_
      rintro e w2_ ⟨a1, rfl, hl, hb⟩
      have HL1 := Aside0.mk hl
      clear hl
      have BW := Aside0.mk (step_b BW.out HN.out hb)
      clear b0 b1 b2 b3 b4
      obtain ⟨b0, b1, b2, b3, b4⟩ := HCE.out _ BW.out
      clear hb
      go_wp2_with (fail)
      refine (HLV.out a1 _ HL1.out).mono ?_
      rintro e w3_ ⟨L0, p0, rfl, hlc, hC, hb⟩
      have HLCL0 := Aside0.mk hlc
      have HCL0 := Aside0.mk hC
      clear hlc hC
      have BW := Aside0.mk (step_b BW.out HN.out hb)
      clear b0 b1 b2 b3 b4
      obtain ⟨b0, b1, b2, b3, b4⟩ := HCE.out _ BW.out
      clear hb
      go_wp2_with (fail)
      refine (HBT.out _).mono ?_
      rintro e w4_ ⟨T0, t0, rfl, hlc, hC, hb⟩
      have HLCT0 := Aside0.mk hlc
      have HCT0 := Aside0.mk hC
      clear hlc hC
      have BW := Aside0.mk (step_b BW.out HN.out hb)
      have HCL0 := Aside0.mk (Kd.C_below HCL0.out hb)
      clear b0 b1 b2 b3 b4
      obtain ⟨b0, b1, b2, b3, b4⟩ := HCE.out _ BW.out
      clear hb
      go_wp2_with (fail)
      refine (HWX.out _ _ _ BW.out HCL0.out HLCL0.out).mono ?_
      rintro e w5_ ⟨a2, rfl, hl, hb⟩
      have HL2 := Aside0.mk hl
      clear hl
      have BW := Aside0.mk (step_b BW.out HN.out hb)
      have HCL0 := Aside0.mk (Kd.C_below HCL0.out hb)
      have HCT0 := Aside0.mk (Kd.C_below HCT0.out hb)
      clear b0 b1 b2 b3 b4
      obtain ⟨b0, b1, b2, b3, b4⟩ := HCE.out _ BW.out
      clear hb
      go_wp2_with (fail)
      refine (HLX.out a2 _ HL2.out).mono ?_
      rintro e w6_ ⟨a3, rfl, hl, hb⟩
      have HL3 := Aside0.mk hl
      clear hl
      have BW := Aside0.mk (step_b BW.out HN.out hb)
      have HCL0 := Aside0.mk (Kd.C_below HCL0.out hb)
      have HCT0 := Aside0.mk (Kd.C_below HCT0.out hb)
      clear b0 b1 b2 b3 b4
      obtain ⟨b0, b1, b2, b3, b4⟩ := HCE.out _ BW.out
      clear hb
      go_wp2_with (fail)
      refine (HAX.out a3 _ HL3.out).mono ?_
      rintro e w7_ ⟨F0, f0, rfl, hlc, hC, hb⟩
      clear hlc hC
      have BW := Aside0.mk (step_b BW.out HN.out hb)
      have HCL0 := Aside0.mk (Kd.C_below HCL0.out hb)
      have HCT0 := Aside0.mk (Kd.C_below HCT0.out hb)
      clear b0 b1 b2 b3 b4
      obtain ⟨b0, b1, b2, b3, b4⟩ := HCE.out _ BW.out
      clear hb
      go_wp2_with (fail)
      refine (HWY.out _ _ _ BW.out HCT0.out HLCT0.out).mono ?_
      rintro e w8_ ⟨a4, rfl, hl, hb⟩
      have HL4 := Aside0.mk hl
      clear hl
      have BW := Aside0.mk (step_b BW.out HN.out hb)
      have HCL0 := Aside0.mk (Kd.C_below HCL0.out hb)
      have HCT0 := Aside0.mk (Kd.C_below HCT0.out hb)
      clear b0 b1 b2 b3 b4
      obtain ⟨b0, b1, b2, b3, b4⟩ := HCE.out _ BW.out
      clear hb
      go_wp2_with (fail)
      refine (HLY.out a4 _ HL4.out).mono ?_
      rintro e w9_ ⟨a5, rfl, hl, hb⟩
      have HL5 := Aside0.mk hl
      clear hl
      have BW := Aside0.mk (step_b BW.out HN.out hb)
      have HCL0 := Aside0.mk (Kd.C_below HCL0.out hb)
      have HCT0 := Aside0.mk (Kd.C_below HCT0.out hb)
      clear b0 b1 b2 b3 b4
      obtain ⟨b0, b1, b2, b3, b4⟩ := HCE.out _ BW.out
      clear hb
      go_wp2_with (fail)
      refine (HAY.out a5 _ HL5.out).mono ?_
      rintro e w10_ ⟨G0, g0, rfl, hlc, hC, hb⟩
      clear hlc hC
      have BW := Aside0.mk (step_b BW.out HN.out hb)
      have HCL0 := Aside0.mk (Kd.C_below HCL0.out hb)
      have HCT0 := Aside0.mk (Kd.C_below HCT0.out hb)
      clear b0 b1 b2 b3 b4
      obtain ⟨b0, b1, b2, b3, b4⟩ := HCE.out _ BW.out
      clear hb
      go_wp2_with (fail)
      refine (HAW.out _).mono ?_
      rintro e w11_ ⟨rfl, hb⟩
      have BW := Aside0.mk (step_b BW.out HN.out hb)
      have HCL0 := Aside0.mk (Kd.C_below HCL0.out hb)
      have HCT0 := Aside0.mk (Kd.C_below HCT0.out hb)
      clear b0 b1 b2 b3 b4
      obtain ⟨b0, b1, b2, b3, b4⟩ := HCE.out _ BW.out
      clear hb
      go_wp2
      go_ret
      exact ⟨rfl, HTW.out _ BW.out⟩
end Go.Proofs.YthgfhgjlilmieaaGreat.G
