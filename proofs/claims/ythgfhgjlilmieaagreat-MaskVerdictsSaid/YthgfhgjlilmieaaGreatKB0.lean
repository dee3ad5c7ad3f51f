/- texts of this claim, merged by a program of this session out of its own texts and the print's words -/
import Derived.Deep.RegionHeld3
import Derived.Laws.BitsLemmas
import Derived.OrdersHeld
import Derived.RowKit
import Derived.Test.YthgfhgjlilmieaaGreatKA0
import Derived.Test.YthgfhgjlilmieaaGreatKA1
import Derived.Test.YthgfhgjlilmieaaGreatKA2
import Derived.Test.YthgfhgjlilmieaaGreatKA3
import Derived.Test.YthgfhgjlilmieaaGreatKA4
namespace Go.Proofs.YthgfhgjlilmieaaGreatW.PrintLast
section
variable {P : Program} {ops : Array Oper} {Q : Exit → Act → World → Prop} {md : Region.Mode} {S : World → Prop} {ds : List Nat}
end
section
variable {P : Program} {ops : Array Oper} {Q : Exit → Act → World → Prop} {md : Region.Mode} {S : World → Prop} {ds : List Nat}
theorem goesL_ {rest : List Oper} {oi : Oper} {a : Act} {w : World} (N : Option Tmp) (hd : oi.dst = N) (hg : oi.guard = none) {f : FuncId} {fn : Func} {ars : Array Operand} {ts : Array TypeId} (hf : P.funcs[f]? = some fn) (hname : (fn.name == "runtime.NumGoroutine") = false) (hb : fn.body.isSome = true) (args : Array Value)
    (hop : oi.op = .call { callee := .value (.func f), args := ars, argTypes := ts }) (hargs : ars.map a.eval = args)
    (h : Calls P f args w fun e w' => ∃ v, e = .returned v ∧ wpList P ops Q rest (a.put N v) w') : wpList P ops Q (oi :: rest) a w := by
  refine wpList_plain hg fun K hK => ?_
  have he := enters_ hf hname hb args w
  have hrun : (execOp a.eval oi).run P w = .ok (.enter f args) w := by
    unfold execOp
    simp [hop, resolve, Deferred.ofValue, invoke, Act.eval, hargs, he]
  unfold Oper.wp
  rw [hrun, Oper.upon_enter]
  refine h.mono fun e w'' hh => ?_
  obtain ⟨v, rfl, hk⟩ := hh
  subst hd
  exact hK _ _ hk
end
end Go.Proofs.YthgfhgjlilmieaaGreatW.PrintLast
namespace Go.Proofs.YthgfhgjlilmieaaGreatW.PrintMore
open Go.RowKit Go.Proofs.YthgfhgjlilmieaaGreatW.PrintWords
namespace Kd
open Go.Proofs.YthgfhgjlilmieaaGreatW.PrintWords.Kd
end Kd
namespace Kd
open Go.Proofs.YthgfhgjlilmieaaGreatW.PrintWords.Kd
section
variable {α : Type} {d : Kd α} {e base g N : Nat} {ok : Nat → Prop} {W w1 : World} {u v : Value} {xs : List α}
end
end Kd
end Go.Proofs.YthgfhgjlilmieaaGreatW.PrintMore
namespace Go.Proofs.YthgfhgjlilmieaaGreatW.PrintWords
open Go.RowKit
section
variable {P : Program} {ops : Array Oper} {rest : List Oper} {o : Oper} {a : Act} {Q : Exit → Act → World → Prop} {W : World}
theorem gate_callee {f : FuncId} {ars : Array Operand} {ts : Array TypeId} (_ho : o.op = .call { callee := .value (.func f), args := ars, argTypes := ts }) (h : wpList P ops Q (o :: rest) a W) : wpList P ops Q (o :: rest) a W := h
end
namespace Kd
section
variable {α : Type} {d : Kd α} {e base : Nat} {ok : Nat → Prop} {W w1 : World} {v : Value} {xs : List α}
end
section
variable {α : Type} {d : Kd α} {e base g n cap : Nat} {ok oki okp : Nat → Prop} {W : World} {xs : List α} {i : Int} {c : List Value}
end
section
variable {α : Type} {d : Kd α} {e base b b' g N : Nat} {ok ok1 : Nat → Prop} {W W2 w1 : World} {u v : Value} {xs ys : List α} {S : Nat → Prop}
end
end Kd
end Go.Proofs.YthgfhgjlilmieaaGreatW.PrintWords
namespace Go.Proofs.YthgfhgjlilmieaaGreatW.PrintWords
open Go.RowKit
namespace Kd
section
variable {α β : Type} {d : Kd α} {e base base' n m c g N' lo hi : Nat} {ok ok' S : Nat → Prop} {w W w1 : World} {A : Option Addr} {ad : Addr} {u v v1 : Value} {xs : List α}
end
end Kd
end Go.Proofs.YthgfhgjlilmieaaGreatW.PrintWords
namespace Go.Proofs.YthgfhgjlilmieaaGreat.G
open Go.RowKit Go.Shelf Go.Proofs.YthgfhgjlilmieaaGreatW.PrintWords Go.Proofs.YthgfhgjlilmieaaGreatW.PrintLast Go.Proofs.YthgfhgjlilmieaaGreatW.PrintMore
open Go.Proofs.YthgfhgjlilmieaaGreat.B
set_option linter.unusedVariables false
set_option linter.unusedSimpArgs false
theorem mem_esK (l : Lg) (n : Nat) (r b : Int) : (r, b) ∈ esK l n ↔ ∃ k : Nat, k < n ∧ r = k ∧ (b ∈ statL l (rd_T75 l.rc k) ∨ b ∈ falL l (rd_T75 l.rc k)) := by
  simp only [esK, List.mem_flatMap, List.mem_range]
  constructor
  · rintro ⟨k, hk, hm⟩
    have e : esR l k 2 = (statL l (rd_T75 l.rc k)).map (fun y => ((k : Int), y)) ++ (falL l (rd_T75 l.rc k)).map (fun y => ((k : Int), y)) := by
      simp [esR, List.range_succ, srcL]
    rw [e, List.mem_append] at hm
    rcases hm with hm | hm
    · obtain ⟨y, hy, e⟩ := List.mem_map.1 hm
      cases e
      exact ⟨k, hk, rfl, .inl hy⟩
    · obtain ⟨y, hy, e⟩ := List.mem_map.1 hm
      cases e
      exact ⟨k, hk, rfl, .inr hy⟩
  · rintro ⟨k, hk, rfl, hb⟩
    refine ⟨k, hk, ?_⟩
    have e : esR l k 2 = (statL l (rd_T75 l.rc k)).map (fun y => ((k : Int), y)) ++ (falL l (rd_T75 l.rc k)).map (fun y => ((k : Int), y)) := by
      simp [esR, List.range_succ, srcL]
    rw [e, List.mem_append]
    rcases hb with hb | hb
    · exact .inl (List.mem_map.2 ⟨b, hb, rfl⟩)
    · exact .inr (List.mem_map.2 ⟨b, hb, rfl⟩)
end Go.Proofs.YthgfhgjlilmieaaGreat.G
namespace Go.Proofs.YthgfhgjlilmieaaGreat.G
open Go.RowKit Go.Shelf
set_option linter.unusedVariables false
set_option linter.unusedSimpArgs false
def outB (out : List Int) (r : Int) : Bool := out.any fun x => r == x
def IsW (ES : List (Int × Int)) (J R : Nat) (out : List Int) : Nat → List Bool → List Int → Prop
  | 0, _, bs => bs = []
  | n + 1, u, [] => False
  | n + 1, u, b :: bs => if outB out ((R : Int) - (n + 1)) = true then b = -2 ∧ IsW ES J R out n u bs
      else b ∈ bys J ∧ freeB ES u ((R : Int) - (n + 1)) b = true ∧ IsW ES J R out n (freeU ES u ((R : Int) - (n + 1)) b) bs
def fals (bs : List Int) : Int := (bs.countP (· == -1) : Nat)
theorem fals_cons (b : Int) (bs : List Int) : fals (b :: bs) = fals bs + if b = -1 then 1 else 0 := by
  by_cases h : b = -1 <;> simp [fals, List.countP_cons, h]
theorem fals_nil : fals [] = 0 := rfl
theorem fals_append (xs ys : List Int) : fals (xs ++ ys) = fals xs + fals ys := by simp [fals, List.countP_append]
theorem fals_le (bs : List Int) : fals bs ≤ bs.length := by
  have := List.countP_le_length (p := (· == (-1 : Int))) (l := bs)
  simp only [fals]; omega
theorem fold_min (p : Int → Bool) (g : Int → Int) : ∀ (xs : List Int) (m : Int), (xs.foldl (fun m b => if p b = true then min m (g b) else m) m ≤ m) ∧ (∀ b, b ∈ xs → p b = true → xs.foldl (fun m b => if p b = true then min m (g b) else m) m ≤ g b) ∧ (xs.foldl (fun m b => if p b = true then min m (g b) else m) m = m ∨ ∃ b, b ∈ xs ∧ p b = true ∧ xs.foldl (fun m b => if p b = true then min m (g b) else m) m = g b)
  | [], m => ⟨by simp, by simp, .inl rfl⟩
  | x :: xs, m => by
    simp only [List.foldl_cons]
    obtain ⟨h1, h2, h3⟩ := fold_min p g xs (if p x = true then min m (g x) else m)
    refine ⟨?_, ?_, ?_⟩
    · by_cases hp : p x = true
      · rw [if_pos hp] at h1 ⊢; omega
      · rw [if_neg hp] at h1 ⊢; exact h1
    · intro b hb hp
      rcases List.mem_cons.1 hb with e | hb
      · subst e; rw [if_pos hp] at h1 ⊢; omega
      · exact h2 b hb hp
    · rcases h3 with h3 | ⟨b, hb, hp, h3⟩
      · by_cases hp : p x = true
        · rw [if_pos hp] at h3 ⊢
          rcases Int.le_total m (g x) with hm | hm
          · exact .inl (by rw [h3]; omega)
          · exact .inr ⟨x, by simp, hp, by rw [h3]; omega⟩
        · rw [if_neg hp] at h3 ⊢; exact .inl h3
      · exact .inr ⟨b, List.mem_cons_of_mem _ hb, hp, h3⟩
theorem least_succ (ES : List (Int × Int)) (J R : Nat) (out : List Int) (n : Nat) (u : List Bool) : leastN ES J R out (n + 1) u = if outB out ((R : Int) - (n + 1)) = true then leastN ES J R out n u else (bys J).foldl (fun m b => if freeB ES u ((R : Int) - (n + 1)) b = true then min m (leastN ES J R out n (freeU ES u ((R : Int) - (n + 1)) b) + if b = -1 then 1 else 0) else m) 1024 := rfl
theorem least_le (ES : List (Int × Int)) (J R : Nat) (out : List Int) : ∀ n u bs, IsW ES J R out n u bs → leastN ES J R out n u ≤ fals bs
  | 0, u, bs, h => by simp only [IsW] at h; subst h; simp [leastN, fals]
  | n + 1, u, [], h => by simp only [IsW] at h
  | n + 1, u, b :: bs, h => by
    simp only [IsW] at h
    rw [least_succ, fals_cons]
    by_cases ho : outB out ((R : Int) - (n + 1)) = true
    · rw [if_pos ho] at h
      rw [if_pos ho]
      have := least_le ES J R out n u bs h.2
      split <;> omega
    · rw [if_neg ho] at h
      rw [if_neg ho]
      have h1 := least_le ES J R out n _ bs h.2.2
      have h2 := (fold_min (freeB ES u ((R : Int) - (n + 1))) (fun b => leastN ES J R out n (freeU ES u ((R : Int) - (n + 1)) b) + if b = -1 then 1 else 0) (bys J) 1024).2.1 b h.1 h.2.1
      omega
theorem least_get (ES : List (Int × Int)) (J R : Nat) (out : List Int) : ∀ n u, leastN ES J R out n u < 1024 → ∃ bs, IsW ES J R out n u bs ∧ fals bs = leastN ES J R out n u
  | 0, u, h => ⟨[], rfl, rfl⟩
  | n + 1, u, h => by
    rw [least_succ] at h
    by_cases ho : outB out ((R : Int) - (n + 1)) = true
    · rw [if_pos ho] at h
      obtain ⟨bs, h1, h2⟩ := least_get ES J R out n u h
      refine ⟨-2 :: bs, ?_, ?_⟩
      · simp only [IsW, if_pos ho]; exact ⟨trivial, h1⟩
      · rw [fals_cons, least_succ, if_pos ho, h2]; simp
    · rw [if_neg ho] at h
      obtain ⟨h1, h2, h3⟩ := fold_min (freeB ES u ((R : Int) - (n + 1))) (fun b => leastN ES J R out n (freeU ES u ((R : Int) - (n + 1)) b) + if b = -1 then 1 else 0) (bys J) 1024
      rcases h3 with h3 | ⟨b, hb, hp, h3⟩
      · omega
      · obtain ⟨bs, h4, h5⟩ := least_get ES J R out n (freeU ES u ((R : Int) - (n + 1)) b) (by split at h3 <;> omega)
        refine ⟨b :: bs, ?_, ?_⟩
        · simp only [IsW, if_neg ho]; exact ⟨hb, hp, h4⟩
        · rw [fals_cons, h5, least_succ, if_neg ho, h3]
theorem isW_len (ES : List (Int × Int)) (J R : Nat) (out : List Int) : ∀ n u bs, IsW ES J R out n u bs → bs.length = n
  | 0, u, bs, h => by simp only [IsW] at h; subst h; rfl
  | n + 1, u, [], h => by simp only [IsW] at h
  | n + 1, u, b :: bs, h => by
    simp only [IsW] at h
    split at h
    · simp [isW_len ES J R out n u bs h.2]
    · simp [isW_len ES J R out n _ bs h.2.2]
theorem least_ex (ES : List (Int × Int)) (J R : Nat) (out : List Int) (n : Nat) (u : List Bool) (hn : n < 1024) : leastN ES J R out n u < 1024 ↔ ∃ bs, IsW ES J R out n u bs := by
  constructor
  · intro h; obtain ⟨bs, h1, _⟩ := least_get ES J R out n u h; exact ⟨bs, h1⟩
  · rintro ⟨bs, h⟩
    have h1 := least_le ES J R out n u bs h
    have h2 := fals_le bs
    rw [isW_len _ _ _ _ _ _ _ h] at h2
    omega
theorem poss_iff (ES : List (Int × Int)) (J R : Nat) (rec : Int) (fal : Bool) : ∀ n u, possN ES J R rec fal n u = true ↔ ∃ bs, IsW ES J R [] n u bs ∧ ∀ (i : Nat) (b : Int), bs[i]? = some b → (R : Int) - n + i = rec → (b == -1) = fal
  | 0, u => by simp [possN, IsW]
  | n + 1, u => by
    unfold possN
    rw [List.any_eq_true]
    constructor
    · rintro ⟨b, hb, hp⟩
      simp only [Bool.and_eq_true, Bool.or_eq_true] at hp
      obtain ⟨bs, h1, h2⟩ := (poss_iff ES J R rec fal n _).1 hp.2
      refine ⟨b :: bs, ?_, ?_⟩
      · simp only [IsW, outB, List.any_nil, Bool.false_eq_true, if_false]; exact ⟨hb, hp.1.1, h1⟩
      · intro i c hi he
        cases i with
        | zero =>
          simp at hi; subst hi
          rcases hp.1.2 with h | h
          · simp at h; omega
          · simpa using h
        | succ i => exact h2 i c (by simpa using hi) (by push_cast at he ⊢; omega)
    · rintro ⟨bs, h1, h2⟩
      cases bs with
      | nil => simp only [IsW] at h1
      | cons b bs =>
        simp only [IsW, outB, List.any_nil, Bool.false_eq_true, if_false] at h1
        refine ⟨b, h1.1, ?_⟩
        simp only [Bool.and_eq_true, Bool.or_eq_true]
        refine ⟨⟨h1.2.1, ?_⟩, (poss_iff ES J R rec fal n _).2 ⟨bs, h1.2.2, fun i c hi he => h2 (i + 1) c (by simpa using hi) (by push_cast at he ⊢; omega)⟩⟩
        by_cases e : (R : Int) - (n + 1) = rec
        · exact .inr (by simpa using h2 0 b (by simp) (by push_cast; omega))
        · exact .inl (by simpa using e)
theorem asgK_way (ES : List (Int × Int)) (J R : Nat) (h0 : leastN ES J R [] R u0 < 1024) : ∀ k, k ≤ R → leastN ES J R [] (R - k) (asgK ES J R k).u = (asgK ES J R k).left ∧ (asgK ES J R k).left < 1024 ∧ (asgK ES J R k).out.length = k ∧ fals (asgK ES J R k).out + (asgK ES J R k).left = leastN ES J R [] R u0 ∧ (∀ bs, IsW ES J R [] (R - k) (asgK ES J R k).u bs → IsW ES J R [] R u0 ((asgK ES J R k).out ++ bs))
    ∧ (∀ cs, IsW ES J R [] R u0 cs → fals cs = leastN ES J R [] R u0 → (∃ bs, cs = (asgK ES J R k).out ++ bs ∧ IsW ES J R [] (R - k) (asgK ES J R k).u bs) ∨ ∃ p x y q r, (asgK ES J R k).out = p ++ x :: q ∧ cs = p ++ y :: r ∧ x < y)
  | 0, _ => ⟨rfl, h0, rfl, by simp [asgK, fals], fun bs h => h, fun cs h _ => .inl ⟨cs, rfl, h⟩⟩
  | k + 1, hk => by
    obtain ⟨i1, i2, i3, i4, i5, i6⟩ := asgK_way ES J R h0 k (by omega)
    rw [show asgK ES J R (k + 1) = asgS ES J R k (asgK ES J R k) from rfl]
    generalize hs : asgK ES J R k = s at *
    have en : R - k = (R - (k + 1)) + 1 := by omega
    have er : (R : Int) - ((R - (k + 1) : Nat) + 1) = k := by omega
    rw [en] at i1 i5 i6
    obtain ⟨bs, hb1, hb2⟩ := least_get ES J R [] (R - (k + 1) + 1) s.u (by omega)
    have hcs : ∀ cs, IsW ES J R [] (R - (k + 1) + 1) s.u cs → fals cs = s.left → ∃ b rs, cs = b :: rs ∧ b ∈ bys J ∧ asgF ES J R k s.u s.left b = true ∧ IsW ES J R [] (R - (k + 1)) (freeU ES s.u k b) rs := by
      intro cs h1 h2
      cases cs with
      | nil => simp only [IsW] at h1
      | cons b rs =>
        simp only [IsW, outB, List.any_nil, Bool.false_eq_true, if_false, er] at h1
        refine ⟨b, rs, rfl, h1.1, ?_, h1.2.2⟩
        unfold asgF
        rw [h1.2.1, Bool.true_and, decide_eq_true_eq]
        have h3 := least_le ES J R [] _ _ _ h1.2.2
        rw [fals_cons] at h2
        have h4 := (fold_min (freeB ES s.u k) (fun b => leastN ES J R [] (R - (k + 1)) (freeU ES s.u k b) + if b = -1 then 1 else 0) (bys J) 1024).2.1 b h1.1 h1.2.1
        have h5 : leastN ES J R [] (R - (k + 1) + 1) s.u = (bys J).foldl (fun m b => if freeB ES s.u k b = true then min m (leastN ES J R [] (R - (k + 1)) (freeU ES s.u k b) + if b = -1 then 1 else 0) else m) 1024 := by
          rw [least_succ, if_neg (by simp [outB]), er]
        rw [← h5, i1] at h4
        omega
    obtain ⟨b0, r0, e0, m0, f0, w0⟩ := hcs bs hb1 (by rw [hb2, i1])
    unfold asgS
    cases hf : (bys J).find? (asgF ES J R k s.u s.left) with
    | none => exact absurd (List.find?_eq_none.1 hf b0 m0) (by simp [f0])
    | some b =>
      have hfb := List.find?_some hf
      have hmb := List.mem_of_find?_eq_some hf
      simp only [asgF, Bool.and_eq_true, decide_eq_true_eq] at hfb
      dsimp only
      refine ⟨hfb.2, ?_, by simp [i3], ?_, ?_, ?_⟩
      · split <;> omega
      · rw [fals_append, fals_cons, fals_nil]; omega
      · intro bs h
        rw [List.append_assoc]
        refine i5 (b :: bs) ?_
        simp only [IsW, outB, List.any_nil, Bool.false_eq_true, if_false, er]
        exact ⟨hmb, hfb.1, h⟩
      · intro cs h1 h2
        rcases i6 cs h1 h2 with ⟨ds, rfl, h3⟩ | ⟨p, x, y, q, r, e1, e2, e3⟩
        · rw [fals_append] at h2
          obtain ⟨c, rs, rfl, mc, fc, wc⟩ := hcs ds h3 (by omega)
          by_cases e : c = b
          · subst e
            exact .inl ⟨rs, by simp, wc⟩
          · refine .inr ⟨s.out, b, c, [], rs, rfl, rfl, ?_⟩
            obtain ⟨_, pre, suf, he, hpre⟩ := List.find?_eq_some_iff_append.1 hf
            have hnp : c ∉ pre := fun hc => by have := hpre c hc; simp [fc] at this
            have hsuf : c ∈ suf := by
              rw [he] at mc
              simp only [List.mem_append, List.mem_cons] at mc
              rcases mc with h | h | h
              · exact absurd h hnp
              · exact absurd h e
              · exact h
            have hp : (bys J).Pairwise (· < ·) := by
              unfold bys
              rw [List.pairwise_map]
              exact List.pairwise_lt_range.imp fun {a b} h => by omega
            rw [he] at hp
            exact (List.pairwise_cons.1 (List.pairwise_append.1 hp).2.1).1 c hsuf
        · refine .inr ⟨p, x, y, q ++ [b], r, by rw [e1]; simp, e2, e3⟩
end Go.Proofs.YthgfhgjlilmieaaGreat.G
namespace Go.Proofs.YthgfhgjlilmieaaGreat.B
open Go.RowKit Go.Proofs.YthgfhgjlilmieaaGreatW.PrintWords Go.Proofs.YthgfhgjlilmieaaGreatW.PrintLast Go.Proofs.YthgfhgjlilmieaaGreatW.PrintMore
attribute [local go_sem] max2_int min2_int max_two min_two max_three min_three max_four min_four
set_option linter.unusedVariables false
set_option linter.unusedSimpArgs false
def glisterref06_Has.l0 : Nat → List Int → Int → Int → Option (Bool)
 | 0, _, _, _ => none
 | k + 1, x0, x1, x5 => if x5 < (x0.length : Int) then (if 0 ≤ x5 then (if (rd x0 x5) = x1 then (some true) else (glisterref06_Has.l0 k x0 x1 (wrap64 (x5 + 1)))) else (none)) else (some false)
def glisterref06_Has.f (k : Nat) (l0 : List Int) (a1 : Int) : Option (Bool) := glisterref06_Has.l0 k l0 a1 0
theorem glisterref06_Has.mono_l : ∀ k, (∀ y0 y1 y2, LeO (glisterref06_Has.l0 k y0 y1 y2) (glisterref06_Has.l0 (k + 1) y0 y1 y2))
 | 0 => fun _ _ _ r h => by simp [glisterref06_Has.l0] at h
 | k + 1 => by
  have ih0 := glisterref06_Has.mono_l k
  ·intro y0 y1 y2
   unfold glisterref06_Has.l0
   repeat' first
   | (with_reducible exact ih0 _ _ _)
   | (with_reducible exact LeO.refl _)
   | (with_reducible exact LeO.none _)
   | (with_reducible refine LeO.ite ?_ ?_)
   | (with_reducible refine LeO.bind ?_ (fun _ => ?_))
   | exact ih0 _ _ _
   | exact LeO.none _
   | refine LeO.ite ?_ ?_
   | refine LeO.bind ?_ (fun _ => ?_)
theorem glisterref06_Has.mono : ∀ a0 a1 k, LeO (glisterref06_Has.f k a0 a1) (glisterref06_Has.f (k + 1) a0 a1) := by
 intro a0 a1 k
 have ih0 := glisterref06_Has.mono_l k
 unfold glisterref06_Has.f
 repeat' first
   | (with_reducible exact ih0 _ _ _)
   | (with_reducible exact LeO.refl _)
   | (with_reducible exact LeO.none _)
   | (with_reducible refine LeO.ite ?_ ?_)
   | (with_reducible refine LeO.bind ?_ (fun _ => ?_))
   | exact ih0 _ _ _
   | exact LeO.none _
   | refine LeO.ite ?_ ?_
   | refine LeO.bind ?_ (fun _ => ?_)
set_option maxHeartbeats 8000000 in
set_option maxRecDepth 100000 in
theorem glisterref06_Has.calls (k : Nat) (A0 : Option Addr) (c0 : Nat) (l0 : List Int) (a1 : Int) (r : Bool) (w : World) (hr0 : Kd.C (Kd.int .i64) w A0 l0.length l0) (hc0 : l0.length ≤ c0) (h : glisterref06_Has.f k l0 a1 = some r) :
  Calls Tryz.prog 37 #[.slice A0 l0.length c0, .int .i64 a1] w fun e w' => e = .returned (.bool r) ∧ Drawn0 w w' := by
 have HR0 := Aside0.mk hr0
 have HC0 := Aside0.mk hc0
 clear hr0 hc0
 have H : (glisterref06_Has.l0 k l0 a1 0) = some r := h
 clear h
 have H' := Aside0.mk H
 clear H
 go_enter Tryz.func37, Tryz.ntmps37
 go_wp2
 go_loopg [5] k (fun kq v5 w' => ∃ (x5_1 : Int), v5 = .int .i64 x5_1 ∧ Aside0 (glisterref06_Has.l0 kq l0 a1 x5_1 = some r) ∧ Aside0 (kq ≤ k) ∧ Drawn0 w w')
 case atStart => exact ⟨(0), (by first | rfl | (simp; done) | (simp [*]; done)), H', ⟨Nat.le_refl _⟩, by repeat (first | exact Drawn0.refl _ | apply Drawn0.step)⟩
 case round =>
  clear H'
  try clear p2
  obtain ⟨x5_1, rfl, HA, HK1, ⟨m1, rfl⟩⟩ := hrel
  cases gk with
  | zero => exact absurd HA.out (by simp [glisterref06_Has.l0])
  | succ k1 =>
   have H := HA.out
   clear HA
   simp only [glisterref06_Has.l0] at H
   by_cases c3 : x5_1 < (l0.length : Int)
   ·rw [if_pos c3] at H
    have c3b0 : decide (x5_1 < (l0.length : Int)) = true := decide_eq_true c3
    clear c3
    by_cases c4 : 0 ≤ x5_1
    ·rw [if_pos c4] at H
     have c4b0 : decide (0 ≤ x5_1) = true := decide_eq_true c4
     clear c4
     by_cases c5 : (rd l0 x5_1) = a1
     ·rw [if_pos c5] at H
      have c5b0 : ((rd l0 x5_1) == a1) = true := beq_iff_eq.mpr c5
      have c5b1 : ((rd l0 x5_1) != a1) = false := bne_eq_false_iff_eq.mpr c5
      clear c5
      obtain rfl := Option.some.inj H
      have p431 : 0 ≤ (x5_1 : Int) := of_decide_eq_true (by first | (with_reducible assumption) | assumption)
      have q431 : x5_1 < (l0.length : Int) := of_decide_eq_true (by first | (with_reducible assumption) | assumption)
      obtain ⟨ad431, e431, hx431_0⟩ := Kd.at_int HR0.out x5_1 p431 q431
      cases e431
      replace p431 := eq_true p431
      replace q431 := eq_true q431
      go_wp2
      go_ret
      exact ⟨by first | rfl | (simp; done) | (simp [*]; done), by repeat (first | exact Drawn0.refl _ | apply Drawn0.step)⟩
     ·rw [if_neg c5] at H
      have c5b0 : ((rd l0 x5_1) == a1) = false := beq_eq_false_iff_ne.mpr c5
      have c5b1 : ((rd l0 x5_1) != a1) = true := bne_iff_ne.mpr c5
      have H' := Aside0.mk H
      clear H
      have p431 : 0 ≤ (x5_1 : Int) := of_decide_eq_true (by first | (with_reducible assumption) | assumption)
      have q431 : x5_1 < (l0.length : Int) := of_decide_eq_true (by first | (with_reducible assumption) | assumption)
      obtain ⟨ad431, e431, hx431_0⟩ := Kd.at_int HR0.out x5_1 p431 q431
      cases e431
      replace p431 := eq_true p431
      replace q431 := eq_true q431
      go_wp2
      go_roundg k1
      case measure => have := HK1.out; omega
      case rel => exact ⟨(wrap64 (x5_1 + 1)), (by first | rfl | (simp; done) | (simp [*]; done)), H', ⟨by have := HK1.out; omega⟩, by repeat (first | exact Drawn0.refl _ | apply Drawn0.step)⟩
    ·rw [if_neg c4] at H
     exact absurd H (by simp)
   ·rw [if_neg c3] at H
    have c3b0 : decide (x5_1 < (l0.length : Int)) = false := decide_eq_false c3
    clear c3
    obtain rfl := Option.some.inj H
    go_wp2
    go_ret
    exact ⟨by first | rfl | (simp; done) | (simp [*]; done), by repeat (first | exact Drawn0.refl _ | apply Drawn0.step)⟩
def glisterlaw06_subset.l0 : Nat → List Int → List Int → Int → Option (Bool)
 | 0, _, _, _ => none
 | k + 1, x0, x1, x5 => if x5 < (x0.length : Int) then (if 0 ≤ x5 then ((glisterref06_Has.f k x1 (rd x0 x5)).bind fun t632 => (if t632 = true then (glisterlaw06_subset.l0 k x0 x1 (wrap64 (x5 + 1))) else (some false))) else (none)) else (some true)
def glisterlaw06_subset.f (k : Nat) (l0 : List Int) (l1 : List Int) : Option (Bool) := glisterlaw06_subset.l0 k l0 l1 0
theorem glisterlaw06_subset.mono_l : ∀ k, (∀ y0 y1 y2, LeO (glisterlaw06_subset.l0 k y0 y1 y2) (glisterlaw06_subset.l0 (k + 1) y0 y1 y2))
 | 0 => fun _ _ _ r h => by simp [glisterlaw06_subset.l0] at h
 | k + 1 => by
  have ih0 := glisterlaw06_subset.mono_l k
  ·intro y0 y1 y2
   unfold glisterlaw06_subset.l0
   repeat' first
   | (with_reducible exact ih0 _ _ _)
   | (with_reducible exact glisterref06_Has.mono _ _ _)
   | (with_reducible exact LeO.refl _)
   | (with_reducible exact LeO.none _)
   | (with_reducible refine LeO.ite ?_ ?_)
   | (with_reducible refine LeO.bind ?_ (fun _ => ?_))
   | exact ih0 _ _ _
   | exact glisterref06_Has.mono _ _ _
   | exact LeO.none _
   | refine LeO.ite ?_ ?_
   | refine LeO.bind ?_ (fun _ => ?_)
theorem glisterlaw06_subset.mono : ∀ a0 a1 k, LeO (glisterlaw06_subset.f k a0 a1) (glisterlaw06_subset.f (k + 1) a0 a1) := by
 intro a0 a1 k
 have ih0 := glisterlaw06_subset.mono_l k
 unfold glisterlaw06_subset.f
 repeat' first
   | (with_reducible exact ih0 _ _ _)
   | (with_reducible exact glisterref06_Has.mono _ _ _)
   | (with_reducible exact LeO.refl _)
   | (with_reducible exact LeO.none _)
   | (with_reducible refine LeO.ite ?_ ?_)
   | (with_reducible refine LeO.bind ?_ (fun _ => ?_))
   | exact ih0 _ _ _
   | exact glisterref06_Has.mono _ _ _
   | exact LeO.none _
   | refine LeO.ite ?_ ?_
   | refine LeO.bind ?_ (fun _ => ?_)
set_option maxHeartbeats 8000000 in
set_option maxRecDepth 100000 in
theorem glisterlaw06_subset.calls (k : Nat) (A0 : Option Addr) (c0 : Nat) (l0 : List Int) (A1 : Option Addr) (c1 : Nat) (l1 : List Int) (r : Bool) (w : World) (hr0 : Kd.C (Kd.int .i64) w A0 l0.length l0) (hc0 : l0.length ≤ c0) (hr1 : Kd.C (Kd.int .i64) w A1 l1.length l1) (hc1 : l1.length ≤ c1) (h : glisterlaw06_subset.f k l0 l1 = some r) :
  Calls Tryz.prog 38 #[.slice A0 l0.length c0, .slice A1 l1.length c1] w fun e w' => e = .returned (.bool r) ∧ Drawn0 w w' := by
 have HR0 := Aside0.mk hr0
 have HC0 := Aside0.mk hc0
 clear hr0 hc0
 have HR1 := Aside0.mk hr1
 have HC1 := Aside0.mk hc1
 clear hr1 hc1
 have H : (glisterlaw06_subset.l0 k l0 l1 0) = some r := h
 clear h
 have H' := Aside0.mk H
 clear H
 go_enter Tryz.func38, Tryz.ntmps38
 go_wp2
 go_loopg [5] k (fun kq v5 w' => ∃ (x5_1 : Int), v5 = .int .i64 x5_1 ∧ Aside0 (glisterlaw06_subset.l0 kq l0 l1 x5_1 = some r) ∧ Aside0 (kq ≤ k) ∧ Drawn0 w w')
 case atStart => exact ⟨(0), (by first | rfl | (simp; done) | (simp [*]; done)), H', ⟨Nat.le_refl _⟩, by repeat (first | exact Drawn0.refl _ | apply Drawn0.step)⟩
 case round =>
  clear H'
  try clear c1
  try clear p2
  obtain ⟨x5_1, rfl, HA, HK1, ⟨m1, rfl⟩⟩ := hrel
  cases gk with
  | zero => exact absurd HA.out (by simp [glisterlaw06_subset.l0])
  | succ k1 =>
   have H := HA.out
   clear HA
   simp only [glisterlaw06_subset.l0] at H
   by_cases c3 : x5_1 < (l0.length : Int)
   ·rw [if_pos c3] at H
    have c3b0 : decide (x5_1 < (l0.length : Int)) = true := decide_eq_true c3
    clear c3
    by_cases c4 : 0 ≤ x5_1
    ·rw [if_pos c4] at H
     have c4b0 : decide (0 ≤ x5_1) = true := decide_eq_true c4
     clear c4
     replace H := Option.bind_eq_some_iff.mp H
     obtain ⟨t632, A50, H⟩ := H
     replace H : (if t632 = true then (glisterlaw06_subset.l0 k1 l0 l1 (wrap64 (x5_1 + 1))) else (some false)) = some r := H
     have A5 := Aside0.mk A50
     clear A50
     by_cases c6 : t632 = true
     ·subst c6
      have H1 : (glisterlaw06_subset.l0 k1 l0 l1 (wrap64 (x5_1 + 1))) = some r := by rw [if_pos rfl] at H; exact H
      clear H
      have H := H1
      clear H1
      have H' := Aside0.mk H
      clear H
      have p631 : 0 ≤ (x5_1 : Int) := of_decide_eq_true (by first | (with_reducible assumption) | assumption)
      have q631 : x5_1 < (l0.length : Int) := of_decide_eq_true (by first | (with_reducible assumption) | assumption)
      obtain ⟨ad631, e631, hx631_0⟩ := Kd.at_int HR0.out x5_1 p631 q631
      cases e631
      replace p631 := eq_true p631
      replace q631 := eq_true q631
      go_wp2_with (first | ((with_reducible refine gate_callee (f := 37) rfl ?_); refine goesL_ (some 17) rfl rfl Tryz.func37 (by kernel_rfl) rfl #[.slice A1 l1.length c1, .int .i64 (rd l0 x5_1)] rfl (by (try simp only [List.map_toArray, List.map_cons, List.map_nil]); first | done | rfl | (simp only [List.length_drop, List.length_take]; rfl)) ?_; (with_reducible refine (glisterref06_Has.calls k1 _ _ l1 (rd l0 x5_1) true _ ?side1 ?side2 A5.out).mono ?_); (case side1 => repeat (first | exact HR1.out | (with_reducible refine Kd.C_alloc ?_ _) | (with_reducible refine Kd.C_drewN ?_ _) | (with_reducible refine Kd.C_drew ?_))); (case side2 => exact HC1.out); rintro e w' ⟨rfl, ⟨nd, rfl⟩⟩; refine ⟨_, rfl, ?_⟩))
      go_roundg k1
      case measure => have := HK1.out; omega
      case rel => exact ⟨(wrap64 (x5_1 + 1)), (by first | rfl | (simp; done) | (simp [*]; done)), H', ⟨by have := HK1.out; omega⟩, by repeat (first | exact Drawn0.refl _ | apply Drawn0.step)⟩
     ·replace c6 := Bool.eq_false_iff.mpr c6
      subst c6
      have H1 : (some false) = some r := by rw [if_neg (show ¬ (false = true) by decide)] at H; exact H
      clear H
      have H := H1
      clear H1
      obtain rfl := Option.some.inj H
      have p631 : 0 ≤ (x5_1 : Int) := of_decide_eq_true (by first | (with_reducible assumption) | assumption)
      have q631 : x5_1 < (l0.length : Int) := of_decide_eq_true (by first | (with_reducible assumption) | assumption)
      obtain ⟨ad631, e631, hx631_0⟩ := Kd.at_int HR0.out x5_1 p631 q631
      cases e631
      replace p631 := eq_true p631
      replace q631 := eq_true q631
      go_wp2_with (first | ((with_reducible refine gate_callee (f := 37) rfl ?_); refine goesL_ (some 17) rfl rfl Tryz.func37 (by kernel_rfl) rfl #[.slice A1 l1.length c1, .int .i64 (rd l0 x5_1)] rfl (by (try simp only [List.map_toArray, List.map_cons, List.map_nil]); first | done | rfl | (simp only [List.length_drop, List.length_take]; rfl)) ?_; (with_reducible refine (glisterref06_Has.calls k1 _ _ l1 (rd l0 x5_1) false _ ?side1 ?side2 A5.out).mono ?_); (case side1 => repeat (first | exact HR1.out | (with_reducible refine Kd.C_alloc ?_ _) | (with_reducible refine Kd.C_drewN ?_ _) | (with_reducible refine Kd.C_drew ?_))); (case side2 => exact HC1.out); rintro e w' ⟨rfl, ⟨nd, rfl⟩⟩; refine ⟨_, rfl, ?_⟩))
      go_ret
      exact ⟨by first | rfl | (simp; done) | (simp [*]; done), by repeat (first | exact Drawn0.refl _ | apply Drawn0.step)⟩
    ·rw [if_neg c4] at H
     exact absurd H (by simp)
   ·rw [if_neg c3] at H
    have c3b0 : decide (x5_1 < (l0.length : Int)) = false := decide_eq_false c3
    clear c3
    obtain rfl := Option.some.inj H
    go_wp2
    go_ret
    exact ⟨by first | rfl | (simp; done) | (simp [*]; done), by repeat (first | exact Drawn0.refl _ | apply Drawn0.step)⟩
mutual
def glisterlaw06_inside.l0 : Nat → List (List Int) → List (List Int) → Int → Option (Bool)
 | 0, _, _, _ => none
 | k + 1, x0, x1, x5 => if x5 < (x0.length : Int) then (glisterlaw06_inside.l1 k x0 x1 x5 false 0) else (some true)
def glisterlaw06_inside.l1 : Nat → List (List Int) → List (List Int) → Int → Bool → Int → Option (Bool)
 | 0, _, _, _, _, _ => none
 | k + 1, x0, x1, x5, x6, x7 => if x7 < (x1.length : Int) then (if x6 = true then (glisterlaw06_inside.l1 k x0 x1 x5 true (wrap64 (x7 + 1))) else (if 0 ≤ x5 then (if x5 < (x0.length : Int) then (if 0 ≤ x7 then ((glisterref02_Same.f k (rd_L2 x0 x5) (rd_L2 x1 x7)).bind fun t744 => (glisterlaw06_inside.l1 k x0 x1 x5 t744 (wrap64 (x7 + 1)))) else (none)) else (none)) else (none))) else (if x6 = true then (glisterlaw06_inside.l0 k x0 x1 (wrap64 (x5 + 1))) else (some false))
end
def glisterlaw06_inside.f (k : Nat) (l0 : List (List Int)) (l1 : List (List Int)) : Option (Bool) := glisterlaw06_inside.l0 k l0 l1 0
theorem glisterlaw06_inside.mono_l : ∀ k, (∀ y0 y1 y2, LeO (glisterlaw06_inside.l0 k y0 y1 y2) (glisterlaw06_inside.l0 (k + 1) y0 y1 y2)) ∧ (∀ y0 y1 y2 y3 y4, LeO (glisterlaw06_inside.l1 k y0 y1 y2 y3 y4) (glisterlaw06_inside.l1 (k + 1) y0 y1 y2 y3 y4))
 | 0 => ⟨fun _ _ _ r h => by simp [glisterlaw06_inside.l0] at h, fun _ _ _ _ _ r h => by simp [glisterlaw06_inside.l1] at h⟩
 | k + 1 => by
  obtain ⟨ih0, ih1⟩ := glisterlaw06_inside.mono_l k
  refine ⟨?_, ?_⟩
  ·intro y0 y1 y2
   unfold glisterlaw06_inside.l0
   repeat' first
   | (with_reducible exact ih0 _ _ _)
   | (with_reducible exact ih1 _ _ _ _ _)
   | (with_reducible exact glisterref02_Same.mono _ _ _)
   | (with_reducible exact LeO.refl _)
   | (with_reducible exact LeO.none _)
   | (with_reducible refine LeO.ite ?_ ?_)
   | (with_reducible refine LeO.bind ?_ (fun _ => ?_))
   | exact ih0 _ _ _
   | exact ih1 _ _ _ _ _
   | exact glisterref02_Same.mono _ _ _
   | exact LeO.none _
   | refine LeO.ite ?_ ?_
   | refine LeO.bind ?_ (fun _ => ?_)
  ·intro y0 y1 y2 y3 y4
   unfold glisterlaw06_inside.l1
   repeat' first
   | (with_reducible exact ih0 _ _ _)
   | (with_reducible exact ih1 _ _ _ _ _)
   | (with_reducible exact glisterref02_Same.mono _ _ _)
   | (with_reducible exact LeO.refl _)
   | (with_reducible exact LeO.none _)
   | (with_reducible refine LeO.ite ?_ ?_)
   | (with_reducible refine LeO.bind ?_ (fun _ => ?_))
   | exact ih0 _ _ _
   | exact ih1 _ _ _ _ _
   | exact glisterref02_Same.mono _ _ _
   | exact LeO.none _
   | refine LeO.ite ?_ ?_
   | refine LeO.bind ?_ (fun _ => ?_)
theorem glisterlaw06_inside.mono : ∀ a0 a1 k, LeO (glisterlaw06_inside.f k a0 a1) (glisterlaw06_inside.f (k + 1) a0 a1) := by
 intro a0 a1 k
 obtain ⟨ih0, ih1⟩ := glisterlaw06_inside.mono_l k
 unfold glisterlaw06_inside.f
 repeat' first
   | (with_reducible exact ih0 _ _ _)
   | (with_reducible exact ih1 _ _ _ _ _)
   | (with_reducible exact glisterref02_Same.mono _ _ _)
   | (with_reducible exact LeO.refl _)
   | (with_reducible exact LeO.none _)
   | (with_reducible refine LeO.ite ?_ ?_)
   | (with_reducible refine LeO.bind ?_ (fun _ => ?_))
   | exact ih0 _ _ _
   | exact ih1 _ _ _ _ _
   | exact glisterref02_Same.mono _ _ _
   | exact LeO.none _
   | refine LeO.ite ?_ ?_
   | refine LeO.bind ?_ (fun _ => ?_)
set_option maxHeartbeats 8000000 in
set_option maxRecDepth 100000 in
theorem glisterlaw06_inside.calls (k : Nat) (A0 : Option Addr) (c0 : Nat) (l0 : List (List Int)) (A1 : Option Addr) (c1 : Nat) (l1 : List (List Int)) (r : Bool) (w : World) (hr0 : Kd.C (Kd.slice 3 (Kd.int .i64)) w A0 l0.length l0) (hc0 : l0.length ≤ c0) (hr1 : Kd.C (Kd.slice 3 (Kd.int .i64)) w A1 l1.length l1) (hc1 : l1.length ≤ c1) (h : glisterlaw06_inside.f k l0 l1 = some r) :
  Calls Tryz.prog 40 #[.slice A0 l0.length c0, .slice A1 l1.length c1] w fun e w' => e = .returned (.bool r) ∧ Drawn0 w w' := by
 have HR0 := Aside0.mk hr0
 have HC0 := Aside0.mk hc0
 clear hr0 hc0
 have HR1 := Aside0.mk hr1
 have HC1 := Aside0.mk hc1
 clear hr1 hc1
 have H : (glisterlaw06_inside.l0 k l0 l1 0) = some r := h
 clear h
 have H' := Aside0.mk H
 clear H
 go_enter Tryz.func40, Tryz.ntmps40
 go_wp2
 repeat (go_quiet (fail); try go_wp2)
 go_loopg [5] k (fun kq v5 w' => ∃ (x5_1 : Int), v5 = .int .i64 x5_1 ∧ Aside0 (glisterlaw06_inside.l0 kq l0 l1 x5_1 = some r) ∧ Aside0 (kq ≤ k) ∧ Drawn0 w w')
 case atStart => exact ⟨(0), (by first | rfl | (simp; done) | (simp [*]; done)), H', ⟨Nat.le_refl _⟩, by repeat (first | exact Drawn0.refl _ | apply Drawn0.step)⟩
 case round =>
  clear H'
  try clear c1
  try clear p2
  obtain ⟨x5_1, rfl, HA, HK1, ⟨m1, rfl⟩⟩ := hrel
  cases gk with
  | zero => exact absurd HA.out (by simp [glisterlaw06_inside.l0])
  | succ k1 =>
   have H := HA.out
   clear HA
   simp only [glisterlaw06_inside.l0] at H
   by_cases c3 : x5_1 < (l0.length : Int)
   ·rw [if_pos c3] at H
    have c3b0 : decide (x5_1 < (l0.length : Int)) = true := decide_eq_true c3
    clear c3
    have H' := Aside0.mk H
    clear H
    go_wp2
    repeat (go_quiet (fail); try go_wp2)
    go_loopg [6, 7] k1 (fun kq v6 v7 w' => ∃ (x6_2 : Bool) (x7_2 : Int), v6 = .bool x6_2 ∧ v7 = .int .i64 x7_2 ∧ Aside0 (glisterlaw06_inside.l1 kq l0 l1 x5_1 x6_2 x7_2 = some r) ∧ Aside0 (kq ≤ k1) ∧ Drawn0 w w')
    case atStart => exact ⟨(false), (0), (by first | rfl | (simp; done) | (simp [*]; done)), (by first | rfl | (simp; done) | (simp [*]; done)), H', ⟨Nat.le_refl _⟩, by repeat (first | exact Drawn0.refl _ | apply Drawn0.step)⟩
    case round =>
     clear H'
     try clear c1
     try clear p2
     try clear c3
     try clear c3b0
     try clear p2
     obtain ⟨x6_2, x7_2, rfl, rfl, HA, HK2, ⟨m2, rfl⟩⟩ := hrel
     cases gk with
     | zero => exact absurd HA.out (by simp [glisterlaw06_inside.l1])
     | succ k2 =>
      have H := HA.out
      clear HA
      simp only [glisterlaw06_inside.l1] at H
      by_cases c4 : x7_2 < (l1.length : Int)
      ·rw [if_pos c4] at H
       have c4b0 : decide (x7_2 < (l1.length : Int)) = true := decide_eq_true c4
       clear c4
       by_cases c5 : x6_2 = true
       ·subst c5
        have H1 : (glisterlaw06_inside.l1 k2 l0 l1 x5_1 true (wrap64 (x7_2 + 1))) = some r := by rw [if_pos rfl] at H; exact H
        clear H
        have H := H1
        clear H1
        have H' := Aside0.mk H
        clear H
        go_wp2
        repeat (go_quiet (fail); try go_wp2)
        go_roundg k2
        case measure => have := HK1.out; have := HK2.out; omega
        case rel => exact ⟨(true), (wrap64 (x7_2 + 1)), (by first | rfl | (simp; done) | (simp [*]; done)), (by first | rfl | (simp; done) | (simp [*]; done)), H', ⟨by have := HK1.out; have := HK2.out; omega⟩, by repeat (first | exact Drawn0.refl _ | apply Drawn0.step)⟩
       ·replace c5 := Bool.eq_false_iff.mpr c5
        subst c5
        have H1 : (if 0 ≤ x5_1 then (if x5_1 < (l0.length : Int) then (if 0 ≤ x7_2 then ((glisterref02_Same.f k2 (rd_L2 l0 x5_1) (rd_L2 l1 x7_2)).bind fun t744 => (glisterlaw06_inside.l1 k2 l0 l1 x5_1 t744 (wrap64 (x7_2 + 1)))) else (none)) else (none)) else (none)) = some r := by rw [if_neg (show ¬ (false = true) by decide)] at H; exact H
        clear H
        have H := H1
        clear H1
        by_cases c6 : 0 ≤ x5_1
        ·rw [if_pos c6] at H
         have c6b0 : decide (0 ≤ x5_1) = true := decide_eq_true c6
         clear c6
         by_cases c7 : x5_1 < (l0.length : Int)
         ·rw [if_pos c7] at H
          have c7b0 : decide (x5_1 < (l0.length : Int)) = true := decide_eq_true c7
          clear c7
          by_cases c8 : 0 ≤ x7_2
          ·rw [if_pos c8] at H
           have c8b0 : decide (0 ≤ x7_2) = true := decide_eq_true c8
           clear c8
           replace H := Option.bind_eq_some_iff.mp H
           obtain ⟨t744, A90, H⟩ := H
           replace H : (glisterlaw06_inside.l1 k2 l0 l1 x5_1 t744 (wrap64 (x7_2 + 1))) = some r := H
           have A9 := Aside0.mk A90
           clear A90
           have H' := Aside0.mk H
           clear H
           have p742 : 0 ≤ (x5_1 : Int) := of_decide_eq_true (by first | (with_reducible assumption) | assumption)
           have q742 : x5_1 < (l0.length : Int) := of_decide_eq_true (by first | (with_reducible assumption) | assumption)
           obtain ⟨ad742, A742_0, c742_0, e742, hx742_0, hl742_0, hi742_0⟩ := at_L2 HR0.out x5_1 p742 q742
           cases e742
           have HR742_0 := Aside0.mk hi742_0
           have HC742_0 := Aside0.mk hl742_0
           clear hi742_0 hl742_0
           replace p742 := eq_true p742
           replace q742 := eq_true q742
           have p743 : 0 ≤ (x7_2 : Int) := of_decide_eq_true (by first | (with_reducible assumption) | assumption)
           have q743 : x7_2 < (l1.length : Int) := of_decide_eq_true (by first | (with_reducible assumption) | assumption)
           obtain ⟨ad743, A743_0, c743_0, e743, hx743_0, hl743_0, hi743_0⟩ := at_L2 HR1.out x7_2 p743 q743
           cases e743
           have HR743_0 := Aside0.mk hi743_0
           have HC743_0 := Aside0.mk hl743_0
           clear hi743_0 hl743_0
           replace p743 := eq_true p743
           replace q743 := eq_true q743
           go_wp2_with (first | (go_at_call 24; (with_reducible refine (glisterref02_Same.calls k2 _ _ (rd_L2 l0 x5_1) _ _ (rd_L2 l1 x7_2) t744 _ ?side1 ?side2 ?side3 ?side4 A9.out).mono ?_); (case side1 => repeat (first | exact HR742_0.out | (with_reducible refine Kd.C_alloc ?_ _) | (with_reducible refine Kd.C_drewN ?_ _) | (with_reducible refine Kd.C_drew ?_))); (case side2 => exact HC742_0.out); (case side3 => repeat (first | exact HR743_0.out | (with_reducible refine Kd.C_alloc ?_ _) | (with_reducible refine Kd.C_drewN ?_ _) | (with_reducible refine Kd.C_drew ?_))); (case side4 => exact HC743_0.out); rintro e w' ⟨rfl, ⟨nd, rfl⟩⟩; (try first | exact ⟨rfl, _, World.drewN_drewN _ _ _⟩ | exact ⟨rfl, _, Eq.trans (World.drewN_drewN _ _ _) (congrArg (World.drewN _) (Nat.add_assoc _ _ _))⟩)))
           repeat (go_quiet (first | (go_at_call 24; (with_reducible refine (glisterref02_Same.calls k2 _ _ (rd_L2 l0 x5_1) _ _ (rd_L2 l1 x7_2) t744 _ ?side1 ?side2 ?side3 ?side4 A9.out).mono ?_); (case side1 => repeat (first | exact HR742_0.out | (with_reducible refine Kd.C_alloc ?_ _) | (with_reducible refine Kd.C_drewN ?_ _) | (with_reducible refine Kd.C_drew ?_))); (case side2 => exact HC742_0.out); (case side3 => repeat (first | exact HR743_0.out | (with_reducible refine Kd.C_alloc ?_ _) | (with_reducible refine Kd.C_drewN ?_ _) | (with_reducible refine Kd.C_drew ?_))); (case side4 => exact HC743_0.out); rintro e w' ⟨rfl, ⟨nd, rfl⟩⟩; (try first | exact ⟨rfl, _, World.drewN_drewN _ _ _⟩ | exact ⟨rfl, _, Eq.trans (World.drewN_drewN _ _ _) (congrArg (World.drewN _) (Nat.add_assoc _ _ _))⟩))); try go_wp2_with (first | (go_at_call 24; (with_reducible refine (glisterref02_Same.calls k2 _ _ (rd_L2 l0 x5_1) _ _ (rd_L2 l1 x7_2) t744 _ ?side1 ?side2 ?side3 ?side4 A9.out).mono ?_); (case side1 => repeat (first | exact HR742_0.out | (with_reducible refine Kd.C_alloc ?_ _) | (with_reducible refine Kd.C_drewN ?_ _) | (with_reducible refine Kd.C_drew ?_))); (case side2 => exact HC742_0.out); (case side3 => repeat (first | exact HR743_0.out | (with_reducible refine Kd.C_alloc ?_ _) | (with_reducible refine Kd.C_drewN ?_ _) | (with_reducible refine Kd.C_drew ?_))); (case side4 => exact HC743_0.out); rintro e w' ⟨rfl, ⟨nd, rfl⟩⟩; (try first | exact ⟨rfl, _, World.drewN_drewN _ _ _⟩ | exact ⟨rfl, _, Eq.trans (World.drewN_drewN _ _ _) (congrArg (World.drewN _) (Nat.add_assoc _ _ _))⟩))))
           go_roundg k2
           case measure => have := HK1.out; have := HK2.out; omega
           case rel => exact ⟨(t744), (wrap64 (x7_2 + 1)), (by first | rfl | (simp; done) | (simp [*]; done)), (by first | rfl | (simp; done) | (simp [*]; done)), H', ⟨by have := HK1.out; have := HK2.out; omega⟩, by repeat (first | exact Drawn0.refl _ | apply Drawn0.step)⟩
          ·rw [if_neg c8] at H
           exact absurd H (by simp)
         ·rw [if_neg c7] at H
          exact absurd H (by simp)
        ·rw [if_neg c6] at H
         exact absurd H (by simp)
      ·rw [if_neg c4] at H
       have c4b0 : decide (x7_2 < (l1.length : Int)) = false := decide_eq_false c4
       clear c4
       by_cases c10 : x6_2 = true
       ·subst c10
        have H1 : (glisterlaw06_inside.l0 k2 l0 l1 (wrap64 (x5_1 + 1))) = some r := by rw [if_pos rfl] at H; exact H
        clear H
        have H := H1
        clear H1
        have H' := Aside0.mk H
        clear H
        go_wp2
        repeat (go_quiet (fail); try go_wp2)
        go_roundg k2
        case measure => have := HK1.out; have := HK2.out; omega
        case rel => exact ⟨(wrap64 (x5_1 + 1)), (by first | rfl | (simp; done) | (simp [*]; done)), H', ⟨by have := HK1.out; have := HK2.out; omega⟩, by repeat (first | exact Drawn0.refl _ | apply Drawn0.step)⟩
       ·replace c10 := Bool.eq_false_iff.mpr c10
        subst c10
        have H1 : (some false) = some r := by rw [if_neg (show ¬ (false = true) by decide)] at H; exact H
        clear H
        have H := H1
        clear H1
        obtain rfl := Option.some.inj H
        go_wp2
        repeat (go_quiet (fail); try go_wp2)
        go_ret
        exact ⟨by first | rfl | (simp; done) | (simp [*]; done), by repeat (first | exact Drawn0.refl _ | apply Drawn0.step)⟩
   ·rw [if_neg c3] at H
    have c3b0 : decide (x5_1 < (l0.length : Int)) = false := decide_eq_false c3
    clear c3
    obtain rfl := Option.some.inj H
    go_wp2
    repeat (go_quiet (fail); try go_wp2)
    go_ret
    exact ⟨by first | rfl | (simp; done) | (simp [*]; done), by repeat (first | exact Drawn0.refl _ | apply Drawn0.step)⟩
mutual
def glisterref06_IsPart.l0 : Nat → List Int → List Int → Int → Option (Bool)
 | 0, _, _, _ => none
 | k + 1, x0, x1, x5 => if (wrap64 (x5 + (x0.length : Int))) ≤ (x1.length : Int) then (glisterref06_IsPart.j1 k x0 x1 x5 (decide ((x0.length : Int) > 0))) else (glisterref06_IsPart.j1 k x0 x1 x5 false)
def glisterref06_IsPart.j1 : Nat → List Int → List Int → Int → Bool → Option (Bool)
 | 0, _, _, _, _ => none
 | k + 1, x0, x1, x5, x17 => if x17 = true then (if 0 ≤ x5 then (if x5 ≤ (wrap64 (x5 + (x0.length : Int))) then (if (wrap64 (x5 + (x0.length : Int))) ≤ (x1.length : Int) then ((glisterref02_Same.f k x0 ((x1.take ((wrap64 (x5 + (x0.length : Int))) : Int).toNat).drop (x5 : Int).toNat)).bind fun t316 => (if t316 = true then (some true) else (glisterref06_IsPart.l0 k x0 x1 (wrap64 (x5 + 1))))) else (none)) else (none)) else (none)) else (some false)
end
def glisterref06_IsPart.f (k : Nat) (l0 : List Int) (l1 : List Int) : Option (Bool) := glisterref06_IsPart.l0 k l0 l1 0
theorem glisterref06_IsPart.mono_l : ∀ k, (∀ y0 y1 y2, LeO (glisterref06_IsPart.l0 k y0 y1 y2) (glisterref06_IsPart.l0 (k + 1) y0 y1 y2)) ∧ (∀ y0 y1 y2 y3, LeO (glisterref06_IsPart.j1 k y0 y1 y2 y3) (glisterref06_IsPart.j1 (k + 1) y0 y1 y2 y3))
 | 0 => ⟨fun _ _ _ r h => by simp [glisterref06_IsPart.l0] at h, fun _ _ _ _ r h => by simp [glisterref06_IsPart.j1] at h⟩
 | k + 1 => by
  obtain ⟨ih0, ih1⟩ := glisterref06_IsPart.mono_l k
  refine ⟨?_, ?_⟩
  ·intro y0 y1 y2
   unfold glisterref06_IsPart.l0
   repeat' first
   | (with_reducible exact ih0 _ _ _)
   | (with_reducible exact ih1 _ _ _ _)
   | (with_reducible exact glisterref02_Same.mono _ _ _)
   | (with_reducible exact LeO.refl _)
   | (with_reducible exact LeO.none _)
   | (with_reducible refine LeO.ite ?_ ?_)
   | (with_reducible refine LeO.bind ?_ (fun _ => ?_))
   | exact ih0 _ _ _
   | exact ih1 _ _ _ _
   | exact glisterref02_Same.mono _ _ _
   | exact LeO.none _
   | refine LeO.ite ?_ ?_
   | refine LeO.bind ?_ (fun _ => ?_)
  ·intro y0 y1 y2 y3
   unfold glisterref06_IsPart.j1
   repeat' first
   | (with_reducible exact ih0 _ _ _)
   | (with_reducible exact ih1 _ _ _ _)
   | (with_reducible exact glisterref02_Same.mono _ _ _)
   | (with_reducible exact LeO.refl _)
   | (with_reducible exact LeO.none _)
   | (with_reducible refine LeO.ite ?_ ?_)
   | (with_reducible refine LeO.bind ?_ (fun _ => ?_))
   | exact ih0 _ _ _
   | exact ih1 _ _ _ _
   | exact glisterref02_Same.mono _ _ _
   | exact LeO.none _
   | refine LeO.ite ?_ ?_
   | refine LeO.bind ?_ (fun _ => ?_)
theorem glisterref06_IsPart.mono : ∀ a0 a1 k, LeO (glisterref06_IsPart.f k a0 a1) (glisterref06_IsPart.f (k + 1) a0 a1) := by
 intro a0 a1 k
 obtain ⟨ih0, ih1⟩ := glisterref06_IsPart.mono_l k
 unfold glisterref06_IsPart.f
 repeat' first
   | (with_reducible exact ih0 _ _ _)
   | (with_reducible exact ih1 _ _ _ _)
   | (with_reducible exact glisterref02_Same.mono _ _ _)
   | (with_reducible exact LeO.refl _)
   | (with_reducible exact LeO.none _)
   | (with_reducible refine LeO.ite ?_ ?_)
   | (with_reducible refine LeO.bind ?_ (fun _ => ?_))
   | exact ih0 _ _ _
   | exact ih1 _ _ _ _
   | exact glisterref02_Same.mono _ _ _
   | exact LeO.none _
   | refine LeO.ite ?_ ?_
   | refine LeO.bind ?_ (fun _ => ?_)
set_option maxHeartbeats 8000000 in
set_option maxRecDepth 100000 in
theorem glisterref06_IsPart.calls (k : Nat) (A0 : Option Addr) (c0 : Nat) (l0 : List Int) (A1 : Option Addr) (c1 : Nat) (l1 : List Int) (r : Bool) (w : World) (hr0 : Kd.C (Kd.int .i64) w A0 l0.length l0) (hc0 : l0.length ≤ c0) (hr1 : Kd.C (Kd.int .i64) w A1 l1.length l1) (hc1 : l1.length ≤ c1) (h : glisterref06_IsPart.f k l0 l1 = some r) :
  Calls Tryz.prog 44 #[.slice A0 l0.length c0, .slice A1 l1.length c1] w fun e w' => e = .returned (.bool r) ∧ Drawn0 w w' := by
 have HR0 := Aside0.mk hr0
 have HC0 := Aside0.mk hc0
 clear hr0 hc0
 have HR1 := Aside0.mk hr1
 have HC1 := Aside0.mk hc1
 clear hr1 hc1
 have H : (glisterref06_IsPart.l0 k l0 l1 0) = some r := h
 clear h
 have H' := Aside0.mk H
 clear H
 go_enter Tryz.func44, Tryz.ntmps44
 go_wp2
 go_loopg [5] k (fun kq v5 w' => ∃ (x5_1 : Int), v5 = .int .i64 x5_1 ∧ Aside0 (glisterref06_IsPart.l0 kq l0 l1 x5_1 = some r) ∧ Aside0 (kq ≤ k) ∧ Drawn0 w w')
 case atStart => exact ⟨(0), (by first | rfl | (simp; done) | (simp [*]; done)), H', ⟨Nat.le_refl _⟩, by repeat (first | exact Drawn0.refl _ | apply Drawn0.step)⟩
 case round =>
  clear H'
  try clear c1
  try clear p2
  obtain ⟨x5_1, rfl, HA, HK1, ⟨m1, rfl⟩⟩ := hrel
  cases gk with
  | zero => exact absurd HA.out (by simp [glisterref06_IsPart.l0])
  | succ k1 =>
   have H := HA.out
   clear HA
   simp only [glisterref06_IsPart.l0] at H
   have HC3 := Aside0.mk H
   clear H
   go_upto_region 2 with (fail)
   go_cut [17] (fun v17 wc => ∃ (kq : Nat) (x17_2 : Bool), v17 = .bool x17_2 ∧ Aside0 (glisterref06_IsPart.j1 kq l0 l1 x5_1 x17_2 = some r) ∧ Aside0 (kq ≤ k1) ∧ Drawn0 w wc)
   case first =>
    have H := HC3.out
    clear HC3
    by_cases c4 : (wrap64 (x5_1 + (l0.length : Int))) ≤ (l1.length : Int)
    ·rw [if_pos c4] at H
     have c4b0 : decide ((wrap64 (x5_1 + (l0.length : Int))) ≤ (l1.length : Int)) = true := decide_eq_true c4
     clear c4
     (first | rw [c4b0] | (simp only [i64_w, i32_w]; rw [c4b0]) | skip)
     have H' := Aside0.mk H
     clear H
     go_wp2
     go_meet
     case rel => exact ⟨_, (decide ((l0.length : Int) > 0)), (by first | rfl | (simp; done) | (simp [*]; done)), H', ⟨by have := HK1.out; first | omega | exact Nat.le_refl _⟩, by repeat (first | exact Drawn0.refl _ | apply Drawn0.step)⟩
    ·rw [if_neg c4] at H
     have c4b0 : decide ((wrap64 (x5_1 + (l0.length : Int))) ≤ (l1.length : Int)) = false := decide_eq_false c4
     clear c4
     (first | rw [c4b0] | (simp only [i64_w, i32_w]; rw [c4b0]) | skip)
     have H' := Aside0.mk H
     clear H
     go_wp2
     go_meet
     case rel => exact ⟨_, (false), (by first | rfl | (simp; done) | (simp [*]; done)), H', ⟨by have := HK1.out; first | omega | exact Nat.le_refl _⟩, by repeat (first | exact Drawn0.refl _ | apply Drawn0.step)⟩
   case rest =>
    clear HC3
    try clear c1
    try clear p2
    try clear c4
    try clear c4b0
    try clear p2
    obtain ⟨kq, x17_2, rfl, HA, HJ2, ⟨mc2, rfl⟩⟩ := hcut
    cases kq with
    | zero => exact absurd HA.out (by simp [glisterref06_IsPart.j1])
    | succ kj2 =>
     have H := HA.out
     clear HA
     simp only [glisterref06_IsPart.j1] at H
     by_cases c5 : x17_2 = true
     ·subst c5
      have H1 : (if 0 ≤ x5_1 then (if x5_1 ≤ (wrap64 (x5_1 + (l0.length : Int))) then (if (wrap64 (x5_1 + (l0.length : Int))) ≤ (l1.length : Int) then ((glisterref02_Same.f kj2 l0 ((l1.take ((wrap64 (x5_1 + (l0.length : Int))) : Int).toNat).drop (x5_1 : Int).toNat)).bind fun t316 => (if t316 = true then (some true) else (glisterref06_IsPart.l0 kj2 l0 l1 (wrap64 (x5_1 + 1))))) else (none)) else (none)) else (none)) = some r := by rw [if_pos rfl] at H; exact H
      clear H
      have H := H1
      clear H1
      by_cases c6 : 0 ≤ x5_1
      ·rw [if_pos c6] at H
       have c6b0 := eq_true c6
       have c6b1 : decide (0 ≤ x5_1) = true := decide_eq_true c6
       clear c6
       by_cases c7 : x5_1 ≤ (wrap64 (x5_1 + (l0.length : Int)))
       ·rw [if_pos c7] at H
        have c7b0 := eq_true c7
        have c7b1 : decide (x5_1 ≤ (wrap64 (x5_1 + (l0.length : Int)))) = true := decide_eq_true c7
        by_cases c8 : (wrap64 (x5_1 + (l0.length : Int))) ≤ (l1.length : Int)
        ·rw [if_pos c8] at H
         have c8b0 := eq_true c8
         have c8b1 : decide ((wrap64 (x5_1 + (l0.length : Int))) ≤ (l1.length : Int)) = true := decide_eq_true c8
         replace H := Option.bind_eq_some_iff.mp H
         obtain ⟨t316, A90, H⟩ := H
         replace H : (if t316 = true then (some true) else (glisterref06_IsPart.l0 kj2 l0 l1 (wrap64 (x5_1 + 1)))) = some r := H
         have A9 := Aside0.mk A90
         clear A90
         by_cases c10 : t316 = true
         ·subst c10
          have H1 : (some true) = some r := by rw [if_pos rfl] at H; exact H
          clear H
          have H := H1
          clear H1
          obtain rfl := Option.some.inj H
          obtain ⟨i011, hi011, _, hsz11, _⟩ := info_parts info3
          obtain ⟨A11, hcut11, hA11, hC11⟩ := print_mid_of (P := Tryz.prog) (Value.int .i64) 0 25 3 .i64 .i64 Tryz.underlying25 hi011 hsz11 A1 c1 l1 x5_1 (wrap64 (x5_1 + (l0.length : Int))) (of_decide_eq_true (by first | (with_reducible assumption) | assumption)) (by first | omega | exact of_decide_eq_true (by first | (with_reducible assumption) | assumption)) (of_decide_eq_true (by first | (with_reducible assumption) | assumption)) HC1.out
          have HR315 := Aside0.mk (Kd.C_of_reads (h1 := fun _ => rfl) (hA11 _ (Kd.reads_of_C HR1.out)))
          have HC315 := Aside0.mk hC11
          clear hA11 hC11 hi011 hsz11
          go_wp2_with (first | ((with_reducible refine gate_callee (f := 24) rfl ?_); refine goesL_ (some 28) rfl rfl Tryz.func24 (by kernel_rfl) rfl #[.slice A0 l0.length c0, .slice A11 ((l1.take ((wrap64 (x5_1 + (l0.length : Int))) : Int).toNat).drop (x5_1 : Int).toNat).length (c1 - x5_1.toNat)] rfl (by (try simp only [List.map_toArray, List.map_cons, List.map_nil]); first | done | (rw [show ((l1.take ((wrap64 (x5_1 + (l0.length : Int))) : Int).toNat).drop (x5_1 : Int).toNat).length = ((wrap64 (x5_1 + (l0.length : Int))).toNat - x5_1.toNat) from (by rw [List.length_drop, List.length_take]; have h_ : ((wrap64 (x5_1 + (l0.length : Int))) : Int) ≤ (l1.length : Int) := of_decide_eq_true (by first | (with_reducible assumption) | assumption); omega)] <;> rfl) | rfl | (simp only [List.length_drop, List.length_take]; rfl)) ?_; (with_reducible refine (glisterref02_Same.calls kj2 _ _ l0 _ _ ((l1.take ((wrap64 (x5_1 + (l0.length : Int))) : Int).toNat).drop (x5_1 : Int).toNat) true _ ?side1 ?side2 ?side3 ?side4 A9.out).mono ?_); (case side1 => repeat (first | exact HR0.out | (with_reducible refine Kd.C_alloc ?_ _) | (with_reducible refine Kd.C_drewN ?_ _) | (with_reducible refine Kd.C_drew ?_))); (case side2 => exact HC0.out); (case side3 => repeat (first | exact HR315.out | (with_reducible refine Kd.C_alloc ?_ _) | (with_reducible refine Kd.C_drewN ?_ _) | (with_reducible refine Kd.C_drew ?_))); (case side4 => exact HC315.out); rintro e w' ⟨rfl, ⟨nd, rfl⟩⟩; refine ⟨_, rfl, ?_⟩))
          go_ret
          exact ⟨by first | rfl | (simp; done) | (simp [*]; done), by repeat (first | exact Drawn0.refl _ | apply Drawn0.step)⟩
         ·replace c10 := Bool.eq_false_iff.mpr c10
          subst c10
          have H1 : (glisterref06_IsPart.l0 kj2 l0 l1 (wrap64 (x5_1 + 1))) = some r := by rw [if_neg (show ¬ (false = true) by decide)] at H; exact H
          clear H
          have H := H1
          clear H1
          have H' := Aside0.mk H
          clear H
          obtain ⟨i012, hi012, _, hsz12, _⟩ := info_parts info3
          obtain ⟨A12, hcut12, hA12, hC12⟩ := print_mid_of (P := Tryz.prog) (Value.int .i64) 0 25 3 .i64 .i64 Tryz.underlying25 hi012 hsz12 A1 c1 l1 x5_1 (wrap64 (x5_1 + (l0.length : Int))) (of_decide_eq_true (by first | (with_reducible assumption) | assumption)) (by first | omega | exact of_decide_eq_true (by first | (with_reducible assumption) | assumption)) (of_decide_eq_true (by first | (with_reducible assumption) | assumption)) HC1.out
          have HR315 := Aside0.mk (Kd.C_of_reads (h1 := fun _ => rfl) (hA12 _ (Kd.reads_of_C HR1.out)))
          have HC315 := Aside0.mk hC12
          clear hA12 hC12 hi012 hsz12
          go_wp2_with (first | ((with_reducible refine gate_callee (f := 24) rfl ?_); refine goesL_ (some 28) rfl rfl Tryz.func24 (by kernel_rfl) rfl #[.slice A0 l0.length c0, .slice A12 ((l1.take ((wrap64 (x5_1 + (l0.length : Int))) : Int).toNat).drop (x5_1 : Int).toNat).length (c1 - x5_1.toNat)] rfl (by (try simp only [List.map_toArray, List.map_cons, List.map_nil]); first | done | (rw [show ((l1.take ((wrap64 (x5_1 + (l0.length : Int))) : Int).toNat).drop (x5_1 : Int).toNat).length = ((wrap64 (x5_1 + (l0.length : Int))).toNat - x5_1.toNat) from (by rw [List.length_drop, List.length_take]; have h_ : ((wrap64 (x5_1 + (l0.length : Int))) : Int) ≤ (l1.length : Int) := of_decide_eq_true (by first | (with_reducible assumption) | assumption); omega)] <;> rfl) | rfl | (simp only [List.length_drop, List.length_take]; rfl)) ?_; (with_reducible refine (glisterref02_Same.calls kj2 _ _ l0 _ _ ((l1.take ((wrap64 (x5_1 + (l0.length : Int))) : Int).toNat).drop (x5_1 : Int).toNat) false _ ?side1 ?side2 ?side3 ?side4 A9.out).mono ?_); (case side1 => repeat (first | exact HR0.out | (with_reducible refine Kd.C_alloc ?_ _) | (with_reducible refine Kd.C_drewN ?_ _) | (with_reducible refine Kd.C_drew ?_))); (case side2 => exact HC0.out); (case side3 => repeat (first | exact HR315.out | (with_reducible refine Kd.C_alloc ?_ _) | (with_reducible refine Kd.C_drewN ?_ _) | (with_reducible refine Kd.C_drew ?_))); (case side4 => exact HC315.out); rintro e w' ⟨rfl, ⟨nd, rfl⟩⟩; refine ⟨_, rfl, ?_⟩))
          go_roundg kj2
          case measure => have := HK1.out; have := HJ2.out; omega
          case rel => exact ⟨(wrap64 (x5_1 + 1)), (by first | rfl | (simp; done) | (simp [*]; done)), H', ⟨by have := HK1.out; have := HJ2.out; omega⟩, by repeat (first | exact Drawn0.refl _ | apply Drawn0.step)⟩
        ·rw [if_neg c8] at H
         exact absurd H (by simp)
       ·rw [if_neg c7] at H
        exact absurd H (by simp)
      ·rw [if_neg c6] at H
       exact absurd H (by simp)
     ·replace c5 := Bool.eq_false_iff.mpr c5
      subst c5
      have H1 : (some false) = some r := by rw [if_neg (show ¬ (false = true) by decide)] at H; exact H
      clear H
      have H := H1
      clear H1
      obtain rfl := Option.some.inj H
      go_wp2
      go_ret
      exact ⟨by first | rfl | (simp; done) | (simp [*]; done), by repeat (first | exact Drawn0.refl _ | apply Drawn0.step)⟩
mutual
def glisterref06_Before.l0 : Nat → List Int → List Int → Int → Option (Bool)
 | 0, _, _, _ => none
 | k + 1, x0, x1, x5 => if x5 < (x0.length : Int) then (glisterref06_Before.j1 k x0 x1 x5 (decide (x5 < (x1.length : Int)))) else (glisterref06_Before.j1 k x0 x1 x5 false)
def glisterref06_Before.j1 : Nat → List Int → List Int → Int → Bool → Option (Bool)
 | 0, _, _, _, _ => none
 | k + 1, x0, x1, x5, x15 => if x15 = true then (if 0 ≤ x5 then (if x5 < (x0.length : Int) then (if x5 < (x1.length : Int) then (if (rd x0 x5) = (rd x1 x5) then (glisterref06_Before.l0 k x0 x1 (wrap64 (x5 + 1))) else (some (decide ((rd x0 x5) < (rd x1 x5))))) else (none)) else (none)) else (none)) else (some (decide ((x0.length : Int) < (x1.length : Int))))
end
def glisterref06_Before.f (k : Nat) (l0 : List Int) (l1 : List Int) : Option (Bool) := glisterref06_Before.l0 k l0 l1 0
theorem glisterref06_Before.mono_l : ∀ k, (∀ y0 y1 y2, LeO (glisterref06_Before.l0 k y0 y1 y2) (glisterref06_Before.l0 (k + 1) y0 y1 y2)) ∧ (∀ y0 y1 y2 y3, LeO (glisterref06_Before.j1 k y0 y1 y2 y3) (glisterref06_Before.j1 (k + 1) y0 y1 y2 y3))
 | 0 => ⟨fun _ _ _ r h => by simp [glisterref06_Before.l0] at h, fun _ _ _ _ r h => by simp [glisterref06_Before.j1] at h⟩
 | k + 1 => by
  obtain ⟨ih0, ih1⟩ := glisterref06_Before.mono_l k
  refine ⟨?_, ?_⟩
  ·intro y0 y1 y2
   unfold glisterref06_Before.l0
   repeat' first
   | (with_reducible exact ih0 _ _ _)
   | (with_reducible exact ih1 _ _ _ _)
   | (with_reducible exact LeO.refl _)
   | (with_reducible exact LeO.none _)
   | (with_reducible refine LeO.ite ?_ ?_)
   | (with_reducible refine LeO.bind ?_ (fun _ => ?_))
   | exact ih0 _ _ _
   | exact ih1 _ _ _ _
   | exact LeO.none _
   | refine LeO.ite ?_ ?_
   | refine LeO.bind ?_ (fun _ => ?_)
  ·intro y0 y1 y2 y3
   unfold glisterref06_Before.j1
   repeat' first
   | (with_reducible exact ih0 _ _ _)
   | (with_reducible exact ih1 _ _ _ _)
   | (with_reducible exact LeO.refl _)
   | (with_reducible exact LeO.none _)
   | (with_reducible refine LeO.ite ?_ ?_)
   | (with_reducible refine LeO.bind ?_ (fun _ => ?_))
   | exact ih0 _ _ _
   | exact ih1 _ _ _ _
   | exact LeO.none _
   | refine LeO.ite ?_ ?_
   | refine LeO.bind ?_ (fun _ => ?_)
theorem glisterref06_Before.mono : ∀ a0 a1 k, LeO (glisterref06_Before.f k a0 a1) (glisterref06_Before.f (k + 1) a0 a1) := by
 intro a0 a1 k
 obtain ⟨ih0, ih1⟩ := glisterref06_Before.mono_l k
 unfold glisterref06_Before.f
 repeat' first
   | (with_reducible exact ih0 _ _ _)
   | (with_reducible exact ih1 _ _ _ _)
   | (with_reducible exact LeO.refl _)
   | (with_reducible exact LeO.none _)
   | (with_reducible refine LeO.ite ?_ ?_)
   | (with_reducible refine LeO.bind ?_ (fun _ => ?_))
   | exact ih0 _ _ _
   | exact ih1 _ _ _ _
   | exact LeO.none _
   | refine LeO.ite ?_ ?_
   | refine LeO.bind ?_ (fun _ => ?_)
set_option maxHeartbeats 8000000 in
set_option maxRecDepth 100000 in
theorem glisterref06_Before.calls (k : Nat) (A0 : Option Addr) (c0 : Nat) (l0 : List Int) (A1 : Option Addr) (c1 : Nat) (l1 : List Int) (r : Bool) (w : World) (hr0 : Kd.C (Kd.int .i64) w A0 l0.length l0) (hc0 : l0.length ≤ c0) (hr1 : Kd.C (Kd.int .i64) w A1 l1.length l1) (hc1 : l1.length ≤ c1) (h : glisterref06_Before.f k l0 l1 = some r) :
  Calls Tryz.prog 52 #[.slice A0 l0.length c0, .slice A1 l1.length c1] w fun e w' => e = .returned (.bool r) ∧ Drawn0 w w' := by
 have HR0 := Aside0.mk hr0
 have HC0 := Aside0.mk hc0
 clear hr0 hc0
 have HR1 := Aside0.mk hr1
 have HC1 := Aside0.mk hc1
 clear hr1 hc1
 have H : (glisterref06_Before.l0 k l0 l1 0) = some r := h
 clear h
 have H' := Aside0.mk H
 clear H
 go_enter Tryz.func52, Tryz.ntmps52
 go_wp2
 repeat (go_quiet (fail); try go_wp2)
 go_loopg [5] k (fun kq v5 w' => ∃ (x5_1 : Int), v5 = .int .i64 x5_1 ∧ Aside0 (glisterref06_Before.l0 kq l0 l1 x5_1 = some r) ∧ Aside0 (kq ≤ k) ∧ Drawn0 w w')
 case atStart => exact ⟨(0), (by first | rfl | (simp; done) | (simp [*]; done)), H', ⟨Nat.le_refl _⟩, by repeat (first | exact Drawn0.refl _ | apply Drawn0.step)⟩
 case round =>
  clear H'
  try clear c1
  try clear p2
  obtain ⟨x5_1, rfl, HA, HK1, ⟨m1, rfl⟩⟩ := hrel
  cases gk with
  | zero => exact absurd HA.out (by simp [glisterref06_Before.l0])
  | succ k1 =>
   have H := HA.out
   clear HA
   simp only [glisterref06_Before.l0] at H
   have HC3 := Aside0.mk H
   clear H
   go_upto_region 2 with (fail)
   repeat (go_quiet (fail); go_upto_region 2 with (fail))
   go_cut [15] (fun v15 wc => ∃ (kq : Nat) (x15_2 : Bool), v15 = .bool x15_2 ∧ Aside0 (glisterref06_Before.j1 kq l0 l1 x5_1 x15_2 = some r) ∧ Aside0 (kq ≤ k1) ∧ Drawn0 w wc)
   case first =>
    have H := HC3.out
    clear HC3
    by_cases c4 : x5_1 < (l0.length : Int)
    ·rw [if_pos c4] at H
     have c4b0 : decide (x5_1 < (l0.length : Int)) = true := decide_eq_true c4
     clear c4
     (first | rw [c4b0] | (simp only [i64_w, i32_w]; rw [c4b0]) | skip)
     have H' := Aside0.mk H
     clear H
     go_wp2
     repeat (go_quiet (fail); try go_wp2)
     go_meet
     case rel => exact ⟨_, (decide (x5_1 < (l1.length : Int))), (by first | rfl | (simp; done) | (simp [*]; done)), H', ⟨by have := HK1.out; first | omega | exact Nat.le_refl _⟩, by repeat (first | exact Drawn0.refl _ | apply Drawn0.step)⟩
    ·rw [if_neg c4] at H
     have c4b0 : decide (x5_1 < (l0.length : Int)) = false := decide_eq_false c4
     clear c4
     (first | rw [c4b0] | (simp only [i64_w, i32_w]; rw [c4b0]) | skip)
     have H' := Aside0.mk H
     clear H
     go_wp2
     repeat (go_quiet (fail); try go_wp2)
     go_meet
     case rel => exact ⟨_, (false), (by first | rfl | (simp; done) | (simp [*]; done)), H', ⟨by have := HK1.out; first | omega | exact Nat.le_refl _⟩, by repeat (first | exact Drawn0.refl _ | apply Drawn0.step)⟩
   case rest =>
    clear HC3
    try clear c1
    try clear p2
    try clear c4
    try clear c4b0
    try clear p2
    obtain ⟨kq, x15_2, rfl, HA, HJ2, ⟨mc2, rfl⟩⟩ := hcut
    cases kq with
    | zero => exact absurd HA.out (by simp [glisterref06_Before.j1])
    | succ kj2 =>
     have H := HA.out
     clear HA
     simp only [glisterref06_Before.j1] at H
     by_cases c5 : x15_2 = true
     ·subst c5
      have H1 : (if 0 ≤ x5_1 then (if x5_1 < (l0.length : Int) then (if x5_1 < (l1.length : Int) then (if (rd l0 x5_1) = (rd l1 x5_1) then (glisterref06_Before.l0 kj2 l0 l1 (wrap64 (x5_1 + 1))) else (some (decide ((rd l0 x5_1) < (rd l1 x5_1))))) else (none)) else (none)) else (none)) = some r := by rw [if_pos rfl] at H; exact H
      clear H
      have H := H1
      clear H1
      by_cases c6 : 0 ≤ x5_1
      ·rw [if_pos c6] at H
       have c6b0 : decide (0 ≤ x5_1) = true := decide_eq_true c6
       clear c6
       by_cases c7 : x5_1 < (l0.length : Int)
       ·rw [if_pos c7] at H
        have c7b0 : decide (x5_1 < (l0.length : Int)) = true := decide_eq_true c7
        clear c7
        by_cases c8 : x5_1 < (l1.length : Int)
        ·rw [if_pos c8] at H
         have c8b0 : decide (x5_1 < (l1.length : Int)) = true := decide_eq_true c8
         clear c8
         by_cases c9 : (rd l0 x5_1) = (rd l1 x5_1)
         ·rw [if_pos c9] at H
          have c9b0 : ((rd l0 x5_1) == (rd l1 x5_1)) = true := beq_iff_eq.mpr c9
          have c9b1 : ((rd l0 x5_1) != (rd l1 x5_1)) = false := bne_eq_false_iff_eq.mpr c9
          clear c9
          have H' := Aside0.mk H
          clear H
          have p322 : 0 ≤ (x5_1 : Int) := of_decide_eq_true (by first | (with_reducible assumption) | assumption)
          have q322 : x5_1 < (l0.length : Int) := of_decide_eq_true (by first | (with_reducible assumption) | assumption)
          obtain ⟨ad322, e322, hx322_0⟩ := Kd.at_int HR0.out x5_1 p322 q322
          cases e322
          replace p322 := eq_true p322
          replace q322 := eq_true q322
          have p323 : 0 ≤ (x5_1 : Int) := of_decide_eq_true (by first | (with_reducible assumption) | assumption)
          have q323 : x5_1 < (l1.length : Int) := of_decide_eq_true (by first | (with_reducible assumption) | assumption)
          obtain ⟨ad323, e323, hx323_0⟩ := Kd.at_int HR1.out x5_1 p323 q323
          cases e323
          replace p323 := eq_true p323
          replace q323 := eq_true q323
          go_wp2
          repeat (go_quiet (fail); try go_wp2)
          go_roundg kj2
          case measure => have := HK1.out; have := HJ2.out; omega
          case rel => exact ⟨(wrap64 (x5_1 + 1)), (by first | rfl | (simp; done) | (simp [*]; done)), H', ⟨by have := HK1.out; have := HJ2.out; omega⟩, by repeat (first | exact Drawn0.refl _ | apply Drawn0.step)⟩
         ·rw [if_neg c9] at H
          have c9b0 : ((rd l0 x5_1) == (rd l1 x5_1)) = false := beq_eq_false_iff_ne.mpr c9
          have c9b1 : ((rd l0 x5_1) != (rd l1 x5_1)) = true := bne_iff_ne.mpr c9
          obtain rfl := Option.some.inj H
          have p322 : 0 ≤ (x5_1 : Int) := of_decide_eq_true (by first | (with_reducible assumption) | assumption)
          have q322 : x5_1 < (l0.length : Int) := of_decide_eq_true (by first | (with_reducible assumption) | assumption)
          obtain ⟨ad322, e322, hx322_0⟩ := Kd.at_int HR0.out x5_1 p322 q322
          cases e322
          replace p322 := eq_true p322
          replace q322 := eq_true q322
          have p323 : 0 ≤ (x5_1 : Int) := of_decide_eq_true (by first | (with_reducible assumption) | assumption)
          have q323 : x5_1 < (l1.length : Int) := of_decide_eq_true (by first | (with_reducible assumption) | assumption)
          obtain ⟨ad323, e323, hx323_0⟩ := Kd.at_int HR1.out x5_1 p323 q323
          cases e323
          replace p323 := eq_true p323
          replace q323 := eq_true q323
          have p324 : 0 ≤ (x5_1 : Int) := of_decide_eq_true (by first | (with_reducible assumption) | assumption)
          have q324 : x5_1 < (l0.length : Int) := of_decide_eq_true (by first | (with_reducible assumption) | assumption)
          obtain ⟨ad324, e324, hx324_0⟩ := Kd.at_int HR0.out x5_1 p324 q324
          obtain rfl : ad322 = ad324 := (by injection e324)
          replace p324 := eq_true p324
          replace q324 := eq_true q324
          have p325 : 0 ≤ (x5_1 : Int) := of_decide_eq_true (by first | (with_reducible assumption) | assumption)
          have q325 : x5_1 < (l1.length : Int) := of_decide_eq_true (by first | (with_reducible assumption) | assumption)
          obtain ⟨ad325, e325, hx325_0⟩ := Kd.at_int HR1.out x5_1 p325 q325
          obtain rfl : ad323 = ad325 := (by injection e325)
          replace p325 := eq_true p325
          replace q325 := eq_true q325
          go_wp2
          repeat (go_quiet (fail); try go_wp2)
          go_ret
          exact ⟨by first | rfl | (simp; done) | (simp [*]; done), by repeat (first | exact Drawn0.refl _ | apply Drawn0.step)⟩
        ·rw [if_neg c8] at H
         exact absurd H (by simp)
       ·rw [if_neg c7] at H
        exact absurd H (by simp)
      ·rw [if_neg c6] at H
       exact absurd H (by simp)
     ·replace c5 := Bool.eq_false_iff.mpr c5
      subst c5
      have H1 : (some (decide ((l0.length : Int) < (l1.length : Int)))) = some r := by rw [if_neg (show ¬ (false = true) by decide)] at H; exact H
      clear H
      have H := H1
      clear H1
      obtain rfl := Option.some.inj H
      go_wp2
      repeat (go_quiet (fail); try go_wp2)
      go_ret
      exact ⟨by first | rfl | (simp; done) | (simp [*]; done), by repeat (first | exact Drawn0.refl _ | apply Drawn0.step)⟩
def glisterref06_Shorter.f (k : Nat) (l0 : List Int) (l1 : List Int) : Option (Bool) := if (l0.length : Int) < (l1.length : Int) then (some true) else (if (l0.length : Int) = (l1.length : Int) then ((glisterref06_Before.f k l0 l1).bind fun t430 => (some t430)) else (some false))
theorem glisterref06_Shorter.mono : ∀ a0 a1 k, LeO (glisterref06_Shorter.f k a0 a1) (glisterref06_Shorter.f (k + 1) a0 a1) := by
 intro a0 a1 k
 unfold glisterref06_Shorter.f
 repeat' first
   | (with_reducible exact glisterref06_Before.mono _ _ _)
   | (with_reducible exact LeO.refl _)
   | (with_reducible exact LeO.none _)
   | (with_reducible refine LeO.ite ?_ ?_)
   | (with_reducible refine LeO.bind ?_ (fun _ => ?_))
   | exact glisterref06_Before.mono _ _ _
   | exact LeO.none _
   | refine LeO.ite ?_ ?_
   | refine LeO.bind ?_ (fun _ => ?_)
set_option maxHeartbeats 8000000 in
set_option maxRecDepth 100000 in
theorem glisterref06_Shorter.calls (k : Nat) (A0 : Option Addr) (c0 : Nat) (l0 : List Int) (A1 : Option Addr) (c1 : Nat) (l1 : List Int) (r : Bool) (w : World) (hr0 : Kd.C (Kd.int .i64) w A0 l0.length l0) (hc0 : l0.length ≤ c0) (hr1 : Kd.C (Kd.int .i64) w A1 l1.length l1) (hc1 : l1.length ≤ c1) (h : glisterref06_Shorter.f k l0 l1 = some r) :
  Calls Tryz.prog 43 #[.slice A0 l0.length c0, .slice A1 l1.length c1] w fun e w' => e = .returned (.bool r) ∧ Drawn0 w w' := by
 have HR0 := Aside0.mk hr0
 have HC0 := Aside0.mk hc0
 clear hr0 hc0
 have HR1 := Aside0.mk hr1
 have HC1 := Aside0.mk hc1
 clear hr1 hc1
 have H : (if (l0.length : Int) < (l1.length : Int) then (some true) else (if (l0.length : Int) = (l1.length : Int) then ((glisterref06_Before.f k l0 l1).bind fun t430 => (some t430)) else (some false))) = some r := h
 clear h
 by_cases c3 : (l0.length : Int) < (l1.length : Int)
 ·rw [if_pos c3] at H
  have c3b0 : decide ((l0.length : Int) < (l1.length : Int)) = true := decide_eq_true c3
  have c3b1 : decide (l0.length < l1.length) = true := decide_eq_true (Int.ofNat_lt.mp c3)
  clear c3
  obtain rfl := Option.some.inj H
  go_enter Tryz.func43, Tryz.ntmps43
  go_wp2
  go_ret
  exact ⟨by first | rfl | (simp; done) | (simp [*]; done), by repeat (first | exact Drawn0.refl _ | apply Drawn0.step)⟩
 ·rw [if_neg c3] at H
  have c3b0 : decide ((l0.length : Int) < (l1.length : Int)) = false := decide_eq_false c3
  have c3b1 : decide (l0.length < l1.length) = false := decide_eq_false (fun h => c3 (Int.ofNat_lt.mpr h))
  clear c3
  by_cases c4 : (l0.length : Int) = (l1.length : Int)
  ·rw [if_pos c4] at H
   have c4b0 : ((l0.length : Int) == (l1.length : Int)) = true := beq_iff_eq.mpr c4
   have c4b1 : ((l0.length : Int) != (l1.length : Int)) = false := bne_eq_false_iff_eq.mpr c4
   have c4b2 : (l0.length == l1.length) = true := by first | simpa using c4 | (simp at c4 ⊢; omega)
   clear c4
   replace H := Option.bind_eq_some_iff.mp H
   obtain ⟨t430, A50, H⟩ := H
   replace H : (some t430) = some r := H
   have A5 := Aside0.mk A50
   clear A50
   obtain rfl := Option.some.inj H
   go_enter Tryz.func43, Tryz.ntmps43
   go_wp2_with (first | (go_at_call 52; (with_reducible refine (glisterref06_Before.calls k _ _ l0 _ _ l1 t430 _ ?side1 ?side2 ?side3 ?side4 A5.out).mono ?_); (case side1 => repeat (first | exact HR0.out | (with_reducible refine Kd.C_alloc ?_ _) | (with_reducible refine Kd.C_drewN ?_ _) | (with_reducible refine Kd.C_drew ?_))); (case side2 => exact HC0.out); (case side3 => repeat (first | exact HR1.out | (with_reducible refine Kd.C_alloc ?_ _) | (with_reducible refine Kd.C_drewN ?_ _) | (with_reducible refine Kd.C_drew ?_))); (case side4 => exact HC1.out); rintro e w' ⟨rfl, ⟨nd, rfl⟩⟩))
   go_ret
   exact ⟨by first | rfl | (simp; done) | (simp [*]; done), by repeat (first | exact Drawn0.refl _ | apply Drawn0.step)⟩
  ·rw [if_neg c4] at H
   have c4b0 : ((l0.length : Int) == (l1.length : Int)) = false := beq_eq_false_iff_ne.mpr c4
   have c4b1 : ((l0.length : Int) != (l1.length : Int)) = true := bne_iff_ne.mpr c4
   have c4b2 : (l0.length == l1.length) = false := by first | simpa using c4 | (simp at c4 ⊢; omega)
   obtain rfl := Option.some.inj H
   go_enter Tryz.func43, Tryz.ntmps43
   go_wp2
   go_ret
   exact ⟨by first | rfl | (simp; done) | (simp [*]; done), by repeat (first | exact Drawn0.refl _ | apply Drawn0.step)⟩
def glisterref06_Falses.l0 : Nat → List Int → Int → Int → Option (Int)
 | 0, _, _, _ => none
 | k + 1, x0, x3, x4 => if x4 < (x0.length : Int) then (if 0 ≤ x4 then (if (rd x0 x4) = (-1) then (glisterref06_Falses.l0 k x0 (wrap64 (x3 + 1)) (wrap64 (x4 + 1))) else (glisterref06_Falses.l0 k x0 x3 (wrap64 (x4 + 1)))) else (none)) else (some x3)
def glisterref06_Falses.f (k : Nat) (l0 : List Int) : Option (Int) := glisterref06_Falses.l0 k l0 0 0
theorem glisterref06_Falses.mono_l : ∀ k, (∀ y0 y1 y2, LeO (glisterref06_Falses.l0 k y0 y1 y2) (glisterref06_Falses.l0 (k + 1) y0 y1 y2))
 | 0 => fun _ _ _ r h => by simp [glisterref06_Falses.l0] at h
 | k + 1 => by
  have ih0 := glisterref06_Falses.mono_l k
  ·intro y0 y1 y2
   unfold glisterref06_Falses.l0
   repeat' first
   | (with_reducible exact ih0 _ _ _)
   | (with_reducible exact LeO.refl _)
   | (with_reducible exact LeO.none _)
   | (with_reducible refine LeO.ite ?_ ?_)
   | (with_reducible refine LeO.bind ?_ (fun _ => ?_))
   | exact ih0 _ _ _
   | exact LeO.none _
   | refine LeO.ite ?_ ?_
   | refine LeO.bind ?_ (fun _ => ?_)
theorem glisterref06_Falses.mono : ∀ a0 k, LeO (glisterref06_Falses.f k a0) (glisterref06_Falses.f (k + 1) a0) := by
 intro a0 k
 have ih0 := glisterref06_Falses.mono_l k
 unfold glisterref06_Falses.f
 repeat' first
   | (with_reducible exact ih0 _ _ _)
   | (with_reducible exact LeO.refl _)
   | (with_reducible exact LeO.none _)
   | (with_reducible refine LeO.ite ?_ ?_)
   | (with_reducible refine LeO.bind ?_ (fun _ => ?_))
   | exact ih0 _ _ _
   | exact LeO.none _
   | refine LeO.ite ?_ ?_
   | refine LeO.bind ?_ (fun _ => ?_)
set_option maxHeartbeats 8000000 in
set_option maxRecDepth 100000 in
theorem glisterref06_Falses.calls (k : Nat) (A0 : Option Addr) (c0 : Nat) (l0 : List Int) (r : Int) (w : World) (hr0 : Kd.C (Kd.int .i64) w A0 l0.length l0) (hc0 : l0.length ≤ c0) (h : glisterref06_Falses.f k l0 = some r) :
  Calls Tryz.prog 51 #[.slice A0 l0.length c0] w fun e w' => e = .returned (.int .i64 r) ∧ Drawn0 w w' := by
 have HR0 := Aside0.mk hr0
 have HC0 := Aside0.mk hc0
 clear hr0 hc0
 have H : (glisterref06_Falses.l0 k l0 0 0) = some r := h
 clear h
 have H' := Aside0.mk H
 clear H
 go_enter Tryz.func51, Tryz.ntmps51
 go_wp2
 go_loopg [3, 4] k (fun kq v3 v4 w' => ∃ (x3_1 : Int) (x4_1 : Int), v3 = .int .i64 x3_1 ∧ v4 = .int .i64 x4_1 ∧ Aside0 (glisterref06_Falses.l0 kq l0 x3_1 x4_1 = some r) ∧ Aside0 (kq ≤ k) ∧ Drawn0 w w')
 case atStart => exact ⟨(0), (0), (by first | rfl | (simp; done) | (simp [*]; done)), (by first | rfl | (simp; done) | (simp [*]; done)), H', ⟨Nat.le_refl _⟩, by repeat (first | exact Drawn0.refl _ | apply Drawn0.step)⟩
 case round =>
  clear H'
  obtain ⟨x3_1, x4_1, rfl, rfl, HA, HK1, ⟨m1, rfl⟩⟩ := hrel
  cases gk with
  | zero => exact absurd HA.out (by simp [glisterref06_Falses.l0])
  | succ k1 =>
   have H := HA.out
   clear HA
   simp only [glisterref06_Falses.l0] at H
   by_cases c2 : x4_1 < (l0.length : Int)
   ·rw [if_pos c2] at H
    have c2b0 : decide (x4_1 < (l0.length : Int)) = true := decide_eq_true c2
    clear c2
    by_cases c3 : 0 ≤ x4_1
    ·rw [if_pos c3] at H
     have c3b0 : decide (0 ≤ x4_1) = true := decide_eq_true c3
     clear c3
     by_cases c4 : (rd l0 x4_1) = (-1)
     ·rw [if_pos c4] at H
      have c4b0 : ((rd l0 x4_1) == (-1)) = true := beq_iff_eq.mpr c4
      have c4b1 : ((rd l0 x4_1) != (-1)) = false := bne_eq_false_iff_eq.mpr c4
      clear c4
      have H' := Aside0.mk H
      clear H
      have p1079 : 0 ≤ (x4_1 : Int) := of_decide_eq_true (by first | (with_reducible assumption) | assumption)
      have q1079 : x4_1 < (l0.length : Int) := of_decide_eq_true (by first | (with_reducible assumption) | assumption)
      obtain ⟨ad1079, e1079, hx1079_0⟩ := Kd.at_int HR0.out x4_1 p1079 q1079
      cases e1079
      replace p1079 := eq_true p1079
      replace q1079 := eq_true q1079
      go_wp2
      go_roundg k1
      case measure => have := HK1.out; omega
      case rel => exact ⟨(wrap64 (x3_1 + 1)), (wrap64 (x4_1 + 1)), (by first | rfl | (simp; done) | (simp [*]; done)), (by first | rfl | (simp; done) | (simp [*]; done)), H', ⟨by have := HK1.out; omega⟩, by repeat (first | exact Drawn0.refl _ | apply Drawn0.step)⟩
     ·rw [if_neg c4] at H
      have c4b0 : ((rd l0 x4_1) == (-1)) = false := beq_eq_false_iff_ne.mpr c4
      have c4b1 : ((rd l0 x4_1) != (-1)) = true := bne_iff_ne.mpr c4
      have H' := Aside0.mk H
      clear H
      have p1079 : 0 ≤ (x4_1 : Int) := of_decide_eq_true (by first | (with_reducible assumption) | assumption)
      have q1079 : x4_1 < (l0.length : Int) := of_decide_eq_true (by first | (with_reducible assumption) | assumption)
      obtain ⟨ad1079, e1079, hx1079_0⟩ := Kd.at_int HR0.out x4_1 p1079 q1079
      cases e1079
      replace p1079 := eq_true p1079
      replace q1079 := eq_true q1079
      go_wp2
      go_roundg k1
      case measure => have := HK1.out; omega
      case rel => exact ⟨(x3_1), (wrap64 (x4_1 + 1)), (by first | rfl | (simp; done) | (simp [*]; done)), (by first | rfl | (simp; done) | (simp [*]; done)), H', ⟨by have := HK1.out; omega⟩, by repeat (first | exact Drawn0.refl _ | apply Drawn0.step)⟩
    ·rw [if_neg c3] at H
     exact absurd H (by simp)
   ·rw [if_neg c2] at H
    have c2b0 : decide (x4_1 < (l0.length : Int)) = false := decide_eq_false c2
    clear c2
    obtain rfl := Option.some.inj H
    go_wp2
    go_ret
    exact ⟨by first | rfl | (simp; done) | (simp [*]; done), by repeat (first | exact Drawn0.refl _ | apply Drawn0.step)⟩
end Go.Proofs.YthgfhgjlilmieaaGreat.B
namespace Go.Proofs.YthgfhgjlilmieaaGreat.G
open Go.RowKit Go.Shelf Go.Proofs.YthgfhgjlilmieaaGreatW.PrintWords Go.Proofs.YthgfhgjlilmieaaGreatW.PrintLast Go.Proofs.YthgfhgjlilmieaaGreatW.PrintMore
open Go.Proofs.YthgfhgjlilmieaaGreat.B
set_option linter.unusedVariables false
set_option linter.unusedSimpArgs false
theorem has_l (xs : List Int) (n : Int) (hb : xs.length ≤ 9223372036854775807) : ∀ (d i k : Nat), d = xs.length - i → i ≤ xs.length → d < k → glisterref06_Has.l0 k xs n i = some ((xs.drop i).contains n) := by
  intro d
  induction d with
  | zero =>
    intro i k hd hi hk
    obtain ⟨k, rfl⟩ : ∃ m, k = m + 1 := ⟨k - 1, by omega⟩
    simp only [glisterref06_Has.l0]
    rw [if_neg (by omega), List.drop_eq_nil_of_le (by omega)]
    rfl
  | succ d ih =>
    intro i k hd hi hk
    obtain ⟨k, rfl⟩ : ∃ m, k = m + 1 := ⟨k - 1, by omega⟩
    have h1 : i < xs.length := by omega
    simp only [glisterref06_Has.l0]
    rw [if_pos (by omega), if_pos (by omega), rd_nat xs i h1, wrap_nat i xs.length h1 hb, ih (i + 1) k (by omega) (by omega) (by omega), List.drop_eq_getElem_cons h1, List.contains_cons]
    by_cases hx : xs[i] = n
    · rw [if_pos hx]; simp [hx]
    · rw [if_neg hx]
      have : (n == xs[i]) = false := by simp; exact fun h => hx h.symm
      rw [this, Bool.false_or]
theorem has_f (xs : List Int) (n : Int) (hb : xs.length ≤ 9223372036854775807) (k : Nat) (hk : xs.length < k) : glisterref06_Has.f k xs n = some (xs.contains n) := by
  unfold glisterref06_Has.f
  have := has_l xs n hb xs.length 0 k (by omega) (by omega) (by omega)
  simpa using this
theorem has37_any (A : Option Addr) (c : Nat) (xs : List Int) (n : Int) (w : World) (hx : Kd.C (Kd.int .i64) w A xs.length xs) (hc : xs.length ≤ c) :
    Calls Tryz.prog 37 #[.slice A xs.length c, .int .i64 n] w fun e w' => e = .returned (.bool (xs.contains n)) ∧ Below w.heap.size w w' := by
  have hb : xs.length ≤ 9223372036854775807 := by have := hx.2.1; omega
  refine (glisterref06_Has.calls (xs.length + 1) A c xs n _ w hx hc (has_f xs n hb _ (by omega))).mono ?_
  rintro e w' ⟨he, m, rfl⟩
  exact ⟨he, belowN w m⟩
theorem masked27_at (a : LV) (l : Lg) (n : Int) (w : World) (hL : LogAt w a l) : Calls Tryz.prog 27 #[logV a l, .int .i64 n] w (OwnP (mskL l n) (mskE l n) w) := (masked_any a l n w hL).mono fun e w' ⟨v, he, hR, hb⟩ => by
  obtain ⟨A, c, rfl, hl, hC⟩ := Kd.R_reads hR
  exact ⟨A, c, he, hl, hC, hb⟩
theorem verdicts35_at (a : LV) (l : Lg) (w : World) (hL : LogAt w a l) : Calls Tryz.prog 35 #[logV a l] w (OwnP (verdL l) (verdE l) w) := (verdicts_any a l w hL).mono fun e w' ⟨v, he, hR, hb⟩ => by
  obtain ⟨A, c, rfl, hl, hC⟩ := Kd.R_reads hR
  exact ⟨A, c, he, hl, hC, hb⟩
theorem assign36_at (a : LV) (l : Lg) (w : World) (hL : LogAt w a l) : Calls Tryz.prog 36 #[logV a l] w (OwnP (asgL l) (asgE l) w) := (assign_any a l w hL).mono fun e w' ⟨v, he, hR, hb⟩ => by
  obtain ⟨A, c, rfl, hl, hC⟩ := Kd.R_reads hR
  exact ⟨A, c, he, hl, hC, hb⟩
def Q34 (l : Lg) (b : Bool) : Prop := b = true → ThinOk l ∧ logE l = 0
set_option maxRecDepth 100000 in
set_option maxHeartbeats 4000000 in
theorem ready34_any (a : LV) (l : Lg) (w : World) (hL : LogAt w a l) : Calls Tryz.prog 34 #[logV a l] w (SomeB (Q34 l) w) := by
  have hu := Tryz.underlying29
  have hz : ∀ W, Below (w.heap.size + 1) (w.alloc (logD a l)) W → LogAt W a l := fun W h => hL.below (toW h)
  have HTH := Aside0.mk (fun W h => thin17_any a l W (hz W h))
  have HFL := Aside0.mk (fun W h => fault22_any a l W (hz W h))
  have HCE := Aside0.mk (logCells a l w)
  have HTW := Aside0.mk (fun W h => toW (a := a) (l := l) (w := w) (W := W) h)
  have BW := Aside0.mk (Below.refl (w.heap.size + 1) (w.alloc (logD a l)))
  have HN : Aside0 (w.heap.size + 1 ≤ (w.alloc (logD a l)).heap.size) := ⟨by simp⟩
  obtain ⟨A0, A2, A3, A4, c0, c2, c3, c4⟩ := a
  dsimp only [logV] at HTH HFL HCE ⊢
  clear hz hL
  have HQ : Aside0 (∀ b, (b = true → ThinOk l) → Q34 l (b && logE l == 0)) := ⟨fun b h e => by
    simp only [Bool.and_eq_true, beq_iff_eq] at e
    exact ⟨h e.1, e.2⟩⟩
  generalize hE : logE l = E at HFL HQ
  clear hE
  generalize Q34 l = Q at *
  go_enter Tryz.func34, Tryz.ntmps34
  go_wp2_with (fail)
  refine (HTH.out _ BW.out).mono ?_
  rintro e w1_ ⟨b, rfl, hq, hb⟩
  have HQ1 := Aside0.mk hq
  clear hq
  have BW := Aside0.mk (step_b BW.out HN.out hb)
  obtain ⟨b0, b1, b2, b3, b4⟩ := HCE.out _ BW.out
  clear hb
  cases b with
  | false =>
    go_wp2
    go_ret
    exact ⟨_, rfl, by simpa using HQ.out false HQ1.out, HTW.out _ BW.out⟩
  | true =>
    go_wp2_with (fail)
    refine (HFL.out _ BW.out).mono ?_
    rintro e w2_ ⟨rfl, hb⟩
    have BW := Aside0.mk (step_b BW.out HN.out hb)
    clear b0 b1 b2 b3 b4 hb
    go_wp2
    go_ret
    exact ⟨_, rfl, by simpa using HQ.out true HQ1.out, HTW.out _ BW.out⟩
end Go.Proofs.YthgfhgjlilmieaaGreat.G
namespace Go.Proofs.YthgfhgjlilmieaaGreat.G
open Go.RowKit Go.Shelf Go.Proofs.YthgfhgjlilmieaaGreatW.PrintWords Go.Proofs.YthgfhgjlilmieaaGreatW.PrintLast Go.Proofs.YthgfhgjlilmieaaGreatW.PrintMore
open Go.Proofs.YthgfhgjlilmieaaGreat.B
set_option linter.unusedVariables false
set_option linter.unusedSimpArgs false
theorem mem_compT (t : List Int) (tss : List (List Int)) : t ∈ compT tss ↔ t ∈ tss := by
  unfold compT idxT
  rw [List.mem_map]
  constructor
  · rintro ⟨j, hj, rfl⟩
    have := List.mem_range.1 (List.mem_filter.1 hj).1
    rw [List.getD_eq_getElem?_getD, List.getElem?_eq_getElem this]
    exact List.getElem_mem this
  · intro h
    obtain ⟨j, hj, rfl⟩ := List.getElem_of_mem h
    induction j with
    | zero => exact ⟨0, List.mem_filter.2 ⟨List.mem_range.2 hj, rfl⟩, by simp [List.getD_eq_getElem?_getD, hj]⟩
    | succ j ih =>
      cases hk : (tss.getD (j + 1) [] == tss.getD j []) with
      | true =>
        obtain ⟨m, h1, h2⟩ := ih (by omega) (List.getElem_mem (by omega))
        refine ⟨m, h1, h2.trans ?_⟩
        have : tss.getD (j + 1) [] = tss.getD j [] := by simpa using hk
        rw [List.getD_eq_getElem?_getD, List.getD_eq_getElem?_getD, List.getElem?_eq_getElem hj, List.getElem?_eq_getElem (by omega)] at this
        simpa using this.symm
      | false => exact ⟨j + 1, List.mem_filter.2 ⟨List.mem_range.2 hj, keepT_pos (by simpa using hk)⟩, by simp [List.getD_eq_getElem?_getD, hj]⟩
theorem mem_heardL (l : Lg) (h : Int) (t : List Int) : t ∈ heardL l h ↔ t ∈ partsL l h := by
  unfold heardL
  rw [mem_compT]
  unfold sortT
  exact List.mem_mergeSort
theorem mskO_some (l : Lg) (n : Int) : (mskO l n).isSome = anyB l (rd_T75 l.rc n) := by
  unfold mskO anyB
  rw [Bool.eq_iff_iff, List.find?_isSome, List.any_eq_true]
  exact ⟨fun ⟨t, h, hp⟩ => ⟨t, (mem_heardL l _ t).1 h, hp⟩, fun ⟨t, h, hp⟩ => ⟨t, (mem_heardL l _ t).2 h, hp⟩⟩
theorem inR_rec {l : Lg} {r : Nat} (h : r < l.rc.length) : inR (r : Int) 0 ((l.rc.length : Int) - 1) = true := by
  simp only [inR, Bool.and_eq_true, decide_eq_true_eq]; omega
theorem mskE_eq {l : Lg} {r : Nat} (h : logE l = 0) (hr : r < l.rc.length) : mskE l r = if anyB l (rd_T75 l.rc r) = true then 0 else 7 := by
  unfold mskE
  rw [if_pos (ask_in h (inR_rec hr)), oneE, mskO_some]
theorem mem_can (l : Lg) {r : Nat} (hr : r < l.rc.length) (b : Int) : ((r : Int), b) ∈ esK l l.rc.length ↔ b ∈ statL l (rd_T75 l.rc r) ∨ (b = -1 ∧ anyB l (rd_T75 l.rc r) = true) := by
  rw [mem_esK]
  have hf : b ∈ falL l (rd_T75 l.rc r) ↔ b = -1 ∧ anyB l (rd_T75 l.rc r) = true := by
    unfold falL
    split <;> simp_all
  rw [← hf]
  constructor
  · rintro ⟨k, h1, h2, h3⟩
    obtain rfl : r = k := by omega
    exact h3
  · exact fun h => ⟨r, hr, rfl, h⟩
theorem statL_nn {l : Lg} {r : S75} {b : Int} (h : b ∈ statL l r) : 0 ≤ b ∧ b < l.jn.length := by
  simp only [statL, statK, List.mem_map, List.mem_filter, List.mem_range] at h
  obtain ⟨i, hi, rfl⟩ := h
  omega
theorem isW_get (ES : List (Int × Int)) (J R : Nat) (out : List Int) : ∀ n u bs, IsW ES J R out n u bs → ∀ (i : Nat) (b : Int), bs[i]? = some b → (outB out ((R : Int) - n + i) = true ∧ b = -2) ∨ (outB out ((R : Int) - n + i) = false ∧ -1 ≤ b ∧ b < J ∧ ((R : Int) - n + i, b) ∈ ES)
  | 0, u, bs, h, i, b, hi => by simp only [IsW] at h; subst h; simp at hi
  | n + 1, u, [], h, i, b, hi => by simp only [IsW] at h
  | n + 1, u, c :: cs, h, i, b, hi => by
    simp only [IsW] at h
    have e0 : (R : Int) - (n + 1 : Nat) + (0 : Nat) = (R : Int) - (n + 1) := by push_cast; omega
    by_cases ho : outB out ((R : Int) - (n + 1)) = true
    · rw [if_pos ho] at h
      cases i with
      | zero => simp at hi; subst hi; rw [e0]; exact .inl ⟨ho, h.1⟩
      | succ i =>
        have := isW_get ES J R out n u cs h.2 i b (by simpa using hi)
        rwa [show (R : Int) - n + i = (R : Int) - (n + 1 : Nat) + (i + 1 : Nat) by push_cast; omega] at this
    · rw [if_neg ho] at h
      cases i with
      | zero =>
        simp at hi; subst hi; rw [e0]
        refine .inr ⟨by simpa using ho, ?_, ?_, ?_⟩
        · have := h.1; simp only [bys, List.mem_map, List.mem_range] at this; omega
        · have := h.1; simp only [bys, List.mem_map, List.mem_range] at this; omega
        · have := h.2.1; simp only [freeB, Bool.and_eq_true, decide_eq_true_eq] at this; exact this.1
      | succ i =>
        have := isW_get ES J R out n _ cs h.2.2 i b (by simpa using hi)
        rwa [show (R : Int) - n + i = (R : Int) - (n + 1 : Nat) + (i + 1 : Nat) by push_cast; omega] at this
def Way (l : Lg) (bs : List Int) : Prop := IsW (esK l l.rc.length) l.jn.length l.rc.length [] l.rc.length u0 bs
theorem way_len {l : Lg} {bs : List Int} (h : Way l bs) : bs.length = l.rc.length := isW_len _ _ _ _ _ _ _ h
theorem way_at {l : Lg} {bs : List Int} (h : Way l bs) {r : Nat} (hr : r < l.rc.length) : -1 ≤ rd bs r ∧ ((r : Int), rd bs r) ∈ esK l l.rc.length := by
  have hl := way_len h
  have hg : bs[r]? = some (rd bs r) := by rw [List.getElem?_eq_getElem (by omega), rd_nat bs r (by omega)]
  rcases isW_get _ _ _ _ _ _ _ h r _ hg with ⟨h1, _⟩ | ⟨_, h1, _, h2⟩
  · simp [outB] at h1
  · rw [show (l.rc.length : Int) - l.rc.length + r = r by omega] at h2
    exact ⟨h1, h2⟩
theorem possB_iff (l : Lg) (r : Nat) (hr : r < l.rc.length) (f : Bool) : possB l r f = true ↔ ∃ bs, Way l bs ∧ (rd bs r == -1) = f := by
  unfold possB
  rw [poss_iff]
  constructor
  · rintro ⟨bs, h1, h2⟩
    refine ⟨bs, h1, h2 r _ ?_ (by omega)⟩
    have hl := way_len h1
    rw [List.getElem?_eq_getElem (by omega), rd_nat bs r (by omega)]
  · rintro ⟨bs, h1, h2⟩
    refine ⟨bs, h1, fun i b hi he => ?_⟩
    obtain rfl : i = r := by omega
    have hl := way_len h1
    rw [List.getElem?_eq_getElem (by omega)] at hi
    rw [rd_nat bs i (by omega)] at h2
    simpa [Option.some.inj hi] using h2
theorem left_iff (l : Lg) (h6 : l.rc.length ≤ 6) : leftL l < 1024 ↔ ∃ bs, Way l bs := least_ex _ _ _ _ _ _ (by omega)
theorem verdV_iff (l : Lg) (r : Nat) (hr : r < l.rc.length) : (verdV l r).isSome = true ↔ ∃ bs, Way l bs := by
  unfold verdV
  constructor
  · intro h
    by_cases h1 : possB l r false = true
    · obtain ⟨bs, h, _⟩ := (possB_iff l r hr false).1 h1; exact ⟨bs, h⟩
    · rw [if_neg h1] at h
      by_cases h2 : possB l r true = true
      · obtain ⟨bs, h, _⟩ := (possB_iff l r hr true).1 h2; exact ⟨bs, h⟩
      · rw [if_neg h2] at h; simp at h
  · rintro ⟨bs, h⟩
    cases hx : (rd bs r == -1) with
    | false =>
      rw [if_pos ((possB_iff l r hr false).2 ⟨bs, h, hx⟩)]
      split <;> rfl
    | true =>
      have ht := (possB_iff l r hr true).2 ⟨bs, h, hx⟩
      simp only [ht, if_true]
      split <;> rfl
theorem verdK_iff (l : Lg) : ∀ k, k ≤ l.rc.length → (verdK l k).isSome = true ∨ ¬ ∃ bs, Way l bs
  | 0, _ => .inl rfl
  | k + 1, hk => by
    rcases verdK_iff l k (by omega) with h | h
    · by_cases hw : ∃ bs, Way l bs
      · obtain ⟨v, hv⟩ := Option.isSome_iff_exists.1 ((verdV_iff l k (by omega)).2 hw)
        obtain ⟨xs, hx⟩ := Option.isSome_iff_exists.1 h
        exact .inl (by simp [verdK, hx, hv])
      · exact .inr hw
    · exact .inr h
theorem verdK_get (l : Lg) : ∀ k xs, verdK l k = some xs → ∀ (r : Nat), r < k → verdV l r = xs[r]?
  | 0, xs, h, r, hr => by omega
  | k + 1, xs, h, r, hr => by
    simp only [verdK] at h
    cases hx : verdK l k with
    | none => rw [hx] at h; cases h
    | some ys =>
      rw [hx] at h
      simp only [Option.bind_some] at h
      cases hv : verdV l k with
      | none => rw [hv] at h; cases h
      | some v =>
        rw [hv] at h
        simp only [Option.map_some, Option.some.injEq] at h
        subst h
        have hl := verdK_len l k ys hx
        by_cases e : r = k
        · subst e; rw [hv, List.getElem?_append_right (by omega), hl]; simp
        · rw [verdK_get l k ys hx r (by omega), List.getElem?_append_left (by omega)]
theorem verd_none {l : Lg} (hE : logE l = 0) (h6 : l.rc.length ≤ 6) (h : ¬ ∃ bs, Way l bs) : verdE l = 11 ∧ verdL l = [] ∧ asgE l = 11 ∧ asgL l = [] := by
  have ha : ¬ leftL l < 1024 := fun hl => h ((left_iff l h6).1 hl)
  have hv : verdK l l.rc.length = none := by
    by_cases h0 : l.rc.length = 0
    · exfalso
      apply h
      refine ⟨[], ?_⟩
      unfold Way
      rw [h0]
      rfl
    · cases hv : verdK l 1 with
      | none => exact verdK_none l 1 hv _ (by omega)
      | some xs =>
        have := verdK_get l 1 xs hv 0 (by omega)
        have hl := verdK_len l 1 xs hv
        exact absurd ((verdV_iff l 0 (by omega)).1 (by rw [this, List.getElem?_eq_getElem (by omega)]; rfl)) h
  refine ⟨?_, ?_, ?_, ?_⟩
  · unfold verdE; rw [if_neg (by simp [hE]), hv]; rfl
  · unfold verdL; rw [if_neg (by simp [hE]), hv]; rfl
  · unfold asgE; rw [if_neg (by simp [hE]), if_pos (by omega)]
  · unfold asgL; rw [if_neg (by simp [hE]), if_pos (by omega)]
theorem asg_way {l : Lg} (hE : logE l = 0) (h6 : l.rc.length ≤ 6) (h : ∃ bs, Way l bs) : asgE l = 0 ∧ Way l (asgL l) := by
  have ha := (left_iff l h6).2 h
  refine ⟨?_, ?_⟩
  · unfold asgE; rw [if_neg (by simp [hE]), if_neg (by omega)]
  · unfold asgL; rw [if_neg (by simp [hE]), if_neg (by omega)]
    obtain ⟨_, _, _, _, h5, _⟩ := asgK_way (esK l l.rc.length) l.jn.length l.rc.length ha l.rc.length (Nat.le_refl _)
    have := h5 [] (by rw [Nat.sub_self]; rfl)
    rw [List.append_nil] at this
    exact this
theorem verd_some {l : Lg} (hE : logE l = 0) (h : ∃ bs, Way l bs) : verdE l = 0 ∧ (verdL l).length = l.rc.length ∧ ∀ r, r < l.rc.length → verdV l r = some (rd (verdL l) r) := by
  have hv : (verdK l l.rc.length).isSome = true := (verdK_iff l _ (Nat.le_refl _)).resolve_right (fun h' => h' h)
  obtain ⟨xs, hx⟩ := Option.isSome_iff_exists.1 hv
  have hl := verdK_len l _ xs hx
  have e : verdL l = xs := by unfold verdL; rw [if_neg (by simp [hE]), hx]; rfl
  refine ⟨?_, by rw [e, hl], fun r hr => ?_⟩
  · unfold verdE; rw [if_neg (by simp [hE]), if_pos hv]
  · rw [verdK_get l _ xs hx r hr, e, List.getElem?_eq_getElem (by omega), rd_nat xs r (by omega)]
structure VF (l : Lg) (r : Nat) (v a : Int) : Prop where
  ask : askE l r = 0
  val : v = 1 ∨ v = 2 ∨ v = 3
  m : mskE l r = 0 ∨ mskE l r = 7
  o : ownL l r = [] → v = 2
  n : mskE l r = 7 → v = 1
  f : a < 0 → v ≠ 1 ∧ mskE l r = 0
  t : 0 ≤ a → v ≠ 2 ∧ (ownL l r).contains a = true
theorem vf_of {l : Lg} (hE : logE l = 0) (h6 : l.rc.length ≤ 6) (h : ∃ bs, Way l bs) (r : Nat) (hr : r < l.rc.length) : VF l r (rd (verdL l) r) (rd (asgL l) r) := by
  obtain ⟨_, _, h3⟩ := verd_some hE h
  obtain ⟨_, ha⟩ := asg_way hE h6 h
  have hv := h3 r hr
  generalize rd (verdL l) r = v at hv
  have hask := ask_in hE (inR_rec hr)
  have hown : ownL l r = statL l (rd_T75 l.rc r) := own_in hask
  have hm := mskE_eq hE hr
  have hat := fun bs (hb : Way l bs) => way_at hb hr
  simp only [mem_can l hr] at hat
  have haa := hat _ ha
  have hva : v = (if possB l r false = true then (if possB l r true = true then 3 else 1) else 2) := by
    unfold verdV at hv
    split at hv
    · split at hv <;> simp_all
    · split at hv <;> simp_all
  have hpa : possB l r (rd (asgL l) r == -1) = true := (possB_iff l r hr _).2 ⟨_, ha, rfl⟩
  refine ⟨hask, ?_, ?_, ?_, ?_, ?_, ?_⟩
  · rw [hva]; split
    · split <;> simp
    · simp
  · rw [hm]; split <;> simp
  · intro ho
    rw [hown] at ho
    rw [hva, if_neg]
    intro hp
    obtain ⟨bs, hb, he⟩ := (possB_iff l r hr false).1 hp
    rcases (hat bs hb).2 with h1 | h1
    · rw [ho] at h1; cases h1
    · rw [h1.1] at he; cases he
  · intro h7
    rw [hm] at h7
    have hany : ¬ anyB l (rd_T75 l.rc r) = true := by intro hc; rw [if_pos hc] at h7; cases h7
    have hno : ¬ possB l r true = true := by
      intro hp
      obtain ⟨bs, hb, he⟩ := (possB_iff l r hr true).1 hp
      rcases (hat bs hb).2 with h1 | h1
      · have := statL_nn h1
        have he2 : rd bs r = -1 := by simpa using he
        omega
      · exact hany h1.2
    have hx : (rd (asgL l) r == -1) = false := by
      cases hx : (rd (asgL l) r == -1) with
      | false => rfl
      | true => rw [hx] at hpa; exact absurd hpa hno
    rw [hx] at hpa
    rw [hva, if_pos hpa, if_neg hno]
  · intro hneg
    have hx : rd (asgL l) r = -1 := by have := haa.1; omega
    rw [hx] at hpa
    refine ⟨?_, ?_⟩
    · rw [hva]
      split
      · rw [if_pos (by simpa using hpa)]; decide
      · decide
    · rcases haa.2 with h1 | h1
      · have := statL_nn h1; omega
      · rw [hm, if_pos h1.2]
  · intro hpos
    have hx : (rd (asgL l) r == -1) = false := by rw [beq_eq_false_iff_ne]; omega
    rw [hx] at hpa
    refine ⟨?_, ?_⟩
    · rw [hva, if_pos hpa]; split <;> decide
    · rcases haa.2 with h1 | h1
      · rw [hown]; simpa using h1
      · omega
end Go.Proofs.YthgfhgjlilmieaaGreat.G
namespace Go.Proofs.YthgfhgjlilmieaaGreat.G
open Go.RowKit Go.Shelf Go.Proofs.YthgfhgjlilmieaaGreatW.PrintWords Go.Proofs.YthgfhgjlilmieaaGreatW.PrintLast Go.Proofs.YthgfhgjlilmieaaGreatW.PrintMore
open Go.Proofs.YthgfhgjlilmieaaGreat.B
set_option linter.unusedVariables false
set_option linter.unusedSimpArgs false
def LisP (n : Nat) (xs : List Int) (q : Int) (w : World) (e : Ending) (w' : World) : Prop := ∃ A c, e = .returned (.tuple #[.slice A n c, .int .i64 q]) ∧ n ≤ c ∧ Kd.C (Kd.int .i64) w' A n xs ∧ Below w.heap.size w w'
theorem lisP_of {xs : List Int} {q : Int} {w : World} {n : Nat} {r : Int} (hn : xs.length = n) (hq : q = r) {e : Ending} {w' : World} (h : OwnP xs q w e w') : LisP n xs r w e w' := by
  subst hn hq; exact h
set_option maxRecDepth 100000 in
set_option maxHeartbeats 16000000 in
theorem maskVerdicts_any (a : LV) (l : Lg) (w : World) (hL : LogAt w a l) : Calls Tryz.prog 6 #[logV a l] w fun e w' => e = .returned (.bool true) ∧ Below w.heap.size w w' := by
  have hu := Tryz.underlying29
  have hu1 := Tryz.underlying25
  have hz : ∀ W, Below (w.heap.size + 1) (w.alloc (logD a l)) W → LogAt W a l := fun W h => hL.below (toW h)
  have HRD := Aside0.mk (fun W h => ready34_any a l W (hz W h))
  have HLG := Aside0.mk (fun W h (hf : Fits l) => log20_any a l W (hz W h) hf)
  have HAW := Aside0.mk awake_any
  have HCE := Aside0.mk (logCells a l w)
  have HTW := Aside0.mk (fun W h => toW (a := a) (l := l) (w := w) (W := W) h)
  have BW := Aside0.mk (Below.refl (w.heap.size + 1) (w.alloc (logD a l)))
  have HN : Aside0 (w.heap.size + 1 ≤ (w.alloc (logD a l)).heap.size) := ⟨by simp⟩
  obtain ⟨A0, A2, A3, A4, c0, c2, c3, c4⟩ := a
  dsimp only [logV] at HRD HLG HCE ⊢
  clear hz hL
  go_enter Tryz.func6, Tryz.ntmps6
  go_wp2_with (fail)
  refine (HRD.out _ BW.out).mono ?_
  rintro e w1_ ⟨b, rfl, hq, hb⟩
  have BW := Aside0.mk (step_b BW.out HN.out hb)
  obtain ⟨b0, b1, b2, b3, b4⟩ := HCE.out _ BW.out
  clear hb
  cases b with
  | false =>
    go_wp2_with (fail)
    refine (HAW.out _).mono ?_
    rintro e w2_ ⟨rfl, hb⟩
    have BW := Aside0.mk (step_b BW.out HN.out hb)
    clear b0 b1 b2 b3 b4
    obtain ⟨b0, b1, b2, b3, b4⟩ := HCE.out _ BW.out
    clear hb
    go_wp2
    go_ret
    exact ⟨rfl, HTW.out _ BW.out⟩
  | true =>
    have hE := (hq rfl).2
    have hf := (hq rfl).1.fits
    have h6 : l.rc.length ≤ 6 := (sound_of hE).rlen
    clear hq
    by_cases hw : ∃ bs, Way l bs
    · obtain ⟨v1, v2, _⟩ := verd_some hE hw
      obtain ⟨s1, s2⟩ := asg_way hE h6 hw
      have s3 := way_len s2
      have HVD := Aside0.mk (fun a' W (h : LogAt W a' l) => (verdicts35_at a' l W h).mono fun e w' h => lisP_of v2 v1 h)
      have HAS := Aside0.mk (fun a' W (h : LogAt W a' l) => (assign36_at a' l W h).mono fun e w' h => lisP_of s3 s1 h)
      have HVF := Aside0.mk (vf_of hE h6 hw)
      have HOW := Aside0.mk (fun n a' W h => own21_at a' l n W h)
      have HMS := Aside0.mk (fun n a' W h => masked27_at a' l n W h)
      clear v1 v2 s1 s2 s3 hw hE
      generalize verdL l = V at *
      generalize asgL l = S at *
      go_wp2_with (fail)
      refine (HLG.out _ BW.out hf).mono ?_
      rintro e w2_ ⟨a1, rfl, hl, hb⟩
      have HL1 := Aside0.mk hl
      clear hl
      have BW := Aside0.mk (step_b BW.out HN.out hb)
      clear b0 b1 b2 b3 b4
      obtain ⟨b0, b1, b2, b3, b4⟩ := HCE.out _ BW.out
      clear hb
      go_wp2_with (fail)
      refine (HVD.out a1 _ HL1.out).mono ?_
      rintro e w3_ ⟨A, c, rfl, hlc, hC, hb⟩
      have HLCV := Aside0.mk hlc
      have HCV := Aside0.mk hC
      clear hlc hC
      have BW := Aside0.mk (step_b BW.out HN.out hb)
      clear b0 b1 b2 b3 b4
      obtain ⟨b0, b1, b2, b3, b4⟩ := HCE.out _ BW.out
      clear hb
      go_wp2_with (fail)
      refine (HLG.out _ BW.out hf).mono ?_
      rintro e w4_ ⟨a2, rfl, hl, hb⟩
      have HL2 := Aside0.mk hl
      clear hl
      have BW := Aside0.mk (step_b BW.out HN.out hb)
      have HCV := Aside0.mk (Kd.C_below HCV.out hb)
      clear b0 b1 b2 b3 b4
      obtain ⟨b0, b1, b2, b3, b4⟩ := HCE.out _ BW.out
      clear hb
      go_wp2_with (fail)
      refine (HAS.out a2 _ HL2.out).mono ?_
      rintro e w5_ ⟨B, d, rfl, hlc, hC, hb⟩
      have HLCS := Aside0.mk hlc
      have HCS := Aside0.mk hC
      clear hlc hC
      have BW := Aside0.mk (step_b BW.out HN.out hb)
      have HCV := Aside0.mk (Kd.C_below HCV.out hb)
      clear b0 b1 b2 b3 b4
      obtain ⟨b0, b1, b2, b3, b4⟩ := HCE.out _ BW.out
      clear hb
      go_wp2
      clear b0 b1 b2 b3 b4
      go_loopg [7] l.rc.length (fun gg v7 wr => ∃ i : Nat, i ≤ l.rc.length ∧ l.rc.length - i ≤ gg ∧ v7 = .int .i64 i ∧ Aside0 (Below (w.heap.size + 1) (w.alloc (logD ⟨A0, A2, A3, A4, c0, c2, c3, c4⟩ l)) wr) ∧ Aside0 (Kd.C (Kd.int .i64) wr A l.rc.length V) ∧ Aside0 (Kd.C (Kd.int .i64) wr B l.rc.length S))
      case atStart => exact ⟨0, by omega, by omega, by go_num, BW, HCV, HCS⟩
      case round =>
        clear BW HCV HCS HL1 HL2
        obtain ⟨i, hi, hg, rfl, BW, HCV, HCS⟩ := hrel
        obtain ⟨b0, b1, b2, b3, b4⟩ := HCE.out _ BW.out
        by_cases hlt : i < l.rc.length
        · have hltz : (i : Int) < (l.rc.length : Int) := by omega
          obtain ⟨vask, vval, vm, vo, vn, vf, vt⟩ := HVF.out i hlt
          obtain ⟨ax, e1, _⟩ := Kd.at_int HCV.out (i : Int) (by omega) hltz
          cases e1
          obtain ⟨ay, e1, _⟩ := Kd.at_int HCS.out (i : Int) (by omega) hltz
          cases e1
          have HOW1 := Aside0.mk (fun a' W (h : LogAt W a' l) => (HOW.out (i : Int) a' W h).mono fun e w' h => lisP_of rfl vask h)
          have HMS1 := Aside0.mk (fun a' W (h : LogAt W a' l) => HMS.out (i : Int) a' W h)
          have HXV := Aside0.mk (fun W (h : Kd.C (Kd.int .i64) W (some ax) l.rc.length V) => (Kd.at_int h (i : Int) (by omega) hltz))
          have HXS := Aside0.mk (fun W (h : Kd.C (Kd.int .i64) W (some ay) l.rc.length S) => (Kd.at_int h (i : Int) (by omega) hltz))
          simp only [Int.toNat_natCast] at HXV HXS
          generalize rd V (i : Int) = v at *
          generalize rd S (i : Int) = s at *
          generalize ownL l (i : Int) = O at *
          generalize mskE l (i : Int) = m at *
          generalize mskL l (i : Int) = ML at *
          clear vask
          have hcase : (O = [] ∧ v = 2 ∧ m = 0 ∧ s < 0) ∨ (O ≠ [] ∧ m = 7 ∧ v = 1 ∧ 0 ≤ s ∧ O.contains s = true) ∨ (O ≠ [] ∧ m = 0 ∧ (v = 2 ∨ v = 3) ∧ s < 0) ∨ (O ≠ [] ∧ m = 0 ∧ (v = 1 ∨ v = 3) ∧ 0 ≤ s ∧ O.contains s = true) := by
            by_cases hO : O = []
            · have h2 := vo hO
              refine .inl ⟨hO, h2, by rcases vm with h | h; exact h; have := vn h; omega, ?_⟩
              rcases Int.lt_or_le s 0 with h | h; exact h; exact absurd h2 (vt h).1
            · rcases Int.lt_or_le s 0 with h | h
              · have := vf h; exact .inr (.inr (.inl ⟨hO, this.2, by omega, h⟩))
              · have h3 := vt h
                rcases vm with h4 | h4
                · exact .inr (.inr (.inr ⟨hO, h4, by omega, h, h3.2⟩))
                · exact .inr (.inl ⟨hO, h4, vn h4, h, h3.2⟩)
          clear vval vm vo vn vf vt
          rcases hcase with ⟨h1, rfl, rfl, h4⟩ | ⟨h1, rfl, rfl, h4, h5⟩ | ⟨h1, rfl, h3, h4⟩ | ⟨h1, rfl, h3, h4, h5⟩
          · skip
            have z1 : ((O.length : Int) == 0) = true := by rw [h1]; rfl
            have y1 : decide (s < 0) = true := decide_eq_true h4
            have y2 := eq_true h4
            have y3 : decide (0 ≤ s) = false := decide_eq_false (by omega)
            have y4 := eq_false (show ¬ 0 ≤ s by omega)
            clear h1 h4
            go_wp2_with (fail)
            refine (HLG.out _ BW.out hf).mono ?_
            rintro e w6_ ⟨a3, rfl, hl, hb⟩
            have HL3 := Aside0.mk hl
            clear hl
            have BW := Aside0.mk (step_b BW.out HN.out hb)
            have HCV := Aside0.mk (Kd.C_below HCV.out hb)
            have HCS := Aside0.mk (Kd.C_below HCS.out hb)
            clear b0 b1 b2 b3 b4
            obtain ⟨b0, b1, b2, b3, b4⟩ := HCE.out _ BW.out
            clear hb
            go_wp2_with (fail)
            refine (HOW1.out a3 _ HL3.out).mono ?_
            rintro e w7_ ⟨A5, c5, rfl, hlc, hC, hb⟩
            have HLCO := Aside0.mk hlc
            have HCO := Aside0.mk hC
            clear hlc hC
            have BW := Aside0.mk (step_b BW.out HN.out hb)
            have HCV := Aside0.mk (Kd.C_below HCV.out hb)
            have HCS := Aside0.mk (Kd.C_below HCS.out hb)
            clear b0 b1 b2 b3 b4
            obtain ⟨b0, b1, b2, b3, b4⟩ := HCE.out _ BW.out
            clear hb
            go_wp2_with (fail)
            refine (HLG.out _ BW.out hf).mono ?_
            rintro e w8_ ⟨a4, rfl, hl, hb⟩
            have HL4 := Aside0.mk hl
            clear hl
            have BW := Aside0.mk (step_b BW.out HN.out hb)
            have HCV := Aside0.mk (Kd.C_below HCV.out hb)
            have HCS := Aside0.mk (Kd.C_below HCS.out hb)
            have HCO := Aside0.mk (Kd.C_below HCO.out hb)
            clear b0 b1 b2 b3 b4
            obtain ⟨b0, b1, b2, b3, b4⟩ := HCE.out _ BW.out
            clear hb
            go_wp2_with (fail)
            refine (HMS1.out a4 _ HL4.out).mono ?_
            rintro e w9_ ⟨A6, c6, rfl, hlc, hC, hb⟩
            clear hlc hC
            have BW := Aside0.mk (step_b BW.out HN.out hb)
            have HCV := Aside0.mk (Kd.C_below HCV.out hb)
            have HCS := Aside0.mk (Kd.C_below HCS.out hb)
            have HCO := Aside0.mk (Kd.C_below HCO.out hb)
            clear b0 b1 b2 b3 b4
            obtain ⟨b0, b1, b2, b3, b4⟩ := HCE.out _ BW.out
            clear hb
            obtain ⟨_, e1, cx⟩ := HXV.out _ HCV.out
            cases e1
            obtain ⟨_, e1, cy⟩ := HXS.out _ HCS.out
            cases e1
            try rw [Int.toNat_natCast] at cx
            try rw [Int.toNat_natCast] at cy
            go_wp2
            go_roundg (l.rc.length - (i + 1))
            case measure => omega
            case rel => exact ⟨i + 1, by omega, by omega, by go_num, BW, HCV, HCS⟩
          · skip
            have z1 : ((O.length : Int) == 0) = false := by have := List.length_pos_iff.2 h1; rw [beq_eq_false_iff_ne]; omega
            have y1 : decide (s < 0) = false := decide_eq_false (by omega)
            have y2 := eq_false (show ¬ s < 0 by omega)
            have y3 : decide (0 ≤ s) = true := decide_eq_true h4
            have y4 := eq_true h4
            have HHS : Aside0 (∀ (A5 : Option Addr) (c5 : Nat) W, Kd.C (Kd.int .i64) W A5 O.length O → O.length ≤ c5 → Calls Tryz.prog 37 #[.slice A5 O.length c5, .int .i64 s] W fun e w' => e = .returned (.bool true) ∧ Below W.heap.size W w') := ⟨fun A5 c5 W h hc => by have := has37_any A5 c5 O s W h hc; rwa [h5] at this⟩
            clear h5
            clear h1 h4
            go_wp2_with (fail)
            refine (HLG.out _ BW.out hf).mono ?_
            rintro e w6_ ⟨a3, rfl, hl, hb⟩
            have HL3 := Aside0.mk hl
            clear hl
            have BW := Aside0.mk (step_b BW.out HN.out hb)
            have HCV := Aside0.mk (Kd.C_below HCV.out hb)
            have HCS := Aside0.mk (Kd.C_below HCS.out hb)
            clear b0 b1 b2 b3 b4
            obtain ⟨b0, b1, b2, b3, b4⟩ := HCE.out _ BW.out
            clear hb
            go_wp2_with (fail)
            refine (HOW1.out a3 _ HL3.out).mono ?_
            rintro e w7_ ⟨A5, c5, rfl, hlc, hC, hb⟩
            have HLCO := Aside0.mk hlc
            have HCO := Aside0.mk hC
            clear hlc hC
            have BW := Aside0.mk (step_b BW.out HN.out hb)
            have HCV := Aside0.mk (Kd.C_below HCV.out hb)
            have HCS := Aside0.mk (Kd.C_below HCS.out hb)
            clear b0 b1 b2 b3 b4
            obtain ⟨b0, b1, b2, b3, b4⟩ := HCE.out _ BW.out
            clear hb
            go_wp2_with (fail)
            refine (HLG.out _ BW.out hf).mono ?_
            rintro e w8_ ⟨a4, rfl, hl, hb⟩
            have HL4 := Aside0.mk hl
            clear hl
            have BW := Aside0.mk (step_b BW.out HN.out hb)
            have HCV := Aside0.mk (Kd.C_below HCV.out hb)
            have HCS := Aside0.mk (Kd.C_below HCS.out hb)
            have HCO := Aside0.mk (Kd.C_below HCO.out hb)
            clear b0 b1 b2 b3 b4
            obtain ⟨b0, b1, b2, b3, b4⟩ := HCE.out _ BW.out
            clear hb
            go_wp2_with (fail)
            refine (HMS1.out a4 _ HL4.out).mono ?_
            rintro e w9_ ⟨A6, c6, rfl, hlc, hC, hb⟩
            clear hlc hC
            have BW := Aside0.mk (step_b BW.out HN.out hb)
            have HCV := Aside0.mk (Kd.C_below HCV.out hb)
            have HCS := Aside0.mk (Kd.C_below HCS.out hb)
            have HCO := Aside0.mk (Kd.C_below HCO.out hb)
            clear b0 b1 b2 b3 b4
            obtain ⟨b0, b1, b2, b3, b4⟩ := HCE.out _ BW.out
            clear hb
            obtain ⟨_, e1, cx⟩ := HXV.out _ HCV.out
            cases e1
            obtain ⟨_, e1, cy⟩ := HXS.out _ HCS.out
            cases e1
            try rw [Int.toNat_natCast] at cx
            try rw [Int.toNat_natCast] at cy
            go_wp2_with (fail)
            refine (HHS.out _ _ _ HCO.out HLCO.out).mono ?_
            rintro e w10_ ⟨rfl, hb⟩
            have BW := Aside0.mk (step_b BW.out HN.out hb)
            have HCV := Aside0.mk (Kd.C_below HCV.out hb)
            have HCS := Aside0.mk (Kd.C_below HCS.out hb)
            have HCO := Aside0.mk (Kd.C_below HCO.out hb)
            clear b0 b1 b2 b3 b4
            obtain ⟨b0, b1, b2, b3, b4⟩ := HCE.out _ BW.out
            clear hb
            clear cx cy
            go_wp2
            go_roundg (l.rc.length - (i + 1))
            case measure => omega
            case rel => exact ⟨i + 1, by omega, by omega, by go_num, BW, HCV, HCS⟩
          · skip
            have z1 : ((O.length : Int) == 0) = false := by have := List.length_pos_iff.2 h1; rw [beq_eq_false_iff_ne]; omega
            have y1 : decide (s < 0) = true := decide_eq_true h4
            have y2 := eq_true h4
            have y3 : decide (0 ≤ s) = false := decide_eq_false (by omega)
            have y4 := eq_false (show ¬ 0 ≤ s by omega)
            clear h1 h4
            rcases h3 with rfl | rfl
            · skip
              go_wp2_with (fail)
              refine (HLG.out _ BW.out hf).mono ?_
              rintro e w6_ ⟨a3, rfl, hl, hb⟩
              have HL3 := Aside0.mk hl
              clear hl
              have BW := Aside0.mk (step_b BW.out HN.out hb)
              have HCV := Aside0.mk (Kd.C_below HCV.out hb)
              have HCS := Aside0.mk (Kd.C_below HCS.out hb)
              clear b0 b1 b2 b3 b4
              obtain ⟨b0, b1, b2, b3, b4⟩ := HCE.out _ BW.out
              clear hb
              go_wp2_with (fail)
              refine (HOW1.out a3 _ HL3.out).mono ?_
              rintro e w7_ ⟨A5, c5, rfl, hlc, hC, hb⟩
              have HLCO := Aside0.mk hlc
              have HCO := Aside0.mk hC
              clear hlc hC
              have BW := Aside0.mk (step_b BW.out HN.out hb)
              have HCV := Aside0.mk (Kd.C_below HCV.out hb)
              have HCS := Aside0.mk (Kd.C_below HCS.out hb)
              clear b0 b1 b2 b3 b4
              obtain ⟨b0, b1, b2, b3, b4⟩ := HCE.out _ BW.out
              clear hb
              go_wp2_with (fail)
              refine (HLG.out _ BW.out hf).mono ?_
              rintro e w8_ ⟨a4, rfl, hl, hb⟩
              have HL4 := Aside0.mk hl
              clear hl
              have BW := Aside0.mk (step_b BW.out HN.out hb)
              have HCV := Aside0.mk (Kd.C_below HCV.out hb)
              have HCS := Aside0.mk (Kd.C_below HCS.out hb)
              have HCO := Aside0.mk (Kd.C_below HCO.out hb)
              clear b0 b1 b2 b3 b4
              obtain ⟨b0, b1, b2, b3, b4⟩ := HCE.out _ BW.out
              clear hb
              go_wp2_with (fail)
              refine (HMS1.out a4 _ HL4.out).mono ?_
              rintro e w9_ ⟨A6, c6, rfl, hlc, hC, hb⟩
              clear hlc hC
              have BW := Aside0.mk (step_b BW.out HN.out hb)
              have HCV := Aside0.mk (Kd.C_below HCV.out hb)
              have HCS := Aside0.mk (Kd.C_below HCS.out hb)
              have HCO := Aside0.mk (Kd.C_below HCO.out hb)
              clear b0 b1 b2 b3 b4
              obtain ⟨b0, b1, b2, b3, b4⟩ := HCE.out _ BW.out
              clear hb
              obtain ⟨_, e1, cx⟩ := HXV.out _ HCV.out
              cases e1
              obtain ⟨_, e1, cy⟩ := HXS.out _ HCS.out
              cases e1
              try rw [Int.toNat_natCast] at cx
              try rw [Int.toNat_natCast] at cy
              go_wp2
              go_roundg (l.rc.length - (i + 1))
              case measure => omega
              case rel => exact ⟨i + 1, by omega, by omega, by go_num, BW, HCV, HCS⟩
            · skip
              go_wp2_with (fail)
              refine (HLG.out _ BW.out hf).mono ?_
              rintro e w6_ ⟨a3, rfl, hl, hb⟩
              have HL3 := Aside0.mk hl
              clear hl
              have BW := Aside0.mk (step_b BW.out HN.out hb)
              have HCV := Aside0.mk (Kd.C_below HCV.out hb)
              have HCS := Aside0.mk (Kd.C_below HCS.out hb)
              clear b0 b1 b2 b3 b4
              obtain ⟨b0, b1, b2, b3, b4⟩ := HCE.out _ BW.out
              clear hb
              go_wp2_with (fail)
              refine (HOW1.out a3 _ HL3.out).mono ?_
              rintro e w7_ ⟨A5, c5, rfl, hlc, hC, hb⟩
              have HLCO := Aside0.mk hlc
              have HCO := Aside0.mk hC
              clear hlc hC
              have BW := Aside0.mk (step_b BW.out HN.out hb)
              have HCV := Aside0.mk (Kd.C_below HCV.out hb)
              have HCS := Aside0.mk (Kd.C_below HCS.out hb)
              clear b0 b1 b2 b3 b4
              obtain ⟨b0, b1, b2, b3, b4⟩ := HCE.out _ BW.out
              clear hb
              go_wp2_with (fail)
              refine (HLG.out _ BW.out hf).mono ?_
              rintro e w8_ ⟨a4, rfl, hl, hb⟩
              have HL4 := Aside0.mk hl
              clear hl
              have BW := Aside0.mk (step_b BW.out HN.out hb)
              have HCV := Aside0.mk (Kd.C_below HCV.out hb)
              have HCS := Aside0.mk (Kd.C_below HCS.out hb)
              have HCO := Aside0.mk (Kd.C_below HCO.out hb)
              clear b0 b1 b2 b3 b4
              obtain ⟨b0, b1, b2, b3, b4⟩ := HCE.out _ BW.out
              clear hb
              go_wp2_with (fail)
              refine (HMS1.out a4 _ HL4.out).mono ?_
              rintro e w9_ ⟨A6, c6, rfl, hlc, hC, hb⟩
              clear hlc hC
              have BW := Aside0.mk (step_b BW.out HN.out hb)
              have HCV := Aside0.mk (Kd.C_below HCV.out hb)
              have HCS := Aside0.mk (Kd.C_below HCS.out hb)
              have HCO := Aside0.mk (Kd.C_below HCO.out hb)
              clear b0 b1 b2 b3 b4
              obtain ⟨b0, b1, b2, b3, b4⟩ := HCE.out _ BW.out
              clear hb
              obtain ⟨_, e1, cx⟩ := HXV.out _ HCV.out
              cases e1
              obtain ⟨_, e1, cy⟩ := HXS.out _ HCS.out
              cases e1
              try rw [Int.toNat_natCast] at cx
              try rw [Int.toNat_natCast] at cy
              go_wp2
              go_roundg (l.rc.length - (i + 1))
              case measure => omega
              case rel => exact ⟨i + 1, by omega, by omega, by go_num, BW, HCV, HCS⟩
          · skip
            have z1 : ((O.length : Int) == 0) = false := by have := List.length_pos_iff.2 h1; rw [beq_eq_false_iff_ne]; omega
            have y1 : decide (s < 0) = false := decide_eq_false (by omega)
            have y2 := eq_false (show ¬ s < 0 by omega)
            have y3 : decide (0 ≤ s) = true := decide_eq_true h4
            have y4 := eq_true h4
            have HHS : Aside0 (∀ (A5 : Option Addr) (c5 : Nat) W, Kd.C (Kd.int .i64) W A5 O.length O → O.length ≤ c5 → Calls Tryz.prog 37 #[.slice A5 O.length c5, .int .i64 s] W fun e w' => e = .returned (.bool true) ∧ Below W.heap.size W w') := ⟨fun A5 c5 W h hc => by have := has37_any A5 c5 O s W h hc; rwa [h5] at this⟩
            clear h5
            clear h1 h4
            rcases h3 with rfl | rfl
            · skip
              go_wp2_with (fail)
              refine (HLG.out _ BW.out hf).mono ?_
              rintro e w6_ ⟨a3, rfl, hl, hb⟩
              have HL3 := Aside0.mk hl
              clear hl
              have BW := Aside0.mk (step_b BW.out HN.out hb)
              have HCV := Aside0.mk (Kd.C_below HCV.out hb)
              have HCS := Aside0.mk (Kd.C_below HCS.out hb)
              clear b0 b1 b2 b3 b4
              obtain ⟨b0, b1, b2, b3, b4⟩ := HCE.out _ BW.out
              clear hb
              go_wp2_with (fail)
              refine (HOW1.out a3 _ HL3.out).mono ?_
              rintro e w7_ ⟨A5, c5, rfl, hlc, hC, hb⟩
              have HLCO := Aside0.mk hlc
              have HCO := Aside0.mk hC
              clear hlc hC
              have BW := Aside0.mk (step_b BW.out HN.out hb)
              have HCV := Aside0.mk (Kd.C_below HCV.out hb)
              have HCS := Aside0.mk (Kd.C_below HCS.out hb)
              clear b0 b1 b2 b3 b4
              obtain ⟨b0, b1, b2, b3, b4⟩ := HCE.out _ BW.out
              clear hb
              go_wp2_with (fail)
              refine (HLG.out _ BW.out hf).mono ?_
              rintro e w8_ ⟨a4, rfl, hl, hb⟩
              have HL4 := Aside0.mk hl
              clear hl
              have BW := Aside0.mk (step_b BW.out HN.out hb)
              have HCV := Aside0.mk (Kd.C_below HCV.out hb)
              have HCS := Aside0.mk (Kd.C_below HCS.out hb)
              have HCO := Aside0.mk (Kd.C_below HCO.out hb)
              clear b0 b1 b2 b3 b4
              obtain ⟨b0, b1, b2, b3, b4⟩ := HCE.out _ BW.out
              clear hb
              go_wp2_with (fail)
              refine (HMS1.out a4 _ HL4.out).mono ?_
              rintro e w9_ ⟨A6, c6, rfl, hlc, hC, hb⟩
              clear hlc hC
              have BW := Aside0.mk (step_b BW.out HN.out hb)
              have HCV := Aside0.mk (Kd.C_below HCV.out hb)
              have HCS := Aside0.mk (Kd.C_below HCS.out hb)
              have HCO := Aside0.mk (Kd.C_below HCO.out hb)
              clear b0 b1 b2 b3 b4
              obtain ⟨b0, b1, b2, b3, b4⟩ := HCE.out _ BW.out
              clear hb
              obtain ⟨_, e1, cx⟩ := HXV.out _ HCV.out
              cases e1
              obtain ⟨_, e1, cy⟩ := HXS.out _ HCS.out
              cases e1
              try rw [Int.toNat_natCast] at cx
              try rw [Int.toNat_natCast] at cy
              go_wp2_with (fail)
              refine (HHS.out _ _ _ HCO.out HLCO.out).mono ?_
              rintro e w10_ ⟨rfl, hb⟩
              have BW := Aside0.mk (step_b BW.out HN.out hb)
              have HCV := Aside0.mk (Kd.C_below HCV.out hb)
              have HCS := Aside0.mk (Kd.C_below HCS.out hb)
              have HCO := Aside0.mk (Kd.C_below HCO.out hb)
              clear b0 b1 b2 b3 b4
              obtain ⟨b0, b1, b2, b3, b4⟩ := HCE.out _ BW.out
              clear hb
              clear cx cy
              go_wp2
              go_roundg (l.rc.length - (i + 1))
              case measure => omega
              case rel => exact ⟨i + 1, by omega, by omega, by go_num, BW, HCV, HCS⟩
            · skip
              go_wp2_with (fail)
              refine (HLG.out _ BW.out hf).mono ?_
              rintro e w6_ ⟨a3, rfl, hl, hb⟩
              have HL3 := Aside0.mk hl
              clear hl
              have BW := Aside0.mk (step_b BW.out HN.out hb)
              have HCV := Aside0.mk (Kd.C_below HCV.out hb)
              have HCS := Aside0.mk (Kd.C_below HCS.out hb)
              clear b0 b1 b2 b3 b4
              obtain ⟨b0, b1, b2, b3, b4⟩ := HCE.out _ BW.out
              clear hb
              go_wp2_with (fail)
              refine (HOW1.out a3 _ HL3.out).mono ?_
              rintro e w7_ ⟨A5, c5, rfl, hlc, hC, hb⟩
              have HLCO := Aside0.mk hlc
              have HCO := Aside0.mk hC
              clear hlc hC
              have BW := Aside0.mk (step_b BW.out HN.out hb)
              have HCV := Aside0.mk (Kd.C_below HCV.out hb)
              have HCS := Aside0.mk (Kd.C_below HCS.out hb)
              clear b0 b1 b2 b3 b4
              obtain ⟨b0, b1, b2, b3, b4⟩ := HCE.out _ BW.out
              clear hb
              go_wp2_with (fail)
              refine (HLG.out _ BW.out hf).mono ?_
              rintro e w8_ ⟨a4, rfl, hl, hb⟩
              have HL4 := Aside0.mk hl
              clear hl
              have BW := Aside0.mk (step_b BW.out HN.out hb)
              have HCV := Aside0.mk (Kd.C_below HCV.out hb)
              have HCS := Aside0.mk (Kd.C_below HCS.out hb)
              have HCO := Aside0.mk (Kd.C_below HCO.out hb)
              clear b0 b1 b2 b3 b4
              obtain ⟨b0, b1, b2, b3, b4⟩ := HCE.out _ BW.out
              clear hb
              go_wp2_with (fail)
              refine (HMS1.out a4 _ HL4.out).mono ?_
              rintro e w9_ ⟨A6, c6, rfl, hlc, hC, hb⟩
              clear hlc hC
              have BW := Aside0.mk (step_b BW.out HN.out hb)
              have HCV := Aside0.mk (Kd.C_below HCV.out hb)
              have HCS := Aside0.mk (Kd.C_below HCS.out hb)
              have HCO := Aside0.mk (Kd.C_below HCO.out hb)
              clear b0 b1 b2 b3 b4
              obtain ⟨b0, b1, b2, b3, b4⟩ := HCE.out _ BW.out
              clear hb
              obtain ⟨_, e1, cx⟩ := HXV.out _ HCV.out
              cases e1
              obtain ⟨_, e1, cy⟩ := HXS.out _ HCS.out
              cases e1
              try rw [Int.toNat_natCast] at cx
              try rw [Int.toNat_natCast] at cy
              go_wp2_with (fail)
              refine (HHS.out _ _ _ HCO.out HLCO.out).mono ?_
              rintro e w10_ ⟨rfl, hb⟩
              have BW := Aside0.mk (step_b BW.out HN.out hb)
              have HCV := Aside0.mk (Kd.C_below HCV.out hb)
              have HCS := Aside0.mk (Kd.C_below HCS.out hb)
              have HCO := Aside0.mk (Kd.C_below HCO.out hb)
              clear b0 b1 b2 b3 b4
              obtain ⟨b0, b1, b2, b3, b4⟩ := HCE.out _ BW.out
              clear hb
              clear cx cy
              go_wp2
              go_roundg (l.rc.length - (i + 1))
              case measure => omega
              case rel => exact ⟨i + 1, by omega, by omega, by go_num, BW, HCV, HCS⟩
        · have hi2 : i = l.rc.length := by omega
          subst hi2
          have hltz : ¬ (l.rc.length : Int) < (l.rc.length : Int) := by omega
          go_wp2_with (fail)
          refine (HAW.out _).mono ?_
          rintro e w21_ ⟨rfl, hb⟩
          have BW := Aside0.mk (step_b BW.out HN.out hb)
          clear b0 b1 b2 b3 b4
          obtain ⟨b0, b1, b2, b3, b4⟩ := HCE.out _ BW.out
          clear hb
          go_wp2
          go_ret
          exact ⟨rfl, HTW.out _ BW.out⟩
    · obtain ⟨v1, v2, s1, s2⟩ := verd_none hE h6 hw
      have HVD := Aside0.mk (fun a' W (h : LogAt W a' l) => (verdicts35_at a' l W h).mono fun e w' h => lisP_of (n := 0) (by rw [v2]; rfl) v1 h)
      have HAS := Aside0.mk (fun a' W (h : LogAt W a' l) => (assign36_at a' l W h).mono fun e w' h => lisP_of (n := 0) (by rw [s2]; rfl) s1 h)
      clear v1 v2 s1 s2 hw hE
      go_wp2_with (fail)
      refine (HLG.out _ BW.out hf).mono ?_
      rintro e w2_ ⟨a1, rfl, hl, hb⟩
      have HL1 := Aside0.mk hl
      clear hl
      have BW := Aside0.mk (step_b BW.out HN.out hb)
      clear b0 b1 b2 b3 b4
      obtain ⟨b0, b1, b2, b3, b4⟩ := HCE.out _ BW.out
      clear hb
      go_wp2_with (fail)
      refine (HVD.out a1 _ HL1.out).mono ?_
      rintro e w3_ ⟨A, c, rfl, hlc, hC, hb⟩
      clear hlc hC
      have BW := Aside0.mk (step_b BW.out HN.out hb)
      clear b0 b1 b2 b3 b4
      obtain ⟨b0, b1, b2, b3, b4⟩ := HCE.out _ BW.out
      clear hb
      go_wp2_with (fail)
      refine (HLG.out _ BW.out hf).mono ?_
      rintro e w4_ ⟨a2, rfl, hl, hb⟩
      have HL2 := Aside0.mk hl
      clear hl
      have BW := Aside0.mk (step_b BW.out HN.out hb)
      clear b0 b1 b2 b3 b4
      obtain ⟨b0, b1, b2, b3, b4⟩ := HCE.out _ BW.out
      clear hb
      go_wp2_with (fail)
      refine (HAS.out a2 _ HL2.out).mono ?_
      rintro e w5_ ⟨B, d, rfl, hlc, hC, hb⟩
      clear hlc hC
      have BW := Aside0.mk (step_b BW.out HN.out hb)
      clear b0 b1 b2 b3 b4
      obtain ⟨b0, b1, b2, b3, b4⟩ := HCE.out _ BW.out
      clear hb
      go_wp2_with (fail)
      refine (HAW.out _).mono ?_
      rintro e w6_ ⟨rfl, hb⟩
      have BW := Aside0.mk (step_b BW.out HN.out hb)
      clear b0 b1 b2 b3 b4
      obtain ⟨b0, b1, b2, b3, b4⟩ := HCE.out _ BW.out
      clear hb
      go_wp2
      go_ret
      exact ⟨rfl, HTW.out _ BW.out⟩
end Go.Proofs.YthgfhgjlilmieaaGreat.G
