/- texts of this claim, merged by a program of this session out of its own texts and the print's words -/
import Derived.Deep.RegionHeld3
import Derived.Laws.BitsLemmas
import Derived.OrdersHeld
import Derived.RowKit
import Derived.Test.YthgfhgjlilmieaaGreatKA0
import Derived.Test.YthgfhgjlilmieaaGreatKA1
import Derived.Test.YthgfhgjlilmieaaGreatKA2
import Derived.Test.YthgfhgjlilmieaaGreatKA3
import Derived.Test.YthgfhgjlilmieaaGreatKA4
namespace Go.Proofs.YthgfhgjlilmieaaGreatW.PrintLast
section
variable {P : Program} {ops : Array Oper} {Q : Exit → Act → World → Prop} {md : Region.Mode} {S : World → Prop} {ds : List Nat}
end
section
variable {P : Program} {ops : Array Oper} {Q : Exit → Act → World → Prop} {md : Region.Mode} {S : World → Prop} {ds : List Nat}
theorem goesL_ {rest : List Oper} {oi : Oper} {a : Act} {w : World} (N : Option Tmp) (hd : oi.dst = N) (hg : oi.guard = none) {f : FuncId} {fn : Func} {ars : Array Operand} {ts : Array TypeId} (hf : P.funcs[f]? = some fn) (hname : (fn.name == "runtime.NumGoroutine") = false) (hb : fn.body.isSome = true) (args : Array Value)
    (hop : oi.op = .call { callee := .value (.func f), args := ars, argTypes := ts }) (hargs : ars.map a.eval = args)
    (h : Calls P f args w fun e w' => ∃ v, e = .returned v ∧ wpList P ops Q rest (a.put N v) w') : wpList P ops Q (oi :: rest) a w := by
  refine wpList_plain hg fun K hK => ?_
  have he := enters_ hf hname hb args w
  have hrun : (execOp a.eval oi).run P w = .ok (.enter f args) w := by
    unfold execOp
    simp [hop, resolve, Deferred.ofValue, invoke, Act.eval, hargs, he]
  unfold Oper.wp
  rw [hrun, Oper.upon_enter]
  refine h.mono fun e w'' hh => ?_
  obtain ⟨v, rfl, hk⟩ := hh
  subst hd
  exact hK _ _ hk
end
end Go.Proofs.YthgfhgjlilmieaaGreatW.PrintLast
namespace Go.Proofs.YthgfhgjlilmieaaGreatW.PrintMore
open Go.RowKit Go.Proofs.YthgfhgjlilmieaaGreatW.PrintWords
namespace Kd
open Go.Proofs.YthgfhgjlilmieaaGreatW.PrintWords.Kd
end Kd
namespace Kd
open Go.Proofs.YthgfhgjlilmieaaGreatW.PrintWords.Kd
section
variable {α : Type} {d : Kd α} {e base g N : Nat} {ok : Nat → Prop} {W w1 : World} {u v : Value} {xs : List α}
end
end Kd
end Go.Proofs.YthgfhgjlilmieaaGreatW.PrintMore
namespace Go.Proofs.YthgfhgjlilmieaaGreatW.PrintWords
open Go.RowKit
section
variable {P : Program} {ops : Array Oper} {rest : List Oper} {o : Oper} {a : Act} {Q : Exit → Act → World → Prop} {W : World}
theorem gate_callee {f : FuncId} {ars : Array Operand} {ts : Array TypeId} (_ho : o.op = .call { callee := .value (.func f), args := ars, argTypes := ts }) (h : wpList P ops Q (o :: rest) a W) : wpList P ops Q (o :: rest) a W := h
end
namespace Kd
section
variable {α : Type} {d : Kd α} {e base : Nat} {ok : Nat → Prop} {W w1 : World} {v : Value} {xs : List α}
end
section
variable {α : Type} {d : Kd α} {e base g n cap : Nat} {ok oki okp : Nat → Prop} {W : World} {xs : List α} {i : Int} {c : List Value}
end
section
variable {α : Type} {d : Kd α} {e base b b' g N : Nat} {ok ok1 : Nat → Prop} {W W2 w1 : World} {u v : Value} {xs ys : List α} {S : Nat → Prop}
end
end Kd
end Go.Proofs.YthgfhgjlilmieaaGreatW.PrintWords
namespace Go.Proofs.YthgfhgjlilmieaaGreatW.PrintWords
open Go.RowKit
namespace Kd
section
variable {α β : Type} {d : Kd α} {e base base' n m c g N' lo hi : Nat} {ok ok' S : Nat → Prop} {w W w1 : World} {A : Option Addr} {ad : Addr} {u v v1 : Value} {xs : List α}
end
end Kd
end Go.Proofs.YthgfhgjlilmieaaGreatW.PrintWords
namespace Go.Proofs.YthgfhgjlilmieaaGreat.G
open Go.RowKit Go.Shelf Go.Proofs.YthgfhgjlilmieaaGreatW.PrintWords Go.Proofs.YthgfhgjlilmieaaGreatW.PrintLast Go.Proofs.YthgfhgjlilmieaaGreatW.PrintMore
open Go.Proofs.YthgfhgjlilmieaaGreat.B
set_option linter.unusedVariables false
set_option linter.unusedSimpArgs false
theorem uC_set (u : List Bool) (k : Nat) (hk : k < 8) (hu : u.length = 8) (i : Nat) : (u.set k true).getD i false = if k = i then true else u.getD i false := by
  simp only [List.getD_eq_getElem?_getD, List.getElem?_set]
  by_cases e : k = i
  · subst e
    rw [if_pos rfl, if_pos (by omega), if_pos rfl]; rfl
  · rw [if_neg e, if_neg e]
end Go.Proofs.YthgfhgjlilmieaaGreat.G
namespace Go.Proofs.YthgfhgjlilmieaaGreat.G
open Go.RowKit Go.Shelf Go.Proofs.YthgfhgjlilmieaaGreatW.PrintWords Go.Proofs.YthgfhgjlilmieaaGreatW.PrintLast Go.Proofs.YthgfhgjlilmieaaGreatW.PrintMore
open Go.Proofs.YthgfhgjlilmieaaGreat.B
set_option linter.unusedVariables false
set_option linter.unusedSimpArgs false
theorem mem_esK (l : Lg) (n : Nat) (r b : Int) : (r, b) ∈ esK l n ↔ ∃ k : Nat, k < n ∧ r = k ∧ (b ∈ statL l (rd_T75 l.rc k) ∨ b ∈ falL l (rd_T75 l.rc k)) := by
  simp only [esK, List.mem_flatMap, List.mem_range]
  constructor
  · rintro ⟨k, hk, hm⟩
    have e : esR l k 2 = (statL l (rd_T75 l.rc k)).map (fun y => ((k : Int), y)) ++ (falL l (rd_T75 l.rc k)).map (fun y => ((k : Int), y)) := by
      simp [esR, List.range_succ, srcL]
    rw [e, List.mem_append] at hm
    rcases hm with hm | hm
    · obtain ⟨y, hy, e⟩ := List.mem_map.1 hm
      cases e
      exact ⟨k, hk, rfl, .inl hy⟩
    · obtain ⟨y, hy, e⟩ := List.mem_map.1 hm
      cases e
      exact ⟨k, hk, rfl, .inr hy⟩
  · rintro ⟨k, hk, rfl, hb⟩
    refine ⟨k, hk, ?_⟩
    have e : esR l k 2 = (statL l (rd_T75 l.rc k)).map (fun y => ((k : Int), y)) ++ (falL l (rd_T75 l.rc k)).map (fun y => ((k : Int), y)) := by
      simp [esR, List.range_succ, srcL]
    rw [e, List.mem_append]
    rcases hb with hb | hb
    · exact .inl (List.mem_map.2 ⟨b, hb, rfl⟩)
    · exact .inr (List.mem_map.2 ⟨b, hb, rfl⟩)
end Go.Proofs.YthgfhgjlilmieaaGreat.G
namespace Go.Proofs.YthgfhgjlilmieaaGreat.G
open Go.RowKit Go.Shelf
set_option linter.unusedVariables false
set_option linter.unusedSimpArgs false
def outB (out : List Int) (r : Int) : Bool := out.any fun x => r == x
def IsW (ES : List (Int × Int)) (J R : Nat) (out : List Int) : Nat → List Bool → List Int → Prop
  | 0, _, bs => bs = []
  | n + 1, u, [] => False
  | n + 1, u, b :: bs => if outB out ((R : Int) - (n + 1)) = true then b = -2 ∧ IsW ES J R out n u bs
      else b ∈ bys J ∧ freeB ES u ((R : Int) - (n + 1)) b = true ∧ IsW ES J R out n (freeU ES u ((R : Int) - (n + 1)) b) bs
def fals (bs : List Int) : Int := (bs.countP (· == -1) : Nat)
theorem fals_cons (b : Int) (bs : List Int) : fals (b :: bs) = fals bs + if b = -1 then 1 else 0 := by
  by_cases h : b = -1 <;> simp [fals, List.countP_cons, h]
theorem fals_le (bs : List Int) : fals bs ≤ bs.length := by
  have := List.countP_le_length (p := (· == (-1 : Int))) (l := bs)
  simp only [fals]; omega
theorem fold_min (p : Int → Bool) (g : Int → Int) : ∀ (xs : List Int) (m : Int), (xs.foldl (fun m b => if p b = true then min m (g b) else m) m ≤ m) ∧ (∀ b, b ∈ xs → p b = true → xs.foldl (fun m b => if p b = true then min m (g b) else m) m ≤ g b) ∧ (xs.foldl (fun m b => if p b = true then min m (g b) else m) m = m ∨ ∃ b, b ∈ xs ∧ p b = true ∧ xs.foldl (fun m b => if p b = true then min m (g b) else m) m = g b)
  | [], m => ⟨by simp, by simp, .inl rfl⟩
  | x :: xs, m => by
    simp only [List.foldl_cons]
    obtain ⟨h1, h2, h3⟩ := fold_min p g xs (if p x = true then min m (g x) else m)
    refine ⟨?_, ?_, ?_⟩
    · by_cases hp : p x = true
      · rw [if_pos hp] at h1 ⊢; omega
      · rw [if_neg hp] at h1 ⊢; exact h1
    · intro b hb hp
      rcases List.mem_cons.1 hb with e | hb
      · subst e; rw [if_pos hp] at h1 ⊢; omega
      · exact h2 b hb hp
    · rcases h3 with h3 | ⟨b, hb, hp, h3⟩
      · by_cases hp : p x = true
        · rw [if_pos hp] at h3 ⊢
          rcases Int.le_total m (g x) with hm | hm
          · exact .inl (by rw [h3]; omega)
          · exact .inr ⟨x, by simp, hp, by rw [h3]; omega⟩
        · rw [if_neg hp] at h3 ⊢; exact .inl h3
      · exact .inr ⟨b, List.mem_cons_of_mem _ hb, hp, h3⟩
theorem least_succ (ES : List (Int × Int)) (J R : Nat) (out : List Int) (n : Nat) (u : List Bool) : leastN ES J R out (n + 1) u = if outB out ((R : Int) - (n + 1)) = true then leastN ES J R out n u else (bys J).foldl (fun m b => if freeB ES u ((R : Int) - (n + 1)) b = true then min m (leastN ES J R out n (freeU ES u ((R : Int) - (n + 1)) b) + if b = -1 then 1 else 0) else m) 1024 := rfl
theorem least_le (ES : List (Int × Int)) (J R : Nat) (out : List Int) : ∀ n u bs, IsW ES J R out n u bs → leastN ES J R out n u ≤ fals bs
  | 0, u, bs, h => by simp only [IsW] at h; subst h; simp [leastN, fals]
  | n + 1, u, [], h => by simp only [IsW] at h
  | n + 1, u, b :: bs, h => by
    simp only [IsW] at h
    rw [least_succ, fals_cons]
    by_cases ho : outB out ((R : Int) - (n + 1)) = true
    · rw [if_pos ho] at h
      rw [if_pos ho]
      have := least_le ES J R out n u bs h.2
      split <;> omega
    · rw [if_neg ho] at h
      rw [if_neg ho]
      have h1 := least_le ES J R out n _ bs h.2.2
      have h2 := (fold_min (freeB ES u ((R : Int) - (n + 1))) (fun b => leastN ES J R out n (freeU ES u ((R : Int) - (n + 1)) b) + if b = -1 then 1 else 0) (bys J) 1024).2.1 b h.1 h.2.1
      omega
theorem least_get (ES : List (Int × Int)) (J R : Nat) (out : List Int) : ∀ n u, leastN ES J R out n u < 1024 → ∃ bs, IsW ES J R out n u bs ∧ fals bs = leastN ES J R out n u
  | 0, u, h => ⟨[], rfl, rfl⟩
  | n + 1, u, h => by
    rw [least_succ] at h
    by_cases ho : outB out ((R : Int) - (n + 1)) = true
    · rw [if_pos ho] at h
      obtain ⟨bs, h1, h2⟩ := least_get ES J R out n u h
      refine ⟨-2 :: bs, ?_, ?_⟩
      · simp only [IsW, if_pos ho]; exact ⟨trivial, h1⟩
      · rw [fals_cons, least_succ, if_pos ho, h2]; simp
    · rw [if_neg ho] at h
      obtain ⟨h1, h2, h3⟩ := fold_min (freeB ES u ((R : Int) - (n + 1))) (fun b => leastN ES J R out n (freeU ES u ((R : Int) - (n + 1)) b) + if b = -1 then 1 else 0) (bys J) 1024
      rcases h3 with h3 | ⟨b, hb, hp, h3⟩
      · omega
      · obtain ⟨bs, h4, h5⟩ := least_get ES J R out n (freeU ES u ((R : Int) - (n + 1)) b) (by split at h3 <;> omega)
        refine ⟨b :: bs, ?_, ?_⟩
        · simp only [IsW, if_neg ho]; exact ⟨hb, hp, h4⟩
        · rw [fals_cons, h5, least_succ, if_neg ho, h3]
theorem isW_len (ES : List (Int × Int)) (J R : Nat) (out : List Int) : ∀ n u bs, IsW ES J R out n u bs → bs.length = n
  | 0, u, bs, h => by simp only [IsW] at h; subst h; rfl
  | n + 1, u, [], h => by simp only [IsW] at h
  | n + 1, u, b :: bs, h => by
    simp only [IsW] at h
    split at h
    · simp [isW_len ES J R out n u bs h.2]
    · simp [isW_len ES J R out n _ bs h.2.2]
theorem least_ex (ES : List (Int × Int)) (J R : Nat) (out : List Int) (n : Nat) (u : List Bool) (hn : n < 1024) : leastN ES J R out n u < 1024 ↔ ∃ bs, IsW ES J R out n u bs := by
  constructor
  · intro h; obtain ⟨bs, h1, _⟩ := least_get ES J R out n u h; exact ⟨bs, h1⟩
  · rintro ⟨bs, h⟩
    have h1 := least_le ES J R out n u bs h
    have h2 := fals_le bs
    rw [isW_len _ _ _ _ _ _ _ h] at h2
    omega
end Go.Proofs.YthgfhgjlilmieaaGreat.G
namespace Go.Proofs.YthgfhgjlilmieaaGreat.B
open Go.RowKit Go.Proofs.YthgfhgjlilmieaaGreatW.PrintWords Go.Proofs.YthgfhgjlilmieaaGreatW.PrintLast Go.Proofs.YthgfhgjlilmieaaGreatW.PrintMore
attribute [local go_sem] max2_int min2_int max_two min_two max_three min_three max_four min_four
set_option linter.unusedVariables false
set_option linter.unusedSimpArgs false
def glisterref06_Has.l0 : Nat → List Int → Int → Int → Option (Bool)
 | 0, _, _, _ => none
 | k + 1, x0, x1, x5 => if x5 < (x0.length : Int) then (if 0 ≤ x5 then (if (rd x0 x5) = x1 then (some true) else (glisterref06_Has.l0 k x0 x1 (wrap64 (x5 + 1)))) else (none)) else (some false)
def glisterref06_Has.f (k : Nat) (l0 : List Int) (a1 : Int) : Option (Bool) := glisterref06_Has.l0 k l0 a1 0
theorem glisterref06_Has.mono_l : ∀ k, (∀ y0 y1 y2, LeO (glisterref06_Has.l0 k y0 y1 y2) (glisterref06_Has.l0 (k + 1) y0 y1 y2))
 | 0 => fun _ _ _ r h => by simp [glisterref06_Has.l0] at h
 | k + 1 => by
  have ih0 := glisterref06_Has.mono_l k
  ·intro y0 y1 y2
   unfold glisterref06_Has.l0
   repeat' first
   | (with_reducible exact ih0 _ _ _)
   | (with_reducible exact LeO.refl _)
   | (with_reducible exact LeO.none _)
   | (with_reducible refine LeO.ite ?_ ?_)
   | (with_reducible refine LeO.bind ?_ (fun _ => ?_))
   | exact ih0 _ _ _
   | exact LeO.none _
   | refine LeO.ite ?_ ?_
   | refine LeO.bind ?_ (fun _ => ?_)
theorem glisterref06_Has.mono : ∀ a0 a1 k, LeO (glisterref06_Has.f k a0 a1) (glisterref06_Has.f (k + 1) a0 a1) := by
 intro a0 a1 k
 have ih0 := glisterref06_Has.mono_l k
 unfold glisterref06_Has.f
 repeat' first
   | (with_reducible exact ih0 _ _ _)
   | (with_reducible exact LeO.refl _)
   | (with_reducible exact LeO.none _)
   | (with_reducible refine LeO.ite ?_ ?_)
   | (with_reducible refine LeO.bind ?_ (fun _ => ?_))
   | exact ih0 _ _ _
   | exact LeO.none _
   | refine LeO.ite ?_ ?_
   | refine LeO.bind ?_ (fun _ => ?_)
set_option maxHeartbeats 8000000 in
set_option maxRecDepth 100000 in
theorem glisterref06_Has.calls (k : Nat) (A0 : Option Addr) (c0 : Nat) (l0 : List Int) (a1 : Int) (r : Bool) (w : World) (hr0 : Kd.C (Kd.int .i64) w A0 l0.length l0) (hc0 : l0.length ≤ c0) (h : glisterref06_Has.f k l0 a1 = some r) :
  Calls Tryz.prog 37 #[.slice A0 l0.length c0, .int .i64 a1] w fun e w' => e = .returned (.bool r) ∧ Drawn0 w w' := by
 have HR0 := Aside0.mk hr0
 have HC0 := Aside0.mk hc0
 clear hr0 hc0
 have H : (glisterref06_Has.l0 k l0 a1 0) = some r := h
 clear h
 have H' := Aside0.mk H
 clear H
 go_enter Tryz.func37, Tryz.ntmps37
 go_wp2
 go_loopg [5] k (fun kq v5 w' => ∃ (x5_1 : Int), v5 = .int .i64 x5_1 ∧ Aside0 (glisterref06_Has.l0 kq l0 a1 x5_1 = some r) ∧ Aside0 (kq ≤ k) ∧ Drawn0 w w')
 case atStart => exact ⟨(0), (by first | rfl | (simp; done) | (simp [*]; done)), H', ⟨Nat.le_refl _⟩, by repeat (first | exact Drawn0.refl _ | apply Drawn0.step)⟩
 case round =>
  clear H'
  try clear p2
  obtain ⟨x5_1, rfl, HA, HK1, ⟨m1, rfl⟩⟩ := hrel
  cases gk with
  | zero => exact absurd HA.out (by simp [glisterref06_Has.l0])
  | succ k1 =>
   have H := HA.out
   clear HA
   simp only [glisterref06_Has.l0] at H
   by_cases c3 : x5_1 < (l0.length : Int)
   ·rw [if_pos c3] at H
    have c3b0 : decide (x5_1 < (l0.length : Int)) = true := decide_eq_true c3
    clear c3
    by_cases c4 : 0 ≤ x5_1
    ·rw [if_pos c4] at H
     have c4b0 : decide (0 ≤ x5_1) = true := decide_eq_true c4
     clear c4
     by_cases c5 : (rd l0 x5_1) = a1
     ·rw [if_pos c5] at H
      have c5b0 : ((rd l0 x5_1) == a1) = true := beq_iff_eq.mpr c5
      have c5b1 : ((rd l0 x5_1) != a1) = false := bne_eq_false_iff_eq.mpr c5
      clear c5
      obtain rfl := Option.some.inj H
      have p431 : 0 ≤ (x5_1 : Int) := of_decide_eq_true (by first | (with_reducible assumption) | assumption)
      have q431 : x5_1 < (l0.length : Int) := of_decide_eq_true (by first | (with_reducible assumption) | assumption)
      obtain ⟨ad431, e431, hx431_0⟩ := Kd.at_int HR0.out x5_1 p431 q431
      cases e431
      replace p431 := eq_true p431
      replace q431 := eq_true q431
      go_wp2
      go_ret
      exact ⟨by first | rfl | (simp; done) | (simp [*]; done), by repeat (first | exact Drawn0.refl _ | apply Drawn0.step)⟩
     ·rw [if_neg c5] at H
      have c5b0 : ((rd l0 x5_1) == a1) = false := beq_eq_false_iff_ne.mpr c5
      have c5b1 : ((rd l0 x5_1) != a1) = true := bne_iff_ne.mpr c5
      have H' := Aside0.mk H
      clear H
      have p431 : 0 ≤ (x5_1 : Int) := of_decide_eq_true (by first | (with_reducible assumption) | assumption)
      have q431 : x5_1 < (l0.length : Int) := of_decide_eq_true (by first | (with_reducible assumption) | assumption)
      obtain ⟨ad431, e431, hx431_0⟩ := Kd.at_int HR0.out x5_1 p431 q431
      cases e431
      replace p431 := eq_true p431
      replace q431 := eq_true q431
      go_wp2
      go_roundg k1
      case measure => have := HK1.out; omega
      case rel => exact ⟨(wrap64 (x5_1 + 1)), (by first | rfl | (simp; done) | (simp [*]; done)), H', ⟨by have := HK1.out; omega⟩, by repeat (first | exact Drawn0.refl _ | apply Drawn0.step)⟩
    ·rw [if_neg c4] at H
     exact absurd H (by simp)
   ·rw [if_neg c3] at H
    have c3b0 : decide (x5_1 < (l0.length : Int)) = false := decide_eq_false c3
    clear c3
    obtain rfl := Option.some.inj H
    go_wp2
    go_ret
    exact ⟨by first | rfl | (simp; done) | (simp [*]; done), by repeat (first | exact Drawn0.refl _ | apply Drawn0.step)⟩
def glisterlaw06_subset.l0 : Nat → List Int → List Int → Int → Option (Bool)
 | 0, _, _, _ => none
 | k + 1, x0, x1, x5 => if x5 < (x0.length : Int) then (if 0 ≤ x5 then ((glisterref06_Has.f k x1 (rd x0 x5)).bind fun t632 => (if t632 = true then (glisterlaw06_subset.l0 k x0 x1 (wrap64 (x5 + 1))) else (some false))) else (none)) else (some true)
def glisterlaw06_subset.f (k : Nat) (l0 : List Int) (l1 : List Int) : Option (Bool) := glisterlaw06_subset.l0 k l0 l1 0
theorem glisterlaw06_subset.mono_l : ∀ k, (∀ y0 y1 y2, LeO (glisterlaw06_subset.l0 k y0 y1 y2) (glisterlaw06_subset.l0 (k + 1) y0 y1 y2))
 | 0 => fun _ _ _ r h => by simp [glisterlaw06_subset.l0] at h
 | k + 1 => by
  have ih0 := glisterlaw06_subset.mono_l k
  ·intro y0 y1 y2
   unfold glisterlaw06_subset.l0
   repeat' first
   | (with_reducible exact ih0 _ _ _)
   | (with_reducible exact glisterref06_Has.mono _ _ _)
   | (with_reducible exact LeO.refl _)
   | (with_reducible exact LeO.none _)
   | (with_reducible refine LeO.ite ?_ ?_)
   | (with_reducible refine LeO.bind ?_ (fun _ => ?_))
   | exact ih0 _ _ _
   | exact glisterref06_Has.mono _ _ _
   | exact LeO.none _
   | refine LeO.ite ?_ ?_
   | refine LeO.bind ?_ (fun _ => ?_)
theorem glisterlaw06_subset.mono : ∀ a0 a1 k, LeO (glisterlaw06_subset.f k a0 a1) (glisterlaw06_subset.f (k + 1) a0 a1) := by
 intro a0 a1 k
 have ih0 := glisterlaw06_subset.mono_l k
 unfold glisterlaw06_subset.f
 repeat' first
   | (with_reducible exact ih0 _ _ _)
   | (with_reducible exact glisterref06_Has.mono _ _ _)
   | (with_reducible exact LeO.refl _)
   | (with_reducible exact LeO.none _)
   | (with_reducible refine LeO.ite ?_ ?_)
   | (with_reducible refine LeO.bind ?_ (fun _ => ?_))
   | exact ih0 _ _ _
   | exact glisterref06_Has.mono _ _ _
   | exact LeO.none _
   | refine LeO.ite ?_ ?_
   | refine LeO.bind ?_ (fun _ => ?_)
set_option maxHeartbeats 8000000 in
set_option maxRecDepth 100000 in
theorem glisterlaw06_subset.calls (k : Nat) (A0 : Option Addr) (c0 : Nat) (l0 : List Int) (A1 : Option Addr) (c1 : Nat) (l1 : List Int) (r : Bool) (w : World) (hr0 : Kd.C (Kd.int .i64) w A0 l0.length l0) (hc0 : l0.length ≤ c0) (hr1 : Kd.C (Kd.int .i64) w A1 l1.length l1) (hc1 : l1.length ≤ c1) (h : glisterlaw06_subset.f k l0 l1 = some r) :
  Calls Tryz.prog 38 #[.slice A0 l0.length c0, .slice A1 l1.length c1] w fun e w' => e = .returned (.bool r) ∧ Drawn0 w w' := by
 have HR0 := Aside0.mk hr0
 have HC0 := Aside0.mk hc0
 clear hr0 hc0
 have HR1 := Aside0.mk hr1
 have HC1 := Aside0.mk hc1
 clear hr1 hc1
 have H : (glisterlaw06_subset.l0 k l0 l1 0) = some r := h
 clear h
 have H' := Aside0.mk H
 clear H
 go_enter Tryz.func38, Tryz.ntmps38
 go_wp2
 go_loopg [5] k (fun kq v5 w' => ∃ (x5_1 : Int), v5 = .int .i64 x5_1 ∧ Aside0 (glisterlaw06_subset.l0 kq l0 l1 x5_1 = some r) ∧ Aside0 (kq ≤ k) ∧ Drawn0 w w')
 case atStart => exact ⟨(0), (by first | rfl | (simp; done) | (simp [*]; done)), H', ⟨Nat.le_refl _⟩, by repeat (first | exact Drawn0.refl _ | apply Drawn0.step)⟩
 case round =>
  clear H'
  try clear c1
  try clear p2
  obtain ⟨x5_1, rfl, HA, HK1, ⟨m1, rfl⟩⟩ := hrel
  cases gk with
  | zero => exact absurd HA.out (by simp [glisterlaw06_subset.l0])
  | succ k1 =>
   have H := HA.out
   clear HA
   simp only [glisterlaw06_subset.l0] at H
   by_cases c3 : x5_1 < (l0.length : Int)
   ·rw [if_pos c3] at H
    have c3b0 : decide (x5_1 < (l0.length : Int)) = true := decide_eq_true c3
    clear c3
    by_cases c4 : 0 ≤ x5_1
    ·rw [if_pos c4] at H
     have c4b0 : decide (0 ≤ x5_1) = true := decide_eq_true c4
     clear c4
     replace H := Option.bind_eq_some_iff.mp H
     obtain ⟨t632, A50, H⟩ := H
     replace H : (if t632 = true then (glisterlaw06_subset.l0 k1 l0 l1 (wrap64 (x5_1 + 1))) else (some false)) = some r := H
     have A5 := Aside0.mk A50
     clear A50
     by_cases c6 : t632 = true
     ·subst c6
      have H1 : (glisterlaw06_subset.l0 k1 l0 l1 (wrap64 (x5_1 + 1))) = some r := by rw [if_pos rfl] at H; exact H
      clear H
      have H := H1
      clear H1
      have H' := Aside0.mk H
      clear H
      have p631 : 0 ≤ (x5_1 : Int) := of_decide_eq_true (by first | (with_reducible assumption) | assumption)
      have q631 : x5_1 < (l0.length : Int) := of_decide_eq_true (by first | (with_reducible assumption) | assumption)
      obtain ⟨ad631, e631, hx631_0⟩ := Kd.at_int HR0.out x5_1 p631 q631
      cases e631
      replace p631 := eq_true p631
      replace q631 := eq_true q631
      go_wp2_with (first | ((with_reducible refine gate_callee (f := 37) rfl ?_); refine goesL_ (some 17) rfl rfl Tryz.func37 (by kernel_rfl) rfl #[.slice A1 l1.length c1, .int .i64 (rd l0 x5_1)] rfl (by (try simp only [List.map_toArray, List.map_cons, List.map_nil]); first | done | rfl | (simp only [List.length_drop, List.length_take]; rfl)) ?_; (with_reducible refine (glisterref06_Has.calls k1 _ _ l1 (rd l0 x5_1) true _ ?side1 ?side2 A5.out).mono ?_); (case side1 => repeat (first | exact HR1.out | (with_reducible refine Kd.C_alloc ?_ _) | (with_reducible refine Kd.C_drewN ?_ _) | (with_reducible refine Kd.C_drew ?_))); (case side2 => exact HC1.out); rintro e w' ⟨rfl, ⟨nd, rfl⟩⟩; refine ⟨_, rfl, ?_⟩))
      go_roundg k1
      case measure => have := HK1.out; omega
      case rel => exact ⟨(wrap64 (x5_1 + 1)), (by first | rfl | (simp; done) | (simp [*]; done)), H', ⟨by have := HK1.out; omega⟩, by repeat (first | exact Drawn0.refl _ | apply Drawn0.step)⟩
     ·replace c6 := Bool.eq_false_iff.mpr c6
      subst c6
      have H1 : (some false) = some r := by rw [if_neg (show ¬ (false = true) by decide)] at H; exact H
      clear H
      have H := H1
      clear H1
      obtain rfl := Option.some.inj H
      have p631 : 0 ≤ (x5_1 : Int) := of_decide_eq_true (by first | (with_reducible assumption) | assumption)
      have q631 : x5_1 < (l0.length : Int) := of_decide_eq_true (by first | (with_reducible assumption) | assumption)
      obtain ⟨ad631, e631, hx631_0⟩ := Kd.at_int HR0.out x5_1 p631 q631
      cases e631
      replace p631 := eq_true p631
      replace q631 := eq_true q631
      go_wp2_with (first | ((with_reducible refine gate_callee (f := 37) rfl ?_); refine goesL_ (some 17) rfl rfl Tryz.func37 (by kernel_rfl) rfl #[.slice A1 l1.length c1, .int .i64 (rd l0 x5_1)] rfl (by (try simp only [List.map_toArray, List.map_cons, List.map_nil]); first | done | rfl | (simp only [List.length_drop, List.length_take]; rfl)) ?_; (with_reducible refine (glisterref06_Has.calls k1 _ _ l1 (rd l0 x5_1) false _ ?side1 ?side2 A5.out).mono ?_); (case side1 => repeat (first | exact HR1.out | (with_reducible refine Kd.C_alloc ?_ _) | (with_reducible refine Kd.C_drewN ?_ _) | (with_reducible refine Kd.C_drew ?_))); (case side2 => exact HC1.out); rintro e w' ⟨rfl, ⟨nd, rfl⟩⟩; refine ⟨_, rfl, ?_⟩))
      go_ret
      exact ⟨by first | rfl | (simp; done) | (simp [*]; done), by repeat (first | exact Drawn0.refl _ | apply Drawn0.step)⟩
    ·rw [if_neg c4] at H
     exact absurd H (by simp)
   ·rw [if_neg c3] at H
    have c3b0 : decide (x5_1 < (l0.length : Int)) = false := decide_eq_false c3
    clear c3
    obtain rfl := Option.some.inj H
    go_wp2
    go_ret
    exact ⟨by first | rfl | (simp; done) | (simp [*]; done), by repeat (first | exact Drawn0.refl _ | apply Drawn0.step)⟩
mutual
def glisterlaw06_inside.l0 : Nat → List (List Int) → List (List Int) → Int → Option (Bool)
 | 0, _, _, _ => none
 | k + 1, x0, x1, x5 => if x5 < (x0.length : Int) then (glisterlaw06_inside.l1 k x0 x1 x5 false 0) else (some true)
def glisterlaw06_inside.l1 : Nat → List (List Int) → List (List Int) → Int → Bool → Int → Option (Bool)
 | 0, _, _, _, _, _ => none
 | k + 1, x0, x1, x5, x6, x7 => if x7 < (x1.length : Int) then (if x6 = true then (glisterlaw06_inside.l1 k x0 x1 x5 true (wrap64 (x7 + 1))) else (if 0 ≤ x5 then (if x5 < (x0.length : Int) then (if 0 ≤ x7 then ((glisterref02_Same.f k (rd_L2 x0 x5) (rd_L2 x1 x7)).bind fun t744 => (glisterlaw06_inside.l1 k x0 x1 x5 t744 (wrap64 (x7 + 1)))) else (none)) else (none)) else (none))) else (if x6 = true then (glisterlaw06_inside.l0 k x0 x1 (wrap64 (x5 + 1))) else (some false))
end
def glisterlaw06_inside.f (k : Nat) (l0 : List (List Int)) (l1 : List (List Int)) : Option (Bool) := glisterlaw06_inside.l0 k l0 l1 0
theorem glisterlaw06_inside.mono_l : ∀ k, (∀ y0 y1 y2, LeO (glisterlaw06_inside.l0 k y0 y1 y2) (glisterlaw06_inside.l0 (k + 1) y0 y1 y2)) ∧ (∀ y0 y1 y2 y3 y4, LeO (glisterlaw06_inside.l1 k y0 y1 y2 y3 y4) (glisterlaw06_inside.l1 (k + 1) y0 y1 y2 y3 y4))
 | 0 => ⟨fun _ _ _ r h => by simp [glisterlaw06_inside.l0] at h, fun _ _ _ _ _ r h => by simp [glisterlaw06_inside.l1] at h⟩
 | k + 1 => by
  obtain ⟨ih0, ih1⟩ := glisterlaw06_inside.mono_l k
  refine ⟨?_, ?_⟩
  ·intro y0 y1 y2
   unfold glisterlaw06_inside.l0
   repeat' first
   | (with_reducible exact ih0 _ _ _)
   | (with_reducible exact ih1 _ _ _ _ _)
   | (with_reducible exact glisterref02_Same.mono _ _ _)
   | (with_reducible exact LeO.refl _)
   | (with_reducible exact LeO.none _)
   | (with_reducible refine LeO.ite ?_ ?_)
   | (with_reducible refine LeO.bind ?_ (fun _ => ?_))
   | exact ih0 _ _ _
   | exact ih1 _ _ _ _ _
   | exact glisterref02_Same.mono _ _ _
   | exact LeO.none _
   | refine LeO.ite ?_ ?_
   | refine LeO.bind ?_ (fun _ => ?_)
  ·intro y0 y1 y2 y3 y4
   unfold glisterlaw06_inside.l1
   repeat' first
   | (with_reducible exact ih0 _ _ _)
   | (with_reducible exact ih1 _ _ _ _ _)
   | (with_reducible exact glisterref02_Same.mono _ _ _)
   | (with_reducible exact LeO.refl _)
   | (with_reducible exact LeO.none _)
   | (with_reducible refine LeO.ite ?_ ?_)
   | (with_reducible refine LeO.bind ?_ (fun _ => ?_))
   | exact ih0 _ _ _
   | exact ih1 _ _ _ _ _
   | exact glisterref02_Same.mono _ _ _
   | exact LeO.none _
   | refine LeO.ite ?_ ?_
   | refine LeO.bind ?_ (fun _ => ?_)
theorem glisterlaw06_inside.mono : ∀ a0 a1 k, LeO (glisterlaw06_inside.f k a0 a1) (glisterlaw06_inside.f (k + 1) a0 a1) := by
 intro a0 a1 k
 obtain ⟨ih0, ih1⟩ := glisterlaw06_inside.mono_l k
 unfold glisterlaw06_inside.f
 repeat' first
   | (with_reducible exact ih0 _ _ _)
   | (with_reducible exact ih1 _ _ _ _ _)
   | (with_reducible exact glisterref02_Same.mono _ _ _)
   | (with_reducible exact LeO.refl _)
   | (with_reducible exact LeO.none _)
   | (with_reducible refine LeO.ite ?_ ?_)
   | (with_reducible refine LeO.bind ?_ (fun _ => ?_))
   | exact ih0 _ _ _
   | exact ih1 _ _ _ _ _
   | exact glisterref02_Same.mono _ _ _
   | exact LeO.none _
   | refine LeO.ite ?_ ?_
   | refine LeO.bind ?_ (fun _ => ?_)
set_option maxHeartbeats 8000000 in
set_option maxRecDepth 100000 in
theorem glisterlaw06_inside.calls (k : Nat) (A0 : Option Addr) (c0 : Nat) (l0 : List (List Int)) (A1 : Option Addr) (c1 : Nat) (l1 : List (List Int)) (r : Bool) (w : World) (hr0 : Kd.C (Kd.slice 3 (Kd.int .i64)) w A0 l0.length l0) (hc0 : l0.length ≤ c0) (hr1 : Kd.C (Kd.slice 3 (Kd.int .i64)) w A1 l1.length l1) (hc1 : l1.length ≤ c1) (h : glisterlaw06_inside.f k l0 l1 = some r) :
  Calls Tryz.prog 40 #[.slice A0 l0.length c0, .slice A1 l1.length c1] w fun e w' => e = .returned (.bool r) ∧ Drawn0 w w' := by
 have HR0 := Aside0.mk hr0
 have HC0 := Aside0.mk hc0
 clear hr0 hc0
 have HR1 := Aside0.mk hr1
 have HC1 := Aside0.mk hc1
 clear hr1 hc1
 have H : (glisterlaw06_inside.l0 k l0 l1 0) = some r := h
 clear h
 have H' := Aside0.mk H
 clear H
 go_enter Tryz.func40, Tryz.ntmps40
 go_wp2
 repeat (go_quiet (fail); try go_wp2)
 go_loopg [5] k (fun kq v5 w' => ∃ (x5_1 : Int), v5 = .int .i64 x5_1 ∧ Aside0 (glisterlaw06_inside.l0 kq l0 l1 x5_1 = some r) ∧ Aside0 (kq ≤ k) ∧ Drawn0 w w')
 case atStart => exact ⟨(0), (by first | rfl | (simp; done) | (simp [*]; done)), H', ⟨Nat.le_refl _⟩, by repeat (first | exact Drawn0.refl _ | apply Drawn0.step)⟩
 case round =>
  clear H'
  try clear c1
  try clear p2
  obtain ⟨x5_1, rfl, HA, HK1, ⟨m1, rfl⟩⟩ := hrel
  cases gk with
  | zero => exact absurd HA.out (by simp [glisterlaw06_inside.l0])
  | succ k1 =>
   have H := HA.out
   clear HA
   simp only [glisterlaw06_inside.l0] at H
   by_cases c3 : x5_1 < (l0.length : Int)
   ·rw [if_pos c3] at H
    have c3b0 : decide (x5_1 < (l0.length : Int)) = true := decide_eq_true c3
    clear c3
    have H' := Aside0.mk H
    clear H
    go_wp2
    repeat (go_quiet (fail); try go_wp2)
    go_loopg [6, 7] k1 (fun kq v6 v7 w' => ∃ (x6_2 : Bool) (x7_2 : Int), v6 = .bool x6_2 ∧ v7 = .int .i64 x7_2 ∧ Aside0 (glisterlaw06_inside.l1 kq l0 l1 x5_1 x6_2 x7_2 = some r) ∧ Aside0 (kq ≤ k1) ∧ Drawn0 w w')
    case atStart => exact ⟨(false), (0), (by first | rfl | (simp; done) | (simp [*]; done)), (by first | rfl | (simp; done) | (simp [*]; done)), H', ⟨Nat.le_refl _⟩, by repeat (first | exact Drawn0.refl _ | apply Drawn0.step)⟩
    case round =>
     clear H'
     try clear c1
     try clear p2
     try clear c3
     try clear c3b0
     try clear p2
     obtain ⟨x6_2, x7_2, rfl, rfl, HA, HK2, ⟨m2, rfl⟩⟩ := hrel
     cases gk with
     | zero => exact absurd HA.out (by simp [glisterlaw06_inside.l1])
     | succ k2 =>
      have H := HA.out
      clear HA
      simp only [glisterlaw06_inside.l1] at H
      by_cases c4 : x7_2 < (l1.length : Int)
      ·rw [if_pos c4] at H
       have c4b0 : decide (x7_2 < (l1.length : Int)) = true := decide_eq_true c4
       clear c4
       by_cases c5 : x6_2 = true
       ·subst c5
        have H1 : (glisterlaw06_inside.l1 k2 l0 l1 x5_1 true (wrap64 (x7_2 + 1))) = some r := by rw [if_pos rfl] at H; exact H
        clear H
        have H := H1
        clear H1
        have H' := Aside0.mk H
        clear H
        go_wp2
        repeat (go_quiet (fail); try go_wp2)
        go_roundg k2
        case measure => have := HK1.out; have := HK2.out; omega
        case rel => exact ⟨(true), (wrap64 (x7_2 + 1)), (by first | rfl | (simp; done) | (simp [*]; done)), (by first | rfl | (simp; done) | (simp [*]; done)), H', ⟨by have := HK1.out; have := HK2.out; omega⟩, by repeat (first | exact Drawn0.refl _ | apply Drawn0.step)⟩
       ·replace c5 := Bool.eq_false_iff.mpr c5
        subst c5
        have H1 : (if 0 ≤ x5_1 then (if x5_1 < (l0.length : Int) then (if 0 ≤ x7_2 then ((glisterref02_Same.f k2 (rd_L2 l0 x5_1) (rd_L2 l1 x7_2)).bind fun t744 => (glisterlaw06_inside.l1 k2 l0 l1 x5_1 t744 (wrap64 (x7_2 + 1)))) else (none)) else (none)) else (none)) = some r := by rw [if_neg (show ¬ (false = true) by decide)] at H; exact H
        clear H
        have H := H1
        clear H1
        by_cases c6 : 0 ≤ x5_1
        ·rw [if_pos c6] at H
         have c6b0 : decide (0 ≤ x5_1) = true := decide_eq_true c6
         clear c6
         by_cases c7 : x5_1 < (l0.length : Int)
         ·rw [if_pos c7] at H
          have c7b0 : decide (x5_1 < (l0.length : Int)) = true := decide_eq_true c7
          clear c7
          by_cases c8 : 0 ≤ x7_2
          ·rw [if_pos c8] at H
           have c8b0 : decide (0 ≤ x7_2) = true := decide_eq_true c8
           clear c8
           replace H := Option.bind_eq_some_iff.mp H
           obtain ⟨t744, A90, H⟩ := H
           replace H : (glisterlaw06_inside.l1 k2 l0 l1 x5_1 t744 (wrap64 (x7_2 + 1))) = some r := H
           have A9 := Aside0.mk A90
           clear A90
           have H' := Aside0.mk H
           clear H
           have p742 : 0 ≤ (x5_1 : Int) := of_decide_eq_true (by first | (with_reducible assumption) | assumption)
           have q742 : x5_1 < (l0.length : Int) := of_decide_eq_true (by first | (with_reducible assumption) | assumption)
           obtain ⟨ad742, A742_0, c742_0, e742, hx742_0, hl742_0, hi742_0⟩ := at_L2 HR0.out x5_1 p742 q742
           cases e742
           have HR742_0 := Aside0.mk hi742_0
           have HC742_0 := Aside0.mk hl742_0
           clear hi742_0 hl742_0
           replace p742 := eq_true p742
           replace q742 := eq_true q742
           have p743 : 0 ≤ (x7_2 : Int) := of_decide_eq_true (by first | (with_reducible assumption) | assumption)
           have q743 : x7_2 < (l1.length : Int) := of_decide_eq_true (by first | (with_reducible assumption) | assumption)
           obtain ⟨ad743, A743_0, c743_0, e743, hx743_0, hl743_0, hi743_0⟩ := at_L2 HR1.out x7_2 p743 q743
           cases e743
           have HR743_0 := Aside0.mk hi743_0
           have HC743_0 := Aside0.mk hl743_0
           clear hi743_0 hl743_0
           replace p743 := eq_true p743
           replace q743 := eq_true q743
           go_wp2_with (first | (go_at_call 24; (with_reducible refine (glisterref02_Same.calls k2 _ _ (rd_L2 l0 x5_1) _ _ (rd_L2 l1 x7_2) t744 _ ?side1 ?side2 ?side3 ?side4 A9.out).mono ?_); (case side1 => repeat (first | exact HR742_0.out | (with_reducible refine Kd.C_alloc ?_ _) | (with_reducible refine Kd.C_drewN ?_ _) | (with_reducible refine Kd.C_drew ?_))); (case side2 => exact HC742_0.out); (case side3 => repeat (first | exact HR743_0.out | (with_reducible refine Kd.C_alloc ?_ _) | (with_reducible refine Kd.C_drewN ?_ _) | (with_reducible refine Kd.C_drew ?_))); (case side4 => exact HC743_0.out); rintro e w' ⟨rfl, ⟨nd, rfl⟩⟩; (try first | exact ⟨rfl, _, World.drewN_drewN _ _ _⟩ | exact ⟨rfl, _, Eq.trans (World.drewN_drewN _ _ _) (congrArg (World.drewN _) (Nat.add_assoc _ _ _))⟩)))
           repeat (go_quiet (first | (go_at_call 24; (with_reducible refine (glisterref02_Same.calls k2 _ _ (rd_L2 l0 x5_1) _ _ (rd_L2 l1 x7_2) t744 _ ?side1 ?side2 ?side3 ?side4 A9.out).mono ?_); (case side1 => repeat (first | exact HR742_0.out | (with_reducible refine Kd.C_alloc ?_ _) | (with_reducible refine Kd.C_drewN ?_ _) | (with_reducible refine Kd.C_drew ?_))); (case side2 => exact HC742_0.out); (case side3 => repeat (first | exact HR743_0.out | (with_reducible refine Kd.C_alloc ?_ _) | (with_reducible refine Kd.C_drewN ?_ _) | (with_reducible refine Kd.C_drew ?_))); (case side4 => exact HC743_0.out); rintro e w' ⟨rfl, ⟨nd, rfl⟩⟩; (try first | exact ⟨rfl, _, World.drewN_drewN _ _ _⟩ | exact ⟨rfl, _, Eq.trans (World.drewN_drewN _ _ _) (congrArg (World.drewN _) (Nat.add_assoc _ _ _))⟩))); try go_wp2_with (first | (go_at_call 24; (with_reducible refine (glisterref02_Same.calls k2 _ _ (rd_L2 l0 x5_1) _ _ (rd_L2 l1 x7_2) t744 _ ?side1 ?side2 ?side3 ?side4 A9.out).mono ?_); (case side1 => repeat (first | exact HR742_0.out | (with_reducible refine Kd.C_alloc ?_ _) | (with_reducible refine Kd.C_drewN ?_ _) | (with_reducible refine Kd.C_drew ?_))); (case side2 => exact HC742_0.out); (case side3 => repeat (first | exact HR743_0.out | (with_reducible refine Kd.C_alloc ?_ _) | (with_reducible refine Kd.C_drewN ?_ _) | (with_reducible refine Kd.C_drew ?_))); (case side4 => exact HC743_0.out); rintro e w' ⟨rfl, ⟨nd, rfl⟩⟩; (try first | exact ⟨rfl, _, World.drewN_drewN _ _ _⟩ | exact ⟨rfl, _, Eq.trans (World.drewN_drewN _ _ _) (congrArg (World.drewN _) (Nat.add_assoc _ _ _))⟩))))
           go_roundg k2
           case measure => have := HK1.out; have := HK2.out; omega
           case rel => exact ⟨(t744), (wrap64 (x7_2 + 1)), (by first | rfl | (simp; done) | (simp [*]; done)), (by first | rfl | (simp; done) | (simp [*]; done)), H', ⟨by have := HK1.out; have := HK2.out; omega⟩, by repeat (first | exact Drawn0.refl _ | apply Drawn0.step)⟩
          ·rw [if_neg c8] at H
           exact absurd H (by simp)
         ·rw [if_neg c7] at H
          exact absurd H (by simp)
        ·rw [if_neg c6] at H
         exact absurd H (by simp)
      ·rw [if_neg c4] at H
       have c4b0 : decide (x7_2 < (l1.length : Int)) = false := decide_eq_false c4
       clear c4
       by_cases c10 : x6_2 = true
       ·subst c10
        have H1 : (glisterlaw06_inside.l0 k2 l0 l1 (wrap64 (x5_1 + 1))) = some r := by rw [if_pos rfl] at H; exact H
        clear H
        have H := H1
        clear H1
        have H' := Aside0.mk H
        clear H
        go_wp2
        repeat (go_quiet (fail); try go_wp2)
        go_roundg k2
        case measure => have := HK1.out; have := HK2.out; omega
        case rel => exact ⟨(wrap64 (x5_1 + 1)), (by first | rfl | (simp; done) | (simp [*]; done)), H', ⟨by have := HK1.out; have := HK2.out; omega⟩, by repeat (first | exact Drawn0.refl _ | apply Drawn0.step)⟩
       ·replace c10 := Bool.eq_false_iff.mpr c10
        subst c10
        have H1 : (some false) = some r := by rw [if_neg (show ¬ (false = true) by decide)] at H; exact H
        clear H
        have H := H1
        clear H1
        obtain rfl := Option.some.inj H
        go_wp2
        repeat (go_quiet (fail); try go_wp2)
        go_ret
        exact ⟨by first | rfl | (simp; done) | (simp [*]; done), by repeat (first | exact Drawn0.refl _ | apply Drawn0.step)⟩
   ·rw [if_neg c3] at H
    have c3b0 : decide (x5_1 < (l0.length : Int)) = false := decide_eq_false c3
    clear c3
    obtain rfl := Option.some.inj H
    go_wp2
    repeat (go_quiet (fail); try go_wp2)
    go_ret
    exact ⟨by first | rfl | (simp; done) | (simp [*]; done), by repeat (first | exact Drawn0.refl _ | apply Drawn0.step)⟩
mutual
def glisterref06_IsPart.l0 : Nat → List Int → List Int → Int → Option (Bool)
 | 0, _, _, _ => none
 | k + 1, x0, x1, x5 => if (wrap64 (x5 + (x0.length : Int))) ≤ (x1.length : Int) then (glisterref06_IsPart.j1 k x0 x1 x5 (decide ((x0.length : Int) > 0))) else (glisterref06_IsPart.j1 k x0 x1 x5 false)
def glisterref06_IsPart.j1 : Nat → List Int → List Int → Int → Bool → Option (Bool)
 | 0, _, _, _, _ => none
 | k + 1, x0, x1, x5, x17 => if x17 = true then (if 0 ≤ x5 then (if x5 ≤ (wrap64 (x5 + (x0.length : Int))) then (if (wrap64 (x5 + (x0.length : Int))) ≤ (x1.length : Int) then ((glisterref02_Same.f k x0 ((x1.take ((wrap64 (x5 + (x0.length : Int))) : Int).toNat).drop (x5 : Int).toNat)).bind fun t316 => (if t316 = true then (some true) else (glisterref06_IsPart.l0 k x0 x1 (wrap64 (x5 + 1))))) else (none)) else (none)) else (none)) else (some false)
end
def glisterref06_IsPart.f (k : Nat) (l0 : List Int) (l1 : List Int) : Option (Bool) := glisterref06_IsPart.l0 k l0 l1 0
theorem glisterref06_IsPart.mono_l : ∀ k, (∀ y0 y1 y2, LeO (glisterref06_IsPart.l0 k y0 y1 y2) (glisterref06_IsPart.l0 (k + 1) y0 y1 y2)) ∧ (∀ y0 y1 y2 y3, LeO (glisterref06_IsPart.j1 k y0 y1 y2 y3) (glisterref06_IsPart.j1 (k + 1) y0 y1 y2 y3))
 | 0 => ⟨fun _ _ _ r h => by simp [glisterref06_IsPart.l0] at h, fun _ _ _ _ r h => by simp [glisterref06_IsPart.j1] at h⟩
 | k + 1 => by
  obtain ⟨ih0, ih1⟩ := glisterref06_IsPart.mono_l k
  refine ⟨?_, ?_⟩
  ·intro y0 y1 y2
   unfold glisterref06_IsPart.l0
   repeat' first
   | (with_reducible exact ih0 _ _ _)
   | (with_reducible exact ih1 _ _ _ _)
   | (with_reducible exact glisterref02_Same.mono _ _ _)
   | (with_reducible exact LeO.refl _)
   | (with_reducible exact LeO.none _)
   | (with_reducible refine LeO.ite ?_ ?_)
   | (with_reducible refine LeO.bind ?_ (fun _ => ?_))
   | exact ih0 _ _ _
   | exact ih1 _ _ _ _
   | exact glisterref02_Same.mono _ _ _
   | exact LeO.none _
   | refine LeO.ite ?_ ?_
   | refine LeO.bind ?_ (fun _ => ?_)
  ·intro y0 y1 y2 y3
   unfold glisterref06_IsPart.j1
   repeat' first
   | (with_reducible exact ih0 _ _ _)
   | (with_reducible exact ih1 _ _ _ _)
   | (with_reducible exact glisterref02_Same.mono _ _ _)
   | (with_reducible exact LeO.refl _)
   | (with_reducible exact LeO.none _)
   | (with_reducible refine LeO.ite ?_ ?_)
   | (with_reducible refine LeO.bind ?_ (fun _ => ?_))
   | exact ih0 _ _ _
   | exact ih1 _ _ _ _
   | exact glisterref02_Same.mono _ _ _
   | exact LeO.none _
   | refine LeO.ite ?_ ?_
   | refine LeO.bind ?_ (fun _ => ?_)
theorem glisterref06_IsPart.mono : ∀ a0 a1 k, LeO (glisterref06_IsPart.f k a0 a1) (glisterref06_IsPart.f (k + 1) a0 a1) := by
 intro a0 a1 k
 obtain ⟨ih0, ih1⟩ := glisterref06_IsPart.mono_l k
 unfold glisterref06_IsPart.f
 repeat' first
   | (with_reducible exact ih0 _ _ _)
   | (with_reducible exact ih1 _ _ _ _)
   | (with_reducible exact glisterref02_Same.mono _ _ _)
   | (with_reducible exact LeO.refl _)
   | (with_reducible exact LeO.none _)
   | (with_reducible refine LeO.ite ?_ ?_)
   | (with_reducible refine LeO.bind ?_ (fun _ => ?_))
   | exact ih0 _ _ _
   | exact ih1 _ _ _ _
   | exact glisterref02_Same.mono _ _ _
   | exact LeO.none _
   | refine LeO.ite ?_ ?_
   | refine LeO.bind ?_ (fun _ => ?_)
set_option maxHeartbeats 8000000 in
set_option maxRecDepth 100000 in
theorem glisterref06_IsPart.calls (k : Nat) (A0 : Option Addr) (c0 : Nat) (l0 : List Int) (A1 : Option Addr) (c1 : Nat) (l1 : List Int) (r : Bool) (w : World) (hr0 : Kd.C (Kd.int .i64) w A0 l0.length l0) (hc0 : l0.length ≤ c0) (hr1 : Kd.C (Kd.int .i64) w A1 l1.length l1) (hc1 : l1.length ≤ c1) (h : glisterref06_IsPart.f k l0 l1 = some r) :
  Calls Tryz.prog 44 #[.slice A0 l0.length c0, .slice A1 l1.length c1] w fun e w' => e = .returned (.bool r) ∧ Drawn0 w w' := by
 have HR0 := Aside0.mk hr0
 have HC0 := Aside0.mk hc0
 clear hr0 hc0
 have HR1 := Aside0.mk hr1
 have HC1 := Aside0.mk hc1
 clear hr1 hc1
 have H : (glisterref06_IsPart.l0 k l0 l1 0) = some r := h
 clear h
 have H' := Aside0.mk H
 clear H
 go_enter Tryz.func44, Tryz.ntmps44
 go_wp2
 go_loopg [5] k (fun kq v5 w' => ∃ (x5_1 : Int), v5 = .int .i64 x5_1 ∧ Aside0 (glisterref06_IsPart.l0 kq l0 l1 x5_1 = some r) ∧ Aside0 (kq ≤ k) ∧ Drawn0 w w')
 case atStart => exact ⟨(0), (by first | rfl | (simp; done) | (simp [*]; done)), H', ⟨Nat.le_refl _⟩, by repeat (first | exact Drawn0.refl _ | apply Drawn0.step)⟩
 case round =>
  clear H'
  try clear c1
  try clear p2
  obtain ⟨x5_1, rfl, HA, HK1, ⟨m1, rfl⟩⟩ := hrel
  cases gk with
  | zero => exact absurd HA.out (by simp [glisterref06_IsPart.l0])
  | succ k1 =>
   have H := HA.out
   clear HA
   simp only [glisterref06_IsPart.l0] at H
   have HC3 := Aside0.mk H
   clear H
   go_upto_region 2 with (fail)
   go_cut [17] (fun v17 wc => ∃ (kq : Nat) (x17_2 : Bool), v17 = .bool x17_2 ∧ Aside0 (glisterref06_IsPart.j1 kq l0 l1 x5_1 x17_2 = some r) ∧ Aside0 (kq ≤ k1) ∧ Drawn0 w wc)
   case first =>
    have H := HC3.out
    clear HC3
    by_cases c4 : (wrap64 (x5_1 + (l0.length : Int))) ≤ (l1.length : Int)
    ·rw [if_pos c4] at H
     have c4b0 : decide ((wrap64 (x5_1 + (l0.length : Int))) ≤ (l1.length : Int)) = true := decide_eq_true c4
     clear c4
     (first | rw [c4b0] | (simp only [i64_w, i32_w]; rw [c4b0]) | skip)
     have H' := Aside0.mk H
     clear H
     go_wp2
     go_meet
     case rel => exact ⟨_, (decide ((l0.length : Int) > 0)), (by first | rfl | (simp; done) | (simp [*]; done)), H', ⟨by have := HK1.out; first | omega | exact Nat.le_refl _⟩, by repeat (first | exact Drawn0.refl _ | apply Drawn0.step)⟩
    ·rw [if_neg c4] at H
     have c4b0 : decide ((wrap64 (x5_1 + (l0.length : Int))) ≤ (l1.length : Int)) = false := decide_eq_false c4
     clear c4
     (first | rw [c4b0] | (simp only [i64_w, i32_w]; rw [c4b0]) | skip)
     have H' := Aside0.mk H
     clear H
     go_wp2
     go_meet
     case rel => exact ⟨_, (false), (by first | rfl | (simp; done) | (simp [*]; done)), H', ⟨by have := HK1.out; first | omega | exact Nat.le_refl _⟩, by repeat (first | exact Drawn0.refl _ | apply Drawn0.step)⟩
   case rest =>
    clear HC3
    try clear c1
    try clear p2
    try clear c4
    try clear c4b0
    try clear p2
    obtain ⟨kq, x17_2, rfl, HA, HJ2, ⟨mc2, rfl⟩⟩ := hcut
    cases kq with
    | zero => exact absurd HA.out (by simp [glisterref06_IsPart.j1])
    | succ kj2 =>
     have H := HA.out
     clear HA
     simp only [glisterref06_IsPart.j1] at H
     by_cases c5 : x17_2 = true
     ·subst c5
      have H1 : (if 0 ≤ x5_1 then (if x5_1 ≤ (wrap64 (x5_1 + (l0.length : Int))) then (if (wrap64 (x5_1 + (l0.length : Int))) ≤ (l1.length : Int) then ((glisterref02_Same.f kj2 l0 ((l1.take ((wrap64 (x5_1 + (l0.length : Int))) : Int).toNat).drop (x5_1 : Int).toNat)).bind fun t316 => (if t316 = true then (some true) else (glisterref06_IsPart.l0 kj2 l0 l1 (wrap64 (x5_1 + 1))))) else (none)) else (none)) else (none)) = some r := by rw [if_pos rfl] at H; exact H
      clear H
      have H := H1
      clear H1
      by_cases c6 : 0 ≤ x5_1
      ·rw [if_pos c6] at H
       have c6b0 := eq_true c6
       have c6b1 : decide (0 ≤ x5_1) = true := decide_eq_true c6
       clear c6
       by_cases c7 : x5_1 ≤ (wrap64 (x5_1 + (l0.length : Int)))
       ·rw [if_pos c7] at H
        have c7b0 := eq_true c7
        have c7b1 : decide (x5_1 ≤ (wrap64 (x5_1 + (l0.length : Int)))) = true := decide_eq_true c7
        by_cases c8 : (wrap64 (x5_1 + (l0.length : Int))) ≤ (l1.length : Int)
        ·rw [if_pos c8] at H
         have c8b0 := eq_true c8
         have c8b1 : decide ((wrap64 (x5_1 + (l0.length : Int))) ≤ (l1.length : Int)) = true := decide_eq_true c8
         replace H := Option.bind_eq_some_iff.mp H
         obtain ⟨t316, A90, H⟩ := H
         replace H : (if t316 = true then (some true) else (glisterref06_IsPart.l0 kj2 l0 l1 (wrap64 (x5_1 + 1)))) = some r := H
         have A9 := Aside0.mk A90
         clear A90
         by_cases c10 : t316 = true
         ·subst c10
          have H1 : (some true) = some r := by rw [if_pos rfl] at H; exact H
          clear H
          have H := H1
          clear H1
          obtain rfl := Option.some.inj H
          obtain ⟨i011, hi011, _, hsz11, _⟩ := info_parts info3
          obtain ⟨A11, hcut11, hA11, hC11⟩ := print_mid_of (P := Tryz.prog) (Value.int .i64) 0 25 3 .i64 .i64 Tryz.underlying25 hi011 hsz11 A1 c1 l1 x5_1 (wrap64 (x5_1 + (l0.length : Int))) (of_decide_eq_true (by first | (with_reducible assumption) | assumption)) (by first | omega | exact of_decide_eq_true (by first | (with_reducible assumption) | assumption)) (of_decide_eq_true (by first | (with_reducible assumption) | assumption)) HC1.out
          have HR315 := Aside0.mk (Kd.C_of_reads (h1 := fun _ => rfl) (hA11 _ (Kd.reads_of_C HR1.out)))
          have HC315 := Aside0.mk hC11
          clear hA11 hC11 hi011 hsz11
          go_wp2_with (first | ((with_reducible refine gate_callee (f := 24) rfl ?_); refine goesL_ (some 28) rfl rfl Tryz.func24 (by kernel_rfl) rfl #[.slice A0 l0.length c0, .slice A11 ((l1.take ((wrap64 (x5_1 + (l0.length : Int))) : Int).toNat).drop (x5_1 : Int).toNat).length (c1 - x5_1.toNat)] rfl (by (try simp only [List.map_toArray, List.map_cons, List.map_nil]); first | done | (rw [show ((l1.take ((wrap64 (x5_1 + (l0.length : Int))) : Int).toNat).drop (x5_1 : Int).toNat).length = ((wrap64 (x5_1 + (l0.length : Int))).toNat - x5_1.toNat) from (by rw [List.length_drop, List.length_take]; have h_ : ((wrap64 (x5_1 + (l0.length : Int))) : Int) ≤ (l1.length : Int) := of_decide_eq_true (by first | (with_reducible assumption) | assumption); omega)] <;> rfl) | rfl | (simp only [List.length_drop, List.length_take]; rfl)) ?_; (with_reducible refine (glisterref02_Same.calls kj2 _ _ l0 _ _ ((l1.take ((wrap64 (x5_1 + (l0.length : Int))) : Int).toNat).drop (x5_1 : Int).toNat) true _ ?side1 ?side2 ?side3 ?side4 A9.out).mono ?_); (case side1 => repeat (first | exact HR0.out | (with_reducible refine Kd.C_alloc ?_ _) | (with_reducible refine Kd.C_drewN ?_ _) | (with_reducible refine Kd.C_drew ?_))); (case side2 => exact HC0.out); (case side3 => repeat (first | exact HR315.out | (with_reducible refine Kd.C_alloc ?_ _) | (with_reducible refine Kd.C_drewN ?_ _) | (with_reducible refine Kd.C_drew ?_))); (case side4 => exact HC315.out); rintro e w' ⟨rfl, ⟨nd, rfl⟩⟩; refine ⟨_, rfl, ?_⟩))
          go_ret
          exact ⟨by first | rfl | (simp; done) | (simp [*]; done), by repeat (first | exact Drawn0.refl _ | apply Drawn0.step)⟩
         ·replace c10 := Bool.eq_false_iff.mpr c10
          subst c10
          have H1 : (glisterref06_IsPart.l0 kj2 l0 l1 (wrap64 (x5_1 + 1))) = some r := by rw [if_neg (show ¬ (false = true) by decide)] at H; exact H
          clear H
          have H := H1
          clear H1
          have H' := Aside0.mk H
          clear H
          obtain ⟨i012, hi012, _, hsz12, _⟩ := info_parts info3
          obtain ⟨A12, hcut12, hA12, hC12⟩ := print_mid_of (P := Tryz.prog) (Value.int .i64) 0 25 3 .i64 .i64 Tryz.underlying25 hi012 hsz12 A1 c1 l1 x5_1 (wrap64 (x5_1 + (l0.length : Int))) (of_decide_eq_true (by first | (with_reducible assumption) | assumption)) (by first | omega | exact of_decide_eq_true (by first | (with_reducible assumption) | assumption)) (of_decide_eq_true (by first | (with_reducible assumption) | assumption)) HC1.out
          have HR315 := Aside0.mk (Kd.C_of_reads (h1 := fun _ => rfl) (hA12 _ (Kd.reads_of_C HR1.out)))
          have HC315 := Aside0.mk hC12
          clear hA12 hC12 hi012 hsz12
          go_wp2_with (first | ((with_reducible refine gate_callee (f := 24) rfl ?_); refine goesL_ (some 28) rfl rfl Tryz.func24 (by kernel_rfl) rfl #[.slice A0 l0.length c0, .slice A12 ((l1.take ((wrap64 (x5_1 + (l0.length : Int))) : Int).toNat).drop (x5_1 : Int).toNat).length (c1 - x5_1.toNat)] rfl (by (try simp only [List.map_toArray, List.map_cons, List.map_nil]); first | done | (rw [show ((l1.take ((wrap64 (x5_1 + (l0.length : Int))) : Int).toNat).drop (x5_1 : Int).toNat).length = ((wrap64 (x5_1 + (l0.length : Int))).toNat - x5_1.toNat) from (by rw [List.length_drop, List.length_take]; have h_ : ((wrap64 (x5_1 + (l0.length : Int))) : Int) ≤ (l1.length : Int) := of_decide_eq_true (by first | (with_reducible assumption) | assumption); omega)] <;> rfl) | rfl | (simp only [List.length_drop, List.length_take]; rfl)) ?_; (with_reducible refine (glisterref02_Same.calls kj2 _ _ l0 _ _ ((l1.take ((wrap64 (x5_1 + (l0.length : Int))) : Int).toNat).drop (x5_1 : Int).toNat) false _ ?side1 ?side2 ?side3 ?side4 A9.out).mono ?_); (case side1 => repeat (first | exact HR0.out | (with_reducible refine Kd.C_alloc ?_ _) | (with_reducible refine Kd.C_drewN ?_ _) | (with_reducible refine Kd.C_drew ?_))); (case side2 => exact HC0.out); (case side3 => repeat (first | exact HR315.out | (with_reducible refine Kd.C_alloc ?_ _) | (with_reducible refine Kd.C_drewN ?_ _) | (with_reducible refine Kd.C_drew ?_))); (case side4 => exact HC315.out); rintro e w' ⟨rfl, ⟨nd, rfl⟩⟩; refine ⟨_, rfl, ?_⟩))
          go_roundg kj2
          case measure => have := HK1.out; have := HJ2.out; omega
          case rel => exact ⟨(wrap64 (x5_1 + 1)), (by first | rfl | (simp; done) | (simp [*]; done)), H', ⟨by have := HK1.out; have := HJ2.out; omega⟩, by repeat (first | exact Drawn0.refl _ | apply Drawn0.step)⟩
        ·rw [if_neg c8] at H
         exact absurd H (by simp)
       ·rw [if_neg c7] at H
        exact absurd H (by simp)
      ·rw [if_neg c6] at H
       exact absurd H (by simp)
     ·replace c5 := Bool.eq_false_iff.mpr c5
      subst c5
      have H1 : (some false) = some r := by rw [if_neg (show ¬ (false = true) by decide)] at H; exact H
      clear H
      have H := H1
      clear H1
      obtain rfl := Option.some.inj H
      go_wp2
      go_ret
      exact ⟨by first | rfl | (simp; done) | (simp [*]; done), by repeat (first | exact Drawn0.refl _ | apply Drawn0.step)⟩
mutual
def glisterref06_Before.l0 : Nat → List Int → List Int → Int → Option (Bool)
 | 0, _, _, _ => none
 | k + 1, x0, x1, x5 => if x5 < (x0.length : Int) then (glisterref06_Before.j1 k x0 x1 x5 (decide (x5 < (x1.length : Int)))) else (glisterref06_Before.j1 k x0 x1 x5 false)
def glisterref06_Before.j1 : Nat → List Int → List Int → Int → Bool → Option (Bool)
 | 0, _, _, _, _ => none
 | k + 1, x0, x1, x5, x15 => if x15 = true then (if 0 ≤ x5 then (if x5 < (x0.length : Int) then (if x5 < (x1.length : Int) then (if (rd x0 x5) = (rd x1 x5) then (glisterref06_Before.l0 k x0 x1 (wrap64 (x5 + 1))) else (some (decide ((rd x0 x5) < (rd x1 x5))))) else (none)) else (none)) else (none)) else (some (decide ((x0.length : Int) < (x1.length : Int))))
end
def glisterref06_Before.f (k : Nat) (l0 : List Int) (l1 : List Int) : Option (Bool) := glisterref06_Before.l0 k l0 l1 0
theorem glisterref06_Before.mono_l : ∀ k, (∀ y0 y1 y2, LeO (glisterref06_Before.l0 k y0 y1 y2) (glisterref06_Before.l0 (k + 1) y0 y1 y2)) ∧ (∀ y0 y1 y2 y3, LeO (glisterref06_Before.j1 k y0 y1 y2 y3) (glisterref06_Before.j1 (k + 1) y0 y1 y2 y3))
 | 0 => ⟨fun _ _ _ r h => by simp [glisterref06_Before.l0] at h, fun _ _ _ _ r h => by simp [glisterref06_Before.j1] at h⟩
 | k + 1 => by
  obtain ⟨ih0, ih1⟩ := glisterref06_Before.mono_l k
  refine ⟨?_, ?_⟩
  ·intro y0 y1 y2
   unfold glisterref06_Before.l0
   repeat' first
   | (with_reducible exact ih0 _ _ _)
   | (with_reducible exact ih1 _ _ _ _)
   | (with_reducible exact LeO.refl _)
   | (with_reducible exact LeO.none _)
   | (with_reducible refine LeO.ite ?_ ?_)
   | (with_reducible refine LeO.bind ?_ (fun _ => ?_))
   | exact ih0 _ _ _
   | exact ih1 _ _ _ _
   | exact LeO.none _
   | refine LeO.ite ?_ ?_
   | refine LeO.bind ?_ (fun _ => ?_)
  ·intro y0 y1 y2 y3
   unfold glisterref06_Before.j1
   repeat' first
   | (with_reducible exact ih0 _ _ _)
   | (with_reducible exact ih1 _ _ _ _)
   | (with_reducible exact LeO.refl _)
   | (with_reducible exact LeO.none _)
   | (with_reducible refine LeO.ite ?_ ?_)
   | (with_reducible refine LeO.bind ?_ (fun _ => ?_))
   | exact ih0 _ _ _
   | exact ih1 _ _ _ _
   | exact LeO.none _
   | refine LeO.ite ?_ ?_
   | refine LeO.bind ?_ (fun _ => ?_)
theorem glisterref06_Before.mono : ∀ a0 a1 k, LeO (glisterref06_Before.f k a0 a1) (glisterref06_Before.f (k + 1) a0 a1) := by
 intro a0 a1 k
 obtain ⟨ih0, ih1⟩ := glisterref06_Before.mono_l k
 unfold glisterref06_Before.f
 repeat' first
   | (with_reducible exact ih0 _ _ _)
   | (with_reducible exact ih1 _ _ _ _)
   | (with_reducible exact LeO.refl _)
   | (with_reducible exact LeO.none _)
   | (with_reducible refine LeO.ite ?_ ?_)
   | (with_reducible refine LeO.bind ?_ (fun _ => ?_))
   | exact ih0 _ _ _
   | exact ih1 _ _ _ _
   | exact LeO.none _
   | refine LeO.ite ?_ ?_
   | refine LeO.bind ?_ (fun _ => ?_)
set_option maxHeartbeats 8000000 in
set_option maxRecDepth 100000 in
theorem glisterref06_Before.calls (k : Nat) (A0 : Option Addr) (c0 : Nat) (l0 : List Int) (A1 : Option Addr) (c1 : Nat) (l1 : List Int) (r : Bool) (w : World) (hr0 : Kd.C (Kd.int .i64) w A0 l0.length l0) (hc0 : l0.length ≤ c0) (hr1 : Kd.C (Kd.int .i64) w A1 l1.length l1) (hc1 : l1.length ≤ c1) (h : glisterref06_Before.f k l0 l1 = some r) :
  Calls Tryz.prog 52 #[.slice A0 l0.length c0, .slice A1 l1.length c1] w fun e w' => e = .returned (.bool r) ∧ Drawn0 w w' := by
 have HR0 := Aside0.mk hr0
 have HC0 := Aside0.mk hc0
 clear hr0 hc0
 have HR1 := Aside0.mk hr1
 have HC1 := Aside0.mk hc1
 clear hr1 hc1
 have H : (glisterref06_Before.l0 k l0 l1 0) = some r := h
 clear h
 have H' := Aside0.mk H
 clear H
 go_enter Tryz.func52, Tryz.ntmps52
 go_wp2
 repeat (go_quiet (fail); try go_wp2)
 go_loopg [5] k (fun kq v5 w' => ∃ (x5_1 : Int), v5 = .int .i64 x5_1 ∧ Aside0 (glisterref06_Before.l0 kq l0 l1 x5_1 = some r) ∧ Aside0 (kq ≤ k) ∧ Drawn0 w w')
 case atStart => exact ⟨(0), (by first | rfl | (simp; done) | (simp [*]; done)), H', ⟨Nat.le_refl _⟩, by repeat (first | exact Drawn0.refl _ | apply Drawn0.step)⟩
 case round =>
  clear H'
  try clear c1
  try clear p2
  obtain ⟨x5_1, rfl, HA, HK1, ⟨m1, rfl⟩⟩ := hrel
  cases gk with
  | zero => exact absurd HA.out (by simp [glisterref06_Before.l0])
  | succ k1 =>
   have H := HA.out
   clear HA
   simp only [glisterref06_Before.l0] at H
   have HC3 := Aside0.mk H
   clear H
   go_upto_region 2 with (fail)
   repeat (go_quiet (fail); go_upto_region 2 with (fail))
   go_cut [15] (fun v15 wc => ∃ (kq : Nat) (x15_2 : Bool), v15 = .bool x15_2 ∧ Aside0 (glisterref06_Before.j1 kq l0 l1 x5_1 x15_2 = some r) ∧ Aside0 (kq ≤ k1) ∧ Drawn0 w wc)
   case first =>
    have H := HC3.out
    clear HC3
    by_cases c4 : x5_1 < (l0.length : Int)
    ·rw [if_pos c4] at H
     have c4b0 : decide (x5_1 < (l0.length : Int)) = true := decide_eq_true c4
     clear c4
     (first | rw [c4b0] | (simp only [i64_w, i32_w]; rw [c4b0]) | skip)
     have H' := Aside0.mk H
     clear H
     go_wp2
     repeat (go_quiet (fail); try go_wp2)
     go_meet
     case rel => exact ⟨_, (decide (x5_1 < (l1.length : Int))), (by first | rfl | (simp; done) | (simp [*]; done)), H', ⟨by have := HK1.out; first | omega | exact Nat.le_refl _⟩, by repeat (first | exact Drawn0.refl _ | apply Drawn0.step)⟩
    ·rw [if_neg c4] at H
     have c4b0 : decide (x5_1 < (l0.length : Int)) = false := decide_eq_false c4
     clear c4
     (first | rw [c4b0] | (simp only [i64_w, i32_w]; rw [c4b0]) | skip)
     have H' := Aside0.mk H
     clear H
     go_wp2
     repeat (go_quiet (fail); try go_wp2)
     go_meet
     case rel => exact ⟨_, (false), (by first | rfl | (simp; done) | (simp [*]; done)), H', ⟨by have := HK1.out; first | omega | exact Nat.le_refl _⟩, by repeat (first | exact Drawn0.refl _ | apply Drawn0.step)⟩
   case rest =>
    clear HC3
    try clear c1
    try clear p2
    try clear c4
    try clear c4b0
    try clear p2
    obtain ⟨kq, x15_2, rfl, HA, HJ2, ⟨mc2, rfl⟩⟩ := hcut
    cases kq with
    | zero => exact absurd HA.out (by simp [glisterref06_Before.j1])
    | succ kj2 =>
     have H := HA.out
     clear HA
     simp only [glisterref06_Before.j1] at H
     by_cases c5 : x15_2 = true
     ·subst c5
      have H1 : (if 0 ≤ x5_1 then (if x5_1 < (l0.length : Int) then (if x5_1 < (l1.length : Int) then (if (rd l0 x5_1) = (rd l1 x5_1) then (glisterref06_Before.l0 kj2 l0 l1 (wrap64 (x5_1 + 1))) else (some (decide ((rd l0 x5_1) < (rd l1 x5_1))))) else (none)) else (none)) else (none)) = some r := by rw [if_pos rfl] at H; exact H
      clear H
      have H := H1
      clear H1
      by_cases c6 : 0 ≤ x5_1
      ·rw [if_pos c6] at H
       have c6b0 : decide (0 ≤ x5_1) = true := decide_eq_true c6
       clear c6
       by_cases c7 : x5_1 < (l0.length : Int)
       ·rw [if_pos c7] at H
        have c7b0 : decide (x5_1 < (l0.length : Int)) = true := decide_eq_true c7
        clear c7
        by_cases c8 : x5_1 < (l1.length : Int)
        ·rw [if_pos c8] at H
         have c8b0 : decide (x5_1 < (l1.length : Int)) = true := decide_eq_true c8
         clear c8
         by_cases c9 : (rd l0 x5_1) = (rd l1 x5_1)
         ·rw [if_pos c9] at H
          have c9b0 : ((rd l0 x5_1) == (rd l1 x5_1)) = true := beq_iff_eq.mpr c9
          have c9b1 : ((rd l0 x5_1) != (rd l1 x5_1)) = false := bne_eq_false_iff_eq.mpr c9
          clear c9
          have H' := Aside0.mk H
          clear H
          have p322 : 0 ≤ (x5_1 : Int) := of_decide_eq_true (by first | (with_reducible assumption) | assumption)
          have q322 : x5_1 < (l0.length : Int) := of_decide_eq_true (by first | (with_reducible assumption) | assumption)
          obtain ⟨ad322, e322, hx322_0⟩ := Kd.at_int HR0.out x5_1 p322 q322
          cases e322
          replace p322 := eq_true p322
          replace q322 := eq_true q322
          have p323 : 0 ≤ (x5_1 : Int) := of_decide_eq_true (by first | (with_reducible assumption) | assumption)
          have q323 : x5_1 < (l1.length : Int) := of_decide_eq_true (by first | (with_reducible assumption) | assumption)
          obtain ⟨ad323, e323, hx323_0⟩ := Kd.at_int HR1.out x5_1 p323 q323
          cases e323
          replace p323 := eq_true p323
          replace q323 := eq_true q323
          go_wp2
          repeat (go_quiet (fail); try go_wp2)
          go_roundg kj2
          case measure => have := HK1.out; have := HJ2.out; omega
          case rel => exact ⟨(wrap64 (x5_1 + 1)), (by first | rfl | (simp; done) | (simp [*]; done)), H', ⟨by have := HK1.out; have := HJ2.out; omega⟩, by repeat (first | exact Drawn0.refl _ | apply Drawn0.step)⟩
         ·rw [if_neg c9] at H
          have c9b0 : ((rd l0 x5_1) == (rd l1 x5_1)) = false := beq_eq_false_iff_ne.mpr c9
          have c9b1 : ((rd l0 x5_1) != (rd l1 x5_1)) = true := bne_iff_ne.mpr c9
          obtain rfl := Option.some.inj H
          have p322 : 0 ≤ (x5_1 : Int) := of_decide_eq_true (by first | (with_reducible assumption) | assumption)
          have q322 : x5_1 < (l0.length : Int) := of_decide_eq_true (by first | (with_reducible assumption) | assumption)
          obtain ⟨ad322, e322, hx322_0⟩ := Kd.at_int HR0.out x5_1 p322 q322
          cases e322
          replace p322 := eq_true p322
          replace q322 := eq_true q322
          have p323 : 0 ≤ (x5_1 : Int) := of_decide_eq_true (by first | (with_reducible assumption) | assumption)
          have q323 : x5_1 < (l1.length : Int) := of_decide_eq_true (by first | (with_reducible assumption) | assumption)
          obtain ⟨ad323, e323, hx323_0⟩ := Kd.at_int HR1.out x5_1 p323 q323
          cases e323
          replace p323 := eq_true p323
          replace q323 := eq_true q323
          have p324 : 0 ≤ (x5_1 : Int) := of_decide_eq_true (by first | (with_reducible assumption) | assumption)
          have q324 : x5_1 < (l0.length : Int) := of_decide_eq_true (by first | (with_reducible assumption) | assumption)
          obtain ⟨ad324, e324, hx324_0⟩ := Kd.at_int HR0.out x5_1 p324 q324
          obtain rfl : ad322 = ad324 := (by injection e324)
          replace p324 := eq_true p324
          replace q324 := eq_true q324
          have p325 : 0 ≤ (x5_1 : Int) := of_decide_eq_true (by first | (with_reducible assumption) | assumption)
          have q325 : x5_1 < (l1.length : Int) := of_decide_eq_true (by first | (with_reducible assumption) | assumption)
          obtain ⟨ad325, e325, hx325_0⟩ := Kd.at_int HR1.out x5_1 p325 q325
          obtain rfl : ad323 = ad325 := (by injection e325)
          replace p325 := eq_true p325
          replace q325 := eq_true q325
          go_wp2
          repeat (go_quiet (fail); try go_wp2)
          go_ret
          exact ⟨by first | rfl | (simp; done) | (simp [*]; done), by repeat (first | exact Drawn0.refl _ | apply Drawn0.step)⟩
        ·rw [if_neg c8] at H
         exact absurd H (by simp)
       ·rw [if_neg c7] at H
        exact absurd H (by simp)
      ·rw [if_neg c6] at H
       exact absurd H (by simp)
     ·replace c5 := Bool.eq_false_iff.mpr c5
      subst c5
      have H1 : (some (decide ((l0.length : Int) < (l1.length : Int)))) = some r := by rw [if_neg (show ¬ (false = true) by decide)] at H; exact H
      clear H
      have H := H1
      clear H1
      obtain rfl := Option.some.inj H
      go_wp2
      repeat (go_quiet (fail); try go_wp2)
      go_ret
      exact ⟨by first | rfl | (simp; done) | (simp [*]; done), by repeat (first | exact Drawn0.refl _ | apply Drawn0.step)⟩
def glisterref06_Shorter.f (k : Nat) (l0 : List Int) (l1 : List Int) : Option (Bool) := if (l0.length : Int) < (l1.length : Int) then (some true) else (if (l0.length : Int) = (l1.length : Int) then ((glisterref06_Before.f k l0 l1).bind fun t430 => (some t430)) else (some false))
theorem glisterref06_Shorter.mono : ∀ a0 a1 k, LeO (glisterref06_Shorter.f k a0 a1) (glisterref06_Shorter.f (k + 1) a0 a1) := by
 intro a0 a1 k
 unfold glisterref06_Shorter.f
 repeat' first
   | (with_reducible exact glisterref06_Before.mono _ _ _)
   | (with_reducible exact LeO.refl _)
   | (with_reducible exact LeO.none _)
   | (with_reducible refine LeO.ite ?_ ?_)
   | (with_reducible refine LeO.bind ?_ (fun _ => ?_))
   | exact glisterref06_Before.mono _ _ _
   | exact LeO.none _
   | refine LeO.ite ?_ ?_
   | refine LeO.bind ?_ (fun _ => ?_)
set_option maxHeartbeats 8000000 in
set_option maxRecDepth 100000 in
theorem glisterref06_Shorter.calls (k : Nat) (A0 : Option Addr) (c0 : Nat) (l0 : List Int) (A1 : Option Addr) (c1 : Nat) (l1 : List Int) (r : Bool) (w : World) (hr0 : Kd.C (Kd.int .i64) w A0 l0.length l0) (hc0 : l0.length ≤ c0) (hr1 : Kd.C (Kd.int .i64) w A1 l1.length l1) (hc1 : l1.length ≤ c1) (h : glisterref06_Shorter.f k l0 l1 = some r) :
  Calls Tryz.prog 43 #[.slice A0 l0.length c0, .slice A1 l1.length c1] w fun e w' => e = .returned (.bool r) ∧ Drawn0 w w' := by
 have HR0 := Aside0.mk hr0
 have HC0 := Aside0.mk hc0
 clear hr0 hc0
 have HR1 := Aside0.mk hr1
 have HC1 := Aside0.mk hc1
 clear hr1 hc1
 have H : (if (l0.length : Int) < (l1.length : Int) then (some true) else (if (l0.length : Int) = (l1.length : Int) then ((glisterref06_Before.f k l0 l1).bind fun t430 => (some t430)) else (some false))) = some r := h
 clear h
 by_cases c3 : (l0.length : Int) < (l1.length : Int)
 ·rw [if_pos c3] at H
  have c3b0 : decide ((l0.length : Int) < (l1.length : Int)) = true := decide_eq_true c3
  have c3b1 : decide (l0.length < l1.length) = true := decide_eq_true (Int.ofNat_lt.mp c3)
  clear c3
  obtain rfl := Option.some.inj H
  go_enter Tryz.func43, Tryz.ntmps43
  go_wp2
  go_ret
  exact ⟨by first | rfl | (simp; done) | (simp [*]; done), by repeat (first | exact Drawn0.refl _ | apply Drawn0.step)⟩
 ·rw [if_neg c3] at H
  have c3b0 : decide ((l0.length : Int) < (l1.length : Int)) = false := decide_eq_false c3
  have c3b1 : decide (l0.length < l1.length) = false := decide_eq_false (fun h => c3 (Int.ofNat_lt.mpr h))
  clear c3
  by_cases c4 : (l0.length : Int) = (l1.length : Int)
  ·rw [if_pos c4] at H
   have c4b0 : ((l0.length : Int) == (l1.length : Int)) = true := beq_iff_eq.mpr c4
   have c4b1 : ((l0.length : Int) != (l1.length : Int)) = false := bne_eq_false_iff_eq.mpr c4
   have c4b2 : (l0.length == l1.length) = true := by first | simpa using c4 | (simp at c4 ⊢; omega)
   clear c4
   replace H := Option.bind_eq_some_iff.mp H
   obtain ⟨t430, A50, H⟩ := H
   replace H : (some t430) = some r := H
   have A5 := Aside0.mk A50
   clear A50
   obtain rfl := Option.some.inj H
   go_enter Tryz.func43, Tryz.ntmps43
   go_wp2_with (first | (go_at_call 52; (with_reducible refine (glisterref06_Before.calls k _ _ l0 _ _ l1 t430 _ ?side1 ?side2 ?side3 ?side4 A5.out).mono ?_); (case side1 => repeat (first | exact HR0.out | (with_reducible refine Kd.C_alloc ?_ _) | (with_reducible refine Kd.C_drewN ?_ _) | (with_reducible refine Kd.C_drew ?_))); (case side2 => exact HC0.out); (case side3 => repeat (first | exact HR1.out | (with_reducible refine Kd.C_alloc ?_ _) | (with_reducible refine Kd.C_drewN ?_ _) | (with_reducible refine Kd.C_drew ?_))); (case side4 => exact HC1.out); rintro e w' ⟨rfl, ⟨nd, rfl⟩⟩))
   go_ret
   exact ⟨by first | rfl | (simp; done) | (simp [*]; done), by repeat (first | exact Drawn0.refl _ | apply Drawn0.step)⟩
  ·rw [if_neg c4] at H
   have c4b0 : ((l0.length : Int) == (l1.length : Int)) = false := beq_eq_false_iff_ne.mpr c4
   have c4b1 : ((l0.length : Int) != (l1.length : Int)) = true := bne_iff_ne.mpr c4
   have c4b2 : (l0.length == l1.length) = false := by first | simpa using c4 | (simp at c4 ⊢; omega)
   obtain rfl := Option.some.inj H
   go_enter Tryz.func43, Tryz.ntmps43
   go_wp2
   go_ret
   exact ⟨by first | rfl | (simp; done) | (simp [*]; done), by repeat (first | exact Drawn0.refl _ | apply Drawn0.step)⟩
def glisterref06_Falses.l0 : Nat → List Int → Int → Int → Option (Int)
 | 0, _, _, _ => none
 | k + 1, x0, x3, x4 => if x4 < (x0.length : Int) then (if 0 ≤ x4 then (if (rd x0 x4) = (-1) then (glisterref06_Falses.l0 k x0 (wrap64 (x3 + 1)) (wrap64 (x4 + 1))) else (glisterref06_Falses.l0 k x0 x3 (wrap64 (x4 + 1)))) else (none)) else (some x3)
def glisterref06_Falses.f (k : Nat) (l0 : List Int) : Option (Int) := glisterref06_Falses.l0 k l0 0 0
theorem glisterref06_Falses.mono_l : ∀ k, (∀ y0 y1 y2, LeO (glisterref06_Falses.l0 k y0 y1 y2) (glisterref06_Falses.l0 (k + 1) y0 y1 y2))
 | 0 => fun _ _ _ r h => by simp [glisterref06_Falses.l0] at h
 | k + 1 => by
  have ih0 := glisterref06_Falses.mono_l k
  ·intro y0 y1 y2
   unfold glisterref06_Falses.l0
   repeat' first
   | (with_reducible exact ih0 _ _ _)
   | (with_reducible exact LeO.refl _)
   | (with_reducible exact LeO.none _)
   | (with_reducible refine LeO.ite ?_ ?_)
   | (with_reducible refine LeO.bind ?_ (fun _ => ?_))
   | exact ih0 _ _ _
   | exact LeO.none _
   | refine LeO.ite ?_ ?_
   | refine LeO.bind ?_ (fun _ => ?_)
theorem glisterref06_Falses.mono : ∀ a0 k, LeO (glisterref06_Falses.f k a0) (glisterref06_Falses.f (k + 1) a0) := by
 intro a0 k
 have ih0 := glisterref06_Falses.mono_l k
 unfold glisterref06_Falses.f
 repeat' first
   | (with_reducible exact ih0 _ _ _)
   | (with_reducible exact LeO.refl _)
   | (with_reducible exact LeO.none _)
   | (with_reducible refine LeO.ite ?_ ?_)
   | (with_reducible refine LeO.bind ?_ (fun _ => ?_))
   | exact ih0 _ _ _
   | exact LeO.none _
   | refine LeO.ite ?_ ?_
   | refine LeO.bind ?_ (fun _ => ?_)
set_option maxHeartbeats 8000000 in
set_option maxRecDepth 100000 in
theorem glisterref06_Falses.calls (k : Nat) (A0 : Option Addr) (c0 : Nat) (l0 : List Int) (r : Int) (w : World) (hr0 : Kd.C (Kd.int .i64) w A0 l0.length l0) (hc0 : l0.length ≤ c0) (h : glisterref06_Falses.f k l0 = some r) :
  Calls Tryz.prog 51 #[.slice A0 l0.length c0] w fun e w' => e = .returned (.int .i64 r) ∧ Drawn0 w w' := by
 have HR0 := Aside0.mk hr0
 have HC0 := Aside0.mk hc0
 clear hr0 hc0
 have H : (glisterref06_Falses.l0 k l0 0 0) = some r := h
 clear h
 have H' := Aside0.mk H
 clear H
 go_enter Tryz.func51, Tryz.ntmps51
 go_wp2
 go_loopg [3, 4] k (fun kq v3 v4 w' => ∃ (x3_1 : Int) (x4_1 : Int), v3 = .int .i64 x3_1 ∧ v4 = .int .i64 x4_1 ∧ Aside0 (glisterref06_Falses.l0 kq l0 x3_1 x4_1 = some r) ∧ Aside0 (kq ≤ k) ∧ Drawn0 w w')
 case atStart => exact ⟨(0), (0), (by first | rfl | (simp; done) | (simp [*]; done)), (by first | rfl | (simp; done) | (simp [*]; done)), H', ⟨Nat.le_refl _⟩, by repeat (first | exact Drawn0.refl _ | apply Drawn0.step)⟩
 case round =>
  clear H'
  obtain ⟨x3_1, x4_1, rfl, rfl, HA, HK1, ⟨m1, rfl⟩⟩ := hrel
  cases gk with
  | zero => exact absurd HA.out (by simp [glisterref06_Falses.l0])
  | succ k1 =>
   have H := HA.out
   clear HA
   simp only [glisterref06_Falses.l0] at H
   by_cases c2 : x4_1 < (l0.length : Int)
   ·rw [if_pos c2] at H
    have c2b0 : decide (x4_1 < (l0.length : Int)) = true := decide_eq_true c2
    clear c2
    by_cases c3 : 0 ≤ x4_1
    ·rw [if_pos c3] at H
     have c3b0 : decide (0 ≤ x4_1) = true := decide_eq_true c3
     clear c3
     by_cases c4 : (rd l0 x4_1) = (-1)
     ·rw [if_pos c4] at H
      have c4b0 : ((rd l0 x4_1) == (-1)) = true := beq_iff_eq.mpr c4
      have c4b1 : ((rd l0 x4_1) != (-1)) = false := bne_eq_false_iff_eq.mpr c4
      clear c4
      have H' := Aside0.mk H
      clear H
      have p1079 : 0 ≤ (x4_1 : Int) := of_decide_eq_true (by first | (with_reducible assumption) | assumption)
      have q1079 : x4_1 < (l0.length : Int) := of_decide_eq_true (by first | (with_reducible assumption) | assumption)
      obtain ⟨ad1079, e1079, hx1079_0⟩ := Kd.at_int HR0.out x4_1 p1079 q1079
      cases e1079
      replace p1079 := eq_true p1079
      replace q1079 := eq_true q1079
      go_wp2
      go_roundg k1
      case measure => have := HK1.out; omega
      case rel => exact ⟨(wrap64 (x3_1 + 1)), (wrap64 (x4_1 + 1)), (by first | rfl | (simp; done) | (simp [*]; done)), (by first | rfl | (simp; done) | (simp [*]; done)), H', ⟨by have := HK1.out; omega⟩, by repeat (first | exact Drawn0.refl _ | apply Drawn0.step)⟩
     ·rw [if_neg c4] at H
      have c4b0 : ((rd l0 x4_1) == (-1)) = false := beq_eq_false_iff_ne.mpr c4
      have c4b1 : ((rd l0 x4_1) != (-1)) = true := bne_iff_ne.mpr c4
      have H' := Aside0.mk H
      clear H
      have p1079 : 0 ≤ (x4_1 : Int) := of_decide_eq_true (by first | (with_reducible assumption) | assumption)
      have q1079 : x4_1 < (l0.length : Int) := of_decide_eq_true (by first | (with_reducible assumption) | assumption)
      obtain ⟨ad1079, e1079, hx1079_0⟩ := Kd.at_int HR0.out x4_1 p1079 q1079
      cases e1079
      replace p1079 := eq_true p1079
      replace q1079 := eq_true q1079
      go_wp2
      go_roundg k1
      case measure => have := HK1.out; omega
      case rel => exact ⟨(x3_1), (wrap64 (x4_1 + 1)), (by first | rfl | (simp; done) | (simp [*]; done)), (by first | rfl | (simp; done) | (simp [*]; done)), H', ⟨by have := HK1.out; omega⟩, by repeat (first | exact Drawn0.refl _ | apply Drawn0.step)⟩
    ·rw [if_neg c3] at H
     exact absurd H (by simp)
   ·rw [if_neg c2] at H
    have c2b0 : decide (x4_1 < (l0.length : Int)) = false := decide_eq_false c2
    clear c2
    obtain rfl := Option.some.inj H
    go_wp2
    go_ret
    exact ⟨by first | rfl | (simp; done) | (simp [*]; done), by repeat (first | exact Drawn0.refl _ | apply Drawn0.step)⟩
end Go.Proofs.YthgfhgjlilmieaaGreat.B
namespace Go.Proofs.YthgfhgjlilmieaaGreat.G
open Go.RowKit Go.Shelf Go.Proofs.YthgfhgjlilmieaaGreatW.PrintWords Go.Proofs.YthgfhgjlilmieaaGreatW.PrintLast Go.Proofs.YthgfhgjlilmieaaGreatW.PrintMore
open Go.Proofs.YthgfhgjlilmieaaGreat.B
set_option linter.unusedVariables false
set_option linter.unusedSimpArgs false
theorem has_l (xs : List Int) (n : Int) (hb : xs.length ≤ 9223372036854775807) : ∀ (d i k : Nat), d = xs.length - i → i ≤ xs.length → d < k → glisterref06_Has.l0 k xs n i = some ((xs.drop i).contains n) := by
  intro d
  induction d with
  | zero =>
    intro i k hd hi hk
    obtain ⟨k, rfl⟩ : ∃ m, k = m + 1 := ⟨k - 1, by omega⟩
    simp only [glisterref06_Has.l0]
    rw [if_neg (by omega), List.drop_eq_nil_of_le (by omega)]
    rfl
  | succ d ih =>
    intro i k hd hi hk
    obtain ⟨k, rfl⟩ : ∃ m, k = m + 1 := ⟨k - 1, by omega⟩
    have h1 : i < xs.length := by omega
    simp only [glisterref06_Has.l0]
    rw [if_pos (by omega), if_pos (by omega), rd_nat xs i h1, wrap_nat i xs.length h1 hb, ih (i + 1) k (by omega) (by omega) (by omega), List.drop_eq_getElem_cons h1, List.contains_cons]
    by_cases hx : xs[i] = n
    · rw [if_pos hx]; simp [hx]
    · rw [if_neg hx]
      have : (n == xs[i]) = false := by simp; exact fun h => hx h.symm
      rw [this, Bool.false_or]
theorem has_f (xs : List Int) (n : Int) (hb : xs.length ≤ 9223372036854775807) (k : Nat) (hk : xs.length < k) : glisterref06_Has.f k xs n = some (xs.contains n) := by
  unfold glisterref06_Has.f
  have := has_l xs n hb xs.length 0 k (by omega) (by omega) (by omega)
  simpa using this
theorem masked27_at (a : LV) (l : Lg) (n : Int) (w : World) (hL : LogAt w a l) : Calls Tryz.prog 27 #[logV a l, .int .i64 n] w (OwnP (mskL l n) (mskE l n) w) := (masked_any a l n w hL).mono fun e w' ⟨v, he, hR, hb⟩ => by
  obtain ⟨A, c, rfl, hl, hC⟩ := Kd.R_reads hR
  exact ⟨A, c, he, hl, hC, hb⟩
theorem leave32_at (a : LV) (l : Lg) (w : World) (hL : LogAt w a l) : Calls Tryz.prog 32 #[logV a l] w (OwnP (leaveL l) (leaveE l) w) := (leave32_any a l w hL).mono fun e w' ⟨v, he, hR, hb⟩ => by
  obtain ⟨A, c, rfl, hl, hC⟩ := Kd.R_reads hR
  exact ⟨A, c, he, hl, hC, hb⟩
def Q34 (l : Lg) (b : Bool) : Prop := b = true → ThinOk l ∧ logE l = 0
set_option maxRecDepth 100000 in
set_option maxHeartbeats 4000000 in
theorem ready34_any (a : LV) (l : Lg) (w : World) (hL : LogAt w a l) : Calls Tryz.prog 34 #[logV a l] w (SomeB (Q34 l) w) := by
  have hu := Tryz.underlying29
  have hz : ∀ W, Below (w.heap.size + 1) (w.alloc (logD a l)) W → LogAt W a l := fun W h => hL.below (toW h)
  have HTH := Aside0.mk (fun W h => thin17_any a l W (hz W h))
  have HFL := Aside0.mk (fun W h => fault22_any a l W (hz W h))
  have HCE := Aside0.mk (logCells a l w)
  have HTW := Aside0.mk (fun W h => toW (a := a) (l := l) (w := w) (W := W) h)
  have BW := Aside0.mk (Below.refl (w.heap.size + 1) (w.alloc (logD a l)))
  have HN : Aside0 (w.heap.size + 1 ≤ (w.alloc (logD a l)).heap.size) := ⟨by simp⟩
  obtain ⟨A0, A2, A3, A4, c0, c2, c3, c4⟩ := a
  dsimp only [logV] at HTH HFL HCE ⊢
  clear hz hL
  have HQ : Aside0 (∀ b, (b = true → ThinOk l) → Q34 l (b && logE l == 0)) := ⟨fun b h e => by
    simp only [Bool.and_eq_true, beq_iff_eq] at e
    exact ⟨h e.1, e.2⟩⟩
  generalize hE : logE l = E at HFL HQ
  clear hE
  generalize Q34 l = Q at *
  go_enter Tryz.func34, Tryz.ntmps34
  go_wp2_with (fail)
  refine (HTH.out _ BW.out).mono ?_
  rintro e w1_ ⟨b, rfl, hq, hb⟩
  have HQ1 := Aside0.mk hq
  clear hq
  have BW := Aside0.mk (step_b BW.out HN.out hb)
  obtain ⟨b0, b1, b2, b3, b4⟩ := HCE.out _ BW.out
  clear hb
  cases b with
  | false =>
    go_wp2
    go_ret
    exact ⟨_, rfl, by simpa using HQ.out false HQ1.out, HTW.out _ BW.out⟩
  | true =>
    go_wp2_with (fail)
    refine (HFL.out _ BW.out).mono ?_
    rintro e w2_ ⟨rfl, hb⟩
    have BW := Aside0.mk (step_b BW.out HN.out hb)
    clear b0 b1 b2 b3 b4 hb
    go_wp2
    go_ret
    exact ⟨_, rfl, by simpa using HQ.out true HQ1.out, HTW.out _ BW.out⟩
end Go.Proofs.YthgfhgjlilmieaaGreat.G
namespace Go.Proofs.YthgfhgjlilmieaaGreat.G
open Go.RowKit Go.Shelf Go.Proofs.YthgfhgjlilmieaaGreatW.PrintWords Go.Proofs.YthgfhgjlilmieaaGreatW.PrintLast Go.Proofs.YthgfhgjlilmieaaGreatW.PrintMore
open Go.Proofs.YthgfhgjlilmieaaGreat.B
set_option linter.unusedVariables false
set_option linter.unusedSimpArgs false
theorem mem_compT (t : List Int) (tss : List (List Int)) : t ∈ compT tss ↔ t ∈ tss := by
  unfold compT idxT
  rw [List.mem_map]
  constructor
  · rintro ⟨j, hj, rfl⟩
    have := List.mem_range.1 (List.mem_filter.1 hj).1
    rw [List.getD_eq_getElem?_getD, List.getElem?_eq_getElem this]
    exact List.getElem_mem this
  · intro h
    obtain ⟨j, hj, rfl⟩ := List.getElem_of_mem h
    induction j with
    | zero => exact ⟨0, List.mem_filter.2 ⟨List.mem_range.2 hj, rfl⟩, by simp [List.getD_eq_getElem?_getD, hj]⟩
    | succ j ih =>
      cases hk : (tss.getD (j + 1) [] == tss.getD j []) with
      | true =>
        obtain ⟨m, h1, h2⟩ := ih (by omega) (List.getElem_mem (by omega))
        refine ⟨m, h1, h2.trans ?_⟩
        have : tss.getD (j + 1) [] = tss.getD j [] := by simpa using hk
        rw [List.getD_eq_getElem?_getD, List.getD_eq_getElem?_getD, List.getElem?_eq_getElem hj, List.getElem?_eq_getElem (by omega)] at this
        simpa using this.symm
      | false => exact ⟨j + 1, List.mem_filter.2 ⟨List.mem_range.2 hj, keepT_pos (by simpa using hk)⟩, by simp [List.getD_eq_getElem?_getD, hj]⟩
theorem mem_heardL (l : Lg) (h : Int) (t : List Int) : t ∈ heardL l h ↔ t ∈ partsL l h := by
  unfold heardL
  rw [mem_compT]
  unfold sortT
  exact List.mem_mergeSort
theorem mskO_some (l : Lg) (n : Int) : (mskO l n).isSome = anyB l (rd_T75 l.rc n) := by
  unfold mskO anyB
  rw [Bool.eq_iff_iff, List.find?_isSome, List.any_eq_true]
  exact ⟨fun ⟨t, h, hp⟩ => ⟨t, (mem_heardL l _ t).1 h, hp⟩, fun ⟨t, h, hp⟩ => ⟨t, (mem_heardL l _ t).2 h, hp⟩⟩
theorem inR_rec {l : Lg} {r : Nat} (h : r < l.rc.length) : inR (r : Int) 0 ((l.rc.length : Int) - 1) = true := by
  simp only [inR, Bool.and_eq_true, decide_eq_true_eq]; omega
theorem mskE_eq {l : Lg} {r : Nat} (h : logE l = 0) (hr : r < l.rc.length) : mskE l r = if anyB l (rd_T75 l.rc r) = true then 0 else 7 := by
  unfold mskE
  rw [if_pos (ask_in h (inR_rec hr)), oneE, mskO_some]
structure VF (l : Lg) (r : Nat) (v a : Int) : Prop where
  ask : askE l r = 0
  val : v = 1 ∨ v = 2 ∨ v = 3
  m : mskE l r = 0 ∨ mskE l r = 7
  o : ownL l r = [] → v = 2
  n : mskE l r = 7 → v = 1
  f : a < 0 → v ≠ 1 ∧ mskE l r = 0
  t : 0 ≤ a → v ≠ 2 ∧ (ownL l r).contains a = true
end Go.Proofs.YthgfhgjlilmieaaGreat.G
namespace Go.Proofs.YthgfhgjlilmieaaGreat.G
open Go.RowKit Go.Shelf Go.Proofs.YthgfhgjlilmieaaGreatW.PrintWords Go.Proofs.YthgfhgjlilmieaaGreatW.PrintLast Go.Proofs.YthgfhgjlilmieaaGreatW.PrintMore
open Go.Proofs.YthgfhgjlilmieaaGreat.B
set_option linter.unusedVariables false
set_option linter.unusedSimpArgs false
theorem mem_bys (J : Nat) (b : Int) : b ∈ bys J ↔ -1 ≤ b ∧ b < J := by
  simp only [bys, List.mem_map, List.mem_range]
  exact ⟨fun ⟨i, h, e⟩ => by omega, fun ⟨h1, h2⟩ => ⟨(b + 1).toNat, by omega, by omega⟩⟩
structure Wy (ES : List (Int × Int)) (J R : Nat) (out : List Int) (n : Nat) (u : List Bool) (bs : List Int) : Prop where
  len : bs.length = n
  no : ∀ (i : Nat) (b : Int), bs[i]? = some b → outB out ((R : Int) - n + i) = true → b = -2
  yes : ∀ (i : Nat) (b : Int), bs[i]? = some b → outB out ((R : Int) - n + i) = false → -1 ≤ b ∧ b < J ∧ ((R : Int) - n + i, b) ∈ ES ∧ (b ≠ -1 → u.getD b.toNat false = false)
  two : ∀ (i j : Nat) (b : Int), i < j → bs[i]? = some b → bs[j]? = some b → b < 0
theorem getD_free (ES : List (Int × Int)) (u : List Bool) (r b : Int) (hf : freeB ES u r b = true) (hu : u.length = 8) (hb : -1 ≤ b ∧ b < 8) (c : Int) (hc : 0 ≤ c) : (freeU ES u r b).getD c.toNat false = if c = b then true else u.getD c.toNat false := by
  unfold freeU
  by_cases h : b = -1
  · rw [if_neg (by simp [h]), if_neg (by omega)]
  · rw [if_pos ⟨hf, h⟩, uC_set u b.toNat (by omega) hu]
    by_cases e : b.toNat = c.toNat
    · rw [if_pos e, if_pos (by omega)]
    · rw [if_neg e, if_neg (by omega)]
theorem isW_iff (ES : List (Int × Int)) (J R : Nat) (out : List Int) (hJ : J ≤ 8) : ∀ n u bs, u.length = 8 → (IsW ES J R out n u bs ↔ Wy ES J R out n u bs)
  | 0, u, bs, hu => by
    simp only [IsW]
    constructor
    · rintro rfl
      exact ⟨rfl, by simp, by simp, by simp⟩
    · intro h; exact List.length_eq_zero_iff.1 h.len
  | n + 1, u, [], hu => by
    simp only [IsW, false_iff]
    intro h; have := h.len; simp at this
  | n + 1, u, b :: bs, hu => by
    have e0 : (R : Int) - (n + 1 : Nat) + (0 : Nat) = (R : Int) - (n + 1) := by push_cast; omega
    have e1 : ∀ i : Nat, (R : Int) - (n + 1 : Nat) + (i + 1 : Nat) = (R : Int) - n + i := fun i => by push_cast; omega
    simp only [IsW]
    by_cases ho : outB out ((R : Int) - (n + 1)) = true
    · rw [if_pos ho, isW_iff ES J R out hJ n u bs hu]
      constructor
      · rintro ⟨rfl, h⟩
        refine ⟨by simp [h.len], ?_, ?_, ?_⟩
        · intro i c hi hq
          cases i with
          | zero => simpa using hi.symm
          | succ i => rw [e1] at hq; exact h.no i c (by simpa using hi) hq
        · intro i c hi hq
          cases i with
          | zero => rw [e0, ho] at hq; cases hq
          | succ i => rw [e1] at hq ⊢; exact h.yes i c (by simpa using hi) hq
        · intro i j c hij hi hj
          cases i with
          | zero => simp at hi; omega
          | succ i =>
            cases j with
            | zero => omega
            | succ j => exact h.two i j c (by omega) (by simpa using hi) (by simpa using hj)
      · intro h
        refine ⟨h.no 0 b (by simp) (by rw [e0]; exact ho), ⟨by have := h.len; simpa using this, ?_, ?_, ?_⟩⟩
        · intro i c hi hq
          exact h.no (i + 1) c (by simpa using hi) (by rw [e1]; exact hq)
        · intro i c hi hq
          have := h.yes (i + 1) c (by simpa using hi) (by rw [e1]; exact hq)
          rwa [e1] at this
        · intro i j c hij hi hj
          exact h.two (i + 1) (j + 1) c (by omega) (by simpa using hi) (by simpa using hj)
    · have ho' : outB out ((R : Int) - (n + 1)) = false := by simpa using ho
      rw [if_neg ho, isW_iff ES J R out hJ n (freeU ES u ((R : Int) - (n + 1)) b) bs (by rw [freeU_len, hu]), mem_bys]
      constructor
      · rintro ⟨hb, hf, h⟩
        have hf2 := hf
        simp only [freeB, Bool.and_eq_true, decide_eq_true_eq, Bool.not_eq_true', Bool.and_eq_false_iff, bne_eq_false_iff_eq] at hf2
        have hget := getD_free ES u _ b hf hu ⟨hb.1, by omega⟩
        refine ⟨by simp [h.len], ?_, ?_, ?_⟩
        · intro i c hi hq
          cases i with
          | zero => rw [e0, ho'] at hq; cases hq
          | succ i => rw [e1] at hq; exact h.no i c (by simpa using hi) hq
        · intro i c hi hq
          cases i with
          | zero =>
            simp at hi; subst hi; rw [e0]
            exact ⟨hb.1, hb.2, hf2.1, fun hne => hf2.2.resolve_left hne⟩
          | succ i =>
            rw [e1] at hq ⊢
            obtain ⟨h1, h2, h3, h4⟩ := h.yes i c (by simpa using hi) hq
            refine ⟨h1, h2, h3, fun hne => ?_⟩
            have := h4 hne
            rw [hget c (by omega)] at this
            split at this
            · cases this
            · exact this
        · intro i j c hij hi hj
          cases j with
          | zero => omega
          | succ j =>
            cases i with
            | zero =>
              simp at hi; subst hi
              have hj2 : bs[j]? = some b := by simpa using hj
              by_cases hn : b < 0
              · exact hn
              · exfalso
                cases hq : outB out ((R : Int) - n + j) with
                | true => have := h.no j b hj2 hq; omega
                | false =>
                  have := (h.yes j b hj2 hq).2.2.2 (by omega)
                  rw [hget b (by omega), if_pos rfl] at this
                  cases this
            | succ i => exact h.two i j c (by omega) (by simpa using hi) (by simpa using hj)
      · intro h
        obtain ⟨h1, h2, h3, h4⟩ := h.yes 0 b (by simp) (by rw [e0]; exact ho')
        rw [e0] at h3
        have hf : freeB ES u ((R : Int) - (n + 1)) b = true := by
          simp only [freeB, Bool.and_eq_true, decide_eq_true_eq, Bool.not_eq_true', Bool.and_eq_false_iff, bne_eq_false_iff_eq]
          refine ⟨h3, ?_⟩
          by_cases e : b = -1
          · exact .inl e
          · exact .inr (h4 e)
        have hget := getD_free ES u _ b hf hu ⟨h1, by omega⟩
        refine ⟨⟨h1, h2⟩, hf, ⟨by have := h.len; simpa using this, ?_, ?_, ?_⟩⟩
        · intro i c hi hq
          exact h.no (i + 1) c (by simpa using hi) (by rw [e1]; exact hq)
        · intro i c hi hq
          obtain ⟨k1, k2, k3, k4⟩ := h.yes (i + 1) c (by simpa using hi) (by rw [e1]; exact hq)
          rw [e1] at k3
          refine ⟨k1, k2, k3, fun hne => ?_⟩
          rw [hget c (by omega)]
          by_cases e : c = b
          · subst e
            have := h.two 0 (i + 1) c (by omega) (by simp) (by simpa using hi)
            omega
          · rw [if_neg e]; exact k4 hne
        · intro i j c hij hi hj
          exact h.two (i + 1) (j + 1) c (by omega) (by simpa using hi) (by simpa using hj)
def Feas (ES : List (Int × Int)) (J R : Nat) (out : List Int) : Prop := ∃ bs, Wy ES J R out R u0 bs
theorem feas_iff (ES : List (Int × Int)) (J R : Nat) (out : List Int) (hJ : J ≤ 8) (hR : R < 1024) : leastN ES J R out R u0 < 1024 ↔ Feas ES J R out := by
  rw [least_ex _ _ _ _ _ _ hR]
  exact ⟨fun ⟨bs, h⟩ => ⟨bs, (isW_iff _ _ _ _ hJ _ _ _ rfl).1 h⟩, fun ⟨bs, h⟩ => ⟨bs, (isW_iff _ _ _ _ hJ _ _ _ rfl).2 h⟩⟩
theorem feas_mono {ES ES' : List (Int × Int)} {J R : Nat} {out : List Int} (h : ∀ x, x ∈ ES → x ∈ ES') (hf : Feas ES J R out) : Feas ES' J R out := by
  obtain ⟨bs, hb⟩ := hf
  refine ⟨bs, hb.len, hb.no, fun i b hi hq => ?_, hb.two⟩
  obtain ⟨h1, h2, h3, h4⟩ := hb.yes i b hi hq
  exact ⟨h1, h2, h _ h3, h4⟩
structure Picks (R m from_ : Nat) (ps : List Int) : Prop where
  len : ps.length = m
  lt : ps.Pairwise (· < ·)
  rng : ∀ p, p ∈ ps → (from_ : Int) ≤ p ∧ p < R
theorem picks_cons {R m from_ : Nat} {p : Int} {ps : List Int} (h : Picks R (m + 1) from_ (p :: ps)) : ∃ r : Nat, p = r ∧ from_ ≤ r ∧ r < R ∧ Picks R m (r + 1) ps := by
  have h1 := h.rng p (by simp)
  refine ⟨p.toNat, by omega, by omega, by omega, by have := h.len; simpa using this, (List.pairwise_cons.1 h.lt).2, fun q hq => ?_⟩
  have h2 := (List.pairwise_cons.1 h.lt).1 q hq
  have h3 := h.rng q (List.mem_cons_of_mem _ hq)
  omega
inductive LexLe : List Int → List Int → Prop
  | refl (xs : List Int) : LexLe xs xs
  | lt (x y : Int) (xs ys : List Int) : x < y → LexLe (x :: xs) (y :: ys)
  | cons (x : Int) (xs ys : List Int) : LexLe xs ys → LexLe (x :: xs) (x :: ys)
theorem leave_spec (ES : List (Int × Int)) (J R : Nat) (hJ : J ≤ 8) (hR : R < 1024) : ∀ m out from_, (leaveP ES J R m out from_ = none ∧ ∀ ps, Picks R m from_ ps → ¬ Feas ES J R (out ++ ps)) ∨ ∃ ps, leaveP ES J R m out from_ = some (out ++ ps) ∧ Picks R m from_ ps ∧ Feas ES J R (out ++ ps) ∧ ∀ qs, Picks R m from_ qs → Feas ES J R (out ++ qs) → LexLe ps qs
  | 0, out, from_ => by
    unfold leaveP
    by_cases h : leastN ES J R out R u0 < 1024
    · rw [if_pos h]
      refine .inr ⟨[], by simp, ⟨rfl, List.Pairwise.nil, by simp⟩, by rw [List.append_nil]; exact (feas_iff _ _ _ _ hJ hR).1 h, fun qs hq _ => ?_⟩
      rw [List.length_eq_zero_iff.1 hq.len]
      exact .refl _
    · rw [if_neg h]
      refine .inl ⟨rfl, fun ps hp hf => h ?_⟩
      rw [List.length_eq_zero_iff.1 hp.len, List.append_nil] at hf
      exact (feas_iff _ _ _ _ hJ hR).2 hf
  | m + 1, out, from_ => by
    unfold leaveP
    have key : ∀ d from_, (((List.range' from_ d).findSome? fun (r : Nat) => leaveP ES J R m (out ++ [(r : Int)]) (r + 1)) = none ∧ ∀ r : Nat, from_ ≤ r → r < from_ + d → ∀ ps, Picks R m (r + 1) ps → ¬ Feas ES J R (out ++ (r : Int) :: ps)) ∨ ∃ (r : Nat) (ps : List Int), ((List.range' from_ d).findSome? fun (r : Nat) => leaveP ES J R m (out ++ [(r : Int)]) (r + 1)) = some (out ++ (r : Int) :: ps) ∧ from_ ≤ r ∧ r < from_ + d ∧ Picks R m (r + 1) ps ∧ Feas ES J R (out ++ (r : Int) :: ps) ∧ (∀ q : Nat, from_ ≤ q → q < r → ∀ qs, Picks R m (q + 1) qs → ¬ Feas ES J R (out ++ (q : Int) :: qs)) ∧ ∀ qs, Picks R m (r + 1) qs → Feas ES J R (out ++ (r : Int) :: qs) → LexLe ps qs := by
      intro d
      induction d with
      | zero => intro from_; exact .inl ⟨rfl, fun r h1 h2 => by omega⟩
      | succ d ih =>
        intro from_
        rw [List.range'_succ, List.findSome?_cons]
        rcases leave_spec ES J R hJ hR m (out ++ [(from_ : Int)]) (from_ + 1) with ⟨h1, h2⟩ | ⟨ps, h1, h2, h3, h4⟩
        · rw [h1]
          simp only [List.append_assoc, List.singleton_append] at h2
          dsimp only
          rcases ih (from_ + 1) with ⟨k1, k2⟩ | ⟨r, ps, k1, k2, k3, k4, k5, k6, k7⟩
          · refine .inl ⟨k1, fun r hr1 hr2 => ?_⟩
            by_cases e : r = from_
            · subst e; exact h2
            · exact k2 r (by omega) (by omega)
          · refine .inr ⟨r, ps, k1, by omega, by omega, k4, k5, fun q hq1 hq2 => ?_, k7⟩
            by_cases e : q = from_
            · subst e; exact h2
            · exact k6 q (by omega) hq2
        · rw [h1]
          simp only [List.append_assoc, List.singleton_append] at h3 h4 ⊢
          exact .inr ⟨from_, ps, rfl, Nat.le_refl _, by omega, h2, h3, fun q h5 h6 => by omega, h4⟩
    rcases key (R - from_) from_ with ⟨h1, h2⟩ | ⟨r, ps, h1, h2, h3, h4, h5, h6, h7⟩
    · refine .inl ⟨h1, fun ps hp => ?_⟩
      cases ps with
      | nil => have := hp.len; simp at this
      | cons p ps =>
        obtain ⟨r, rfl, hr1, hr2, hq⟩ := picks_cons hp
        exact h2 r hr1 (by omega) ps hq
    · refine .inr ⟨(r : Int) :: ps, h1, ⟨by simp [h4.len], List.pairwise_cons.2 ⟨fun q hq => by have := h4.rng q hq; omega, h4.lt⟩, fun p hp => ?_⟩, h5, fun qs hq hf => ?_⟩
      · rcases List.mem_cons.1 hp with rfl | hp
        · omega
        · have := h4.rng p hp; omega
      · cases qs with
        | nil => have := hq.len; simp at this
        | cons q qs =>
          obtain ⟨q, rfl, hq1, hq2, hq3⟩ := picks_cons hq
          by_cases e1 : q < r
          · exact absurd hf (h6 q hq1 e1 qs hq3)
          · by_cases e2 : q = r
            · subst e2; exact .cons _ _ _ (h7 qs hq3 hf)
            · exact .lt _ _ _ _ (by omega)
theorem size_spec (ES : List (Int × Int)) (J R : Nat) (hJ : J ≤ 8) (hR : R < 1024) : ∀ n, (sizeFind ES J R n = none ∧ ∀ m, m < n → ∀ ps, Picks R m 0 ps → ¬ Feas ES J R ps) ∨ ∃ ps m, m < n ∧ sizeFind ES J R n = some ps ∧ Picks R m 0 ps ∧ Feas ES J R ps ∧ (∀ k, k < m → ∀ qs, Picks R k 0 qs → ¬ Feas ES J R qs) ∧ ∀ qs, Picks R m 0 qs → Feas ES J R qs → LexLe ps qs
  | 0 => .inl ⟨rfl, fun m h => by omega⟩
  | n + 1 => by
    rcases size_spec ES J R hJ hR n with ⟨h1, h2⟩ | ⟨ps, m, h0, h1, h2⟩
    · rw [sizeFind_succ _ _ _ _ h1]
      rcases leave_spec ES J R hJ hR n [] 0 with ⟨k1, k2⟩ | ⟨ps, k1, k2, k3, k4⟩
      · simp only [List.nil_append] at k2
        refine .inl ⟨k1, fun m hm => ?_⟩
        by_cases e : m = n
        · subst e; exact k2
        · exact h2 m (by omega)
      · simp only [List.nil_append] at k1 k3 k4
        exact .inr ⟨ps, n, by omega, k1, k2, k3, h2, k4⟩
    · exact .inr ⟨ps, m, by omega, sizeFind_some _ _ _ _ _ _ (by omega) h1, h2⟩
structure LvOk (l : Lg) (ps : List Int) : Prop where
  picks : Picks l.rc.length ps.length 0 ps
  feas : Feas (esK l l.rc.length) l.jn.length l.rc.length ps
  short : ∀ k, k < ps.length → ∀ qs, Picks l.rc.length k 0 qs → ¬ Feas (esK l l.rc.length) l.jn.length l.rc.length qs
  first : ∀ qs, Picks l.rc.length ps.length 0 qs → Feas (esK l l.rc.length) l.jn.length l.rc.length qs → LexLe ps qs
theorem leaveL_ok {l : Lg} (hE : logE l = 0) (hJ : l.jn.length ≤ 8) (hR : l.rc.length ≤ 6) : LvOk l (leaveL l) := by
  unfold leaveL
  rw [if_neg (by simp [hE])]
  rcases size_spec (esK l l.rc.length) l.jn.length l.rc.length hJ (by omega) (l.rc.length + 1) with ⟨h1, h2⟩ | ⟨ps, m, h0, h1, h2, h3, h4, h5⟩
  · exact (sizeFind_end _ _ _ h1).elim
  · rw [h1]
    obtain rfl := h2.len
    exact ⟨h2, h3, h4, h5⟩
theorem leave_le {l l' : Lg} (ho : LvOk l (leaveL l)) (ho' : LvOk l' (leaveL l')) (hr : l'.rc.length = l.rc.length) (hf : ∀ out, Feas (esK l l.rc.length) l.jn.length l.rc.length out → Feas (esK l' l'.rc.length) l'.jn.length l'.rc.length out) : (leaveL l').length ≤ (leaveL l).length := by
  by_cases h : (leaveL l).length < (leaveL l').length
  · exact absurd (hf _ ho.feas) (ho'.short _ h _ (by rw [hr]; exact ho.picks))
  · omega
end Go.Proofs.YthgfhgjlilmieaaGreat.G
namespace Go.Proofs.YthgfhgjlilmieaaGreat.G
open Go.RowKit Go.Shelf Go.Proofs.YthgfhgjlilmieaaGreatW.PrintWords Go.Proofs.YthgfhgjlilmieaaGreatW.PrintLast Go.Proofs.YthgfhgjlilmieaaGreatW.PrintMore
open Go.Proofs.YthgfhgjlilmieaaGreat.B
set_option linter.unusedVariables false
set_option linter.unusedSimpArgs false
def LisP (n : Nat) (xs : List Int) (q : Int) (w : World) (e : Ending) (w' : World) : Prop := ∃ A c, e = .returned (.tuple #[.slice A n c, .int .i64 q]) ∧ n ≤ c ∧ Kd.C (Kd.int .i64) w' A n xs ∧ Below w.heap.size w w'
theorem lisP_of {xs : List Int} {q : Int} {w : World} {n : Nat} {r : Int} (hn : xs.length = n) (hq : q = r) {e : Ending} {w' : World} (h : OwnP xs q w e w') : LisP n xs r w e w' := by
  subst hn hq; exact h
end Go.Proofs.YthgfhgjlilmieaaGreat.G
namespace Go.Proofs.YthgfhgjlilmieaaGreat.G
open Go.RowKit Go.Shelf Go.Proofs.YthgfhgjlilmieaaGreatW.PrintWords Go.Proofs.YthgfhgjlilmieaaGreatW.PrintLast Go.Proofs.YthgfhgjlilmieaaGreatW.PrintMore
open Go.Proofs.YthgfhgjlilmieaaGreat.B
set_option linter.unusedVariables false
set_option linter.unusedSimpArgs false
theorem logCellsAt (a : LV) (l : Lg) {b N : Nat} {W0 : World} (h0 : W0.heap[b]? = some (logD a l)) (hb : b < N) : ∀ W, Below N W0 W → W.cell? ⟨b, 0, none⟩ = some (.slice a.A0 l.ls.length a.c0) ∧ W.cell? ⟨b, 1, none⟩ = some (.int .i64 l.errs) ∧ W.cell? ⟨b, 2, none⟩ = some (.slice a.A2 l.sees.length a.c2) ∧ W.cell? ⟨b, 3, none⟩ = some (.slice a.A3 l.jn.length a.c3) ∧ W.cell? ⟨b, 4, none⟩ = some (.slice a.A4 l.rc.length a.c4) := by
  intro W h
  have hc : ∀ i, W.cell? ⟨b, i, none⟩ = #[.slice a.A0 l.ls.length a.c0, .int .i64 l.errs, .slice a.A2 l.sees.length a.c2, .slice a.A3 l.jn.length a.c3, .slice a.A4 l.rc.length a.c4][i]? := fun i => (h.cell (p := ⟨b, i, none⟩) (by simpa using hb)).trans (by simp only [World.cell?, h0]; rfl)
  exact ⟨hc 0, hc 1, hc 2, hc 3, hc 4⟩
theorem subset_l (xs ys : List Int) (hb : xs.length ≤ 9223372036854775807) (hb2 : ys.length ≤ 9223372036854775807) : ∀ (d i k : Nat), d = xs.length - i → i ≤ xs.length → d + ys.length + 1 < k → glisterlaw06_subset.l0 k xs ys i = some ((xs.drop i).all (ys.contains ·)) := by
  intro d
  induction d with
  | zero =>
    intro i k hd hi hk
    obtain ⟨k, rfl⟩ : ∃ m, k = m + 1 := ⟨k - 1, by omega⟩
    simp only [glisterlaw06_subset.l0]
    rw [if_neg (by omega), List.drop_eq_nil_of_le (by omega)]
    rfl
  | succ d ih =>
    intro i k hd hi hk
    obtain ⟨k, rfl⟩ : ∃ m, k = m + 1 := ⟨k - 1, by omega⟩
    have h1 : i < xs.length := by omega
    simp only [glisterlaw06_subset.l0]
    rw [if_pos (by omega), if_pos (by omega), rd_nat xs i h1, wrap_nat i xs.length h1 hb, has_f ys xs[i] hb2 k (by omega), Option.bind_some, ih (i + 1) k (by omega) (by omega) (by omega), List.drop_eq_getElem_cons h1, List.all_cons]
    cases ys.contains xs[i] <;> rfl
theorem subset38_any (A B : Option Addr) (c d : Nat) (xs ys : List Int) (w : World) (hx : Kd.C (Kd.int .i64) w A xs.length xs) (hc : xs.length ≤ c) (hy : Kd.C (Kd.int .i64) w B ys.length ys) (hd : ys.length ≤ d) :
    Calls Tryz.prog 38 #[.slice A xs.length c, .slice B ys.length d] w fun e w' => e = .returned (.bool (xs.all (ys.contains ·))) ∧ Below w.heap.size w w' := by
  have hb : xs.length ≤ 9223372036854775807 := by have := hx.2.1; omega
  have hb2 : ys.length ≤ 9223372036854775807 := by have := hy.2.1; omega
  have hf : glisterlaw06_subset.f (xs.length + ys.length + 2) xs ys = some (xs.all (ys.contains ·)) := by
    unfold glisterlaw06_subset.f
    have := subset_l xs ys hb hb2 xs.length 0 (xs.length + ys.length + 2) (by omega) (by omega) (by omega)
    simpa using this
  refine (glisterlaw06_subset.calls _ A c xs B d ys _ w hx hc hy hd hf).mono ?_
  rintro e w' ⟨he, m, rfl⟩
  exact ⟨he, belowN w m⟩
structure LeLog (l l' : Lg) : Prop where
  ls : l'.ls = l.ls
  jn : l'.jn = l.jn
  rc : l'.rc = l.rc
  errs : l.errs ≤ l'.errs
  sees : ∀ s b, heardB l s b = true → heardB l' s b = true
theorem reads_le {l l' : Lg} (h : LeLog l l') {t : List Int} {r : ByteArray} (hr : readsB l t r = true) : readsB l' t r = true := by
  unfold readsB at *
  rw [h.ls]
  simp only [Bool.and_eq_true, decide_eq_true_eq] at *
  exact ⟨hr.1, by have := h.errs; omega⟩
theorem stat_le {l l' : Lg} (h : LeLog l l') {r : S75} {b : Int} (hb : b ∈ statL l r) : b ∈ statL l' r := by
  simp only [statL, statK, List.mem_map, List.mem_filter, hitB, Bool.and_eq_true] at *
  obtain ⟨i, ⟨h1, h2, h3⟩, rfl⟩ := hb
  rw [h.jn]
  exact ⟨i, ⟨h1, h2, reads_le h h3⟩, rfl⟩
theorem parts_le {l l' : Lg} (h : LeLog l l') {b : Int} {t : List Int} (ht : t ∈ partsL l b) : t ∈ partsL l' b := by
  simp only [partsL, jns, List.mem_flatMap] at *
  obtain ⟨s, h1, h2⟩ := ht
  rw [h.jn]
  refine ⟨s, h1, ?_⟩
  split at h2
  · rename_i hs
    rw [if_pos (h.sees s b hs)]; exact h2
  · cases h2
theorem any_le {l l' : Lg} (h : LeLog l l') {r : S75} (ha : anyB l r = true) : anyB l' r = true := by
  unfold anyB at *
  rw [List.any_eq_true] at *
  obtain ⟨t, h1, h2⟩ := ha
  exact ⟨t, parts_le h h1, reads_le h h2⟩
theorem can_le {l l' : Lg} (h : LeLog l l') {x : Int × Int} (hx : x ∈ esK l l.rc.length) : x ∈ esK l' l'.rc.length := by
  obtain ⟨r, b⟩ := x
  rw [mem_esK] at hx
  obtain ⟨k, h1, rfl, h2⟩ := hx
  rw [h.rc, mem_esK]
  refine ⟨k, h1, rfl, ?_⟩
  rw [h.rc]
  rcases h2 with h2 | h2
  · exact .inl (stat_le h h2)
  · refine .inr ?_
    unfold falL at *
    split at h2
    · rename_i ha
      rw [if_pos (any_le h ha)]; exact h2
    · cases h2
theorem leave_log_le {l l' : Lg} (h : LeLog l l') (h1 : logE l = 0) (h2 : logE l' = 0) : (leaveL l').length ≤ (leaveL l).length := by
  have s1 := sound_of h1
  have s2 := sound_of h2
  refine leave_le (leaveL_ok h1 s1.jlen s1.rlen) (leaveL_ok h2 s2.jlen s2.rlen) (by rw [h.rc]) fun out hf => ?_
  have := feas_mono (fun x hx => can_le h hx) hf
  rw [h.rc] at this ⊢
  rwa [h.jn]
theorem own_le {l l' : Lg} (h : LeLog l l') (h1 : logE l = 0) (h2 : logE l' = 0) {r : Nat} (hr : r < l.rc.length) : (ownL l r).all ((ownL l' r).contains ·) = true := by
  rw [own_in (ask_in h1 (inR_rec hr)), own_in (ask_in h2 (inR_rec (by rw [h.rc]; exact hr))), List.all_eq_true]
  intro b hb
  rw [List.contains_iff_mem, h.rc]
  exact stat_le h hb
theorem msk_le {l l' : Lg} (h : LeLog l l') (h1 : logE l = 0) (h2 : logE l' = 0) {r : Nat} (hr : r < l.rc.length) : (mskE l r = 0 ∧ mskE l' r = 0) ∨ (mskE l r = 7 ∧ (mskE l' r = 0 ∨ mskE l' r = 7)) := by
  rw [mskE_eq h1 hr, mskE_eq h2 (by rw [h.rc]; exact hr), h.rc]
  by_cases ha : anyB l (rd_T75 l.rc r) = true
  · rw [if_pos ha, if_pos (any_le h ha)]; exact .inl ⟨rfl, rfl⟩
  · rw [if_neg ha]; refine .inr ⟨rfl, ?_⟩; split <;> simp
end Go.Proofs.YthgfhgjlilmieaaGreat.G
namespace Go.Proofs.YthgfhgjlilmieaaGreat.G
open Go.RowKit Go.Shelf Go.Proofs.YthgfhgjlilmieaaGreatW.PrintWords Go.Proofs.YthgfhgjlilmieaaGreatW.PrintLast Go.Proofs.YthgfhgjlilmieaaGreatW.PrintMore
open Go.Proofs.YthgfhgjlilmieaaGreat.B
set_option linter.unusedVariables false
set_option linter.unusedSimpArgs false
def moreErrs (l : Lg) : Lg := { l with errs := wrap64 (l.errs + 1) }
theorem more_le {l : Lg} (h1 : logE l = 0) : LeLog l (moreErrs l) := ⟨rfl, rfl, rfl, by have := (sound_of h1).errs; unfold moreErrs wrap64; dsimp only; omega, fun s b h => h⟩
structure EF (l x : Lg) (r : Nat) : Prop where
  ask : askE l r = 0
  askx : askE x r = 0
  own : (ownL l r).all ((ownL x r).contains ·) = true
  msk : (mskE l r = 0 ∧ mskE x r = 0) ∨ (mskE l r = 7 ∧ (mskE x r = 0 ∨ mskE x r = 7))
set_option maxRecDepth 100000 in
set_option maxHeartbeats 16000000 in
theorem maskErrors_any (a : LV) (l : Lg) (w : World) (hL : LogAt w a l) : Calls Tryz.prog 7 #[logV a l] w fun e w' => e = .returned (.bool true) ∧ Below w.heap.size w w' := by
  have hu := Tryz.underlying29
  have hu1 := Tryz.underlying25
  obtain ⟨x, hx⟩ : ∃ x, x = moreErrs l := ⟨_, rfl⟩
  have hLx : LogAt w a x := by rw [hx]; exact ⟨hL.h0, hL.h2, hL.h3, hL.h4, hL.l0, hL.l2, hL.l3, hL.l4, hL.z0, hL.z4⟩
  obtain ⟨W0, hW0⟩ : ∃ W0, W0 = (w.alloc (logD a l)).alloc (logD a x) := ⟨_, rfl⟩
  have hsz : W0.heap.size = w.heap.size + 2 := by rw [hW0]; simp
  have hTW : ∀ W, Below (w.heap.size + 2) W0 W → Below w.heap.size w W := fun W h => by
    have h0 : Below w.heap.size w W0 := by rw [hW0]; exact ((Below.refl _ w).alloc (Nat.le_refl _) _).alloc (by simp) _
    exact h0.trans (h.mono (by omega))
  have hz : ∀ W, Below (w.heap.size + 2) W0 W → LogAt W a l := fun W h => hL.below (hTW W h)
  have hzx : ∀ W, Below (w.heap.size + 2) W0 W → LogAt W a x := fun W h => hLx.below (hTW W h)
  have HRD := Aside0.mk (fun W h => ready34_any a l W (hz W h))
  have HRX := Aside0.mk (fun W h => ready34_any a x W (hzx W h))
  have HLG := Aside0.mk (fun W h (hf : Fits l) => log20_any a l W (hz W h) hf)
  have HLX := Aside0.mk (fun W h (hf : Fits x) => log20_any a x W (hzx W h) hf)
  have HAW := Aside0.mk awake_any
  have HCE := Aside0.mk (logCellsAt a l (b := w.heap.size) (N := w.heap.size + 2) (W0 := W0) (by rw [hW0]; exact heap_old (alloc_new w _) _) (by omega))
  have HCX := Aside0.mk (logCellsAt a x (b := w.heap.size + 1) (N := w.heap.size + 2) (W0 := W0) (by rw [hW0]; exact alloc_at _ _ (by simp)) (by omega))
  have HTW := Aside0.mk hTW
  have BW := Aside0.mk (Below.refl (w.heap.size + 2) W0)
  have HN : Aside0 (w.heap.size + 2 ≤ W0.heap.size) := ⟨by omega⟩
  have HLE := Aside0.mk (fun h => hx ▸ more_le (l := l) h)
  have HX0 := Aside0.mk (show x.ls.length = l.ls.length by rw [hx]; rfl)
  clear hz hzx hL hLx hTW hsz
  have e0 : (#[.slice a.A0 x.ls.length a.c0, .int .i64 x.errs, .slice a.A2 x.sees.length a.c2, .slice a.A3 x.jn.length a.c3, .slice a.A4 x.rc.length a.c4] : Array Value) = #[.slice a.A0 l.ls.length a.c0, .int .i64 (wrap64 (l.errs + 1)), .slice a.A2 l.sees.length a.c2, .slice a.A3 l.jn.length a.c3, .slice a.A4 l.rc.length a.c4] := by rw [hx]; rfl
  have ex : logV a x = .agg #[.slice a.A0 l.ls.length a.c0, .int .i64 (wrap64 (l.errs + 1)), .slice a.A2 l.sees.length a.c2, .slice a.A3 l.jn.length a.c3, .slice a.A4 l.rc.length a.c4] := by rw [hx]; rfl
  have ec : x.ls.length = l.ls.length ∧ x.errs = wrap64 (l.errs + 1) ∧ x.sees.length = l.sees.length ∧ x.jn.length = l.jn.length ∧ x.rc.length = l.rc.length := by rw [hx]; exact ⟨rfl, rfl, rfl, rfl, rfl⟩
  rw [ec.1, ec.2.1, ec.2.2.1, ec.2.2.2.1, ec.2.2.2.2] at HCX
  rw [ex] at HRX HLX
  have hW0' : W0 = (w.alloc (logD a l)).alloc (.cells #[.slice a.A0 l.ls.length a.c0, .int .i64 (wrap64 (l.errs + 1)), .slice a.A2 l.sees.length a.c2, .slice a.A3 l.jn.length a.c3, .slice a.A4 l.rc.length a.c4] 29) := by rw [hW0, ← e0]
  clear e0 ex ec hW0 HX0 hx
  subst hW0'
  obtain ⟨A0, A2, A3, A4, c0, c2, c3, c4⟩ := a
  dsimp only [logV, logD] at HRD HRX HLG HLX HCE HCX BW HN HTW ⊢
  go_enter Tryz.func7, Tryz.ntmps7
  go_wp2_with (fail)
  refine (HRD.out _ BW.out).mono ?_
  rintro e w1_ ⟨b, rfl, hq, hb⟩
  have BW := Aside0.mk (step_b BW.out HN.out hb)
  obtain ⟨b0, b1, b2, b3, b4⟩ := HCE.out _ BW.out
  obtain ⟨d0, d1, d2, d3, d4⟩ := HCX.out _ BW.out
  clear hb
  cases b with
  | false =>
    go_wp2_with (fail)
    refine (HAW.out _).mono ?_
    rintro e w2_ ⟨rfl, hb⟩
    have BW := Aside0.mk (step_b BW.out HN.out hb)
    clear b0 b1 b2 b3 b4 d0 d1 d2 d3 d4
    obtain ⟨b0, b1, b2, b3, b4⟩ := HCE.out _ BW.out
    obtain ⟨d0, d1, d2, d3, d4⟩ := HCX.out _ BW.out
    clear hb
    go_wp2
    go_ret
    exact ⟨rfl, HTW.out _ BW.out⟩
  | true =>
    have hE := (hq rfl).2
    have hf := (hq rfl).1.fits
    clear hq
    go_wp2_with (fail)
    refine (HRX.out _ BW.out).mono ?_
    rintro e w2_ ⟨b, rfl, hq, hb⟩
    have BW := Aside0.mk (step_b BW.out HN.out hb)
    clear b0 b1 b2 b3 b4 d0 d1 d2 d3 d4
    obtain ⟨b0, b1, b2, b3, b4⟩ := HCE.out _ BW.out
    obtain ⟨d0, d1, d2, d3, d4⟩ := HCX.out _ BW.out
    clear hb
    cases b with
    | false =>
      go_wp2_with (fail)
      refine (HAW.out _).mono ?_
      rintro e w3_ ⟨rfl, hb⟩
      have BW := Aside0.mk (step_b BW.out HN.out hb)
      clear b0 b1 b2 b3 b4 d0 d1 d2 d3 d4
      obtain ⟨b0, b1, b2, b3, b4⟩ := HCE.out _ BW.out
      obtain ⟨d0, d1, d2, d3, d4⟩ := HCX.out _ BW.out
      clear hb
      go_wp2
      go_ret
      exact ⟨rfl, HTW.out _ BW.out⟩
    | true =>
      have hEx := (hq rfl).2
      have hfx := (hq rfl).1.fits
      clear hq
      have hle := HLE.out hE
      have z1 := leave_log_le hle hE hEx
      have HEF : Aside0 (∀ r, r < l.rc.length → EF l x r) := ⟨fun r hr => ⟨ask_in hE (inR_rec hr), ask_in hEx (inR_rec (by rw [hle.rc]; exact hr)), own_le hle hE hEx hr, msk_le hle hE hEx hr⟩⟩
      have HLV := Aside0.mk (fun a' W (h : LogAt W a' l) => (leave32_at a' l W h).mono fun e w' h => lisP_of rfl (show leaveE l = 0 from hE) h)
      have HLVX := Aside0.mk (fun a' W (h : LogAt W a' x) => (leave32_at a' x W h).mono fun e w' h => lisP_of rfl (show leaveE x = 0 from hEx) h)
      have HOW := Aside0.mk (fun n a' W h => own21_at a' l n W h)
      have HOX := Aside0.mk (fun n a' W h => own21_at a' x n W h)
      have HMS := Aside0.mk (fun n a' W h => masked27_at a' l n W h)
      have HMX := Aside0.mk (fun n a' W h => masked27_at a' x n W h)
      generalize leaveL l = P at *
      generalize leaveL x = Q at *
      have y1 : decide ((Q.length : Int) > P.length) = false := decide_eq_false (by omega)
      have y2 := eq_false (show ¬ (Q.length : Int) > P.length by omega)
      have y3 : decide ((P.length : Int) < Q.length) = false := decide_eq_false (by omega)
      have y4 := eq_false (show ¬ (P.length : Int) < Q.length by omega)
      have h6 : l.rc.length ≤ 6 := (sound_of hE).rlen
      clear z1 hle hE hEx
      go_wp2_with (fail)
      refine (HLG.out _ BW.out hf).mono ?_
      rintro e w3_ ⟨a1, rfl, hl, hb⟩
      have HL1 := Aside0.mk hl
      clear hl
      have BW := Aside0.mk (step_b BW.out HN.out hb)
      clear b0 b1 b2 b3 b4 d0 d1 d2 d3 d4
      obtain ⟨b0, b1, b2, b3, b4⟩ := HCE.out _ BW.out
      obtain ⟨d0, d1, d2, d3, d4⟩ := HCX.out _ BW.out
      clear hb
      go_wp2_with (fail)
      refine (HLV.out a1 _ HL1.out).mono ?_
      rintro e w4_ ⟨P0, p0, rfl, hlc, hC, hb⟩
      clear hlc hC
      have BW := Aside0.mk (step_b BW.out HN.out hb)
      clear b0 b1 b2 b3 b4 d0 d1 d2 d3 d4
      obtain ⟨b0, b1, b2, b3, b4⟩ := HCE.out _ BW.out
      obtain ⟨d0, d1, d2, d3, d4⟩ := HCX.out _ BW.out
      clear hb
      go_wp2_with (fail)
      refine (HLX.out _ BW.out hfx).mono ?_
      rintro e w5_ ⟨a2, rfl, hl, hb⟩
      have HL2 := Aside0.mk hl
      clear hl
      have BW := Aside0.mk (step_b BW.out HN.out hb)
      clear b0 b1 b2 b3 b4 d0 d1 d2 d3 d4
      obtain ⟨b0, b1, b2, b3, b4⟩ := HCE.out _ BW.out
      obtain ⟨d0, d1, d2, d3, d4⟩ := HCX.out _ BW.out
      clear hb
      go_wp2_with (fail)
      refine (HLVX.out a2 _ HL2.out).mono ?_
      rintro e w6_ ⟨Q0, q0, rfl, hlc, hC, hb⟩
      clear hlc hC
      have BW := Aside0.mk (step_b BW.out HN.out hb)
      clear b0 b1 b2 b3 b4 d0 d1 d2 d3 d4
      obtain ⟨b0, b1, b2, b3, b4⟩ := HCE.out _ BW.out
      obtain ⟨d0, d1, d2, d3, d4⟩ := HCX.out _ BW.out
      clear hb
      go_wp2
      clear y1 y2 y3 y4 b0 b1 b2 b3 b4 d0 d1 d2 d3 d4
      go_loopg [8] l.rc.length (fun gg v8 wr => ∃ i : Nat, i ≤ l.rc.length ∧ l.rc.length - i ≤ gg ∧ v8 = .int .i64 i ∧ Aside0 (Below (w.heap.size + 2) ((w.alloc (.cells #[.slice A0 l.ls.length c0, .int .i64 l.errs, .slice A2 l.sees.length c2, .slice A3 l.jn.length c3, .slice A4 l.rc.length c4] 29)).alloc (.cells #[.slice A0 l.ls.length c0, .int .i64 (wrap64 (l.errs + 1)), .slice A2 l.sees.length c2, .slice A3 l.jn.length c3, .slice A4 l.rc.length c4] 29)) wr))
      case atStart => exact ⟨0, by omega, by omega, by go_num, BW⟩
      case round =>
        clear BW HL1 HL2
        obtain ⟨i, hi, hg, rfl, BW⟩ := hrel
        obtain ⟨b0, b1, b2, b3, b4⟩ := HCE.out _ BW.out
        obtain ⟨d0, d1, d2, d3, d4⟩ := HCX.out _ BW.out
        by_cases hlt : i < l.rc.length
        · have hltz : (i : Int) < (l.rc.length : Int) := by omega
          obtain ⟨k1, k2, k3, k4⟩ := HEF.out i hlt
          have HOW1 := Aside0.mk (fun a' W (h : LogAt W a' l) => (HOW.out (i : Int) a' W h).mono fun e w' h => lisP_of rfl k1 h)
          have HOX1 := Aside0.mk (fun a' W (h : LogAt W a' x) => (HOX.out (i : Int) a' W h).mono fun e w' h => lisP_of rfl k2 h)
          have HMS1 := Aside0.mk (fun a' W (h : LogAt W a' l) => HMS.out (i : Int) a' W h)
          have HMX1 := Aside0.mk (fun a' W (h : LogAt W a' x) => HMX.out (i : Int) a' W h)
          generalize ownL l (i : Int) = O at *
          generalize ownL x (i : Int) = OX at *
          have HSS : Aside0 (∀ (A B : Option Addr) (c d : Nat) W, Kd.C (Kd.int .i64) W A O.length O → O.length ≤ c → Kd.C (Kd.int .i64) W B OX.length OX → OX.length ≤ d → Calls Tryz.prog 38 #[.slice A O.length c, .slice B OX.length d] W fun e w' => e = .returned (.bool true) ∧ Below W.heap.size W w') := ⟨fun A B c d W h1 h2 h3 h4 => by have := subset38_any A B c d O OX W h1 h2 h3 h4; rwa [k3] at this⟩
          generalize mskE l (i : Int) = m at *
          generalize mskE x (i : Int) = n at *
          generalize mskL l (i : Int) = ML at *
          generalize mskL x (i : Int) = NL at *
          clear k1 k2 k3
          rcases k4 with ⟨rfl, rfl⟩ | ⟨rfl, rfl | rfl⟩
          · skip
            go_wp2_with (fail)
            refine (HLG.out _ BW.out hf).mono ?_
            rintro e w7_ ⟨a3, rfl, hl, hb⟩
            have HL3 := Aside0.mk hl
            clear hl
            have BW := Aside0.mk (step_b BW.out HN.out hb)
            clear b0 b1 b2 b3 b4 d0 d1 d2 d3 d4
            obtain ⟨b0, b1, b2, b3, b4⟩ := HCE.out _ BW.out
            obtain ⟨d0, d1, d2, d3, d4⟩ := HCX.out _ BW.out
            clear hb
            go_wp2_with (fail)
            refine (HOW1.out a3 _ HL3.out).mono ?_
            rintro e w8_ ⟨O0, o0, rfl, hlc, hC, hb⟩
            have HLCO0 := Aside0.mk hlc
            have HCO0 := Aside0.mk hC
            clear hlc hC
            have BW := Aside0.mk (step_b BW.out HN.out hb)
            clear b0 b1 b2 b3 b4 d0 d1 d2 d3 d4
            obtain ⟨b0, b1, b2, b3, b4⟩ := HCE.out _ BW.out
            obtain ⟨d0, d1, d2, d3, d4⟩ := HCX.out _ BW.out
            clear hb
            go_wp2_with (fail)
            refine (HLX.out _ BW.out hfx).mono ?_
            rintro e w9_ ⟨a4, rfl, hl, hb⟩
            have HL4 := Aside0.mk hl
            clear hl
            have BW := Aside0.mk (step_b BW.out HN.out hb)
            have HCO0 := Aside0.mk (Kd.C_below HCO0.out hb)
            clear b0 b1 b2 b3 b4 d0 d1 d2 d3 d4
            obtain ⟨b0, b1, b2, b3, b4⟩ := HCE.out _ BW.out
            obtain ⟨d0, d1, d2, d3, d4⟩ := HCX.out _ BW.out
            clear hb
            go_wp2_with (fail)
            refine (HOX1.out a4 _ HL4.out).mono ?_
            rintro e w10_ ⟨X0, x0, rfl, hlc, hC, hb⟩
            have HLCX0 := Aside0.mk hlc
            have HCX0 := Aside0.mk hC
            clear hlc hC
            have BW := Aside0.mk (step_b BW.out HN.out hb)
            have HCO0 := Aside0.mk (Kd.C_below HCO0.out hb)
            clear b0 b1 b2 b3 b4 d0 d1 d2 d3 d4
            obtain ⟨b0, b1, b2, b3, b4⟩ := HCE.out _ BW.out
            obtain ⟨d0, d1, d2, d3, d4⟩ := HCX.out _ BW.out
            clear hb
            go_wp2_with (fail)
            refine (HLG.out _ BW.out hf).mono ?_
            rintro e w11_ ⟨a5, rfl, hl, hb⟩
            have HL5 := Aside0.mk hl
            clear hl
            have BW := Aside0.mk (step_b BW.out HN.out hb)
            have HCO0 := Aside0.mk (Kd.C_below HCO0.out hb)
            have HCX0 := Aside0.mk (Kd.C_below HCX0.out hb)
            clear b0 b1 b2 b3 b4 d0 d1 d2 d3 d4
            obtain ⟨b0, b1, b2, b3, b4⟩ := HCE.out _ BW.out
            obtain ⟨d0, d1, d2, d3, d4⟩ := HCX.out _ BW.out
            clear hb
            go_wp2_with (fail)
            refine (HMS1.out a5 _ HL5.out).mono ?_
            rintro e w12_ ⟨M0, m0, rfl, hlc, hC, hb⟩
            clear hlc hC
            have BW := Aside0.mk (step_b BW.out HN.out hb)
            have HCO0 := Aside0.mk (Kd.C_below HCO0.out hb)
            have HCX0 := Aside0.mk (Kd.C_below HCX0.out hb)
            clear b0 b1 b2 b3 b4 d0 d1 d2 d3 d4
            obtain ⟨b0, b1, b2, b3, b4⟩ := HCE.out _ BW.out
            obtain ⟨d0, d1, d2, d3, d4⟩ := HCX.out _ BW.out
            clear hb
            go_wp2_with (fail)
            refine (HLX.out _ BW.out hfx).mono ?_
            rintro e w13_ ⟨a6, rfl, hl, hb⟩
            have HL6 := Aside0.mk hl
            clear hl
            have BW := Aside0.mk (step_b BW.out HN.out hb)
            have HCO0 := Aside0.mk (Kd.C_below HCO0.out hb)
            have HCX0 := Aside0.mk (Kd.C_below HCX0.out hb)
            clear b0 b1 b2 b3 b4 d0 d1 d2 d3 d4
            obtain ⟨b0, b1, b2, b3, b4⟩ := HCE.out _ BW.out
            obtain ⟨d0, d1, d2, d3, d4⟩ := HCX.out _ BW.out
            clear hb
            go_wp2_with (fail)
            refine (HMX1.out a6 _ HL6.out).mono ?_
            rintro e w14_ ⟨N0, n0, rfl, hlc, hC, hb⟩
            clear hlc hC
            have BW := Aside0.mk (step_b BW.out HN.out hb)
            have HCO0 := Aside0.mk (Kd.C_below HCO0.out hb)
            have HCX0 := Aside0.mk (Kd.C_below HCX0.out hb)
            clear b0 b1 b2 b3 b4 d0 d1 d2 d3 d4
            obtain ⟨b0, b1, b2, b3, b4⟩ := HCE.out _ BW.out
            obtain ⟨d0, d1, d2, d3, d4⟩ := HCX.out _ BW.out
            clear hb
            go_wp2_with (fail)
            refine (HSS.out _ _ _ _ _ HCO0.out HLCO0.out HCX0.out HLCX0.out).mono ?_
            rintro e w15_ ⟨rfl, hb⟩
            have BW := Aside0.mk (step_b BW.out HN.out hb)
            have HCO0 := Aside0.mk (Kd.C_below HCO0.out hb)
            have HCX0 := Aside0.mk (Kd.C_below HCX0.out hb)
            clear b0 b1 b2 b3 b4 d0 d1 d2 d3 d4
            obtain ⟨b0, b1, b2, b3, b4⟩ := HCE.out _ BW.out
            obtain ⟨d0, d1, d2, d3, d4⟩ := HCX.out _ BW.out
            clear hb
            go_wp2
            go_roundg (l.rc.length - (i + 1))
            case measure => omega
            case rel => exact ⟨i + 1, by omega, by omega, by go_num, BW⟩
          · skip
            go_wp2_with (fail)
            refine (HLG.out _ BW.out hf).mono ?_
            rintro e w7_ ⟨a3, rfl, hl, hb⟩
            have HL3 := Aside0.mk hl
            clear hl
            have BW := Aside0.mk (step_b BW.out HN.out hb)
            clear b0 b1 b2 b3 b4 d0 d1 d2 d3 d4
            obtain ⟨b0, b1, b2, b3, b4⟩ := HCE.out _ BW.out
            obtain ⟨d0, d1, d2, d3, d4⟩ := HCX.out _ BW.out
            clear hb
            go_wp2_with (fail)
            refine (HOW1.out a3 _ HL3.out).mono ?_
            rintro e w8_ ⟨O0, o0, rfl, hlc, hC, hb⟩
            have HLCO0 := Aside0.mk hlc
            have HCO0 := Aside0.mk hC
            clear hlc hC
            have BW := Aside0.mk (step_b BW.out HN.out hb)
            clear b0 b1 b2 b3 b4 d0 d1 d2 d3 d4
            obtain ⟨b0, b1, b2, b3, b4⟩ := HCE.out _ BW.out
            obtain ⟨d0, d1, d2, d3, d4⟩ := HCX.out _ BW.out
            clear hb
            go_wp2_with (fail)
            refine (HLX.out _ BW.out hfx).mono ?_
            rintro e w9_ ⟨a4, rfl, hl, hb⟩
            have HL4 := Aside0.mk hl
            clear hl
            have BW := Aside0.mk (step_b BW.out HN.out hb)
            have HCO0 := Aside0.mk (Kd.C_below HCO0.out hb)
            clear b0 b1 b2 b3 b4 d0 d1 d2 d3 d4
            obtain ⟨b0, b1, b2, b3, b4⟩ := HCE.out _ BW.out
            obtain ⟨d0, d1, d2, d3, d4⟩ := HCX.out _ BW.out
            clear hb
            go_wp2_with (fail)
            refine (HOX1.out a4 _ HL4.out).mono ?_
            rintro e w10_ ⟨X0, x0, rfl, hlc, hC, hb⟩
            have HLCX0 := Aside0.mk hlc
            have HCX0 := Aside0.mk hC
            clear hlc hC
            have BW := Aside0.mk (step_b BW.out HN.out hb)
            have HCO0 := Aside0.mk (Kd.C_below HCO0.out hb)
            clear b0 b1 b2 b3 b4 d0 d1 d2 d3 d4
            obtain ⟨b0, b1, b2, b3, b4⟩ := HCE.out _ BW.out
            obtain ⟨d0, d1, d2, d3, d4⟩ := HCX.out _ BW.out
            clear hb
            go_wp2_with (fail)
            refine (HLG.out _ BW.out hf).mono ?_
            rintro e w11_ ⟨a5, rfl, hl, hb⟩
            have HL5 := Aside0.mk hl
            clear hl
            have BW := Aside0.mk (step_b BW.out HN.out hb)
            have HCO0 := Aside0.mk (Kd.C_below HCO0.out hb)
            have HCX0 := Aside0.mk (Kd.C_below HCX0.out hb)
            clear b0 b1 b2 b3 b4 d0 d1 d2 d3 d4
            obtain ⟨b0, b1, b2, b3, b4⟩ := HCE.out _ BW.out
            obtain ⟨d0, d1, d2, d3, d4⟩ := HCX.out _ BW.out
            clear hb
            go_wp2_with (fail)
            refine (HMS1.out a5 _ HL5.out).mono ?_
            rintro e w12_ ⟨M0, m0, rfl, hlc, hC, hb⟩
            clear hlc hC
            have BW := Aside0.mk (step_b BW.out HN.out hb)
            have HCO0 := Aside0.mk (Kd.C_below HCO0.out hb)
            have HCX0 := Aside0.mk (Kd.C_below HCX0.out hb)
            clear b0 b1 b2 b3 b4 d0 d1 d2 d3 d4
            obtain ⟨b0, b1, b2, b3, b4⟩ := HCE.out _ BW.out
            obtain ⟨d0, d1, d2, d3, d4⟩ := HCX.out _ BW.out
            clear hb
            go_wp2_with (fail)
            refine (HLX.out _ BW.out hfx).mono ?_
            rintro e w13_ ⟨a6, rfl, hl, hb⟩
            have HL6 := Aside0.mk hl
            clear hl
            have BW := Aside0.mk (step_b BW.out HN.out hb)
            have HCO0 := Aside0.mk (Kd.C_below HCO0.out hb)
            have HCX0 := Aside0.mk (Kd.C_below HCX0.out hb)
            clear b0 b1 b2 b3 b4 d0 d1 d2 d3 d4
            obtain ⟨b0, b1, b2, b3, b4⟩ := HCE.out _ BW.out
            obtain ⟨d0, d1, d2, d3, d4⟩ := HCX.out _ BW.out
            clear hb
            go_wp2_with (fail)
            refine (HMX1.out a6 _ HL6.out).mono ?_
            rintro e w14_ ⟨N0, n0, rfl, hlc, hC, hb⟩
            clear hlc hC
            have BW := Aside0.mk (step_b BW.out HN.out hb)
            have HCO0 := Aside0.mk (Kd.C_below HCO0.out hb)
            have HCX0 := Aside0.mk (Kd.C_below HCX0.out hb)
            clear b0 b1 b2 b3 b4 d0 d1 d2 d3 d4
            obtain ⟨b0, b1, b2, b3, b4⟩ := HCE.out _ BW.out
            obtain ⟨d0, d1, d2, d3, d4⟩ := HCX.out _ BW.out
            clear hb
            go_wp2_with (fail)
            refine (HSS.out _ _ _ _ _ HCO0.out HLCO0.out HCX0.out HLCX0.out).mono ?_
            rintro e w15_ ⟨rfl, hb⟩
            have BW := Aside0.mk (step_b BW.out HN.out hb)
            have HCO0 := Aside0.mk (Kd.C_below HCO0.out hb)
            have HCX0 := Aside0.mk (Kd.C_below HCX0.out hb)
            clear b0 b1 b2 b3 b4 d0 d1 d2 d3 d4
            obtain ⟨b0, b1, b2, b3, b4⟩ := HCE.out _ BW.out
            obtain ⟨d0, d1, d2, d3, d4⟩ := HCX.out _ BW.out
            clear hb
            go_wp2
            go_roundg (l.rc.length - (i + 1))
            case measure => omega
            case rel => exact ⟨i + 1, by omega, by omega, by go_num, BW⟩
          · skip
            go_wp2_with (fail)
            refine (HLG.out _ BW.out hf).mono ?_
            rintro e w7_ ⟨a3, rfl, hl, hb⟩
            have HL3 := Aside0.mk hl
            clear hl
            have BW := Aside0.mk (step_b BW.out HN.out hb)
            clear b0 b1 b2 b3 b4 d0 d1 d2 d3 d4
            obtain ⟨b0, b1, b2, b3, b4⟩ := HCE.out _ BW.out
            obtain ⟨d0, d1, d2, d3, d4⟩ := HCX.out _ BW.out
            clear hb
            go_wp2_with (fail)
            refine (HOW1.out a3 _ HL3.out).mono ?_
            rintro e w8_ ⟨O0, o0, rfl, hlc, hC, hb⟩
            have HLCO0 := Aside0.mk hlc
            have HCO0 := Aside0.mk hC
            clear hlc hC
            have BW := Aside0.mk (step_b BW.out HN.out hb)
            clear b0 b1 b2 b3 b4 d0 d1 d2 d3 d4
            obtain ⟨b0, b1, b2, b3, b4⟩ := HCE.out _ BW.out
            obtain ⟨d0, d1, d2, d3, d4⟩ := HCX.out _ BW.out
            clear hb
            go_wp2_with (fail)
            refine (HLX.out _ BW.out hfx).mono ?_
            rintro e w9_ ⟨a4, rfl, hl, hb⟩
            have HL4 := Aside0.mk hl
            clear hl
            have BW := Aside0.mk (step_b BW.out HN.out hb)
            have HCO0 := Aside0.mk (Kd.C_below HCO0.out hb)
            clear b0 b1 b2 b3 b4 d0 d1 d2 d3 d4
            obtain ⟨b0, b1, b2, b3, b4⟩ := HCE.out _ BW.out
            obtain ⟨d0, d1, d2, d3, d4⟩ := HCX.out _ BW.out
            clear hb
            go_wp2_with (fail)
            refine (HOX1.out a4 _ HL4.out).mono ?_
            rintro e w10_ ⟨X0, x0, rfl, hlc, hC, hb⟩
            have HLCX0 := Aside0.mk hlc
            have HCX0 := Aside0.mk hC
            clear hlc hC
            have BW := Aside0.mk (step_b BW.out HN.out hb)
            have HCO0 := Aside0.mk (Kd.C_below HCO0.out hb)
            clear b0 b1 b2 b3 b4 d0 d1 d2 d3 d4
            obtain ⟨b0, b1, b2, b3, b4⟩ := HCE.out _ BW.out
            obtain ⟨d0, d1, d2, d3, d4⟩ := HCX.out _ BW.out
            clear hb
            go_wp2_with (fail)
            refine (HLG.out _ BW.out hf).mono ?_
            rintro e w11_ ⟨a5, rfl, hl, hb⟩
            have HL5 := Aside0.mk hl
            clear hl
            have BW := Aside0.mk (step_b BW.out HN.out hb)
            have HCO0 := Aside0.mk (Kd.C_below HCO0.out hb)
            have HCX0 := Aside0.mk (Kd.C_below HCX0.out hb)
            clear b0 b1 b2 b3 b4 d0 d1 d2 d3 d4
            obtain ⟨b0, b1, b2, b3, b4⟩ := HCE.out _ BW.out
            obtain ⟨d0, d1, d2, d3, d4⟩ := HCX.out _ BW.out
            clear hb
            go_wp2_with (fail)
            refine (HMS1.out a5 _ HL5.out).mono ?_
            rintro e w12_ ⟨M0, m0, rfl, hlc, hC, hb⟩
            clear hlc hC
            have BW := Aside0.mk (step_b BW.out HN.out hb)
            have HCO0 := Aside0.mk (Kd.C_below HCO0.out hb)
            have HCX0 := Aside0.mk (Kd.C_below HCX0.out hb)
            clear b0 b1 b2 b3 b4 d0 d1 d2 d3 d4
            obtain ⟨b0, b1, b2, b3, b4⟩ := HCE.out _ BW.out
            obtain ⟨d0, d1, d2, d3, d4⟩ := HCX.out _ BW.out
            clear hb
            go_wp2_with (fail)
            refine (HLX.out _ BW.out hfx).mono ?_
            rintro e w13_ ⟨a6, rfl, hl, hb⟩
            have HL6 := Aside0.mk hl
            clear hl
            have BW := Aside0.mk (step_b BW.out HN.out hb)
            have HCO0 := Aside0.mk (Kd.C_below HCO0.out hb)
            have HCX0 := Aside0.mk (Kd.C_below HCX0.out hb)
            clear b0 b1 b2 b3 b4 d0 d1 d2 d3 d4
            obtain ⟨b0, b1, b2, b3, b4⟩ := HCE.out _ BW.out
            obtain ⟨d0, d1, d2, d3, d4⟩ := HCX.out _ BW.out
            clear hb
            go_wp2_with (fail)
            refine (HMX1.out a6 _ HL6.out).mono ?_
            rintro e w14_ ⟨N0, n0, rfl, hlc, hC, hb⟩
            clear hlc hC
            have BW := Aside0.mk (step_b BW.out HN.out hb)
            have HCO0 := Aside0.mk (Kd.C_below HCO0.out hb)
            have HCX0 := Aside0.mk (Kd.C_below HCX0.out hb)
            clear b0 b1 b2 b3 b4 d0 d1 d2 d3 d4
            obtain ⟨b0, b1, b2, b3, b4⟩ := HCE.out _ BW.out
            obtain ⟨d0, d1, d2, d3, d4⟩ := HCX.out _ BW.out
            clear hb
            go_wp2_with (fail)
            refine (HSS.out _ _ _ _ _ HCO0.out HLCO0.out HCX0.out HLCX0.out).mono ?_
            rintro e w15_ ⟨rfl, hb⟩
            have BW := Aside0.mk (step_b BW.out HN.out hb)
            have HCO0 := Aside0.mk (Kd.C_below HCO0.out hb)
            have HCX0 := Aside0.mk (Kd.C_below HCX0.out hb)
            clear b0 b1 b2 b3 b4 d0 d1 d2 d3 d4
            obtain ⟨b0, b1, b2, b3, b4⟩ := HCE.out _ BW.out
            obtain ⟨d0, d1, d2, d3, d4⟩ := HCX.out _ BW.out
            clear hb
            go_wp2
            go_roundg (l.rc.length - (i + 1))
            case measure => omega
            case rel => exact ⟨i + 1, by omega, by omega, by go_num, BW⟩
        · have hi2 : i = l.rc.length := by omega
          subst hi2
          have hltz : ¬ (l.rc.length : Int) < (l.rc.length : Int) := by omega
          go_wp2_with (fail)
          refine (HAW.out _).mono ?_
          rintro e w7_ ⟨rfl, hb⟩
          have BW := Aside0.mk (step_b BW.out HN.out hb)
          clear b0 b1 b2 b3 b4 d0 d1 d2 d3 d4
          obtain ⟨b0, b1, b2, b3, b4⟩ := HCE.out _ BW.out
          obtain ⟨d0, d1, d2, d3, d4⟩ := HCX.out _ BW.out
          clear hb
          go_wp2
          go_ret
          exact ⟨rfl, HTW.out _ BW.out⟩
end Go.Proofs.YthgfhgjlilmieaaGreat.G
