/- texts of this claim, merged by a program of this session out of its own texts and the print's words -/
import Derived.ArgAppend
import Derived.Below
import Derived.BigQuiet
import Derived.Deep.AppendLies
import Derived.Deep.CutBlock
import Derived.Deep.DeepCutAuto
import Derived.Deep.Draws
import Derived.Deep.LoopGhost
import Derived.Deep.OwnRows
import Derived.Deep.QuietTactic
import Derived.Deep.RegionHeld3
import Derived.IntWalk
import Derived.KernelRfl
import Derived.Laws.BitsLemmas
import Derived.Laws.BytesArg
import Derived.Laws.IdiomCopy
import Derived.Laws.MakeOwn
import Derived.Laws.OwnMore
import Derived.Laws.Rows
import Derived.Laws.Slices
import Derived.Lib.AppendStr
import Derived.Lib.ConvBytes
import Derived.Maps.AppendAt
import Derived.OrdersHeld
import Derived.OwnWalk
import Derived.RowKit
import Derived.RowKit3
import Derived.Tactics
import Derived.WalkKit
import Derived.WideLaws
import Derived.Test.YthgfhgjlilmieaaGreatKA0
import Derived.Test.YthgfhgjlilmieaaGreatKA1
import Derived.Test.YthgfhgjlilmieaaGreatKA2
import Derived.Test.YthgfhgjlilmieaaGreatKA3
import Derived.Test.YthgfhgjlilmieaaGreatKA4
set_option linter.unusedVariables false
set_option linter.unusedSimpArgs false
namespace Go.Proofs.YthgfhgjlilmieaaGreatW.PrintWords
open Go.RowKit
section
variable {P : Program} {ops : Array Oper} {rest : List Oper} {o : Oper} {a : Act} {Q : Exit → Act → World → Prop}
end
section
variable {P : Program}
end
section
variable {P : Program} {ops : Array Oper} {rest : List Oper} {o : Oper} {a : Act} {Q : Exit → Act → World → Prop}
end
section
variable {P : Program} {ops : Array Oper} {rest : List Oper} {o : Oper} {a : Act} {Q : Exit → Act → World → Prop}
end
section
variable {P : Program} {ops : Array Oper} {o : Oper} {a : Act} {Q : Exit → Act → World → Prop} {K : Act → World → Prop}
end
section
variable {α : Type} {enc : α → Value} {d : α}
end
section
variable {α : Type} {P : Program} {ops : Array Oper} {rest : List Oper} {o : Oper} {a : Act} {Q : Exit → Act → World → Prop}
end
section
variable {P : Program}
end
section
variable {α : Type} {R R' : α → List Value → Prop} {e : TypeId} {size : Nat} {w w1 : World} {base : Nat} {v : Value} {ps : List α}
end
section
variable {P : Program} {ops : Array Oper} {rest : List Oper} {o : Oper} {a : Act} {Q : Exit → Act → World → Prop} {α : Type} {R : α → List Value → Prop}
end
section
variable {P : Program} {ops : Array Oper} {o : Oper} {a : Act} {Q : Exit → Act → World → Prop} {K : Act → World → Prop} {α : Type} {R : α → List Value → Prop}
end
section
variable {α : Type} {P : Program}
end
section
variable {P : Program} {ops : Array Oper} {rest : List Oper} {o : Oper} {a : Act} {Q : Exit → Act → World → Prop}
end
namespace Kd
section
variable {α : Type} {d : Kd α} {e : Nat} {w w1 : World} {base : Nat} {ok ok' : Nat → Prop} {v : Value} {xs : List α}
end
section
variable {P : Program} {ops : Array Oper} {rest : List Oper} {o : Oper} {a : Act} {Q : Exit → Act → World → Prop} {α : Type}
end
section
variable {P : Program} {ops : Array Oper} {o : Oper} {a : Act} {Q : Exit → Act → World → Prop} {Kc : Act → World → Prop} {α : Type}
end
end Kd
namespace Kd
section
variable {α : Type} {F : Kd α → Kd α} {sz : Nat} {E : List Nat} {hs : ∀ n, (upto F sz E n).sz = sz} {hE : ∀ n q, q ∈ (upto F sz E n).E → q ∈ E}
end
end Kd
namespace Kd
end Kd
namespace Kd
section
variable {α β : Type} {d : Kd α} {d' : Kd β} {e e' : Nat} {w w1 W : World} {base b b' : Nat} {ok ok' okv oku : Nat → Prop} {v u : Value} {xs : List α} {ys : List β}
end
section
variable {w W : World} {A : Option Addr} {n : Nat}
variable {α : Type} {enc : α → Value} {h1 : ∀ x, (enc x).oneCell' = true} {e base g cap : Nat} {ok : Nat → Prop} {xs : List α}
end
section
variable {P : Program} {ops : Array Oper} {rest : List Oper} {o : Oper} {a : Act} {Q : Exit → Act → World → Prop}
variable {α : Type}
end
end Kd
section
variable {P : Program}
end
section
variable {w w1 : World} {base n size : Nat} {e : TypeId} {v : Value} {xs : List Value}
end
section
variable {P : Program}
end
namespace Kd
section
variable {α : Type} {d : Kd α} {e : Nat} {w w1 W : World} {base : Nat} {ok ok' : Nat → Prop} {v : Value} {xs : List α}
end
section
variable {P : Program} {ops : Array Oper} {rest : List Oper} {o : Oper} {a : Act} {Q' : Exit → Act → World → Prop} {Kc : Act → World → Prop} {α : Type}
end
end Kd
namespace Kd
section
variable {α : Type} {d : Kd α} {e e' : Nat} {w w1 W : World} {base : Nat} {ok : Nat → Prop} {u v : Value} {xs : List α}
end
end Kd
namespace Kd
section
variable {α : Type} {d : Kd α} {e base g n cap : Nat} {ok okp : Nat → Prop} {W : World} {xs : List α}
end
end Kd
namespace Kd
section
variable {α : Type} {F : Kd α → Kd α} {sz : Nat} {E : List Nat} {hs : ∀ n, (upto F sz E n).sz = sz} {hE : ∀ n q, q ∈ (upto F sz E n).E → q ∈ E}
end
end Kd
namespace Kd
section
variable {P : Program} {ops : Array Oper} {rest : List Oper} {o : Oper} {a : Act} {Q : Exit → Act → World → Prop} {α : Type}
end
end Kd
namespace Kd
section
variable {P : Program} {ops : Array Oper} {rest : List Oper} {o : Oper} {a : Act} {Q : Exit → Act → World → Prop} {α : Type}
end
end Kd
namespace Kd
section
variable {α : Type} {k : Kd α} {w : World} {A : Option Addr} {xs : List α} {m c : Nat}
theorem C_drop (h : k.C w A xs.length xs) (hm : m ≤ xs.length) (hc : xs.length ≤ c) : k.C w (if c = m then A else A.map (·.add (m * k.sz))) (xs.drop m).length (xs.drop m) := by
  have hl : (xs.drop m).length = xs.length - m := List.length_drop
  refine ⟨rfl, by rw [hl]; have := h.2.1; omega, fun hp => ?_⟩
  rw [hl] at hp
  obtain ⟨ad, rfl, hcell⟩ := h.2.2 (by omega)
  rw [if_neg (by omega)]
  refine ⟨ad.add (m * k.sz), rfl, fun j p hj => ?_⟩
  rw [List.getElem?_drop] at hj
  obtain ⟨cs, h1, h2, h3⟩ := hcell (m + j) p hj
  refine ⟨cs, h1, h2, fun i u hu => ?_⟩
  rw [add_add, show m * k.sz + (j * k.sz + i) = (m + j) * k.sz + i by rw [Nat.add_mul]; omega]
  exact h3 i u hu
end
end Kd
section
variable {P : Program}
end
namespace Kd
section
variable {α β : Type} {d : Kd α} {d' : Kd β} {e e' base base' n : Nat} {ok ok' : Nat → Prop} {w W w1 W1 : World} {v u : Value} {xs : List α} {ys : List β} {A : Option Addr} {c : Nat}
end
section
variable {α : Type} {enc : α → Value} {h1 : ∀ x, (enc x).oneCell' = true} {w W : World} {A : Option Addr} {n g : Nat} {xs : List α}
end
end Kd
namespace Kd
section
variable {α : Type} {d : Kd α} {e base g : Nat} {ok : Nat → Prop} {w w1 : World} {v : Value} {xs : List α} {o : Obj}
end
end Kd
section
variable {P : Program} {ops : Array Oper} {rest : List Oper} {o : Oper} {a : Act} {Q : Exit → Act → World → Prop}
end
namespace Kd
section
variable {α : Type} {enc : α → Value} {h1 : ∀ x, (enc x).oneCell' = true} {e base g n cap : Nat} {ok : Nat → Prop} {W : World} {xs : List α}
end
end Kd
section
variable {P : Program} {ops : Array Oper} {rest : List Oper} {o : Oper} {a : Act} {Q : Exit → Act → World → Prop}
end
namespace Kd
section
variable {α : Type} {enc : α → Value} {h1 : ∀ x, (enc x).oneCell' = true} {e base g n cap : Nat} {ok : Nat → Prop} {W : World} {xs : List α}
end
end Kd
section
variable {P : Program} {ops : Array Oper} {rest : List Oper} {o : Oper} {a : Act} {Q : Exit → Act → World → Prop} {W : World}
end
section
variable {P : Program} {ops : Array Oper} {o : Oper} {a : Act} {Q : Exit → Act → World → Prop} {Kc : Act → World → Prop}
namespace Kd
variable {α : Type}
end Kd
end
section
variable {P : Program} {tmps : Array Value} {w : World}
end
namespace Kd
section
variable {P : Program} {α : Type}
end
section
variable {P : Program} {ops : Array Oper} {rest : List Oper} {o : Oper} {a : Act} {Q : Exit → Act → World → Prop} {Kc : Act → World → Prop} {α : Type}
end
end Kd
end Go.Proofs.YthgfhgjlilmieaaGreatW.PrintWords
namespace Go.Proofs.YthgfhgjlilmieaaGreatW.PrintLast
section
variable {P : Program} {ops : Array Oper} {Q : Exit → Act → World → Prop} {md : Region.Mode} {S : World → Prop} {ds : List Nat}
end
section
variable {P : Program} {ops : Array Oper} {Q : Exit → Act → World → Prop} {md : Region.Mode} {S : World → Prop} {ds : List Nat}
theorem goesL_ {rest : List Oper} {oi : Oper} {a : Act} {w : World} (N : Option Tmp) (hd : oi.dst = N) (hg : oi.guard = none) {f : FuncId} {fn : Func} {ars : Array Operand} {ts : Array TypeId} (hf : P.funcs[f]? = some fn) (hname : (fn.name == "runtime.NumGoroutine") = false) (hb : fn.body.isSome = true) (args : Array Value)
    (hop : oi.op = .call { callee := .value (.func f), args := ars, argTypes := ts }) (hargs : ars.map a.eval = args)
    (h : Calls P f args w fun e w' => ∃ v, e = .returned v ∧ wpList P ops Q rest (a.put N v) w') : wpList P ops Q (oi :: rest) a w := by
  refine wpList_plain hg fun K hK => ?_
  have he := enters_ hf hname hb args w
  have hrun : (execOp a.eval oi).run P w = .ok (.enter f args) w := by
    unfold execOp
    simp [hop, resolve, Deferred.ofValue, invoke, Act.eval, hargs, he]
  unfold Oper.wp
  rw [hrun, Oper.upon_enter]
  refine h.mono fun e w'' hh => ?_
  obtain ⟨v, rfl, hk⟩ := hh
  subst hd
  exact hK _ _ hk
end
end Go.Proofs.YthgfhgjlilmieaaGreatW.PrintLast
namespace Go.Proofs.YthgfhgjlilmieaaGreatW.PrintMore
open Go.RowKit Go.Proofs.YthgfhgjlilmieaaGreatW.PrintWords
namespace Kd
open Go.Proofs.YthgfhgjlilmieaaGreatW.PrintWords.Kd
end Kd
namespace Kd
open Go.Proofs.YthgfhgjlilmieaaGreatW.PrintWords.Kd
section
variable {α : Type} {d : Kd α} {e base g N : Nat} {ok : Nat → Prop} {W w1 : World} {u v : Value} {xs : List α}
end
end Kd
end Go.Proofs.YthgfhgjlilmieaaGreatW.PrintMore
namespace Go.Proofs.YthgfhgjlilmieaaGreatW.PrintWords
open Go.RowKit
section
variable {P : Program} {ops : Array Oper} {rest : List Oper} {o : Oper} {a : Act} {Q : Exit → Act → World → Prop} {W : World}
theorem gate_callee {f : FuncId} {ars : Array Operand} {ts : Array TypeId} (_ho : o.op = .call { callee := .value (.func f), args := ars, argTypes := ts }) (h : wpList P ops Q (o :: rest) a W) : wpList P ops Q (o :: rest) a W := h
end
namespace Kd
section
variable {α : Type} {d : Kd α} {e base : Nat} {ok : Nat → Prop} {W w1 : World} {v : Value} {xs : List α}
end
section
variable {α : Type} {d : Kd α} {e base g n cap : Nat} {ok oki okp : Nat → Prop} {W : World} {xs : List α} {i : Int} {c : List Value}
end
section
variable {α : Type} {d : Kd α} {e base b b' g N : Nat} {ok ok1 : Nat → Prop} {W W2 w1 : World} {u v : Value} {xs ys : List α} {S : Nat → Prop}
end
end Kd
end Go.Proofs.YthgfhgjlilmieaaGreatW.PrintWords
namespace Go.Proofs.YthgfhgjlilmieaaGreatW.PrintWords
open Go.RowKit
namespace Kd
section
variable {α β : Type} {d : Kd α} {e base base' n m c g N' lo hi : Nat} {ok ok' S : Nat → Prop} {w W w1 : World} {A : Option Addr} {ad : Addr} {u v v1 : Value} {xs : List α}
end
end Kd
end Go.Proofs.YthgfhgjlilmieaaGreatW.PrintWords
namespace Go.Proofs.YthgfhgjlilmieaaGreat.B
open Go.RowKit Go.Proofs.YthgfhgjlilmieaaGreatW.PrintWords Go.Proofs.YthgfhgjlilmieaaGreatW.PrintLast Go.Proofs.YthgfhgjlilmieaaGreatW.PrintMore
attribute [local go_sem] max2_int min2_int max_two min_two max_three min_three max_four min_four
set_option linter.unusedVariables false
set_option linter.unusedSimpArgs false
mutual
def glisterlaw06_inside.l0 : Nat → List (List Int) → List (List Int) → Int → Option (Bool)
 | 0, _, _, _ => none
 | k + 1, x0, x1, x5 => if x5 < (x0.length : Int) then (glisterlaw06_inside.l1 k x0 x1 x5 false 0) else (some true)
def glisterlaw06_inside.l1 : Nat → List (List Int) → List (List Int) → Int → Bool → Int → Option (Bool)
 | 0, _, _, _, _, _ => none
 | k + 1, x0, x1, x5, x6, x7 => if x7 < (x1.length : Int) then (if x6 = true then (glisterlaw06_inside.l1 k x0 x1 x5 true (wrap64 (x7 + 1))) else (if 0 ≤ x5 then (if x5 < (x0.length : Int) then (if 0 ≤ x7 then ((glisterref02_Same.f k (rd_L2 x0 x5) (rd_L2 x1 x7)).bind fun t744 => (glisterlaw06_inside.l1 k x0 x1 x5 t744 (wrap64 (x7 + 1)))) else (none)) else (none)) else (none))) else (if x6 = true then (glisterlaw06_inside.l0 k x0 x1 (wrap64 (x5 + 1))) else (some false))
end
def glisterlaw06_inside.f (k : Nat) (l0 : List (List Int)) (l1 : List (List Int)) : Option (Bool) := glisterlaw06_inside.l0 k l0 l1 0
set_option maxHeartbeats 8000000 in
set_option maxRecDepth 100000 in
theorem glisterlaw06_inside.calls (k : Nat) (A0 : Option Addr) (c0 : Nat) (l0 : List (List Int)) (A1 : Option Addr) (c1 : Nat) (l1 : List (List Int)) (r : Bool) (w : World) (hr0 : Kd.C (Kd.slice 3 (Kd.int .i64)) w A0 l0.length l0) (hc0 : l0.length ≤ c0) (hr1 : Kd.C (Kd.slice 3 (Kd.int .i64)) w A1 l1.length l1) (hc1 : l1.length ≤ c1) (h : glisterlaw06_inside.f k l0 l1 = some r) :
  Calls Tryz.prog 40 #[.slice A0 l0.length c0, .slice A1 l1.length c1] w fun e w' => e = .returned (.bool r) ∧ Drawn0 w w' := by
 have HR0 := Aside0.mk hr0
 have HC0 := Aside0.mk hc0
 clear hr0 hc0
 have HR1 := Aside0.mk hr1
 have HC1 := Aside0.mk hc1
 clear hr1 hc1
 have H : (glisterlaw06_inside.l0 k l0 l1 0) = some r := h
 clear h
 have H' := Aside0.mk H
 clear H
 go_enter Tryz.func40, Tryz.ntmps40
 go_wp2
 repeat (go_quiet (fail); try go_wp2)
 go_loopg [5] k (fun kq v5 w' => ∃ (x5_1 : Int), v5 = .int .i64 x5_1 ∧ Aside0 (glisterlaw06_inside.l0 kq l0 l1 x5_1 = some r) ∧ Aside0 (kq ≤ k) ∧ Drawn0 w w')
 case atStart => exact ⟨(0), (by first | rfl | (simp; done) | (simp [*]; done)), H', ⟨Nat.le_refl _⟩, by repeat (first | exact Drawn0.refl _ | apply Drawn0.step)⟩
 case round =>
  clear H'
  try clear c1
  try clear p2
  obtain ⟨x5_1, rfl, HA, HK1, ⟨m1, rfl⟩⟩ := hrel
  cases gk with
  | zero => exact absurd HA.out (by simp [glisterlaw06_inside.l0])
  | succ k1 =>
   have H := HA.out
   clear HA
   simp only [glisterlaw06_inside.l0] at H
   by_cases c3 : x5_1 < (l0.length : Int)
   ·rw [if_pos c3] at H
    have c3b0 : decide (x5_1 < (l0.length : Int)) = true := decide_eq_true c3
    clear c3
    have H' := Aside0.mk H
    clear H
    go_wp2
    repeat (go_quiet (fail); try go_wp2)
    go_loopg [6, 7] k1 (fun kq v6 v7 w' => ∃ (x6_2 : Bool) (x7_2 : Int), v6 = .bool x6_2 ∧ v7 = .int .i64 x7_2 ∧ Aside0 (glisterlaw06_inside.l1 kq l0 l1 x5_1 x6_2 x7_2 = some r) ∧ Aside0 (kq ≤ k1) ∧ Drawn0 w w')
    case atStart => exact ⟨(false), (0), (by first | rfl | (simp; done) | (simp [*]; done)), (by first | rfl | (simp; done) | (simp [*]; done)), H', ⟨Nat.le_refl _⟩, by repeat (first | exact Drawn0.refl _ | apply Drawn0.step)⟩
    case round =>
     clear H'
     try clear c1
     try clear p2
     try clear c3
     try clear c3b0
     try clear p2
     obtain ⟨x6_2, x7_2, rfl, rfl, HA, HK2, ⟨m2, rfl⟩⟩ := hrel
     cases gk with
     | zero => exact absurd HA.out (by simp [glisterlaw06_inside.l1])
     | succ k2 =>
      have H := HA.out
      clear HA
      simp only [glisterlaw06_inside.l1] at H
      by_cases c4 : x7_2 < (l1.length : Int)
      ·rw [if_pos c4] at H
       have c4b0 : decide (x7_2 < (l1.length : Int)) = true := decide_eq_true c4
       clear c4
       by_cases c5 : x6_2 = true
       ·subst c5
        have H1 : (glisterlaw06_inside.l1 k2 l0 l1 x5_1 true (wrap64 (x7_2 + 1))) = some r := by rw [if_pos rfl] at H; exact H
        clear H
        have H := H1
        clear H1
        have H' := Aside0.mk H
        clear H
        go_wp2
        repeat (go_quiet (fail); try go_wp2)
        go_roundg k2
        case measure => have := HK1.out; have := HK2.out; omega
        case rel => exact ⟨(true), (wrap64 (x7_2 + 1)), (by first | rfl | (simp; done) | (simp [*]; done)), (by first | rfl | (simp; done) | (simp [*]; done)), H', ⟨by have := HK1.out; have := HK2.out; omega⟩, by repeat (first | exact Drawn0.refl _ | apply Drawn0.step)⟩
       ·replace c5 := Bool.eq_false_iff.mpr c5
        subst c5
        have H1 : (if 0 ≤ x5_1 then (if x5_1 < (l0.length : Int) then (if 0 ≤ x7_2 then ((glisterref02_Same.f k2 (rd_L2 l0 x5_1) (rd_L2 l1 x7_2)).bind fun t744 => (glisterlaw06_inside.l1 k2 l0 l1 x5_1 t744 (wrap64 (x7_2 + 1)))) else (none)) else (none)) else (none)) = some r := by rw [if_neg (show ¬ (false = true) by decide)] at H; exact H
        clear H
        have H := H1
        clear H1
        by_cases c6 : 0 ≤ x5_1
        ·rw [if_pos c6] at H
         have c6b0 : decide (0 ≤ x5_1) = true := decide_eq_true c6
         clear c6
         by_cases c7 : x5_1 < (l0.length : Int)
         ·rw [if_pos c7] at H
          have c7b0 : decide (x5_1 < (l0.length : Int)) = true := decide_eq_true c7
          clear c7
          by_cases c8 : 0 ≤ x7_2
          ·rw [if_pos c8] at H
           have c8b0 : decide (0 ≤ x7_2) = true := decide_eq_true c8
           clear c8
           replace H := Option.bind_eq_some_iff.mp H
           obtain ⟨t744, A90, H⟩ := H
           replace H : (glisterlaw06_inside.l1 k2 l0 l1 x5_1 t744 (wrap64 (x7_2 + 1))) = some r := H
           have A9 := Aside0.mk A90
           clear A90
           have H' := Aside0.mk H
           clear H
           have p742 : 0 ≤ (x5_1 : Int) := of_decide_eq_true (by first | (with_reducible assumption) | assumption)
           have q742 : x5_1 < (l0.length : Int) := of_decide_eq_true (by first | (with_reducible assumption) | assumption)
           obtain ⟨ad742, A742_0, c742_0, e742, hx742_0, hl742_0, hi742_0⟩ := at_L2 HR0.out x5_1 p742 q742
           cases e742
           have HR742_0 := Aside0.mk hi742_0
           have HC742_0 := Aside0.mk hl742_0
           clear hi742_0 hl742_0
           replace p742 := eq_true p742
           replace q742 := eq_true q742
           have p743 : 0 ≤ (x7_2 : Int) := of_decide_eq_true (by first | (with_reducible assumption) | assumption)
           have q743 : x7_2 < (l1.length : Int) := of_decide_eq_true (by first | (with_reducible assumption) | assumption)
           obtain ⟨ad743, A743_0, c743_0, e743, hx743_0, hl743_0, hi743_0⟩ := at_L2 HR1.out x7_2 p743 q743
           cases e743
           have HR743_0 := Aside0.mk hi743_0
           have HC743_0 := Aside0.mk hl743_0
           clear hi743_0 hl743_0
           replace p743 := eq_true p743
           replace q743 := eq_true q743
           go_wp2_with (first | (go_at_call 24; (with_reducible refine (glisterref02_Same.calls k2 _ _ (rd_L2 l0 x5_1) _ _ (rd_L2 l1 x7_2) t744 _ ?side1 ?side2 ?side3 ?side4 A9.out).mono ?_); (case side1 => repeat (first | exact HR742_0.out | (with_reducible refine Kd.C_alloc ?_ _) | (with_reducible refine Kd.C_drewN ?_ _) | (with_reducible refine Kd.C_drew ?_))); (case side2 => exact HC742_0.out); (case side3 => repeat (first | exact HR743_0.out | (with_reducible refine Kd.C_alloc ?_ _) | (with_reducible refine Kd.C_drewN ?_ _) | (with_reducible refine Kd.C_drew ?_))); (case side4 => exact HC743_0.out); rintro e w' ⟨rfl, ⟨nd, rfl⟩⟩; (try first | exact ⟨rfl, _, World.drewN_drewN _ _ _⟩ | exact ⟨rfl, _, Eq.trans (World.drewN_drewN _ _ _) (congrArg (World.drewN _) (Nat.add_assoc _ _ _))⟩)))
           repeat (go_quiet (first | (go_at_call 24; (with_reducible refine (glisterref02_Same.calls k2 _ _ (rd_L2 l0 x5_1) _ _ (rd_L2 l1 x7_2) t744 _ ?side1 ?side2 ?side3 ?side4 A9.out).mono ?_); (case side1 => repeat (first | exact HR742_0.out | (with_reducible refine Kd.C_alloc ?_ _) | (with_reducible refine Kd.C_drewN ?_ _) | (with_reducible refine Kd.C_drew ?_))); (case side2 => exact HC742_0.out); (case side3 => repeat (first | exact HR743_0.out | (with_reducible refine Kd.C_alloc ?_ _) | (with_reducible refine Kd.C_drewN ?_ _) | (with_reducible refine Kd.C_drew ?_))); (case side4 => exact HC743_0.out); rintro e w' ⟨rfl, ⟨nd, rfl⟩⟩; (try first | exact ⟨rfl, _, World.drewN_drewN _ _ _⟩ | exact ⟨rfl, _, Eq.trans (World.drewN_drewN _ _ _) (congrArg (World.drewN _) (Nat.add_assoc _ _ _))⟩))); try go_wp2_with (first | (go_at_call 24; (with_reducible refine (glisterref02_Same.calls k2 _ _ (rd_L2 l0 x5_1) _ _ (rd_L2 l1 x7_2) t744 _ ?side1 ?side2 ?side3 ?side4 A9.out).mono ?_); (case side1 => repeat (first | exact HR742_0.out | (with_reducible refine Kd.C_alloc ?_ _) | (with_reducible refine Kd.C_drewN ?_ _) | (with_reducible refine Kd.C_drew ?_))); (case side2 => exact HC742_0.out); (case side3 => repeat (first | exact HR743_0.out | (with_reducible refine Kd.C_alloc ?_ _) | (with_reducible refine Kd.C_drewN ?_ _) | (with_reducible refine Kd.C_drew ?_))); (case side4 => exact HC743_0.out); rintro e w' ⟨rfl, ⟨nd, rfl⟩⟩; (try first | exact ⟨rfl, _, World.drewN_drewN _ _ _⟩ | exact ⟨rfl, _, Eq.trans (World.drewN_drewN _ _ _) (congrArg (World.drewN _) (Nat.add_assoc _ _ _))⟩))))
           go_roundg k2
           case measure => have := HK1.out; have := HK2.out; omega
           case rel => exact ⟨(t744), (wrap64 (x7_2 + 1)), (by first | rfl | (simp; done) | (simp [*]; done)), (by first | rfl | (simp; done) | (simp [*]; done)), H', ⟨by have := HK1.out; have := HK2.out; omega⟩, by repeat (first | exact Drawn0.refl _ | apply Drawn0.step)⟩
          ·rw [if_neg c8] at H
           exact absurd H (by simp)
         ·rw [if_neg c7] at H
          exact absurd H (by simp)
        ·rw [if_neg c6] at H
         exact absurd H (by simp)
      ·rw [if_neg c4] at H
       have c4b0 : decide (x7_2 < (l1.length : Int)) = false := decide_eq_false c4
       clear c4
       by_cases c10 : x6_2 = true
       ·subst c10
        have H1 : (glisterlaw06_inside.l0 k2 l0 l1 (wrap64 (x5_1 + 1))) = some r := by rw [if_pos rfl] at H; exact H
        clear H
        have H := H1
        clear H1
        have H' := Aside0.mk H
        clear H
        go_wp2
        repeat (go_quiet (fail); try go_wp2)
        go_roundg k2
        case measure => have := HK1.out; have := HK2.out; omega
        case rel => exact ⟨(wrap64 (x5_1 + 1)), (by first | rfl | (simp; done) | (simp [*]; done)), H', ⟨by have := HK1.out; have := HK2.out; omega⟩, by repeat (first | exact Drawn0.refl _ | apply Drawn0.step)⟩
       ·replace c10 := Bool.eq_false_iff.mpr c10
        subst c10
        have H1 : (some false) = some r := by rw [if_neg (show ¬ (false = true) by decide)] at H; exact H
        clear H
        have H := H1
        clear H1
        obtain rfl := Option.some.inj H
        go_wp2
        repeat (go_quiet (fail); try go_wp2)
        go_ret
        exact ⟨by first | rfl | (simp; done) | (simp [*]; done), by repeat (first | exact Drawn0.refl _ | apply Drawn0.step)⟩
   ·rw [if_neg c3] at H
    have c3b0 : decide (x5_1 < (l0.length : Int)) = false := decide_eq_false c3
    clear c3
    obtain rfl := Option.some.inj H
    go_wp2
    repeat (go_quiet (fail); try go_wp2)
    go_ret
    exact ⟨by first | rfl | (simp; done) | (simp [*]; done), by repeat (first | exact Drawn0.refl _ | apply Drawn0.step)⟩
mutual
def glisterref06_IsPart.l0 : Nat → List Int → List Int → Int → Option (Bool)
 | 0, _, _, _ => none
 | k + 1, x0, x1, x5 => if (wrap64 (x5 + (x0.length : Int))) ≤ (x1.length : Int) then (glisterref06_IsPart.j1 k x0 x1 x5 (decide ((x0.length : Int) > 0))) else (glisterref06_IsPart.j1 k x0 x1 x5 false)
def glisterref06_IsPart.j1 : Nat → List Int → List Int → Int → Bool → Option (Bool)
 | 0, _, _, _, _ => none
 | k + 1, x0, x1, x5, x17 => if x17 = true then (if 0 ≤ x5 then (if x5 ≤ (wrap64 (x5 + (x0.length : Int))) then (if (wrap64 (x5 + (x0.length : Int))) ≤ (x1.length : Int) then ((glisterref02_Same.f k x0 ((x1.take ((wrap64 (x5 + (x0.length : Int))) : Int).toNat).drop (x5 : Int).toNat)).bind fun t316 => (if t316 = true then (some true) else (glisterref06_IsPart.l0 k x0 x1 (wrap64 (x5 + 1))))) else (none)) else (none)) else (none)) else (some false)
end
def glisterref06_IsPart.f (k : Nat) (l0 : List Int) (l1 : List Int) : Option (Bool) := glisterref06_IsPart.l0 k l0 l1 0
set_option maxHeartbeats 8000000 in
set_option maxRecDepth 100000 in
theorem glisterref06_IsPart.calls (k : Nat) (A0 : Option Addr) (c0 : Nat) (l0 : List Int) (A1 : Option Addr) (c1 : Nat) (l1 : List Int) (r : Bool) (w : World) (hr0 : Kd.C (Kd.int .i64) w A0 l0.length l0) (hc0 : l0.length ≤ c0) (hr1 : Kd.C (Kd.int .i64) w A1 l1.length l1) (hc1 : l1.length ≤ c1) (h : glisterref06_IsPart.f k l0 l1 = some r) :
  Calls Tryz.prog 44 #[.slice A0 l0.length c0, .slice A1 l1.length c1] w fun e w' => e = .returned (.bool r) ∧ Drawn0 w w' := by
 have HR0 := Aside0.mk hr0
 have HC0 := Aside0.mk hc0
 clear hr0 hc0
 have HR1 := Aside0.mk hr1
 have HC1 := Aside0.mk hc1
 clear hr1 hc1
 have H : (glisterref06_IsPart.l0 k l0 l1 0) = some r := h
 clear h
 have H' := Aside0.mk H
 clear H
 go_enter Tryz.func44, Tryz.ntmps44
 go_wp2
 go_loopg [5] k (fun kq v5 w' => ∃ (x5_1 : Int), v5 = .int .i64 x5_1 ∧ Aside0 (glisterref06_IsPart.l0 kq l0 l1 x5_1 = some r) ∧ Aside0 (kq ≤ k) ∧ Drawn0 w w')
 case atStart => exact ⟨(0), (by first | rfl | (simp; done) | (simp [*]; done)), H', ⟨Nat.le_refl _⟩, by repeat (first | exact Drawn0.refl _ | apply Drawn0.step)⟩
 case round =>
  clear H'
  try clear c1
  try clear p2
  obtain ⟨x5_1, rfl, HA, HK1, ⟨m1, rfl⟩⟩ := hrel
  cases gk with
  | zero => exact absurd HA.out (by simp [glisterref06_IsPart.l0])
  | succ k1 =>
   have H := HA.out
   clear HA
   simp only [glisterref06_IsPart.l0] at H
   have HC3 := Aside0.mk H
   clear H
   go_upto_region 2 with (fail)
   go_cut [17] (fun v17 wc => ∃ (kq : Nat) (x17_2 : Bool), v17 = .bool x17_2 ∧ Aside0 (glisterref06_IsPart.j1 kq l0 l1 x5_1 x17_2 = some r) ∧ Aside0 (kq ≤ k1) ∧ Drawn0 w wc)
   case first =>
    have H := HC3.out
    clear HC3
    by_cases c4 : (wrap64 (x5_1 + (l0.length : Int))) ≤ (l1.length : Int)
    ·rw [if_pos c4] at H
     have c4b0 : decide ((wrap64 (x5_1 + (l0.length : Int))) ≤ (l1.length : Int)) = true := decide_eq_true c4
     clear c4
     (first | rw [c4b0] | (simp only [i64_w, i32_w]; rw [c4b0]) | skip)
     have H' := Aside0.mk H
     clear H
     go_wp2
     go_meet
     case rel => exact ⟨_, (decide ((l0.length : Int) > 0)), (by first | rfl | (simp; done) | (simp [*]; done)), H', ⟨by have := HK1.out; first | omega | exact Nat.le_refl _⟩, by repeat (first | exact Drawn0.refl _ | apply Drawn0.step)⟩
    ·rw [if_neg c4] at H
     have c4b0 : decide ((wrap64 (x5_1 + (l0.length : Int))) ≤ (l1.length : Int)) = false := decide_eq_false c4
     clear c4
     (first | rw [c4b0] | (simp only [i64_w, i32_w]; rw [c4b0]) | skip)
     have H' := Aside0.mk H
     clear H
     go_wp2
     go_meet
     case rel => exact ⟨_, (false), (by first | rfl | (simp; done) | (simp [*]; done)), H', ⟨by have := HK1.out; first | omega | exact Nat.le_refl _⟩, by repeat (first | exact Drawn0.refl _ | apply Drawn0.step)⟩
   case rest =>
    clear HC3
    try clear c1
    try clear p2
    try clear c4
    try clear c4b0
    try clear p2
    obtain ⟨kq, x17_2, rfl, HA, HJ2, ⟨mc2, rfl⟩⟩ := hcut
    cases kq with
    | zero => exact absurd HA.out (by simp [glisterref06_IsPart.j1])
    | succ kj2 =>
     have H := HA.out
     clear HA
     simp only [glisterref06_IsPart.j1] at H
     by_cases c5 : x17_2 = true
     ·subst c5
      have H1 : (if 0 ≤ x5_1 then (if x5_1 ≤ (wrap64 (x5_1 + (l0.length : Int))) then (if (wrap64 (x5_1 + (l0.length : Int))) ≤ (l1.length : Int) then ((glisterref02_Same.f kj2 l0 ((l1.take ((wrap64 (x5_1 + (l0.length : Int))) : Int).toNat).drop (x5_1 : Int).toNat)).bind fun t316 => (if t316 = true then (some true) else (glisterref06_IsPart.l0 kj2 l0 l1 (wrap64 (x5_1 + 1))))) else (none)) else (none)) else (none)) = some r := by rw [if_pos rfl] at H; exact H
      clear H
      have H := H1
      clear H1
      by_cases c6 : 0 ≤ x5_1
      ·rw [if_pos c6] at H
       have c6b0 := eq_true c6
       have c6b1 : decide (0 ≤ x5_1) = true := decide_eq_true c6
       clear c6
       by_cases c7 : x5_1 ≤ (wrap64 (x5_1 + (l0.length : Int)))
       ·rw [if_pos c7] at H
        have c7b0 := eq_true c7
        have c7b1 : decide (x5_1 ≤ (wrap64 (x5_1 + (l0.length : Int)))) = true := decide_eq_true c7
        by_cases c8 : (wrap64 (x5_1 + (l0.length : Int))) ≤ (l1.length : Int)
        ·rw [if_pos c8] at H
         have c8b0 := eq_true c8
         have c8b1 : decide ((wrap64 (x5_1 + (l0.length : Int))) ≤ (l1.length : Int)) = true := decide_eq_true c8
         replace H := Option.bind_eq_some_iff.mp H
         obtain ⟨t316, A90, H⟩ := H
         replace H : (if t316 = true then (some true) else (glisterref06_IsPart.l0 kj2 l0 l1 (wrap64 (x5_1 + 1)))) = some r := H
         have A9 := Aside0.mk A90
         clear A90
         by_cases c10 : t316 = true
         ·subst c10
          have H1 : (some true) = some r := by rw [if_pos rfl] at H; exact H
          clear H
          have H := H1
          clear H1
          obtain rfl := Option.some.inj H
          obtain ⟨i011, hi011, _, hsz11, _⟩ := info_parts info3
          obtain ⟨A11, hcut11, hA11, hC11⟩ := print_mid_of (P := Tryz.prog) (Value.int .i64) 0 25 3 .i64 .i64 Tryz.underlying25 hi011 hsz11 A1 c1 l1 x5_1 (wrap64 (x5_1 + (l0.length : Int))) (of_decide_eq_true (by first | (with_reducible assumption) | assumption)) (by first | omega | exact of_decide_eq_true (by first | (with_reducible assumption) | assumption)) (of_decide_eq_true (by first | (with_reducible assumption) | assumption)) HC1.out
          have HR315 := Aside0.mk (Kd.C_of_reads (h1 := fun _ => rfl) (hA11 _ (Kd.reads_of_C HR1.out)))
          have HC315 := Aside0.mk hC11
          clear hA11 hC11 hi011 hsz11
          go_wp2_with (first | ((with_reducible refine gate_callee (f := 24) rfl ?_); refine goesL_ (some 28) rfl rfl Tryz.func24 (by kernel_rfl) rfl #[.slice A0 l0.length c0, .slice A11 ((l1.take ((wrap64 (x5_1 + (l0.length : Int))) : Int).toNat).drop (x5_1 : Int).toNat).length (c1 - x5_1.toNat)] rfl (by (try simp only [List.map_toArray, List.map_cons, List.map_nil]); first | done | (rw [show ((l1.take ((wrap64 (x5_1 + (l0.length : Int))) : Int).toNat).drop (x5_1 : Int).toNat).length = ((wrap64 (x5_1 + (l0.length : Int))).toNat - x5_1.toNat) from (by rw [List.length_drop, List.length_take]; have h_ : ((wrap64 (x5_1 + (l0.length : Int))) : Int) ≤ (l1.length : Int) := of_decide_eq_true (by first | (with_reducible assumption) | assumption); omega)] <;> rfl) | rfl | (simp only [List.length_drop, List.length_take]; rfl)) ?_; (with_reducible refine (glisterref02_Same.calls kj2 _ _ l0 _ _ ((l1.take ((wrap64 (x5_1 + (l0.length : Int))) : Int).toNat).drop (x5_1 : Int).toNat) true _ ?side1 ?side2 ?side3 ?side4 A9.out).mono ?_); (case side1 => repeat (first | exact HR0.out | (with_reducible refine Kd.C_alloc ?_ _) | (with_reducible refine Kd.C_drewN ?_ _) | (with_reducible refine Kd.C_drew ?_))); (case side2 => exact HC0.out); (case side3 => repeat (first | exact HR315.out | (with_reducible refine Kd.C_alloc ?_ _) | (with_reducible refine Kd.C_drewN ?_ _) | (with_reducible refine Kd.C_drew ?_))); (case side4 => exact HC315.out); rintro e w' ⟨rfl, ⟨nd, rfl⟩⟩; refine ⟨_, rfl, ?_⟩))
          go_ret
          exact ⟨by first | rfl | (simp; done) | (simp [*]; done), by repeat (first | exact Drawn0.refl _ | apply Drawn0.step)⟩
         ·replace c10 := Bool.eq_false_iff.mpr c10
          subst c10
          have H1 : (glisterref06_IsPart.l0 kj2 l0 l1 (wrap64 (x5_1 + 1))) = some r := by rw [if_neg (show ¬ (false = true) by decide)] at H; exact H
          clear H
          have H := H1
          clear H1
          have H' := Aside0.mk H
          clear H
          obtain ⟨i012, hi012, _, hsz12, _⟩ := info_parts info3
          obtain ⟨A12, hcut12, hA12, hC12⟩ := print_mid_of (P := Tryz.prog) (Value.int .i64) 0 25 3 .i64 .i64 Tryz.underlying25 hi012 hsz12 A1 c1 l1 x5_1 (wrap64 (x5_1 + (l0.length : Int))) (of_decide_eq_true (by first | (with_reducible assumption) | assumption)) (by first | omega | exact of_decide_eq_true (by first | (with_reducible assumption) | assumption)) (of_decide_eq_true (by first | (with_reducible assumption) | assumption)) HC1.out
          have HR315 := Aside0.mk (Kd.C_of_reads (h1 := fun _ => rfl) (hA12 _ (Kd.reads_of_C HR1.out)))
          have HC315 := Aside0.mk hC12
          clear hA12 hC12 hi012 hsz12
          go_wp2_with (first | ((with_reducible refine gate_callee (f := 24) rfl ?_); refine goesL_ (some 28) rfl rfl Tryz.func24 (by kernel_rfl) rfl #[.slice A0 l0.length c0, .slice A12 ((l1.take ((wrap64 (x5_1 + (l0.length : Int))) : Int).toNat).drop (x5_1 : Int).toNat).length (c1 - x5_1.toNat)] rfl (by (try simp only [List.map_toArray, List.map_cons, List.map_nil]); first | done | (rw [show ((l1.take ((wrap64 (x5_1 + (l0.length : Int))) : Int).toNat).drop (x5_1 : Int).toNat).length = ((wrap64 (x5_1 + (l0.length : Int))).toNat - x5_1.toNat) from (by rw [List.length_drop, List.length_take]; have h_ : ((wrap64 (x5_1 + (l0.length : Int))) : Int) ≤ (l1.length : Int) := of_decide_eq_true (by first | (with_reducible assumption) | assumption); omega)] <;> rfl) | rfl | (simp only [List.length_drop, List.length_take]; rfl)) ?_; (with_reducible refine (glisterref02_Same.calls kj2 _ _ l0 _ _ ((l1.take ((wrap64 (x5_1 + (l0.length : Int))) : Int).toNat).drop (x5_1 : Int).toNat) false _ ?side1 ?side2 ?side3 ?side4 A9.out).mono ?_); (case side1 => repeat (first | exact HR0.out | (with_reducible refine Kd.C_alloc ?_ _) | (with_reducible refine Kd.C_drewN ?_ _) | (with_reducible refine Kd.C_drew ?_))); (case side2 => exact HC0.out); (case side3 => repeat (first | exact HR315.out | (with_reducible refine Kd.C_alloc ?_ _) | (with_reducible refine Kd.C_drewN ?_ _) | (with_reducible refine Kd.C_drew ?_))); (case side4 => exact HC315.out); rintro e w' ⟨rfl, ⟨nd, rfl⟩⟩; refine ⟨_, rfl, ?_⟩))
          go_roundg kj2
          case measure => have := HK1.out; have := HJ2.out; omega
          case rel => exact ⟨(wrap64 (x5_1 + 1)), (by first | rfl | (simp; done) | (simp [*]; done)), H', ⟨by have := HK1.out; have := HJ2.out; omega⟩, by repeat (first | exact Drawn0.refl _ | apply Drawn0.step)⟩
        ·rw [if_neg c8] at H
         exact absurd H (by simp)
       ·rw [if_neg c7] at H
        exact absurd H (by simp)
      ·rw [if_neg c6] at H
       exact absurd H (by simp)
     ·replace c5 := Bool.eq_false_iff.mpr c5
      subst c5
      have H1 : (some false) = some r := by rw [if_neg (show ¬ (false = true) by decide)] at H; exact H
      clear H
      have H := H1
      clear H1
      obtain rfl := Option.some.inj H
      go_wp2
      go_ret
      exact ⟨by first | rfl | (simp; done) | (simp [*]; done), by repeat (first | exact Drawn0.refl _ | apply Drawn0.step)⟩
end Go.Proofs.YthgfhgjlilmieaaGreat.B
namespace Go.Proofs.YthgfhgjlilmieaaGreat.G
open Go.RowKit Go.Shelf Go.Proofs.YthgfhgjlilmieaaGreatW.PrintWords Go.Proofs.YthgfhgjlilmieaaGreatW.PrintLast Go.Proofs.YthgfhgjlilmieaaGreatW.PrintMore
open Go.Proofs.YthgfhgjlilmieaaGreat.B
set_option linter.unusedVariables false
set_option linter.unusedSimpArgs false
def Q34 (l : Lg) (b : Bool) : Prop := b = true → ThinOk l ∧ logE l = 0
set_option maxRecDepth 100000 in
set_option maxHeartbeats 4000000 in
theorem ready34_any (a : LV) (l : Lg) (w : World) (hL : LogAt w a l) : Calls Tryz.prog 34 #[logV a l] w (SomeB (Q34 l) w) := by
  have hu := Tryz.underlying29
  have hz : ∀ W, Below (w.heap.size + 1) (w.alloc (logD a l)) W → LogAt W a l := fun W h => hL.below (toW h)
  have HTH := Aside0.mk (fun W h => thin17_any a l W (hz W h))
  have HFL := Aside0.mk (fun W h => fault22_any a l W (hz W h))
  have HCE := Aside0.mk (logCells a l w)
  have HTW := Aside0.mk (fun W h => toW (a := a) (l := l) (w := w) (W := W) h)
  have BW := Aside0.mk (Below.refl (w.heap.size + 1) (w.alloc (logD a l)))
  have HN : Aside0 (w.heap.size + 1 ≤ (w.alloc (logD a l)).heap.size) := ⟨by simp⟩
  obtain ⟨A0, A2, A3, A4, c0, c2, c3, c4⟩ := a
  dsimp only [logV] at HTH HFL HCE ⊢
  clear hz hL
  have HQ : Aside0 (∀ b, (b = true → ThinOk l) → Q34 l (b && logE l == 0)) := ⟨fun b h e => by
    simp only [Bool.and_eq_true, beq_iff_eq] at e
    exact ⟨h e.1, e.2⟩⟩
  generalize hE : logE l = E at HFL HQ
  clear hE
  generalize Q34 l = Q at *
  go_enter Tryz.func34, Tryz.ntmps34
  go_wp2_with (fail)
  refine (HTH.out _ BW.out).mono ?_
  rintro e w1_ ⟨b, rfl, hq, hb⟩
  have HQ1 := Aside0.mk hq
  clear hq
  have BW := Aside0.mk (step_b BW.out HN.out hb)
  obtain ⟨b0, b1, b2, b3, b4⟩ := HCE.out _ BW.out
  clear hb
  cases b with
  | false =>
    go_wp2
    go_ret
    exact ⟨_, rfl, by simpa using HQ.out false HQ1.out, HTW.out _ BW.out⟩
  | true =>
    go_wp2_with (fail)
    refine (HFL.out _ BW.out).mono ?_
    rintro e w2_ ⟨rfl, hb⟩
    have BW := Aside0.mk (step_b BW.out HN.out hb)
    clear b0 b1 b2 b3 b4 hb
    go_wp2
    go_ret
    exact ⟨_, rfl, by simpa using HQ.out true HQ1.out, HTW.out _ BW.out⟩
end Go.Proofs.YthgfhgjlilmieaaGreat.G
namespace Go.Proofs.YthgfhgjlilmieaaGreat.G
open Go.RowKit Go.Shelf Go.Proofs.YthgfhgjlilmieaaGreatW.PrintWords Go.Proofs.YthgfhgjlilmieaaGreatW.PrintLast Go.Proofs.YthgfhgjlilmieaaGreatW.PrintMore
open Go.Proofs.YthgfhgjlilmieaaGreat.B
set_option linter.unusedVariables false
set_option linter.unusedSimpArgs false
theorem mem_compT (t : List Int) (tss : List (List Int)) : t ∈ compT tss ↔ t ∈ tss := by
  unfold compT idxT
  rw [List.mem_map]
  constructor
  · rintro ⟨j, hj, rfl⟩
    have := List.mem_range.1 (List.mem_filter.1 hj).1
    rw [List.getD_eq_getElem?_getD, List.getElem?_eq_getElem this]
    exact List.getElem_mem this
  · intro h
    obtain ⟨j, hj, rfl⟩ := List.getElem_of_mem h
    induction j with
    | zero => exact ⟨0, List.mem_filter.2 ⟨List.mem_range.2 hj, rfl⟩, by simp [List.getD_eq_getElem?_getD, hj]⟩
    | succ j ih =>
      cases hk : (tss.getD (j + 1) [] == tss.getD j []) with
      | true =>
        obtain ⟨m, h1, h2⟩ := ih (by omega) (List.getElem_mem (by omega))
        refine ⟨m, h1, h2.trans ?_⟩
        have : tss.getD (j + 1) [] = tss.getD j [] := by simpa using hk
        rw [List.getD_eq_getElem?_getD, List.getD_eq_getElem?_getD, List.getElem?_eq_getElem hj, List.getElem?_eq_getElem (by omega)] at this
        simpa using this.symm
      | false => exact ⟨j + 1, List.mem_filter.2 ⟨List.mem_range.2 hj, keepT_pos (by simpa using hk)⟩, by simp [List.getD_eq_getElem?_getD, hj]⟩
theorem mem_heardL (l : Lg) (h : Int) (t : List Int) : t ∈ heardL l h ↔ t ∈ partsL l h := by
  unfold heardL
  rw [mem_compT]
  unfold sortT
  exact List.mem_mergeSort
structure VF (l : Lg) (r : Nat) (v a : Int) : Prop where
  ask : askE l r = 0
  val : v = 1 ∨ v = 2 ∨ v = 3
  m : mskE l r = 0 ∨ mskE l r = 7
  o : ownL l r = [] → v = 2
  n : mskE l r = 7 → v = 1
  f : a < 0 → v ≠ 1 ∧ mskE l r = 0
  t : 0 ≤ a → v ≠ 2 ∧ (ownL l r).contains a = true
end Go.Proofs.YthgfhgjlilmieaaGreat.G
namespace Go.Proofs.YthgfhgjlilmieaaGreat.G
open Go.RowKit Go.Shelf Go.Proofs.YthgfhgjlilmieaaGreatW.PrintWords Go.Proofs.YthgfhgjlilmieaaGreatW.PrintLast Go.Proofs.YthgfhgjlilmieaaGreatW.PrintMore
open Go.Proofs.YthgfhgjlilmieaaGreat.B
set_option linter.unusedVariables false
set_option linter.unusedSimpArgs false
theorem mem_lows (t : List Int) (x : List Int) : x ∈ lows t 0 ↔ ∃ lo hi, lo < hi ∧ hi ≤ t.length ∧ x = partOf t lo hi := by
  unfold lows highs
  simp only [List.mem_flatMap, List.mem_map, List.mem_range'_1]
  constructor
  · rintro ⟨lo, h1, hi, h2, rfl⟩
    exact ⟨lo, hi, by omega, by omega, rfl⟩
  · rintro ⟨lo, hi, h1, h2, rfl⟩
    exact ⟨lo, by omega, hi, by omega, rfl⟩
theorem mem_partsL (l : Lg) (b : Int) (x : List Int) : x ∈ partsL l b ↔ ∃ s, s ∈ l.jn ∧ heardB l s b = true ∧ ∃ lo hi, lo < hi ∧ hi ≤ s.f2.length ∧ x = partOf s.f2 lo hi := by
  unfold partsL jns
  simp only [List.drop_zero, List.mem_flatMap]
  constructor
  · rintro ⟨s, h1, h2⟩
    split at h2
    · rename_i hs
      exact ⟨s, h1, hs, (mem_lows _ _).1 h2⟩
    · cases h2
  · rintro ⟨s, h1, h2, h3⟩
    exact ⟨s, h1, by rw [if_pos h2]; exact (mem_lows _ _).2 h3⟩
theorem partOf_len (t : List Int) {lo hi : Nat} (h : hi ≤ t.length) : (partOf t lo hi).length = hi - lo := by
  unfold partOf
  rw [List.length_drop, List.length_take]
  omega
theorem partOf_tail (t : List Int) (lo hi : Nat) : (partOf t lo hi).drop 1 = partOf t (lo + 1) hi := by
  unfold partOf
  rw [List.drop_drop]
theorem partOf_init (t : List Int) {lo hi : Nat} (h1 : lo < hi) (h : hi ≤ t.length) : (partOf t lo hi).take ((partOf t lo hi).length - 1) = partOf t lo (hi - 1) := by
  rw [partOf_len t h]
  unfold partOf
  rw [List.take_drop, List.take_take]
  congr 2
  omega
def partB (t s : List Int) : Bool := decide (0 < t.length) && (List.range (s.length + 1 - t.length)).any fun (k : Nat) => t == (s.take (k + t.length)).drop k
theorem partB_of (s : List Int) {lo hi : Nat} (h1 : lo < hi) (h : hi ≤ s.length) : partB (partOf s lo hi) s = true := by
  unfold partB
  rw [partOf_len s h, Bool.and_eq_true, decide_eq_true_eq, List.any_eq_true]
  refine ⟨by omega, lo, List.mem_range.2 (by omega), ?_⟩
  rw [show lo + (hi - lo) = hi by omega]
  simp [partOf]
structure PF (l : Lg) (b : Int) (t : List Int) : Prop where
  found : (l.jn.any fun s => decide (s.f0 < b) && partB t s.f2) = true
  tail : 1 < t.length → t.drop 1 ∈ heardL l b
  init : 1 < t.length → t.take (t.length - 1) ∈ heardL l b
theorem pf_of (l : Lg) (b : Int) (t : List Int) (h : t ∈ heardL l b) : PF l b t := by
  rw [mem_heardL, mem_partsL] at h
  obtain ⟨s, h1, h2, lo, hi, h3, h4, rfl⟩ := h
  refine ⟨?_, fun hl => ?_, fun hl => ?_⟩
  · rw [List.any_eq_true]
    refine ⟨s, h1, ?_⟩
    rw [partB_of s.f2 h3 h4, Bool.and_true]
    simp only [heardB, Bool.and_eq_true] at h2
    exact h2.2
  · rw [partOf_len _ h4] at hl
    rw [mem_heardL, mem_partsL, partOf_tail]
    exact ⟨s, h1, h2, lo + 1, hi, by omega, h4, rfl⟩
  · rw [partOf_init _ h3 h4, mem_heardL, mem_partsL]
    rw [partOf_len _ h4] at hl
    exact ⟨s, h1, h2, lo, hi - 1, by omega, by omega, rfl⟩
end Go.Proofs.YthgfhgjlilmieaaGreat.G
namespace Go.Proofs.YthgfhgjlilmieaaGreat.G
open Go.RowKit Go.Shelf Go.Proofs.YthgfhgjlilmieaaGreatW.PrintWords Go.Proofs.YthgfhgjlilmieaaGreatW.PrintLast Go.Proofs.YthgfhgjlilmieaaGreatW.PrintMore
open Go.Proofs.YthgfhgjlilmieaaGreat.B
set_option linter.unusedVariables false
set_option linter.unusedSimpArgs false
theorem wrap_add (i n : Nat) (h : i + n ≤ 9223372036854775807) : wrap64 ((i : Int) + (n : Int)) = ((i + n : Nat) : Int) := by
  unfold wrap64; omega
theorem isPart_l (t s : List Int) (hb : s.length + t.length + 1 ≤ 9223372036854775807) : ∀ (d i k : Nat), d = s.length + 1 - i → i ≤ s.length + 1 → 2 * d + t.length + 2 ≤ k → glisterref06_IsPart.l0 k t s i = some (decide (0 < t.length) && (List.range' i (s.length + 1 - t.length - i)).any fun (k : Nat) => t == (s.take (k + t.length)).drop k) := by
  intro d
  induction d with
  | zero =>
    intro i k hd hi hk
    obtain ⟨k, rfl⟩ : ∃ m, k = m + 1 + 1 := ⟨k - 2, by omega⟩
    simp only [glisterref06_IsPart.l0, glisterref06_IsPart.j1]
    rw [wrap_add i t.length (by omega), if_neg (by omega), if_neg (by simp), show s.length + 1 - t.length - i = 0 by omega]
    simp
  | succ d ih =>
    intro i k hd hi hk
    obtain ⟨k, rfl⟩ : ∃ m, k = m + 1 + 1 := ⟨k - 2, by omega⟩
    simp only [glisterref06_IsPart.l0, glisterref06_IsPart.j1]
    rw [wrap_add i t.length (by omega)]
    by_cases h : i + t.length ≤ s.length
    · rw [if_pos (by omega)]
      by_cases h0 : 0 < t.length
      · rw [decide_eq_true (show (t.length : Int) > 0 by omega), if_pos rfl, if_pos (by omega), if_pos (by omega), if_pos (by omega), Int.toNat_natCast, Int.toNat_natCast, same_f t _ (by omega) k (by omega), Option.bind_some, decide_eq_true h0, Bool.true_and, show s.length + 1 - t.length - i = (s.length + 1 - t.length - (i + 1)) + 1 by omega, List.range'_succ, List.any_cons]
        cases hq : (t == (s.take (i + t.length)).drop i) with
        | true => simp
        | false =>
          rw [if_neg (by simp), Bool.false_or, wrap_nat i (i + 1) (by omega) (by omega)]
          have := ih (i + 1) k (by omega) (by omega) (by omega)
          rw [decide_eq_true h0, Bool.true_and] at this
          exact this
      · rw [decide_eq_false (show ¬ (t.length : Int) > 0 by omega), if_neg (by simp), decide_eq_false h0]
        simp
    · rw [if_neg (by omega), if_neg (by simp), show s.length + 1 - t.length - i = 0 by omega]
      simp
theorem isPart44_any (A B : Option Addr) (c d : Nat) (t s : List Int) (w : World) (hx : Kd.C (Kd.int .i64) w A t.length t) (hc : t.length ≤ c) (hy : Kd.C (Kd.int .i64) w B s.length s) (hd : s.length ≤ d) (hb : s.length + t.length + 1 ≤ 9223372036854775807) :
    Calls Tryz.prog 44 #[.slice A t.length c, .slice B s.length d] w fun e w' => e = .returned (.bool (partB t s)) ∧ Below w.heap.size w w' := by
  have hf : glisterref06_IsPart.f (2 * (s.length + 1) + t.length + 2) t s = some (partB t s) := by
    unfold glisterref06_IsPart.f partB
    have := isPart_l t s hb (s.length + 1) 0 (2 * (s.length + 1) + t.length + 2) (by omega) (by omega) (by omega)
    rw [Nat.sub_zero, ← List.range_eq_range'] at this
    exact this
  refine (glisterref06_IsPart.calls _ A c t B d s _ w hx hc hy hd hf).mono ?_
  rintro e w' ⟨he, m, rfl⟩
  exact ⟨he, belowN w m⟩
def insideB (xs ys : List (List Int)) : Bool := xs.all fun x => ys.any fun y => x == y
theorem inside_l1 (xs ys : List (List Int)) (M : Nat) (hM : ∀ t, t ∈ xs → t.length ≤ M) (hM2 : M ≤ 9223372036854775807) (hb : ys.length ≤ 9223372036854775807) (i : Nat) (hi : i < xs.length) : ∀ (d j k : Nat) (b : Bool) (r : Option Bool) (K : Nat), d = ys.length - j → j ≤ ys.length → K + d + M + 2 ≤ k →
    (∀ k', K ≤ k' → (if (b || (ys.drop j).any fun y => xs[i] == y) = true then glisterlaw06_inside.l0 k' xs ys (wrap64 ((i : Int) + 1)) else some false) = r) → glisterlaw06_inside.l1 k xs ys i b j = r := by
  intro d
  induction d with
  | zero =>
    intro j k b r K hd hj hk hr
    obtain ⟨k, rfl⟩ : ∃ m, k = m + 1 := ⟨k - 1, by omega⟩
    simp only [glisterlaw06_inside.l1]
    rw [if_neg (by omega)]
    have := hr k (by omega)
    rw [List.drop_eq_nil_of_le (by omega)] at this
    simpa using this
  | succ d ih =>
    intro j k b r K hd hj hk hr
    obtain ⟨k, rfl⟩ : ∃ m, k = m + 1 := ⟨k - 1, by omega⟩
    have h1 : j < ys.length := by omega
    have r1 : rd_L2 xs (i : Int) = xs[i] := by simp [rd_L2, hi]
    have r2 : rd_L2 ys (j : Int) = ys[j] := by simp [rd_L2, h1]
    have hm := hM xs[i] (List.getElem_mem hi)
    simp only [glisterlaw06_inside.l1]
    rw [if_pos (by omega), wrap_nat j ys.length h1 hb]
    rw [List.drop_eq_getElem_cons h1] at hr
    simp only [List.any_cons] at hr
    cases b with
    | true =>
      rw [if_pos rfl]
      exact ih (j + 1) k true r K (by omega) (by omega) (by omega) (fun k' hk' => by simpa using hr k' hk')
    | false =>
      rw [if_neg (by simp), if_pos (by omega), if_pos (by omega), if_pos (by omega), r1, r2, same_f xs[i] ys[j] (by omega) k (by omega), Option.bind_some]
      exact ih (j + 1) k _ r K (by omega) (by omega) (by omega) (fun k' hk' => by simpa using hr k' hk')
theorem inside_l0 (xs ys : List (List Int)) (M : Nat) (hM : ∀ t, t ∈ xs → t.length ≤ M) (hM2 : M ≤ 9223372036854775807) (hx : xs.length ≤ 9223372036854775807) (hb : ys.length ≤ 9223372036854775807) : ∀ (d i k : Nat), d = xs.length - i → i ≤ xs.length → (d + 1) * (ys.length + M + 4) ≤ k → glisterlaw06_inside.l0 k xs ys i = some (insideB (xs.drop i) ys) := by
  intro d
  induction d with
  | zero =>
    intro i k hd hi hk
    obtain ⟨k, rfl⟩ : ∃ m, k = m + 1 := ⟨k - 1, by omega⟩
    simp only [glisterlaw06_inside.l0]
    rw [if_neg (by omega), List.drop_eq_nil_of_le (by omega)]
    rfl
  | succ d ih =>
    intro i k hd hi hk
    have hk2 : (d + 1) * (ys.length + M + 4) + (ys.length + M + 4) ≤ k := by rw [← Nat.succ_mul]; exact hk
    obtain ⟨k, rfl⟩ : ∃ m, k = m + 1 := ⟨k - 1, by omega⟩
    have h1 : i < xs.length := by omega
    simp only [glisterlaw06_inside.l0]
    rw [if_pos (by omega)]
    refine inside_l1 xs ys M hM hM2 hb i h1 ys.length 0 k false _ ((d + 1) * (ys.length + M + 4)) (by omega) (by omega) (by omega) (fun k' hk' => ?_)
    rw [wrap_nat i xs.length h1 hx, ih (i + 1) k' (by omega) (by omega) hk', List.drop_zero, Bool.false_or, List.drop_eq_getElem_cons h1]
    unfold insideB
    rw [List.all_cons]
    cases (ys.any fun y => xs[i] == y) <;> rfl
theorem inside40_any (A B : Option Addr) (c d : Nat) (xs ys : List (List Int)) (M : Nat) (w : World) (hM : ∀ t, t ∈ xs → t.length ≤ M) (hM2 : M ≤ 9223372036854775807) (hx : Kd.C (Kd.slice 3 (Kd.int .i64)) w A xs.length xs) (hc : xs.length ≤ c) (hy : Kd.C (Kd.slice 3 (Kd.int .i64)) w B ys.length ys) (hd : ys.length ≤ d) :
    Calls Tryz.prog 40 #[.slice A xs.length c, .slice B ys.length d] w fun e w' => e = .returned (.bool (insideB xs ys)) ∧ Below w.heap.size w w' := by
  have hb1 : xs.length ≤ 9223372036854775807 := by have := hx.2.1; omega
  have hb2 : ys.length ≤ 9223372036854775807 := by have := hy.2.1; omega
  have hf : glisterlaw06_inside.f ((xs.length + 1) * (ys.length + M + 4)) xs ys = some (insideB xs ys) := by
    unfold glisterlaw06_inside.f
    have := inside_l0 xs ys M hM hM2 hb1 hb2 xs.length 0 _ (by omega) (by omega) (Nat.le_refl _)
    simpa using this
  refine (glisterlaw06_inside.calls _ A c xs B d ys _ w hx hc hy hd hf).mono ?_
  rintro e w' ⟨he, m, rfl⟩
  exact ⟨he, belowN w m⟩
end Go.Proofs.YthgfhgjlilmieaaGreat.G
namespace Go.Proofs.YthgfhgjlilmieaaGreat.G
open Go.RowKit Go.Shelf Go.Proofs.YthgfhgjlilmieaaGreatW.PrintWords Go.Proofs.YthgfhgjlilmieaaGreatW.PrintLast Go.Proofs.YthgfhgjlilmieaaGreatW.PrintMore
open Go.Proofs.YthgfhgjlilmieaaGreat.B
set_option linter.unusedVariables false
set_option linter.unusedSimpArgs false
def LlsP (xs : List (List Int)) (q : Int) (w : World) (e : Ending) (w' : World) : Prop := ∃ A c, e = .returned (.tuple #[.slice A xs.length c, .int .i64 q]) ∧ xs.length ≤ c ∧ Kd.C (Kd.slice 3 (Kd.int .i64)) w' A xs.length xs ∧ Below w.heap.size w w'
theorem heard26_at (a : LV) (l : Lg) (h : Int) (w : World) (hL : LogAt w a l) : Calls Tryz.prog 26 #[logV a l, .int .i64 h] w (LlsP (heaL l h) (heaE l h) w) := (hears_any a l h w hL).mono fun e w' ⟨v, he, hR, hb⟩ => by
  obtain ⟨A, c, rfl, hl, hC⟩ := Kd.R_reads hR
  exact ⟨A, c, he, hl, hC, hb⟩
theorem hea_ok {l : Lg} {n : Nat} (hE : logE l = 0) : heaE l ((n : Int) % 24) = 0 ∧ heaL l ((n : Int) % 24) = heardL l ((n : Int) % 24) := by
  have e : heaE l ((n : Int) % 24) = 0 := by
    unfold heaE
    rw [if_pos hE, if_pos]
    unfold hourB
    simp only [Bool.and_eq_true, decide_eq_true_eq]
    omega
  exact ⟨e, by unfold heaL; rw [if_pos e]⟩
theorem ins1 {t : List Int} {xs : List (List Int)} (h : t ∈ xs) : insideB [t] xs = true := by
  unfold insideB
  rw [List.all_cons, List.all_nil, Bool.and_true, List.any_eq_true]
  exact ⟨t, h, by simp⟩
theorem partB_len {t s : List Int} (h : partB t s = true) : t.length ≤ s.length := by
  unfold partB at h
  rw [Bool.and_eq_true, List.any_eq_true] at h
  obtain ⟨_, k, hk, _⟩ := h
  have := List.mem_range.1 hk
  omega
theorem pf_len {l : Lg} {b : Int} {t : List Int} (h : PF l b t) (hf : Fits l) : t.length ≤ 1000 := by
  obtain ⟨s, hs, hp⟩ := List.any_eq_true.1 h.found
  obtain ⟨j, hj, rfl⟩ := List.getElem_of_mem hs
  rw [Bool.and_eq_true] at hp
  exact Nat.le_trans (partB_len hp.2) (hf.tx j hj)
theorem pf_all (l : Lg) (b : Int) (t : List Int) (h : t ∈ heardL l b) : (l.jn.any fun s => decide (s.f0 < b) && partB t s.f2) = true ∧ (Fits l → t.length ≤ 1000) ∧ (1 < t.length → insideB [t.drop 1] (heardL l b) = true ∧ insideB [t.take (t.length - 1)] (heardL l b) = true) :=
  ⟨(pf_of l b t h).found, fun hf => pf_len (pf_of l b t h) hf, fun h1 => ⟨ins1 ((pf_of l b t h).tail h1), ins1 ((pf_of l b t h).init h1)⟩⟩
theorem C_one (W : World) (A : Option Addr) (t : List Int) (c : Nat) (hC : Kd.C (Kd.int .i64) W A t.length t) (hl : t.length ≤ c) : Kd.C (Kd.slice 3 (Kd.int .i64)) (W.alloc (.cells #[.slice A t.length c] 25)) (some ⟨W.heap.size, 0, none⟩) 1 [t] := by
  refine ⟨rfl, by omega, fun _ => ⟨_, rfl, fun j p hj => ?_⟩⟩
  match j, hj with
  | 0, hj =>
    cases hj
    refine ⟨[.slice A t.length c], rfl, ⟨A, c, rfl, hl, Kd.C_alloc hC _⟩, fun j u hj => ?_⟩
    match j, hj with
    | 0, hj => cases hj; exact cell_new _ _ _ 0
theorem ins_call (W : World) (b : Nat) (t : List Int) (B : Option Addr) (d : Nat) (X : List (List Int)) (h1 : Kd.C (Kd.slice 3 (Kd.int .i64)) W (some ⟨b, 0, none⟩) 1 [t]) (hX : Kd.C (Kd.slice 3 (Kd.int .i64)) W B X.length X) (hd : X.length ≤ d) (ht : t.length ≤ 1000) (hi : insideB [t] X = true) :
    Calls Tryz.prog 40 #[.slice (some ⟨b, 0, none⟩) 1 1, .slice B X.length d] W fun e w' => e = .returned (.bool true) ∧ Below W.heap.size W w' := by
  have := inside40_any (some ⟨b, 0, none⟩) B 1 d [t] X 1000 W (fun x hx => by rw [List.mem_singleton] at hx; rw [hx]; exact ht) (by omega) h1 (Nat.le_refl _) hX hd
  rw [hi] at this
  exact this
theorem ins_tail (A : Option Addr) (ct : Nat) (T : List Int) (B : Option Addr) (d : Nat) (X : List (List Int)) (W : World) (hC : Kd.C (Kd.int .i64) W A T.length T) (hl : T.length ≤ ct) (h1 : 1 < T.length) (hX : Kd.C (Kd.slice 3 (Kd.int .i64)) W B X.length X) (hd : X.length ≤ d) (ht : T.length ≤ 1000) (hi : insideB [T.drop 1] X = true) :
    Calls Tryz.prog 40 #[.slice (some ⟨W.heap.size, 0, none⟩) 1 1, .slice B X.length d] (W.alloc (.cells #[.slice (if ct = 1 then A else Option.map (fun x => ⟨x.block, x.off + 1, none⟩) A) (T.length - 1) (ct - 1)] 25)).drew fun e w' => e = .returned (.bool true) ∧ Below (W.alloc (.cells #[.slice (if ct = 1 then A else Option.map (fun x => ⟨x.block, x.off + 1, none⟩) A) (T.length - 1) (ct - 1)] 25)).drew.heap.size (W.alloc (.cells #[.slice (if ct = 1 then A else Option.map (fun x => ⟨x.block, x.off + 1, none⟩) A) (T.length - 1) (ct - 1)] 25)).drew w' := by
  have hD := Kd.C_drop (m := 1) hC (by omega) hl
  have e : (T.drop 1).length = T.length - 1 := List.length_drop
  have hO := C_one W _ (T.drop 1) (ct - 1) hD (by omega)
  rw [e] at hO
  exact ins_call _ W.heap.size (T.drop 1) B d X (Kd.C_drew hO) (Kd.C_drew (Kd.C_alloc hX _)) hd (by omega) hi
theorem ins_init (A : Option Addr) (ct : Nat) (T : List Int) (B : Option Addr) (d : Nat) (X : List (List Int)) (W : World) (hC : Kd.C (Kd.int .i64) W A T.length T) (hl : T.length ≤ ct) (h1 : 1 < T.length) (hX : Kd.C (Kd.slice 3 (Kd.int .i64)) W B X.length X) (hd : X.length ≤ d) (ht : T.length ≤ 1000) (hi : insideB [T.take (T.length - 1)] X = true) :
    Calls Tryz.prog 40 #[.slice (some ⟨W.heap.size, 0, none⟩) 1 1, .slice B X.length d] (W.alloc (.cells #[.slice A (T.length - 1) ct] 25)) fun e w' => e = .returned (.bool true) ∧ Below (W.alloc (.cells #[.slice A (T.length - 1) ct] 25)).heap.size (W.alloc (.cells #[.slice A (T.length - 1) ct] 25)) w' := by
  have hD := Kd.C_take (m := T.length - 1) hC (by omega)
  have e : (T.take (T.length - 1)).length = T.length - 1 := by rw [List.length_take]; omega
  have hO := C_one W _ (T.take (T.length - 1)) ct hD (by omega)
  rw [e] at hO
  exact ins_call _ W.heap.size (T.take (T.length - 1)) B d X hO (Kd.C_alloc hX _) hd (by omega) hi
def seenP (b : Int) (t : List Int) (s : S76) : Bool := decide (s.f0 < b) && partB t s.f2
theorem any_take (p : S76 → Bool) (xs : List S76) (k : Nat) (hk : k < xs.length) : (xs.take (k + 1)).any p = ((xs.take k).any p || p xs[k]) := by
  rw [List.take_succ_eq_append_getElem hk, List.any_append]; simp
set_option maxRecDepth 100000 in
set_option maxHeartbeats 16000000 in
theorem maskParts_any (a : LV) (l : Lg) (n : Nat) (w : World) (hL : LogAt w a l) (hn : n < 256) : Calls Tryz.prog 12 #[logV a l, .int .u8 n] w fun e w' => e = .returned (.bool true) ∧ Below w.heap.size w w' := by
  have hu := Tryz.underlying29
  have hu1 := Tryz.underlying25
  have hu3 := Tryz.underlying3
  have hu5 := Tryz.underlying5
  have hu69 := Tryz.underlying69
  have hz : ∀ W, Below (w.heap.size + 1) (w.alloc (logD a l)) W → LogAt W a l := fun W h => hL.below (toW h)
  have HZ := Aside0.mk hz
  have HRD := Aside0.mk (fun W h => ready34_any a l W (hz W h))
  have HLG := Aside0.mk (fun W h (hf : Fits l) => log20_any a l W (hz W h) hf)
  have HAW := Aside0.mk awake_any
  have HCE := Aside0.mk (logCells a l w)
  have HTW := Aside0.mk (fun W h => toW (a := a) (l := l) (w := w) (W := W) h)
  have BW := Aside0.mk (Below.refl (w.heap.size + 1) (w.alloc (logD a l)))
  have HN : Aside0 (w.heap.size + 1 ≤ (w.alloc (logD a l)).heap.size) := ⟨by simp⟩
  obtain ⟨A0, A2, A3, A4, c0, c2, c3, c4⟩ := a
  dsimp only [logV] at HRD HLG HCE ⊢
  clear hz hL
  go_enter Tryz.func12, Tryz.ntmps12
  go_wp2_with (fail)
  refine (HRD.out _ BW.out).mono ?_
  rintro e w1_ ⟨b, rfl, hq, hb⟩
  have BW := Aside0.mk (step_b BW.out HN.out hb)
  obtain ⟨b0, b1, b2, b3, b4⟩ := HCE.out _ BW.out
  clear hb
  cases b with
  | false =>
    go_wp2_with (fail)
    refine (HAW.out _).mono ?_
    rintro e w2_ ⟨rfl, hb⟩
    have BW := Aside0.mk (step_b BW.out HN.out hb)
    clear b0 b1 b2 b3 b4
    obtain ⟨b0, b1, b2, b3, b4⟩ := HCE.out _ BW.out
    clear hb
    go_wp2
    go_ret
    exact ⟨rfl, HTW.out _ BW.out⟩
  | true =>
    have hE := (hq rfl).2
    have hf := (hq rfl).1.fits
    have hs := sound_of hE
    have h8 : l.jn.length ≤ 8 := hs.jlen
    clear hq
    obtain ⟨e1, e2⟩ := hea_ok (n := n) hE
    have hhe := fun a' W (h : LogAt W a' l) => heard26_at a' l ((n : Int) % 24) W h
    rw [e1, e2] at hhe
    have HHE := Aside0.mk hhe
    have HPF := Aside0.mk (fun t (h : t ∈ heardL l ((n : Int) % 24)) => pf_all l ((n : Int) % 24) t h)
    clear e1 e2 hhe hE hs
    generalize heardL l ((n : Int) % 24) = X at *
    go_wp2_with (fail)
    refine (HLG.out _ BW.out hf).mono ?_
    rintro e w2_ ⟨a1, rfl, hl, hb⟩
    have HL1 := Aside0.mk hl
    clear hl
    have BW := Aside0.mk (step_b BW.out HN.out hb)
    clear b0 b1 b2 b3 b4
    obtain ⟨b0, b1, b2, b3, b4⟩ := HCE.out _ BW.out
    clear hb
    go_wp2_with (fail)
    refine (HHE.out a1 _ HL1.out).mono ?_
    rintro e w3_ ⟨X0, x0, rfl, hlc, hC, hb⟩
    have HLX0 := Aside0.mk hlc
    have HCX0 := Aside0.mk hC
    clear hlc hC
    have BW := Aside0.mk (step_b BW.out HN.out hb)
    clear b0 b1 b2 b3 b4
    obtain ⟨b0, b1, b2, b3, b4⟩ := HCE.out _ BW.out
    clear hb
    have hxl : X.length ≤ 9223372036854775807 := by have := HCX0.out.2.1; unfold maxLen at this; omega
    go_wp2
    clear b0 b1 b2 b3 b4
    go_loopg [8] X.length (fun gg v8 wr => ∃ i : Nat, i ≤ X.length ∧ X.length - i ≤ gg ∧ v8 = .int .i64 i ∧ Aside0 (Below (w.heap.size + 1) (w.alloc (logD ⟨A0, A2, A3, A4, c0, c2, c3, c4⟩ l)) wr) ∧ Aside0 (Kd.C (Kd.slice 3 (Kd.int .i64)) wr X0 X.length X))
    case atStart => exact ⟨0, by omega, by omega, by go_num, BW, HCX0⟩
    case round =>
      clear BW HCX0 HL1
      obtain ⟨i, hi, hg, rfl, BW, HCX0⟩ := hrel
      obtain ⟨b0, b1, b2, b3, b4⟩ := HCE.out _ BW.out
      by_cases hlt : i < X.length
      · have hltz : (i : Int) < (X.length : Int) := by omega
        have hpf := HPF.out _ (List.getElem_mem hlt)
        obtain ⟨ah, AT, ct, e1, y0, lt, qt⟩ := at_L2 HCX0.out (i : Int) (by omega) hltz
        cases e1
        have eX : rd_L2 X (i : Int) = X[i] := by simp [rd_L2, hlt]
        rw [eX] at y0 lt qt
        rw [Int.toNat_natCast] at y0
        have HPT := Aside0.mk hpf
        have HQT := Aside0.mk (fun W (h : Below wr.heap.size wr W) => Kd.C_below qt h)
        have HLT := Aside0.mk lt
        have HXT : Aside0 (∀ W, Kd.C (Kd.slice 3 (Kd.int .i64)) W (some ah) X.length X → ∃ A0 c0, W.cell? (ah.add i) = some (.slice A0 X[i].length c0) ∧ X[i].length ≤ c0 ∧ Kd.C (Kd.int .i64) W A0 X[i].length X[i]) := ⟨fun W h => by
          obtain ⟨ad, A0, c0, e1, h1, h2, h3⟩ := at_L2 h (i : Int) (by omega) hltz
          cases e1
          rw [eX] at h1 h2 h3
          rw [Int.toNat_natCast] at h1
          exact ⟨A0, c0, h1, h2, h3⟩⟩
        have hp1 := hpf.1
        have ht1000 := hpf.2.1 hf
        have HP1 := Aside0.mk hp1
        clear hpf hp1 qt lt eX
        generalize hT : X[i] = T at *
        go_wp2
        clear b0 b1 b2 b3 b4
        go_loopg [9, 10] l.jn.length (fun gg v9 v10 wr2 => ∃ k : Nat, k ≤ l.jn.length ∧ l.jn.length - k ≤ gg ∧ v10 = .int .i64 k ∧ v9 = .bool ((l.jn.take k).any (seenP ((n : Int) % 24) T)) ∧ Aside0 (Below wr.heap.size wr wr2) ∧ Aside0 (Below (w.heap.size + 1) (w.alloc (logD ⟨A0, A2, A3, A4, c0, c2, c3, c4⟩ l)) wr2) ∧ Aside0 (Kd.C (Kd.slice 3 (Kd.int .i64)) wr2 (some ah) X.length X))
        case atStart => exact ⟨0, by omega, by omega, by go_num, rfl, ⟨Below.refl _ _⟩, BW, HCX0⟩
        case round =>
          clear BW HCX0 y0
          obtain ⟨k, hk, hgk, rfl, rfl, BR, BW, HCX0⟩ := hrel
          obtain ⟨b0, b1, b2, b3, b4⟩ := HCE.out _ BW.out
          by_cases hlk : k < l.jn.length
          · have hltk : (k : Int) < (l.jn.length : Int) := by omega
            have han := any_take (seenP ((n : Int) % 24) T) l.jn k hlk
            obtain ⟨aj, A5, c5, e1, x0, x1, x2, l5, q5⟩ := at_T76 (HZ.out _ BW.out).h3 (k : Int) (by omega) hltk
            dsimp only at e1
            cases e1
            rw [rd76_get l k hlk] at x0 x1 x2 l5 q5
            rw [Int.toNat_natCast] at x0 x1 x2
            obtain ⟨AT2, ct2, y0, ylt, yq⟩ := HXT.out _ HCX0.out
            have HAN := Aside0.mk han
            have hs1000 : l.jn[k].f2.length ≤ 1000 := hf.tx k hlk
            have HSP : Aside0 (seenP ((n : Int) % 24) T l.jn[k] = (decide (l.jn[k].f0 < (n : Int) % 24) && partB T l.jn[k].f2)) := ⟨rfl⟩
            clear han
            generalize (l.jn.take k).any (seenP ((n : Int) % 24) T) = fb at *
            generalize l.jn[k] = s at *
            cases fb with
            | true =>
              have HY : Aside0 (((l.jn.take (k + 1)).any (seenP ((n : Int) % 24) T)) = true) := ⟨by rw [HAN.out]; rfl⟩
              clear l5 q5 ylt yq
              go_wp2_with (fail)
              go_region
              go_wp2
              go_roundg (l.jn.length - (k + 1))
              case measure => omega
              case rel => exact ⟨k + 1, by omega, by omega, by go_num, by rw [HY.out], ⟨below_drew BR.out⟩, ⟨below_drew BW.out⟩, ⟨Kd.C_drew HCX0.out⟩⟩
            | false =>
              by_cases hd : s.f0 < (n : Int) % 24
              · have HY : Aside0 (((l.jn.take (k + 1)).any (seenP ((n : Int) % 24) T)) = partB T s.f2) := ⟨by rw [HAN.out, HSP.out, decide_eq_true hd]; simp⟩
                have g1 : decide (s.f0 < (n : Int) % 24) = true := decide_eq_true hd
                have g2 := eq_true hd
                have his : ∀ W', Below wr.heap.size wr W' → Calls Tryz.prog 44 #[.slice AT2 T.length ct2, .slice A5 s.f2.length c5] W' fun e w' => e = .returned (.bool (partB T s.f2)) ∧ Below W'.heap.size W' w' := fun W' h => isPart44_any AT2 A5 ct2 c5 T s.f2 W' (Kd.C_below yq h) ylt (Kd.C_below q5 h) l5 (by omega)
                have HIS := Aside0.mk his
                generalize partB T s.f2 = pb at *
                clear l5 q5 ylt yq hd his
                go_wp2_with (fail)
                have hAB : Aside0 (Below wr.heap.size wr wr.drew) := ⟨below_drew (Below.refl _ _)⟩
                go_region_held3 (fun w' => w'.cell? ⟨w.heap.size, 3, none⟩ = some (.slice (some aj) l.jn.length c3) ∧ w'.cell? (aj.add (k * 3)) = some (.int .i64 s.f0) ∧ w'.cell? ⟨(aj.add (k * 3)).block, (aj.add (k * 3)).off + 2, none⟩ = some (.slice A5 s.f2.length c5) ∧ w'.cell? (ah.add i) = some (.slice AT2 T.length ct2) ∧ Aside0 (Below wr.heap.size wr w'))
                  (first
                    | go_keep
                    | (go_split_ands
                       refine ⟨?_, ?_, ?_, ?_, ?_⟩
                       · exact pw_cell_below HB9.out (by assumption)
                       · exact pw_cell_below HB9.out (by assumption)
                       · exact pw_cell_below HB9.out (by assumption)
                       · exact pw_cell_below HB9.out (by assumption)
                       · exact ⟨below_next (by assumption : Aside0 (Below wr.heap.size wr _)).out HB9.out⟩))
                  ((first
                    | (go_at_call 44; refine (HIS.out _ (by assumption : Aside0 (Below wr.heap.size wr _)).out).mono ?_; rintro e w7 ⟨rfl, hb9⟩; have HB9 := Aside0.mk hb9; clear hb9)))
                rename_i hh
                have hbf := hh.2.2.2.2.out
                clear hh
                go_wp2
                go_roundg (l.jn.length - (k + 1))
                case measure => omega
                case rel => exact ⟨k + 1, by omega, by omega, by go_num, by rw [HY.out], ⟨BR.out.trans (hbf.mono BR.out.size)⟩, ⟨step_b BW.out HN.out hbf⟩, ⟨Kd.C_below HCX0.out hbf⟩⟩
              · have HY : Aside0 (((l.jn.take (k + 1)).any (seenP ((n : Int) % 24) T)) = false) := ⟨by rw [HAN.out, HSP.out, decide_eq_false hd]; rfl⟩
                have g1 : decide (s.f0 < (n : Int) % 24) = false := decide_eq_false hd
                have g2 := eq_false hd
                clear l5 q5 ylt yq hd
                go_wp2_with (fail)
                go_region
                go_wp2
                go_roundg (l.jn.length - (k + 1))
                case measure => omega
                case rel => exact ⟨k + 1, by omega, by omega, by go_num, by rw [HY.out], ⟨below_drew BR.out⟩, ⟨below_drew BW.out⟩, ⟨Kd.C_drew HCX0.out⟩⟩
          · have hk2 : k = l.jn.length := by omega
            obtain ⟨AT2, ct2, y0, ylt, yq⟩ := HXT.out _ HCX0.out
            have hfb : (l.jn.take k).any (seenP ((n : Int) % 24) T) = true := by rw [hk2, List.take_length]; exact HP1.out
            generalize (l.jn.take k).any (seenP ((n : Int) % 24) T) = fb at *
            subst hfb
            subst hk2
            have hltk : ¬ (l.jn.length : Int) < (l.jn.length : Int) := by omega
            by_cases h1 : 1 < T.length
            · have g1 : decide ((T.length : Int) > 1) = true := decide_eq_true (by omega)
              have g2 := eq_true (show (T.length : Int) > 1 by omega)
              have b1 : (0 : Int) ≤ 1 := by omega
              have b2 : (1 : Int) ≤ (T.length : Int) := by omega
              have b3 : (T.length : Int) ≤ (ct2 : Int) := by omega
              have b5 : (0 : Int) ≤ (T.length : Int) - 1 := by omega
              have b6 : (T.length : Int) - 1 ≤ (ct2 : Int) := by omega
              have hb4 : IntKind.i64.wrap ((T.length : Int) - 1) = (T.length : Int) - 1 := IntWalk.i64_in _ (by omega)
              have b7 : ((T.length : Int) - 1).toNat = T.length - 1 := by omega
              have b8 : T.length - 1 ≤ ct2 := by omega
              have hAB : Aside0 (Below wr.heap.size wr wr.drew) := ⟨below_drew (Below.refl _ _)⟩
              have hic := HPT.out.2.2 h1
              have HI1 := Aside0.mk (fun W (h : Below wr.heap.size wr W) => ins_tail AT2 ct2 T (some ah) x0 X W (Kd.C_below yq h) ylt h1 (Kd.C_below HCX0.out h) HLX0.out (by omega) hic.1)
              have HI2 := Aside0.mk (fun W (h : Below wr.heap.size wr W) => ins_init AT2 ct2 T (some ah) x0 X W (Kd.C_below yq h) ylt h1 (Kd.C_below HCX0.out h) HLX0.out (by omega) hic.2)
              clear hic yq ylt
              go_wp2_with (fail)
              go_region_held3 (fun w' => w'.cell? (ah.add i) = some (.slice AT2 T.length ct2) ∧ Aside0 (Below wr.heap.size wr w'))
                (first
                  | (go_keep; done)
                  | (go_split_ands
                     refine And.intro ?_ ?_
                     · first | exact pw_cell_below HB8.out (by assumption) | exact pw_cell_below HB9.out (by assumption) | (go_keep; done)
                     · first | exact ⟨below_next (below_alloc (below_next (below_drew (below_alloc (Below.refl _ _) _)) HB9.out) _) HB8.out⟩ | exact ⟨below_alloc (below_next (below_drew (below_alloc (Below.refl _ _) _)) HB9.out) _⟩ | exact ⟨below_next (below_drew (below_alloc (Below.refl _ _) _)) HB9.out⟩ | exact ⟨below_next (by assumption : Aside0 (Below wr.heap.size wr _)).out HB9.out⟩ | exact ⟨below_drew (below_alloc (Below.refl _ _) _)⟩ | exact ⟨below_drew (below_alloc (by assumption : Aside0 (Below wr.heap.size wr _)).out _)⟩ | exact ⟨below_alloc (by assumption : Aside0 (Below wr.heap.size wr _)).out _⟩ | go_keep))
                ((first
                  | (go_at_call 40; (with_reducible refine Calls.mono (HI1.out wr (Below.refl _ _)) ?_); rintro e w7 ⟨rfl, hb9⟩; have HB9 := Aside0.mk hb9; clear hb9)
                  | (go_at_call 40; (with_reducible refine Calls.mono (HI2.out w7 (below_next (below_drew (below_alloc (Below.refl _ _) _)) HB9.out)) ?_); rintro e w8 ⟨rfl, hb8⟩; have HB8 := Aside0.mk hb8; clear hb8)
                  | (go_at_call 40; trace_state; fail)))
              rename_i hh
              have hbf := hh.2.out
              clear hh
              go_wp2
              go_roundg (X.length - (i + 1))
              case measure => omega
              case rel => exact ⟨i + 1, by omega, by omega, by go_num, ⟨step_b BW.out HN.out hbf⟩, ⟨Kd.C_below HCX0.out hbf⟩⟩
            · have g1 : decide ((T.length : Int) > 1) = false := decide_eq_false (by omega)
              have g2 := eq_false (show ¬ (T.length : Int) > 1 by omega)
              have g3 : decide ((1 : Int) < (T.length : Int)) = false := decide_eq_false (by omega)
              have g4 := eq_false (show ¬ (1 : Int) < (T.length : Int) by omega)
              clear ylt yq h1
              go_wp2_with (fail)
              go_region
              go_wp2
              go_roundg (X.length - (i + 1))
              case measure => omega
              case rel => exact ⟨i + 1, by omega, by omega, by go_num, ⟨below_drew BW.out⟩, ⟨Kd.C_drew HCX0.out⟩⟩
      · have hi2 : i = X.length := by omega
        subst hi2
        have hltz : ¬ (X.length : Int) < (X.length : Int) := by omega
        go_wp2_with (fail)
        refine (HAW.out _).mono ?_
        rintro e w4_ ⟨rfl, hb⟩
        have BW := Aside0.mk (step_b BW.out HN.out hb)
        have HCX0 := Aside0.mk (Kd.C_below HCX0.out hb)
        clear b0 b1 b2 b3 b4
        obtain ⟨b0, b1, b2, b3, b4⟩ := HCE.out _ BW.out
        clear hb
        go_wp2
        go_ret
        exact ⟨rfl, HTW.out _ BW.out⟩
end Go.Proofs.YthgfhgjlilmieaaGreat.G
