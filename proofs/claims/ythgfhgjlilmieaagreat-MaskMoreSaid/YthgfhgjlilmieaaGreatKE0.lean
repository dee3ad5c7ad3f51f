/- texts of this claim, merged by a program of this session out of its own texts and the print's words -/
import Derived.ArgAppend
import Derived.Below
import Derived.BigQuiet
import Derived.Deep.AppendLies
import Derived.Deep.CutBlock
import Derived.Deep.DeepCutAuto
import Derived.Deep.Draws
import Derived.Deep.LoopGhost
import Derived.Deep.OwnRows
import Derived.Deep.QuietTactic
import Derived.Deep.RegionHeld3
import Derived.KernelRfl
import Derived.Laws.BitsLemmas
import Derived.Laws.BytesArg
import Derived.Laws.IdiomCopy
import Derived.Laws.MakeOwn
import Derived.Laws.OwnMore
import Derived.Laws.Rows
import Derived.Laws.Slices
import Derived.Lib.AppendStr
import Derived.Lib.ConvBytes
import Derived.Maps.AppendAt
import Derived.OrdersHeld
import Derived.OwnWalk
import Derived.RowKit
import Derived.RowKit3
import Derived.Tactics
import Derived.Test.YthgfhgjlilmieaaGreatProg
import Derived.WalkKit
import Derived.WideLaws
import Derived.Test.YthgfhgjlilmieaaGreatKA0
import Derived.Test.YthgfhgjlilmieaaGreatKA1
import Derived.Test.YthgfhgjlilmieaaGreatKA2
import Derived.Test.YthgfhgjlilmieaaGreatKA3
import Derived.Test.YthgfhgjlilmieaaGreatKA4
set_option linter.unusedVariables false
set_option linter.unusedSimpArgs false
namespace Go.Proofs.YthgfhgjlilmieaaGreatW.PrintWords
open Go.RowKit
section
variable {P : Program} {ops : Array Oper} {rest : List Oper} {o : Oper} {a : Act} {Q : Exit → Act → World → Prop}
end
section
variable {P : Program}
end
section
variable {P : Program} {ops : Array Oper} {rest : List Oper} {o : Oper} {a : Act} {Q : Exit → Act → World → Prop}
end
section
variable {P : Program} {ops : Array Oper} {rest : List Oper} {o : Oper} {a : Act} {Q : Exit → Act → World → Prop}
end
section
variable {P : Program} {ops : Array Oper} {o : Oper} {a : Act} {Q : Exit → Act → World → Prop} {K : Act → World → Prop}
end
section
variable {α : Type} {enc : α → Value} {d : α}
end
section
variable {α : Type} {P : Program} {ops : Array Oper} {rest : List Oper} {o : Oper} {a : Act} {Q : Exit → Act → World → Prop}
end
section
variable {P : Program}
end
section
variable {α : Type} {R R' : α → List Value → Prop} {e : TypeId} {size : Nat} {w w1 : World} {base : Nat} {v : Value} {ps : List α}
end
section
variable {P : Program} {ops : Array Oper} {rest : List Oper} {o : Oper} {a : Act} {Q : Exit → Act → World → Prop} {α : Type} {R : α → List Value → Prop}
end
section
variable {P : Program} {ops : Array Oper} {o : Oper} {a : Act} {Q : Exit → Act → World → Prop} {K : Act → World → Prop} {α : Type} {R : α → List Value → Prop}
end
section
variable {α : Type} {P : Program}
end
section
variable {P : Program} {ops : Array Oper} {rest : List Oper} {o : Oper} {a : Act} {Q : Exit → Act → World → Prop}
end
namespace Kd
section
variable {α : Type} {d : Kd α} {e : Nat} {w w1 : World} {base : Nat} {ok ok' : Nat → Prop} {v : Value} {xs : List α}
end
section
variable {P : Program} {ops : Array Oper} {rest : List Oper} {o : Oper} {a : Act} {Q : Exit → Act → World → Prop} {α : Type}
end
section
variable {P : Program} {ops : Array Oper} {o : Oper} {a : Act} {Q : Exit → Act → World → Prop} {Kc : Act → World → Prop} {α : Type}
end
end Kd
namespace Kd
section
variable {α : Type} {F : Kd α → Kd α} {sz : Nat} {E : List Nat} {hs : ∀ n, (upto F sz E n).sz = sz} {hE : ∀ n q, q ∈ (upto F sz E n).E → q ∈ E}
end
end Kd
namespace Kd
theorem R_after {α : Type} {d : Kd α} {e base : Nat} {ok : Nat → Prop} {W w1 : World} {u v v1 : Value} {xs : List α} (h : d.R e W base (fun k => ok k ∧ some k ≠ v.ownBlock) u xs) (hg : W.grownBy w1 v.ownBlock) (hat : v1.ownBlock = v.ownBlock ∨ ∃ b, v1.ownBlock = some b ∧ W.heap.size ≤ b) : d.R e w1 base (fun k => ok k ∧ some k ≠ v1.ownBlock) u xs := by
  refine R_mono (R_move (R_bound h) (fun k hk => hg.block k hk.2.2.1 hk.1.2)) (fun k hk => ⟨hk.1.1, ?_⟩)
  rcases hat with hat | ⟨b, hb, hle⟩
  · rw [hat]; exact hk.1.2
  · rw [hb]
    intro he
    injection he with he
    have := hk.2.2.1
    omega
end Kd
namespace Kd
section
variable {α β : Type} {d : Kd α} {d' : Kd β} {e e' : Nat} {w w1 W : World} {base b b' : Nat} {ok ok' okv oku : Nat → Prop} {v u : Value} {xs : List α} {ys : List β}
theorem R_away (h : d.R e w base ok v xs) {g : Nat} (hok : ∀ k, ok k → k ≠ g) : some g ≠ v.ownBlock := fun e => hok g (h.1 g e.symm) rfl
end
section
variable {w W : World} {A : Option Addr} {n : Nat}
variable {α : Type} {enc : α → Value} {h1 : ∀ x, (enc x).oneCell' = true} {e base g cap : Nat} {ok : Nat → Prop} {xs : List α}
end
section
variable {P : Program} {ops : Array Oper} {rest : List Oper} {o : Oper} {a : Act} {Q : Exit → Act → World → Prop}
variable {α : Type}
end
end Kd
section
variable {P : Program}
end
section
variable {w w1 : World} {base n size : Nat} {e : TypeId} {v : Value} {xs : List Value}
end
section
variable {P : Program}
end
namespace Kd
section
variable {α : Type} {d : Kd α} {e : Nat} {w w1 W : World} {base : Nat} {ok ok' : Nat → Prop} {v : Value} {xs : List α}
end
section
variable {P : Program} {ops : Array Oper} {rest : List Oper} {o : Oper} {a : Act} {Q' : Exit → Act → World → Prop} {Kc : Act → World → Prop} {α : Type}
end
end Kd
namespace Kd
section
variable {α : Type} {d : Kd α} {e e' : Nat} {w w1 W : World} {base : Nat} {ok : Nat → Prop} {u v : Value} {xs : List α}
end
end Kd
namespace Kd
section
variable {α : Type} {d : Kd α} {e base g n cap : Nat} {ok okp : Nat → Prop} {W : World} {xs : List α}
end
end Kd
namespace Kd
section
variable {α : Type} {F : Kd α → Kd α} {sz : Nat} {E : List Nat} {hs : ∀ n, (upto F sz E n).sz = sz} {hE : ∀ n q, q ∈ (upto F sz E n).E → q ∈ E}
end
end Kd
namespace Kd
section
variable {P : Program} {ops : Array Oper} {rest : List Oper} {o : Oper} {a : Act} {Q : Exit → Act → World → Prop} {α : Type}
end
end Kd
namespace Kd
section
variable {P : Program} {ops : Array Oper} {rest : List Oper} {o : Oper} {a : Act} {Q : Exit → Act → World → Prop} {α : Type}
end
end Kd
namespace Kd
section
variable {α : Type} {k : Kd α} {w : World} {A : Option Addr} {xs : List α} {m c : Nat}
end
end Kd
section
variable {P : Program}
end
namespace Kd
section
variable {α β : Type} {d : Kd α} {d' : Kd β} {e e' base base' n : Nat} {ok ok' : Nat → Prop} {w W w1 W1 : World} {v u : Value} {xs : List α} {ys : List β} {A : Option Addr} {c : Nat}
end
section
variable {α : Type} {enc : α → Value} {h1 : ∀ x, (enc x).oneCell' = true} {w W : World} {A : Option Addr} {n g : Nat} {xs : List α}
end
end Kd
namespace Kd
section
variable {α : Type} {d : Kd α} {e base g : Nat} {ok : Nat → Prop} {w w1 : World} {v : Value} {xs : List α} {o : Obj}
theorem R_newB (h : d.R e w1 w.heap.size ok v xs) (hb : w.heap[g]? = some o) : d.R e w1 w.heap.size (fun k => ok k ∧ k ≠ g) v xs := R_mono (R_bound h) (fun k hk => ⟨hk.1, by have := blk_lt hb; have := hk.2.1; omega⟩)
end
end Kd
section
variable {P : Program} {ops : Array Oper} {rest : List Oper} {o : Oper} {a : Act} {Q : Exit → Act → World → Prop}
end
namespace Kd
section
variable {α : Type} {enc : α → Value} {h1 : ∀ x, (enc x).oneCell' = true} {e base g n cap : Nat} {ok : Nat → Prop} {W : World} {xs : List α}
end
end Kd
section
variable {P : Program} {ops : Array Oper} {rest : List Oper} {o : Oper} {a : Act} {Q : Exit → Act → World → Prop}
end
namespace Kd
section
variable {α : Type} {enc : α → Value} {h1 : ∀ x, (enc x).oneCell' = true} {e base g n cap : Nat} {ok : Nat → Prop} {W : World} {xs : List α}
end
end Kd
section
variable {P : Program} {ops : Array Oper} {rest : List Oper} {o : Oper} {a : Act} {Q : Exit → Act → World → Prop} {W : World}
end
section
variable {P : Program} {ops : Array Oper} {o : Oper} {a : Act} {Q : Exit → Act → World → Prop} {Kc : Act → World → Prop}
namespace Kd
variable {α : Type}
theorem R_lit_step (d : Kd α) {w0 W : World} (base e : Nat) (hw : Region.wanted o (yielded ops a.tmps) = true) {N : Tmp} (_hd : o.dst = some N) {xs : List α} {inner : List Value} {ok okp : Nat → Prop}
    (hrun : (execOp a.eval o).run P W = .ok (.value (.slice (some ⟨W.heap.size, 0, none⟩) xs.length xs.length)) (W.alloc (.cells inner.toArray e)))
    (hrep : Reps (d.M W base okp) d.sz xs inner) (hok : ∀ k, okp k → ok k) (hfresh : ok W.heap.size) (HB : Below base w0 W) (hbase : base ≤ W.heap.size) (hm : xs.length ≤ 9223372036854775807)
    (h : ∀ v1 w1, d.R e w1 base ok v1 xs → Below base w0 w1 → W.grownBy w1 none → (∃ b, v1.ownBlock = some b ∧ W.heap.size ≤ b) → Kc (a.put o.dst v1) w1) : if Region.wanted o (yielded ops a.tmps) = true then Oper.wp P o a W Kc Q else Kc (a.put o.dst undef) W := by
  refine event_step hw hrun (h _ _ ⟨fun k hk => ?_, inner, ?_, ?_⟩ (HB.alloc hbase _) (World.grownBy_alloc W _ none) ⟨W.heap.size, by simp [Value.ownBlock], Nat.le_refl _⟩)
  · have : W.heap.size = k := by simpa [Value.ownBlock] using hk
    subst this
    exact hfresh
  · have h2 := World.ownsRow_lit (base := base) (e := e) (size := d.sz) W inner.toArray xs.length hbase (by simpa [maxLen] using hm) (by simpa using hrep.1)
    simpa using h2
  · refine hrep.imp_ (fun p c hp => d.M_mono (fun k hk => ⟨hok k hk.1, fun he => ?_⟩) (M_below (d.M_bound hp) (below_alloc (Below.refl _ _) _)))
    have h3 : k = W.heap.size := by simpa [Value.ownBlock] using he
    have := hk.2.2.1
    omega
theorem R_append_rows_step (d : Kd α) {Rr : α → List Value → Prop} {w0 W : World} (base : Nat) (hw : Region.wanted o (yielded ops a.tmps) = true) (s x : Operand) (t e : TypeId) (z : Value) (bytes : Nat)
    (ho : o.op = .call { callee := .builtin .append, args := #[s, x], argTypes := #[t, t] })
    (ht : P.underlying t = some (.slice e)) (hinfo : (P.info? e).map (fun i => (i.zero, i.size, i.bytes)) = some (some z, d.sz, bytes)) (hz : z.cells.size = d.sz) (hs0 : 0 < d.sz) (hb0 : 0 < bytes)
    (v : Value) (xs ys : List α) (A : Option Addr) (m c : Nat) (ok okp : Nat → Prop) (hs : a.eval s = v) (hx : a.eval x = .slice A m c)
    (HO : d.R e W base ok v xs) (HR : ReadsRow Rr d.sz W A m ys) (hKM : ∀ x cs, Rr x cs → d.M W base okp x cs) (hokp : ∀ k, okp k → ok k ∧ some k ≠ v.ownBlock) (hfresh : ∀ k, W.heap.size ≤ k → ok k)
    (HB : Below base w0 W) (hbase : base ≤ W.heap.size) (hl : (xs.length + m) * bytes ≤ 140737488355328)
    (h : ∀ v1 w1, d.R e w1 base ok v1 (xs ++ ys) → Below base w0 w1 → W.grownBy w1 v.ownBlock → (v1.ownBlock = v.ownBlock ∨ ∃ b, v1.ownBlock = some b ∧ W.heap.size ≤ b) → Kc (a.put o.dst v1) w1) :
    if Region.wanted o (yielded ops a.tmps) = true then Oper.wp P o a W Kc Q else Kc (a.put o.dst undef) W := by
  obtain ⟨i0, hi, hzz⟩ := Option.map_eq_some_iff.1 hinfo
  simp only [Prod.mk.injEq] at hzz
  obtain ⟨hz0, hz1, hz2⟩ := hzz
  have hm : ys.length = m := HR.1
  have hlen : xs.length + m ≤ 140737488355328 := Nat.le_trans (Nat.le_mul_of_pos_right _ hb0) hl
  obtain ⟨hok, inner, hown, hr⟩ := HO
  have hrun : ∃ v1 w1, (Builtin.append_ #[t, t] o.type #[v, .slice A m c]).run P W = .ok v1 w1 ∧ d.R e w1 base ok v1 (xs ++ ys) ∧ W.grownBy w1 v.ownBlock ∧ (v1.ownBlock = v.ownBlock ∨ ∃ b, v1.ownBlock = some b ∧ W.heap.size ≤ b) := by
    rcases A with _ | ad
    · have h0 : m = 0 := by
        rcases Nat.eq_zero_or_pos m with h0 | h0
        · exact h0
        · obtain ⟨ad, h, _⟩ := HR.2.2 h0
          cases h
      subst h0
      obtain rfl : ys = [] := List.eq_nil_of_length_eq_zero hm
      refine ⟨v, W, ?_, by rw [List.append_nil]; exact ⟨hok, inner, hown, hr⟩, World.grownBy.refl W _, .inl rfl⟩
      rcases hown.2 with ⟨rfl, hn⟩ | ⟨g, cap, cur, rfl, _, _, hnc, _⟩
      · simp [Builtin.append_, run_underlying ht, sizeOf, typeInfo, hi, Builtin.lenOf, Builtin.firstCells]
      · simp [Builtin.append_, run_underlying ht, sizeOf, typeInfo, hi, Builtin.lenOf, Builtin.firstCells, hnc, storeCells]
    · obtain ⟨news, hnr, hnc⟩ := ReadsRow.inner_ HR
      have hnM : Reps (d.M W base okp) d.sz ys news := hnr.imp_ (fun p c hp => hKM p c hp)
      have hone : ∀ u ∈ news, u.oneCell' = true := by
        intro u hu
        obtain ⟨q, hq, rfl⟩ := List.mem_iff_getElem.1 hu
        have hql : q / d.sz < ys.length := by
          rw [Nat.div_lt_iff_lt_mul hs0]
          rw [← hnM.1]
          exact hq
        have hc := hnM.2 (q / d.sz) _ (List.getElem?_eq_getElem hql)
        refine d.K_one (d.K_of_M hc) _ ?_
        rw [List.mem_iff_getElem?]
        refine ⟨q % d.sz, ?_⟩
        rw [List.getElem?_take, if_pos (Nat.mod_lt _ hs0), List.getElem?_drop, Nat.mul_comm, Nat.div_add_mod, List.getElem?_eq_getElem hq]
      obtain ⟨v1, w1, hrun, h2, hg, _, hat⟩ := run_append_own_at (P := P) W base t o.type e i0 z d.sz bytes ht hi hz0 hz1 hz2 hz hs0 v xs.length inner hown ad m c news (by rw [hnM.1, hm]) hnc hone (by simp only [maxLen]; omega) hl hbase
      have hat' : v1.ownBlock = v.ownBlock ∨ ∃ b, v1.ownBlock = some b ∧ W.heap.size ≤ b := by
        rcases hat with hat | hat
        · exact .inl hat
        · exact .inr ⟨_, hat, Nat.le_refl _⟩
      have hne : ∀ k, some k ≠ v.ownBlock → k < W.heap.size → some k ≠ v1.ownBlock := by
        intro k hk hlt
        rcases hat' with hat | ⟨b, hb, hle⟩
        · rw [hat]; exact hk
        · rw [hb]
          intro he
          injection he with he
          omega
      have step : ∀ {q : α} {c : List Value} {o : Nat → Prop}, d.M W base o q c → (∀ k, o k → ok k ∧ some k ≠ v.ownBlock) → d.M w1 base (fun k => ok k ∧ some k ≠ v1.ownBlock) q c := by
        intro q c o hq ho
        have h1 := d.M_move (w1 := w1) (fun k hk => hg.block k hk.2.2.1 (ho k hk.1).2) (d.M_bound hq)
        exact d.M_mono (fun k hk => ⟨(ho k hk.1).1, hne k (ho k hk.1).2 hk.2.2.1⟩) h1
      refine ⟨v1, w1, hrun, ⟨fun k hk => ?_, inner ++ news, by rw [List.length_append, hm]; exact h2, reps_append (hr.imp_ (fun _ _ hq => step hq (fun _ hk => hk))) (hnM.imp_ (fun _ _ hq => step hq hokp))⟩, hg, hat'⟩
      rcases hat' with hat | ⟨b, hb, hle⟩
      · exact hok k (hat ▸ hk)
      · rw [hb] at hk
        injection hk with hk
        exact hfresh k (by omega)
  obtain ⟨v1, w1, hr1, h1, hg, hat⟩ := hrun
  rw [if_pos hw]
  unfold Oper.wp execOp
  simp only [ho, resolve, invoke, builtin, Sem.run_bind, Sem.run_pure, Result.andThen_ok, List.map_toArray, List.map_cons, List.map_nil, hs, hx, hr1]
  exact h v1 w1 h1 (HB.grown hg hbase (own_base hown)) hg hat
end Kd
end
section
variable {P : Program} {tmps : Array Value} {w : World}
end
namespace Kd
section
variable {P : Program} {α : Type}
end
section
variable {P : Program} {ops : Array Oper} {rest : List Oper} {o : Oper} {a : Act} {Q : Exit → Act → World → Prop} {Kc : Act → World → Prop} {α : Type}
end
end Kd
end Go.Proofs.YthgfhgjlilmieaaGreatW.PrintWords
namespace Go.Proofs.YthgfhgjlilmieaaGreat.B
open Go.RowKit Go.Proofs.YthgfhgjlilmieaaGreatW.PrintWords Go.Proofs.YthgfhgjlilmieaaGreatW.PrintLast Go.Proofs.YthgfhgjlilmieaaGreatW.PrintMore
attribute [local go_sem] max2_int min2_int max_two min_two max_three min_three max_four min_four
set_option linter.unusedVariables false
set_option linter.unusedSimpArgs false
theorem info61 : (Tryz.prog.info? 61).map (fun i => (i.zero, i.size, i.bytes)) = some (some (.agg #[(.int .i64 0), (.int .i64 0), (.string ⟨#[]⟩)]), 3, 32) := by kernel_rfl
end Go.Proofs.YthgfhgjlilmieaaGreat.B
namespace Go.Proofs.YthgfhgjlilmieaaGreat.G
open Go.RowKit Go.Shelf Go.Proofs.YthgfhgjlilmieaaGreatW.PrintWords Go.Proofs.YthgfhgjlilmieaaGreatW.PrintLast Go.Proofs.YthgfhgjlilmieaaGreatW.PrintMore
open Go.Proofs.YthgfhgjlilmieaaGreat.B
set_option linter.unusedVariables false
set_option linter.unusedSimpArgs false
theorem uC_set (u : List Bool) (k : Nat) (hk : k < 8) (hu : u.length = 8) (i : Nat) : (u.set k true).getD i false = if k = i then true else u.getD i false := by
  simp only [List.getD_eq_getElem?_getD, List.getElem?_set]
  by_cases e : k = i
  · subst e
    rw [if_pos rfl, if_pos (by omega), if_pos rfl]; rfl
  · rw [if_neg e, if_neg e]
end Go.Proofs.YthgfhgjlilmieaaGreat.G
namespace Go.Proofs.YthgfhgjlilmieaaGreat.G
open Go.RowKit Go.Shelf Go.Proofs.YthgfhgjlilmieaaGreatW.PrintWords Go.Proofs.YthgfhgjlilmieaaGreatW.PrintLast Go.Proofs.YthgfhgjlilmieaaGreatW.PrintMore
open Go.Proofs.YthgfhgjlilmieaaGreat.B
set_option linter.unusedVariables false
set_option linter.unusedSimpArgs false
theorem mem_esK (l : Lg) (n : Nat) (r b : Int) : (r, b) ∈ esK l n ↔ ∃ k : Nat, k < n ∧ r = k ∧ (b ∈ statL l (rd_T75 l.rc k) ∨ b ∈ falL l (rd_T75 l.rc k)) := by
  simp only [esK, List.mem_flatMap, List.mem_range]
  constructor
  · rintro ⟨k, hk, hm⟩
    have e : esR l k 2 = (statL l (rd_T75 l.rc k)).map (fun y => ((k : Int), y)) ++ (falL l (rd_T75 l.rc k)).map (fun y => ((k : Int), y)) := by
      simp [esR, List.range_succ, srcL]
    rw [e, List.mem_append] at hm
    rcases hm with hm | hm
    · obtain ⟨y, hy, e⟩ := List.mem_map.1 hm
      cases e
      exact ⟨k, hk, rfl, .inl hy⟩
    · obtain ⟨y, hy, e⟩ := List.mem_map.1 hm
      cases e
      exact ⟨k, hk, rfl, .inr hy⟩
  · rintro ⟨k, hk, rfl, hb⟩
    refine ⟨k, hk, ?_⟩
    have e : esR l k 2 = (statL l (rd_T75 l.rc k)).map (fun y => ((k : Int), y)) ++ (falL l (rd_T75 l.rc k)).map (fun y => ((k : Int), y)) := by
      simp [esR, List.range_succ, srcL]
    rw [e, List.mem_append]
    rcases hb with hb | hb
    · exact .inl (List.mem_map.2 ⟨b, hb, rfl⟩)
    · exact .inr (List.mem_map.2 ⟨b, hb, rfl⟩)
end Go.Proofs.YthgfhgjlilmieaaGreat.G
namespace Go.Proofs.YthgfhgjlilmieaaGreat.G
open Go.RowKit Go.Shelf
set_option linter.unusedVariables false
set_option linter.unusedSimpArgs false
def outB (out : List Int) (r : Int) : Bool := out.any fun x => r == x
def IsW (ES : List (Int × Int)) (J R : Nat) (out : List Int) : Nat → List Bool → List Int → Prop
  | 0, _, bs => bs = []
  | n + 1, u, [] => False
  | n + 1, u, b :: bs => if outB out ((R : Int) - (n + 1)) = true then b = -2 ∧ IsW ES J R out n u bs
      else b ∈ bys J ∧ freeB ES u ((R : Int) - (n + 1)) b = true ∧ IsW ES J R out n (freeU ES u ((R : Int) - (n + 1)) b) bs
def fals (bs : List Int) : Int := (bs.countP (· == -1) : Nat)
theorem fals_cons (b : Int) (bs : List Int) : fals (b :: bs) = fals bs + if b = -1 then 1 else 0 := by
  by_cases h : b = -1 <;> simp [fals, List.countP_cons, h]
theorem fals_le (bs : List Int) : fals bs ≤ bs.length := by
  have := List.countP_le_length (p := (· == (-1 : Int))) (l := bs)
  simp only [fals]; omega
theorem fold_min (p : Int → Bool) (g : Int → Int) : ∀ (xs : List Int) (m : Int), (xs.foldl (fun m b => if p b = true then min m (g b) else m) m ≤ m) ∧ (∀ b, b ∈ xs → p b = true → xs.foldl (fun m b => if p b = true then min m (g b) else m) m ≤ g b) ∧ (xs.foldl (fun m b => if p b = true then min m (g b) else m) m = m ∨ ∃ b, b ∈ xs ∧ p b = true ∧ xs.foldl (fun m b => if p b = true then min m (g b) else m) m = g b)
  | [], m => ⟨by simp, by simp, .inl rfl⟩
  | x :: xs, m => by
    simp only [List.foldl_cons]
    obtain ⟨h1, h2, h3⟩ := fold_min p g xs (if p x = true then min m (g x) else m)
    refine ⟨?_, ?_, ?_⟩
    · by_cases hp : p x = true
      · rw [if_pos hp] at h1 ⊢; omega
      · rw [if_neg hp] at h1 ⊢; exact h1
    · intro b hb hp
      rcases List.mem_cons.1 hb with e | hb
      · subst e; rw [if_pos hp] at h1 ⊢; omega
      · exact h2 b hb hp
    · rcases h3 with h3 | ⟨b, hb, hp, h3⟩
      · by_cases hp : p x = true
        · rw [if_pos hp] at h3 ⊢
          rcases Int.le_total m (g x) with hm | hm
          · exact .inl (by rw [h3]; omega)
          · exact .inr ⟨x, by simp, hp, by rw [h3]; omega⟩
        · rw [if_neg hp] at h3 ⊢; exact .inl h3
      · exact .inr ⟨b, List.mem_cons_of_mem _ hb, hp, h3⟩
theorem least_succ (ES : List (Int × Int)) (J R : Nat) (out : List Int) (n : Nat) (u : List Bool) : leastN ES J R out (n + 1) u = if outB out ((R : Int) - (n + 1)) = true then leastN ES J R out n u else (bys J).foldl (fun m b => if freeB ES u ((R : Int) - (n + 1)) b = true then min m (leastN ES J R out n (freeU ES u ((R : Int) - (n + 1)) b) + if b = -1 then 1 else 0) else m) 1024 := rfl
theorem least_le (ES : List (Int × Int)) (J R : Nat) (out : List Int) : ∀ n u bs, IsW ES J R out n u bs → leastN ES J R out n u ≤ fals bs
  | 0, u, bs, h => by simp only [IsW] at h; subst h; simp [leastN, fals]
  | n + 1, u, [], h => by simp only [IsW] at h
  | n + 1, u, b :: bs, h => by
    simp only [IsW] at h
    rw [least_succ, fals_cons]
    by_cases ho : outB out ((R : Int) - (n + 1)) = true
    · rw [if_pos ho] at h
      rw [if_pos ho]
      have := least_le ES J R out n u bs h.2
      split <;> omega
    · rw [if_neg ho] at h
      rw [if_neg ho]
      have h1 := least_le ES J R out n _ bs h.2.2
      have h2 := (fold_min (freeB ES u ((R : Int) - (n + 1))) (fun b => leastN ES J R out n (freeU ES u ((R : Int) - (n + 1)) b) + if b = -1 then 1 else 0) (bys J) 1024).2.1 b h.1 h.2.1
      omega
theorem least_get (ES : List (Int × Int)) (J R : Nat) (out : List Int) : ∀ n u, leastN ES J R out n u < 1024 → ∃ bs, IsW ES J R out n u bs ∧ fals bs = leastN ES J R out n u
  | 0, u, h => ⟨[], rfl, rfl⟩
  | n + 1, u, h => by
    rw [least_succ] at h
    by_cases ho : outB out ((R : Int) - (n + 1)) = true
    · rw [if_pos ho] at h
      obtain ⟨bs, h1, h2⟩ := least_get ES J R out n u h
      refine ⟨-2 :: bs, ?_, ?_⟩
      · simp only [IsW, if_pos ho]; exact ⟨trivial, h1⟩
      · rw [fals_cons, least_succ, if_pos ho, h2]; simp
    · rw [if_neg ho] at h
      obtain ⟨h1, h2, h3⟩ := fold_min (freeB ES u ((R : Int) - (n + 1))) (fun b => leastN ES J R out n (freeU ES u ((R : Int) - (n + 1)) b) + if b = -1 then 1 else 0) (bys J) 1024
      rcases h3 with h3 | ⟨b, hb, hp, h3⟩
      · omega
      · obtain ⟨bs, h4, h5⟩ := least_get ES J R out n (freeU ES u ((R : Int) - (n + 1)) b) (by split at h3 <;> omega)
        refine ⟨b :: bs, ?_, ?_⟩
        · simp only [IsW, if_neg ho]; exact ⟨hb, hp, h4⟩
        · rw [fals_cons, h5, least_succ, if_neg ho, h3]
theorem isW_len (ES : List (Int × Int)) (J R : Nat) (out : List Int) : ∀ n u bs, IsW ES J R out n u bs → bs.length = n
  | 0, u, bs, h => by simp only [IsW] at h; subst h; rfl
  | n + 1, u, [], h => by simp only [IsW] at h
  | n + 1, u, b :: bs, h => by
    simp only [IsW] at h
    split at h
    · simp [isW_len ES J R out n u bs h.2]
    · simp [isW_len ES J R out n _ bs h.2.2]
theorem least_ex (ES : List (Int × Int)) (J R : Nat) (out : List Int) (n : Nat) (u : List Bool) (hn : n < 1024) : leastN ES J R out n u < 1024 ↔ ∃ bs, IsW ES J R out n u bs := by
  constructor
  · intro h; obtain ⟨bs, h1, _⟩ := least_get ES J R out n u h; exact ⟨bs, h1⟩
  · rintro ⟨bs, h⟩
    have h1 := least_le ES J R out n u bs h
    have h2 := fals_le bs
    rw [isW_len _ _ _ _ _ _ _ h] at h2
    omega
theorem poss_iff (ES : List (Int × Int)) (J R : Nat) (rec : Int) (fal : Bool) : ∀ n u, possN ES J R rec fal n u = true ↔ ∃ bs, IsW ES J R [] n u bs ∧ ∀ (i : Nat) (b : Int), bs[i]? = some b → (R : Int) - n + i = rec → (b == -1) = fal
  | 0, u => by simp [possN, IsW]
  | n + 1, u => by
    unfold possN
    rw [List.any_eq_true]
    constructor
    · rintro ⟨b, hb, hp⟩
      simp only [Bool.and_eq_true, Bool.or_eq_true] at hp
      obtain ⟨bs, h1, h2⟩ := (poss_iff ES J R rec fal n _).1 hp.2
      refine ⟨b :: bs, ?_, ?_⟩
      · simp only [IsW, outB, List.any_nil, Bool.false_eq_true, if_false]; exact ⟨hb, hp.1.1, h1⟩
      · intro i c hi he
        cases i with
        | zero =>
          simp at hi; subst hi
          rcases hp.1.2 with h | h
          · simp at h; omega
          · simpa using h
        | succ i => exact h2 i c (by simpa using hi) (by push_cast at he ⊢; omega)
    · rintro ⟨bs, h1, h2⟩
      cases bs with
      | nil => simp only [IsW] at h1
      | cons b bs =>
        simp only [IsW, outB, List.any_nil, Bool.false_eq_true, if_false] at h1
        refine ⟨b, h1.1, ?_⟩
        simp only [Bool.and_eq_true, Bool.or_eq_true]
        refine ⟨⟨h1.2.1, ?_⟩, (poss_iff ES J R rec fal n _).2 ⟨bs, h1.2.2, fun i c hi he => h2 (i + 1) c (by simpa using hi) (by push_cast at he ⊢; omega)⟩⟩
        by_cases e : (R : Int) - (n + 1) = rec
        · exact .inr (by simpa using h2 0 b (by simp) (by push_cast; omega))
        · exact .inl (by simpa using e)
end Go.Proofs.YthgfhgjlilmieaaGreat.G
namespace Go.Proofs.YthgfhgjlilmieaaGreat.G
open Go.RowKit Go.Shelf Go.Proofs.YthgfhgjlilmieaaGreatW.PrintWords Go.Proofs.YthgfhgjlilmieaaGreatW.PrintLast Go.Proofs.YthgfhgjlilmieaaGreatW.PrintMore
open Go.Proofs.YthgfhgjlilmieaaGreat.B
set_option linter.unusedVariables false
set_option linter.unusedSimpArgs false
theorem verdicts35_at (a : LV) (l : Lg) (w : World) (hL : LogAt w a l) : Calls Tryz.prog 35 #[logV a l] w (OwnP (verdL l) (verdE l) w) := (verdicts_any a l w hL).mono fun e w' ⟨v, he, hR, hb⟩ => by
  obtain ⟨A, c, rfl, hl, hC⟩ := Kd.R_reads hR
  exact ⟨A, c, he, hl, hC, hb⟩
theorem leave32_at (a : LV) (l : Lg) (w : World) (hL : LogAt w a l) : Calls Tryz.prog 32 #[logV a l] w (OwnP (leaveL l) (leaveE l) w) := (leave32_any a l w hL).mono fun e w' ⟨v, he, hR, hb⟩ => by
  obtain ⟨A, c, rfl, hl, hC⟩ := Kd.R_reads hR
  exact ⟨A, c, he, hl, hC, hb⟩
def Q34 (l : Lg) (b : Bool) : Prop := b = true → ThinOk l ∧ logE l = 0
set_option maxRecDepth 100000 in
set_option maxHeartbeats 4000000 in
theorem ready34_any (a : LV) (l : Lg) (w : World) (hL : LogAt w a l) : Calls Tryz.prog 34 #[logV a l] w (SomeB (Q34 l) w) := by
  have hu := Tryz.underlying29
  have hz : ∀ W, Below (w.heap.size + 1) (w.alloc (logD a l)) W → LogAt W a l := fun W h => hL.below (toW h)
  have HTH := Aside0.mk (fun W h => thin17_any a l W (hz W h))
  have HFL := Aside0.mk (fun W h => fault22_any a l W (hz W h))
  have HCE := Aside0.mk (logCells a l w)
  have HTW := Aside0.mk (fun W h => toW (a := a) (l := l) (w := w) (W := W) h)
  have BW := Aside0.mk (Below.refl (w.heap.size + 1) (w.alloc (logD a l)))
  have HN : Aside0 (w.heap.size + 1 ≤ (w.alloc (logD a l)).heap.size) := ⟨by simp⟩
  obtain ⟨A0, A2, A3, A4, c0, c2, c3, c4⟩ := a
  dsimp only [logV] at HTH HFL HCE ⊢
  clear hz hL
  have HQ : Aside0 (∀ b, (b = true → ThinOk l) → Q34 l (b && logE l == 0)) := ⟨fun b h e => by
    simp only [Bool.and_eq_true, beq_iff_eq] at e
    exact ⟨h e.1, e.2⟩⟩
  generalize hE : logE l = E at HFL HQ
  clear hE
  generalize Q34 l = Q at *
  go_enter Tryz.func34, Tryz.ntmps34
  go_wp2_with (fail)
  refine (HTH.out _ BW.out).mono ?_
  rintro e w1_ ⟨b, rfl, hq, hb⟩
  have HQ1 := Aside0.mk hq
  clear hq
  have BW := Aside0.mk (step_b BW.out HN.out hb)
  obtain ⟨b0, b1, b2, b3, b4⟩ := HCE.out _ BW.out
  clear hb
  cases b with
  | false =>
    go_wp2
    go_ret
    exact ⟨_, rfl, by simpa using HQ.out false HQ1.out, HTW.out _ BW.out⟩
  | true =>
    go_wp2_with (fail)
    refine (HFL.out _ BW.out).mono ?_
    rintro e w2_ ⟨rfl, hb⟩
    have BW := Aside0.mk (step_b BW.out HN.out hb)
    clear b0 b1 b2 b3 b4 hb
    go_wp2
    go_ret
    exact ⟨_, rfl, by simpa using HQ.out true HQ1.out, HTW.out _ BW.out⟩
end Go.Proofs.YthgfhgjlilmieaaGreat.G
namespace Go.Proofs.YthgfhgjlilmieaaGreat.G
open Go.RowKit Go.Shelf Go.Proofs.YthgfhgjlilmieaaGreatW.PrintWords Go.Proofs.YthgfhgjlilmieaaGreatW.PrintLast Go.Proofs.YthgfhgjlilmieaaGreatW.PrintMore
open Go.Proofs.YthgfhgjlilmieaaGreat.B
set_option linter.unusedVariables false
set_option linter.unusedSimpArgs false
theorem inR_rec {l : Lg} {r : Nat} (h : r < l.rc.length) : inR (r : Int) 0 ((l.rc.length : Int) - 1) = true := by
  simp only [inR, Bool.and_eq_true, decide_eq_true_eq]; omega
theorem mem_can (l : Lg) {r : Nat} (hr : r < l.rc.length) (b : Int) : ((r : Int), b) ∈ esK l l.rc.length ↔ b ∈ statL l (rd_T75 l.rc r) ∨ (b = -1 ∧ anyB l (rd_T75 l.rc r) = true) := by
  rw [mem_esK]
  have hf : b ∈ falL l (rd_T75 l.rc r) ↔ b = -1 ∧ anyB l (rd_T75 l.rc r) = true := by
    unfold falL
    split <;> simp_all
  rw [← hf]
  constructor
  · rintro ⟨k, h1, h2, h3⟩
    obtain rfl : r = k := by omega
    exact h3
  · exact fun h => ⟨r, hr, rfl, h⟩
def Way (l : Lg) (bs : List Int) : Prop := IsW (esK l l.rc.length) l.jn.length l.rc.length [] l.rc.length u0 bs
theorem way_len {l : Lg} {bs : List Int} (h : Way l bs) : bs.length = l.rc.length := isW_len _ _ _ _ _ _ _ h
theorem possB_iff (l : Lg) (r : Nat) (hr : r < l.rc.length) (f : Bool) : possB l r f = true ↔ ∃ bs, Way l bs ∧ (rd bs r == -1) = f := by
  unfold possB
  rw [poss_iff]
  constructor
  · rintro ⟨bs, h1, h2⟩
    refine ⟨bs, h1, h2 r _ ?_ (by omega)⟩
    have hl := way_len h1
    rw [List.getElem?_eq_getElem (by omega), rd_nat bs r (by omega)]
  · rintro ⟨bs, h1, h2⟩
    refine ⟨bs, h1, fun i b hi he => ?_⟩
    obtain rfl : i = r := by omega
    have hl := way_len h1
    rw [List.getElem?_eq_getElem (by omega)] at hi
    rw [rd_nat bs i (by omega)] at h2
    simpa [Option.some.inj hi] using h2
theorem left_iff (l : Lg) (h6 : l.rc.length ≤ 6) : leftL l < 1024 ↔ ∃ bs, Way l bs := least_ex _ _ _ _ _ _ (by omega)
theorem verdV_iff (l : Lg) (r : Nat) (hr : r < l.rc.length) : (verdV l r).isSome = true ↔ ∃ bs, Way l bs := by
  unfold verdV
  constructor
  · intro h
    by_cases h1 : possB l r false = true
    · obtain ⟨bs, h, _⟩ := (possB_iff l r hr false).1 h1; exact ⟨bs, h⟩
    · rw [if_neg h1] at h
      by_cases h2 : possB l r true = true
      · obtain ⟨bs, h, _⟩ := (possB_iff l r hr true).1 h2; exact ⟨bs, h⟩
      · rw [if_neg h2] at h; simp at h
  · rintro ⟨bs, h⟩
    cases hx : (rd bs r == -1) with
    | false =>
      rw [if_pos ((possB_iff l r hr false).2 ⟨bs, h, hx⟩)]
      split <;> rfl
    | true =>
      have ht := (possB_iff l r hr true).2 ⟨bs, h, hx⟩
      simp only [ht, if_true]
      split <;> rfl
theorem verdK_iff (l : Lg) : ∀ k, k ≤ l.rc.length → (verdK l k).isSome = true ∨ ¬ ∃ bs, Way l bs
  | 0, _ => .inl rfl
  | k + 1, hk => by
    rcases verdK_iff l k (by omega) with h | h
    · by_cases hw : ∃ bs, Way l bs
      · obtain ⟨v, hv⟩ := Option.isSome_iff_exists.1 ((verdV_iff l k (by omega)).2 hw)
        obtain ⟨xs, hx⟩ := Option.isSome_iff_exists.1 h
        exact .inl (by simp [verdK, hx, hv])
      · exact .inr hw
    · exact .inr h
theorem verdK_get (l : Lg) : ∀ k xs, verdK l k = some xs → ∀ (r : Nat), r < k → verdV l r = xs[r]?
  | 0, xs, h, r, hr => by omega
  | k + 1, xs, h, r, hr => by
    simp only [verdK] at h
    cases hx : verdK l k with
    | none => rw [hx] at h; cases h
    | some ys =>
      rw [hx] at h
      simp only [Option.bind_some] at h
      cases hv : verdV l k with
      | none => rw [hv] at h; cases h
      | some v =>
        rw [hv] at h
        simp only [Option.map_some, Option.some.injEq] at h
        subst h
        have hl := verdK_len l k ys hx
        by_cases e : r = k
        · subst e; rw [hv, List.getElem?_append_right (by omega), hl]; simp
        · rw [verdK_get l k ys hx r (by omega), List.getElem?_append_left (by omega)]
theorem verd_none {l : Lg} (hE : logE l = 0) (h6 : l.rc.length ≤ 6) (h : ¬ ∃ bs, Way l bs) : verdE l = 11 ∧ verdL l = [] ∧ asgE l = 11 ∧ asgL l = [] := by
  have ha : ¬ leftL l < 1024 := fun hl => h ((left_iff l h6).1 hl)
  have hv : verdK l l.rc.length = none := by
    by_cases h0 : l.rc.length = 0
    · exfalso
      apply h
      refine ⟨[], ?_⟩
      unfold Way
      rw [h0]
      rfl
    · cases hv : verdK l 1 with
      | none => exact verdK_none l 1 hv _ (by omega)
      | some xs =>
        have := verdK_get l 1 xs hv 0 (by omega)
        have hl := verdK_len l 1 xs hv
        exact absurd ((verdV_iff l 0 (by omega)).1 (by rw [this, List.getElem?_eq_getElem (by omega)]; rfl)) h
  refine ⟨?_, ?_, ?_, ?_⟩
  · unfold verdE; rw [if_neg (by simp [hE]), hv]; rfl
  · unfold verdL; rw [if_neg (by simp [hE]), hv]; rfl
  · unfold asgE; rw [if_neg (by simp [hE]), if_pos (by omega)]
  · unfold asgL; rw [if_neg (by simp [hE]), if_pos (by omega)]
theorem verd_some {l : Lg} (hE : logE l = 0) (h : ∃ bs, Way l bs) : verdE l = 0 ∧ (verdL l).length = l.rc.length ∧ ∀ r, r < l.rc.length → verdV l r = some (rd (verdL l) r) := by
  have hv : (verdK l l.rc.length).isSome = true := (verdK_iff l _ (Nat.le_refl _)).resolve_right (fun h' => h' h)
  obtain ⟨xs, hx⟩ := Option.isSome_iff_exists.1 hv
  have hl := verdK_len l _ xs hx
  have e : verdL l = xs := by unfold verdL; rw [if_neg (by simp [hE]), hx]; rfl
  refine ⟨?_, by rw [e, hl], fun r hr => ?_⟩
  · unfold verdE; rw [if_neg (by simp [hE]), if_pos hv]
  · rw [verdK_get l _ xs hx r hr, e, List.getElem?_eq_getElem (by omega), rd_nat xs r (by omega)]
structure VF (l : Lg) (r : Nat) (v a : Int) : Prop where
  ask : askE l r = 0
  val : v = 1 ∨ v = 2 ∨ v = 3
  m : mskE l r = 0 ∨ mskE l r = 7
  o : ownL l r = [] → v = 2
  n : mskE l r = 7 → v = 1
  f : a < 0 → v ≠ 1 ∧ mskE l r = 0
  t : 0 ≤ a → v ≠ 2 ∧ (ownL l r).contains a = true
end Go.Proofs.YthgfhgjlilmieaaGreat.G
namespace Go.Proofs.YthgfhgjlilmieaaGreat.G
open Go.RowKit Go.Shelf Go.Proofs.YthgfhgjlilmieaaGreatW.PrintWords Go.Proofs.YthgfhgjlilmieaaGreatW.PrintLast Go.Proofs.YthgfhgjlilmieaaGreatW.PrintMore
open Go.Proofs.YthgfhgjlilmieaaGreat.B
set_option linter.unusedVariables false
set_option linter.unusedSimpArgs false
theorem mem_bys (J : Nat) (b : Int) : b ∈ bys J ↔ -1 ≤ b ∧ b < J := by
  simp only [bys, List.mem_map, List.mem_range]
  exact ⟨fun ⟨i, h, e⟩ => by omega, fun ⟨h1, h2⟩ => ⟨(b + 1).toNat, by omega, by omega⟩⟩
structure Wy (ES : List (Int × Int)) (J R : Nat) (out : List Int) (n : Nat) (u : List Bool) (bs : List Int) : Prop where
  len : bs.length = n
  no : ∀ (i : Nat) (b : Int), bs[i]? = some b → outB out ((R : Int) - n + i) = true → b = -2
  yes : ∀ (i : Nat) (b : Int), bs[i]? = some b → outB out ((R : Int) - n + i) = false → -1 ≤ b ∧ b < J ∧ ((R : Int) - n + i, b) ∈ ES ∧ (b ≠ -1 → u.getD b.toNat false = false)
  two : ∀ (i j : Nat) (b : Int), i < j → bs[i]? = some b → bs[j]? = some b → b < 0
theorem getD_free (ES : List (Int × Int)) (u : List Bool) (r b : Int) (hf : freeB ES u r b = true) (hu : u.length = 8) (hb : -1 ≤ b ∧ b < 8) (c : Int) (hc : 0 ≤ c) : (freeU ES u r b).getD c.toNat false = if c = b then true else u.getD c.toNat false := by
  unfold freeU
  by_cases h : b = -1
  · rw [if_neg (by simp [h]), if_neg (by omega)]
  · rw [if_pos ⟨hf, h⟩, uC_set u b.toNat (by omega) hu]
    by_cases e : b.toNat = c.toNat
    · rw [if_pos e, if_pos (by omega)]
    · rw [if_neg e, if_neg (by omega)]
theorem isW_iff (ES : List (Int × Int)) (J R : Nat) (out : List Int) (hJ : J ≤ 8) : ∀ n u bs, u.length = 8 → (IsW ES J R out n u bs ↔ Wy ES J R out n u bs)
  | 0, u, bs, hu => by
    simp only [IsW]
    constructor
    · rintro rfl
      exact ⟨rfl, by simp, by simp, by simp⟩
    · intro h; exact List.length_eq_zero_iff.1 h.len
  | n + 1, u, [], hu => by
    simp only [IsW, false_iff]
    intro h; have := h.len; simp at this
  | n + 1, u, b :: bs, hu => by
    have e0 : (R : Int) - (n + 1 : Nat) + (0 : Nat) = (R : Int) - (n + 1) := by push_cast; omega
    have e1 : ∀ i : Nat, (R : Int) - (n + 1 : Nat) + (i + 1 : Nat) = (R : Int) - n + i := fun i => by push_cast; omega
    simp only [IsW]
    by_cases ho : outB out ((R : Int) - (n + 1)) = true
    · rw [if_pos ho, isW_iff ES J R out hJ n u bs hu]
      constructor
      · rintro ⟨rfl, h⟩
        refine ⟨by simp [h.len], ?_, ?_, ?_⟩
        · intro i c hi hq
          cases i with
          | zero => simpa using hi.symm
          | succ i => rw [e1] at hq; exact h.no i c (by simpa using hi) hq
        · intro i c hi hq
          cases i with
          | zero => rw [e0, ho] at hq; cases hq
          | succ i => rw [e1] at hq ⊢; exact h.yes i c (by simpa using hi) hq
        · intro i j c hij hi hj
          cases i with
          | zero => simp at hi; omega
          | succ i =>
            cases j with
            | zero => omega
            | succ j => exact h.two i j c (by omega) (by simpa using hi) (by simpa using hj)
      · intro h
        refine ⟨h.no 0 b (by simp) (by rw [e0]; exact ho), ⟨by have := h.len; simpa using this, ?_, ?_, ?_⟩⟩
        · intro i c hi hq
          exact h.no (i + 1) c (by simpa using hi) (by rw [e1]; exact hq)
        · intro i c hi hq
          have := h.yes (i + 1) c (by simpa using hi) (by rw [e1]; exact hq)
          rwa [e1] at this
        · intro i j c hij hi hj
          exact h.two (i + 1) (j + 1) c (by omega) (by simpa using hi) (by simpa using hj)
    · have ho' : outB out ((R : Int) - (n + 1)) = false := by simpa using ho
      rw [if_neg ho, isW_iff ES J R out hJ n (freeU ES u ((R : Int) - (n + 1)) b) bs (by rw [freeU_len, hu]), mem_bys]
      constructor
      · rintro ⟨hb, hf, h⟩
        have hf2 := hf
        simp only [freeB, Bool.and_eq_true, decide_eq_true_eq, Bool.not_eq_true', Bool.and_eq_false_iff, bne_eq_false_iff_eq] at hf2
        have hget := getD_free ES u _ b hf hu ⟨hb.1, by omega⟩
        refine ⟨by simp [h.len], ?_, ?_, ?_⟩
        · intro i c hi hq
          cases i with
          | zero => rw [e0, ho'] at hq; cases hq
          | succ i => rw [e1] at hq; exact h.no i c (by simpa using hi) hq
        · intro i c hi hq
          cases i with
          | zero =>
            simp at hi; subst hi; rw [e0]
            exact ⟨hb.1, hb.2, hf2.1, fun hne => hf2.2.resolve_left hne⟩
          | succ i =>
            rw [e1] at hq ⊢
            obtain ⟨h1, h2, h3, h4⟩ := h.yes i c (by simpa using hi) hq
            refine ⟨h1, h2, h3, fun hne => ?_⟩
            have := h4 hne
            rw [hget c (by omega)] at this
            split at this
            · cases this
            · exact this
        · intro i j c hij hi hj
          cases j with
          | zero => omega
          | succ j =>
            cases i with
            | zero =>
              simp at hi; subst hi
              have hj2 : bs[j]? = some b := by simpa using hj
              by_cases hn : b < 0
              · exact hn
              · exfalso
                cases hq : outB out ((R : Int) - n + j) with
                | true => have := h.no j b hj2 hq; omega
                | false =>
                  have := (h.yes j b hj2 hq).2.2.2 (by omega)
                  rw [hget b (by omega), if_pos rfl] at this
                  cases this
            | succ i => exact h.two i j c (by omega) (by simpa using hi) (by simpa using hj)
      · intro h
        obtain ⟨h1, h2, h3, h4⟩ := h.yes 0 b (by simp) (by rw [e0]; exact ho')
        rw [e0] at h3
        have hf : freeB ES u ((R : Int) - (n + 1)) b = true := by
          simp only [freeB, Bool.and_eq_true, decide_eq_true_eq, Bool.not_eq_true', Bool.and_eq_false_iff, bne_eq_false_iff_eq]
          refine ⟨h3, ?_⟩
          by_cases e : b = -1
          · exact .inl e
          · exact .inr (h4 e)
        have hget := getD_free ES u _ b hf hu ⟨h1, by omega⟩
        refine ⟨⟨h1, h2⟩, hf, ⟨by have := h.len; simpa using this, ?_, ?_, ?_⟩⟩
        · intro i c hi hq
          exact h.no (i + 1) c (by simpa using hi) (by rw [e1]; exact hq)
        · intro i c hi hq
          obtain ⟨k1, k2, k3, k4⟩ := h.yes (i + 1) c (by simpa using hi) (by rw [e1]; exact hq)
          rw [e1] at k3
          refine ⟨k1, k2, k3, fun hne => ?_⟩
          rw [hget c (by omega)]
          by_cases e : c = b
          · subst e
            have := h.two 0 (i + 1) c (by omega) (by simp) (by simpa using hi)
            omega
          · rw [if_neg e]; exact k4 hne
        · intro i j c hij hi hj
          exact h.two (i + 1) (j + 1) c (by omega) (by simpa using hi) (by simpa using hj)
def Feas (ES : List (Int × Int)) (J R : Nat) (out : List Int) : Prop := ∃ bs, Wy ES J R out R u0 bs
theorem feas_iff (ES : List (Int × Int)) (J R : Nat) (out : List Int) (hJ : J ≤ 8) (hR : R < 1024) : leastN ES J R out R u0 < 1024 ↔ Feas ES J R out := by
  rw [least_ex _ _ _ _ _ _ hR]
  exact ⟨fun ⟨bs, h⟩ => ⟨bs, (isW_iff _ _ _ _ hJ _ _ _ rfl).1 h⟩, fun ⟨bs, h⟩ => ⟨bs, (isW_iff _ _ _ _ hJ _ _ _ rfl).2 h⟩⟩
structure Picks (R m from_ : Nat) (ps : List Int) : Prop where
  len : ps.length = m
  lt : ps.Pairwise (· < ·)
  rng : ∀ p, p ∈ ps → (from_ : Int) ≤ p ∧ p < R
theorem picks_cons {R m from_ : Nat} {p : Int} {ps : List Int} (h : Picks R (m + 1) from_ (p :: ps)) : ∃ r : Nat, p = r ∧ from_ ≤ r ∧ r < R ∧ Picks R m (r + 1) ps := by
  have h1 := h.rng p (by simp)
  refine ⟨p.toNat, by omega, by omega, by omega, by have := h.len; simpa using this, (List.pairwise_cons.1 h.lt).2, fun q hq => ?_⟩
  have h2 := (List.pairwise_cons.1 h.lt).1 q hq
  have h3 := h.rng q (List.mem_cons_of_mem _ hq)
  omega
inductive LexLe : List Int → List Int → Prop
  | refl (xs : List Int) : LexLe xs xs
  | lt (x y : Int) (xs ys : List Int) : x < y → LexLe (x :: xs) (y :: ys)
  | cons (x : Int) (xs ys : List Int) : LexLe xs ys → LexLe (x :: xs) (x :: ys)
theorem leave_spec (ES : List (Int × Int)) (J R : Nat) (hJ : J ≤ 8) (hR : R < 1024) : ∀ m out from_, (leaveP ES J R m out from_ = none ∧ ∀ ps, Picks R m from_ ps → ¬ Feas ES J R (out ++ ps)) ∨ ∃ ps, leaveP ES J R m out from_ = some (out ++ ps) ∧ Picks R m from_ ps ∧ Feas ES J R (out ++ ps) ∧ ∀ qs, Picks R m from_ qs → Feas ES J R (out ++ qs) → LexLe ps qs
  | 0, out, from_ => by
    unfold leaveP
    by_cases h : leastN ES J R out R u0 < 1024
    · rw [if_pos h]
      refine .inr ⟨[], by simp, ⟨rfl, List.Pairwise.nil, by simp⟩, by rw [List.append_nil]; exact (feas_iff _ _ _ _ hJ hR).1 h, fun qs hq _ => ?_⟩
      rw [List.length_eq_zero_iff.1 hq.len]
      exact .refl _
    · rw [if_neg h]
      refine .inl ⟨rfl, fun ps hp hf => h ?_⟩
      rw [List.length_eq_zero_iff.1 hp.len, List.append_nil] at hf
      exact (feas_iff _ _ _ _ hJ hR).2 hf
  | m + 1, out, from_ => by
    unfold leaveP
    have key : ∀ d from_, (((List.range' from_ d).findSome? fun (r : Nat) => leaveP ES J R m (out ++ [(r : Int)]) (r + 1)) = none ∧ ∀ r : Nat, from_ ≤ r → r < from_ + d → ∀ ps, Picks R m (r + 1) ps → ¬ Feas ES J R (out ++ (r : Int) :: ps)) ∨ ∃ (r : Nat) (ps : List Int), ((List.range' from_ d).findSome? fun (r : Nat) => leaveP ES J R m (out ++ [(r : Int)]) (r + 1)) = some (out ++ (r : Int) :: ps) ∧ from_ ≤ r ∧ r < from_ + d ∧ Picks R m (r + 1) ps ∧ Feas ES J R (out ++ (r : Int) :: ps) ∧ (∀ q : Nat, from_ ≤ q → q < r → ∀ qs, Picks R m (q + 1) qs → ¬ Feas ES J R (out ++ (q : Int) :: qs)) ∧ ∀ qs, Picks R m (r + 1) qs → Feas ES J R (out ++ (r : Int) :: qs) → LexLe ps qs := by
      intro d
      induction d with
      | zero => intro from_; exact .inl ⟨rfl, fun r h1 h2 => by omega⟩
      | succ d ih =>
        intro from_
        rw [List.range'_succ, List.findSome?_cons]
        rcases leave_spec ES J R hJ hR m (out ++ [(from_ : Int)]) (from_ + 1) with ⟨h1, h2⟩ | ⟨ps, h1, h2, h3, h4⟩
        · rw [h1]
          simp only [List.append_assoc, List.singleton_append] at h2
          dsimp only
          rcases ih (from_ + 1) with ⟨k1, k2⟩ | ⟨r, ps, k1, k2, k3, k4, k5, k6, k7⟩
          · refine .inl ⟨k1, fun r hr1 hr2 => ?_⟩
            by_cases e : r = from_
            · subst e; exact h2
            · exact k2 r (by omega) (by omega)
          · refine .inr ⟨r, ps, k1, by omega, by omega, k4, k5, fun q hq1 hq2 => ?_, k7⟩
            by_cases e : q = from_
            · subst e; exact h2
            · exact k6 q (by omega) hq2
        · rw [h1]
          simp only [List.append_assoc, List.singleton_append] at h3 h4 ⊢
          exact .inr ⟨from_, ps, rfl, Nat.le_refl _, by omega, h2, h3, fun q h5 h6 => by omega, h4⟩
    rcases key (R - from_) from_ with ⟨h1, h2⟩ | ⟨r, ps, h1, h2, h3, h4, h5, h6, h7⟩
    · refine .inl ⟨h1, fun ps hp => ?_⟩
      cases ps with
      | nil => have := hp.len; simp at this
      | cons p ps =>
        obtain ⟨r, rfl, hr1, hr2, hq⟩ := picks_cons hp
        exact h2 r hr1 (by omega) ps hq
    · refine .inr ⟨(r : Int) :: ps, h1, ⟨by simp [h4.len], List.pairwise_cons.2 ⟨fun q hq => by have := h4.rng q hq; omega, h4.lt⟩, fun p hp => ?_⟩, h5, fun qs hq hf => ?_⟩
      · rcases List.mem_cons.1 hp with rfl | hp
        · omega
        · have := h4.rng p hp; omega
      · cases qs with
        | nil => have := hq.len; simp at this
        | cons q qs =>
          obtain ⟨q, rfl, hq1, hq2, hq3⟩ := picks_cons hq
          by_cases e1 : q < r
          · exact absurd hf (h6 q hq1 e1 qs hq3)
          · by_cases e2 : q = r
            · subst e2; exact .cons _ _ _ (h7 qs hq3 hf)
            · exact .lt _ _ _ _ (by omega)
theorem size_spec (ES : List (Int × Int)) (J R : Nat) (hJ : J ≤ 8) (hR : R < 1024) : ∀ n, (sizeFind ES J R n = none ∧ ∀ m, m < n → ∀ ps, Picks R m 0 ps → ¬ Feas ES J R ps) ∨ ∃ ps m, m < n ∧ sizeFind ES J R n = some ps ∧ Picks R m 0 ps ∧ Feas ES J R ps ∧ (∀ k, k < m → ∀ qs, Picks R k 0 qs → ¬ Feas ES J R qs) ∧ ∀ qs, Picks R m 0 qs → Feas ES J R qs → LexLe ps qs
  | 0 => .inl ⟨rfl, fun m h => by omega⟩
  | n + 1 => by
    rcases size_spec ES J R hJ hR n with ⟨h1, h2⟩ | ⟨ps, m, h0, h1, h2⟩
    · rw [sizeFind_succ _ _ _ _ h1]
      rcases leave_spec ES J R hJ hR n [] 0 with ⟨k1, k2⟩ | ⟨ps, k1, k2, k3, k4⟩
      · simp only [List.nil_append] at k2
        refine .inl ⟨k1, fun m hm => ?_⟩
        by_cases e : m = n
        · subst e; exact k2
        · exact h2 m (by omega)
      · simp only [List.nil_append] at k1 k3 k4
        exact .inr ⟨ps, n, by omega, k1, k2, k3, h2, k4⟩
    · exact .inr ⟨ps, m, by omega, sizeFind_some _ _ _ _ _ _ (by omega) h1, h2⟩
structure LvOk (l : Lg) (ps : List Int) : Prop where
  picks : Picks l.rc.length ps.length 0 ps
  feas : Feas (esK l l.rc.length) l.jn.length l.rc.length ps
  short : ∀ k, k < ps.length → ∀ qs, Picks l.rc.length k 0 qs → ¬ Feas (esK l l.rc.length) l.jn.length l.rc.length qs
  first : ∀ qs, Picks l.rc.length ps.length 0 qs → Feas (esK l l.rc.length) l.jn.length l.rc.length qs → LexLe ps qs
theorem leaveL_ok {l : Lg} (hE : logE l = 0) (hJ : l.jn.length ≤ 8) (hR : l.rc.length ≤ 6) : LvOk l (leaveL l) := by
  unfold leaveL
  rw [if_neg (by simp [hE])]
  rcases size_spec (esK l l.rc.length) l.jn.length l.rc.length hJ (by omega) (l.rc.length + 1) with ⟨h1, h2⟩ | ⟨ps, m, h0, h1, h2, h3, h4, h5⟩
  · exact (sizeFind_end _ _ _ h1).elim
  · rw [h1]
    obtain rfl := h2.len
    exact ⟨h2, h3, h4, h5⟩
end Go.Proofs.YthgfhgjlilmieaaGreat.G
namespace Go.Proofs.YthgfhgjlilmieaaGreat.G
open Go.RowKit Go.Shelf Go.Proofs.YthgfhgjlilmieaaGreatW.PrintWords Go.Proofs.YthgfhgjlilmieaaGreatW.PrintLast Go.Proofs.YthgfhgjlilmieaaGreatW.PrintMore
open Go.Proofs.YthgfhgjlilmieaaGreat.B
set_option linter.unusedVariables false
set_option linter.unusedSimpArgs false
def LisP (n : Nat) (xs : List Int) (q : Int) (w : World) (e : Ending) (w' : World) : Prop := ∃ A c, e = .returned (.tuple #[.slice A n c, .int .i64 q]) ∧ n ≤ c ∧ Kd.C (Kd.int .i64) w' A n xs ∧ Below w.heap.size w w'
theorem lisP_of {xs : List Int} {q : Int} {w : World} {n : Nat} {r : Int} (hn : xs.length = n) (hq : q = r) {e : Ending} {w' : World} (h : OwnP xs q w e w') : LisP n xs r w e w' := by
  subst hn hq; exact h
end Go.Proofs.YthgfhgjlilmieaaGreat.G
namespace Go.Proofs.YthgfhgjlilmieaaGreat.G
open Go.RowKit Go.Shelf Go.Proofs.YthgfhgjlilmieaaGreatW.PrintWords Go.Proofs.YthgfhgjlilmieaaGreatW.PrintLast Go.Proofs.YthgfhgjlilmieaaGreatW.PrintMore
open Go.Proofs.YthgfhgjlilmieaaGreat.B
set_option linter.unusedVariables false
set_option linter.unusedSimpArgs false
theorem logCellsAt (a : LV) (l : Lg) {b N : Nat} {W0 : World} (h0 : W0.heap[b]? = some (logD a l)) (hb : b < N) : ∀ W, Below N W0 W → W.cell? ⟨b, 0, none⟩ = some (.slice a.A0 l.ls.length a.c0) ∧ W.cell? ⟨b, 1, none⟩ = some (.int .i64 l.errs) ∧ W.cell? ⟨b, 2, none⟩ = some (.slice a.A2 l.sees.length a.c2) ∧ W.cell? ⟨b, 3, none⟩ = some (.slice a.A3 l.jn.length a.c3) ∧ W.cell? ⟨b, 4, none⟩ = some (.slice a.A4 l.rc.length a.c4) := by
  intro W h
  have hc : ∀ i, W.cell? ⟨b, i, none⟩ = #[.slice a.A0 l.ls.length a.c0, .int .i64 l.errs, .slice a.A2 l.sees.length a.c2, .slice a.A3 l.jn.length a.c3, .slice a.A4 l.rc.length a.c4][i]? := fun i => (h.cell (p := ⟨b, i, none⟩) (by simpa using hb)).trans (by simp only [World.cell?, h0]; rfl)
  exact ⟨hc 0, hc 1, hc 2, hc 3, hc 4⟩
structure LeLog (l l' : Lg) : Prop where
  ls : l'.ls = l.ls
  jn : l'.jn = l.jn
  rc : l'.rc = l.rc
  errs : l.errs ≤ l'.errs
  sees : ∀ s b, heardB l s b = true → heardB l' s b = true
theorem reads_le {l l' : Lg} (h : LeLog l l') {t : List Int} {r : ByteArray} (hr : readsB l t r = true) : readsB l' t r = true := by
  unfold readsB at *
  rw [h.ls]
  simp only [Bool.and_eq_true, decide_eq_true_eq] at *
  exact ⟨hr.1, by have := h.errs; omega⟩
theorem stat_le {l l' : Lg} (h : LeLog l l') {r : S75} {b : Int} (hb : b ∈ statL l r) : b ∈ statL l' r := by
  simp only [statL, statK, List.mem_map, List.mem_filter, hitB, Bool.and_eq_true] at *
  obtain ⟨i, ⟨h1, h2, h3⟩, rfl⟩ := hb
  rw [h.jn]
  exact ⟨i, ⟨h1, h2, reads_le h h3⟩, rfl⟩
theorem own_le {l l' : Lg} (h : LeLog l l') (h1 : logE l = 0) (h2 : logE l' = 0) {r : Nat} (hr : r < l.rc.length) : (ownL l r).all ((ownL l' r).contains ·) = true := by
  rw [own_in (ask_in h1 (inR_rec hr)), own_in (ask_in h2 (inR_rec (by rw [h.rc]; exact hr))), List.all_eq_true]
  intro b hb
  rw [List.contains_iff_mem, h.rc]
  exact stat_le h hb
end Go.Proofs.YthgfhgjlilmieaaGreat.G
namespace Go.Proofs.YthgfhgjlilmieaaGreat.G
open Go.RowKit Go.Shelf Go.Proofs.YthgfhgjlilmieaaGreatW.PrintWords Go.Proofs.YthgfhgjlilmieaaGreatW.PrintLast Go.Proofs.YthgfhgjlilmieaaGreatW.PrintMore
open Go.Proofs.YthgfhgjlilmieaaGreat.B
set_option linter.unusedVariables false
set_option linter.unusedSimpArgs false
def moreRec (l : Lg) (m : S75) : Lg := { l with rc := l.rc ++ [m] }
theorem more_rc (l : Lg) (m : S75) {k : Nat} (hk : k < l.rc.length) : rd_T75 (moreRec l m).rc (k : Int) = rd_T75 l.rc (k : Int) := by
  show rd_T75 (l.rc ++ [m]) (k : Int) = _
  simp [rd_T75, List.getD_eq_getElem?_getD, List.getElem?_append_left hk]
theorem more_len (l : Lg) (m : S75) : (moreRec l m).rc.length = l.rc.length + 1 := by simp [moreRec]
theorem more_can (l : Lg) (m : S75) {k : Nat} (hk : k < l.rc.length) (b : Int) : ((k : Int), b) ∈ esK (moreRec l m) (moreRec l m).rc.length ↔ ((k : Int), b) ∈ esK l l.rc.length := by
  rw [mem_can (moreRec l m) (by rw [more_len]; omega), mem_can l hk, more_rc l m hk]
  exact Iff.rfl
theorem wy_all {l : Lg} (hJ : l.jn.length ≤ 8) {bs : List Int} : Way l bs ↔ Wy (esK l l.rc.length) l.jn.length l.rc.length [] l.rc.length u0 bs := isW_iff _ _ _ _ hJ _ _ _ rfl
theorem way_feas {l : Lg} (hJ : l.jn.length ≤ 8) : (∃ bs, Way l bs) ↔ Feas (esK l l.rc.length) l.jn.length l.rc.length [] :=
  ⟨fun ⟨bs, h⟩ => ⟨bs, (wy_all hJ).1 h⟩, fun ⟨bs, h⟩ => ⟨bs, (wy_all hJ).2 h⟩⟩
theorem wy_take (l : Lg) (m : S75) (out out' : List Int) (ho : ∀ k : Nat, k < l.rc.length → outB out' (k : Int) = outB out (k : Int)) {bs : List Int} (h : Wy (esK (moreRec l m) (moreRec l m).rc.length) l.jn.length (moreRec l m).rc.length out (moreRec l m).rc.length u0 bs) : Wy (esK l l.rc.length) l.jn.length l.rc.length out' l.rc.length u0 (bs.take l.rc.length) := by
  have hl := h.len
  rw [more_len] at hl
  have hR : ∀ (i : Nat), ((l.rc.length : Int) - (l.rc.length : Nat) + i) = i := fun i => by omega
  have hR' : ∀ (i : Nat), (((moreRec l m).rc.length : Int) - ((moreRec l m).rc.length : Nat) + i) = i := fun i => by omega
  have hi : ∀ (i : Nat) (b : Int), (bs.take l.rc.length)[i]? = some b → i < l.rc.length ∧ bs[i]? = some b := fun i b hb => by
    rw [List.getElem?_take] at hb
    by_cases hx : i < l.rc.length
    · rw [if_pos hx] at hb; exact ⟨hx, hb⟩
    · rw [if_neg hx] at hb; cases hb
  refine ⟨by rw [List.length_take]; omega, fun i b hb hq => ?_, fun i b hb hq => ?_, fun i j b hij hb hc => h.two i j b hij (hi i b hb).2 (hi j b hc).2⟩
  · obtain ⟨h1, h2⟩ := hi i b hb
    rw [hR, ho i h1] at hq
    exact h.no i b h2 (by rw [hR']; exact hq)
  · obtain ⟨h1, h2⟩ := hi i b hb
    rw [hR, ho i h1] at hq
    obtain ⟨k1, k2, k3, k4⟩ := h.yes i b h2 (by rw [hR']; exact hq)
    rw [hR'] at k3
    rw [hR]
    exact ⟨k1, k2, (more_can l m h1 b).1 k3, k4⟩
theorem way_take {l : Lg} {m : S75} (hJ : l.jn.length ≤ 8) {bs : List Int} (h : Way (moreRec l m) bs) : Way l (bs.take l.rc.length) :=
  (wy_all hJ).2 (wy_take l m [] [] (fun _ _ => rfl) ((wy_all (l := moreRec l m) hJ).1 h))
theorem leave_zero {l : Lg} (hE : logE l = 0) : (∃ bs, Way l bs) ↔ (leaveL l).length = 0 := by
  have hs := sound_of hE
  have hl := leaveL_ok hE hs.jlen hs.rlen
  rw [way_feas hs.jlen]
  constructor
  · intro h
    by_cases h0 : (leaveL l).length = 0
    · exact h0
    · exact absurd h (hl.short 0 (by omega) [] ⟨rfl, List.Pairwise.nil, by simp⟩)
  · intro h
    have := hl.feas
    rwa [List.length_eq_zero_iff.1 h] at this
theorem leave_more {l : Lg} {m : S75} (h1 : logE l = 0) (h2 : logE (moreRec l m) = 0) : (leaveL l).length ≤ (leaveL (moreRec l m)).length := by
  have s1 := sound_of h1
  have s2 := sound_of h2
  have o1 := leaveL_ok h1 s1.jlen s1.rlen
  have o2 := leaveL_ok h2 s2.jlen s2.rlen
  generalize leaveL (moreRec l m) = out at *
  obtain ⟨bs, hb⟩ := o2.feas
  have hf : Feas (esK l l.rc.length) l.jn.length l.rc.length (out.filter (· != (l.rc.length : Int))) := ⟨_, wy_take l m out _ (fun k hk => by
    unfold outB
    rw [List.any_filter]
    congr 1
    funext x
    by_cases e : (k : Int) = x
    · subst e
      have : ((k : Int) != (l.rc.length : Int)) = true := by simp; omega
      simp [this]
    · have : ((k : Int) == x) = false := by simpa using e
      simp [this]) hb⟩
  have hle := List.length_filter_le (· != (l.rc.length : Int)) out
  by_cases hlt : (out.filter (· != (l.rc.length : Int))).length < (leaveL l).length
  · refine absurd hf (o1.short _ hlt _ ⟨rfl, o2.picks.lt.filter _, fun p hp => ?_⟩)
    have := o2.picks.rng p (List.mem_filter.1 hp).1
    have hne := (List.mem_filter.1 hp).2
    have hne2 : p ≠ (l.rc.length : Int) := by simpa using hne
    rw [more_len] at this
    omega
  · omega
structure MF (l x : Lg) : Prop where
  le : (leaveL l).length ≤ (leaveL x).length
  gl : (verdE l = 0 ∧ (leaveL l).length = 0) ∨ (verdE l = 11 ∧ 0 < (leaveL l).length)
  gx : (verdE x = 0 ∧ (leaveL x).length = 0) ∨ (verdE x = 11 ∧ 0 < (leaveL x).length)
  len : verdE x = 0 → (verdL x).length = x.rc.length ∧ (verdL l).length = l.rc.length
  val : verdE x = 0 → ∀ r, r < l.rc.length → rd (verdL l) r = 3 ∨ ((rd (verdL l) r = 1 ∨ rd (verdL l) r = 2) ∧ rd (verdL x) r = rd (verdL l) r)
theorem verd_leave {l : Lg} (hE : logE l = 0) : (verdE l = 0 ∧ (leaveL l).length = 0) ∨ (verdE l = 11 ∧ 0 < (leaveL l).length) := by
  have hs := sound_of hE
  by_cases h : ∃ bs, Way l bs
  · exact .inl ⟨(verd_some hE h).1, (leave_zero hE).1 h⟩
  · refine .inr ⟨(verd_none hE hs.rlen h).1, ?_⟩
    exact Nat.pos_of_ne_zero fun h0 => h ((leave_zero hE).2 h0)
theorem mf_of {l : Lg} {m : S75} (h1 : logE l = 0) (h2 : logE (moreRec l m) = 0) : MF l (moreRec l m) := by
  have s1 := sound_of h1
  have s2 := sound_of h2
  have hw : verdE (moreRec l m) = 0 → ∃ bs, Way (moreRec l m) bs := fun h => by
    by_cases hx : ∃ bs, Way (moreRec l m) bs
    · exact hx
    · have := (verd_none h2 s2.rlen hx).1; omega
  refine ⟨leave_more h1 h2, verd_leave h1, verd_leave h2, fun h => ?_, fun h r hr => ?_⟩
  · obtain ⟨bs, hb⟩ := hw h
    exact ⟨(verd_some h2 ⟨bs, hb⟩).2.1, (verd_some h1 ⟨_, way_take s1.jlen hb⟩).2.1⟩
  · obtain ⟨bs, hb⟩ := hw h
    have e1 := (verd_some h1 ⟨_, way_take s1.jlen hb⟩).2.2 r hr
    have e2 := (verd_some h2 ⟨bs, hb⟩).2.2 r (by rw [more_len]; omega)
    have himp : ∀ f, possB (moreRec l m) r f = true → possB l r f = true := fun f hp => by
      obtain ⟨cs, hc, he⟩ := (possB_iff _ r (by rw [more_len]; omega) f).1 hp
      refine (possB_iff l r hr f).2 ⟨_, way_take s1.jlen hc, ?_⟩
      have hl := way_len hc
      rw [more_len] at hl
      rw [rd_nat cs r (by omega)] at he
      rw [rd_nat _ r (by rw [List.length_take]; omega), List.getElem_take]
      exact he
    have hor : possB (moreRec l m) r (rd bs r == -1) = true := (possB_iff _ r (by rw [more_len]; omega) _).2 ⟨bs, hb, rfl⟩
    unfold verdV at e1 e2
    have i1 := himp true
    have i2 := himp false
    cases a1 : possB l r false <;> cases a2 : possB l r true <;> cases b1 : possB (moreRec l m) r false <;> cases b2 : possB (moreRec l m) r true <;> cases hq : (rd bs r == -1) <;> simp_all <;> omega
end Go.Proofs.YthgfhgjlilmieaaGreat.G
namespace Go.Proofs.YthgfhgjlilmieaaGreat.G
open Go.RowKit Go.Shelf Go.Proofs.YthgfhgjlilmieaaGreatW.PrintWords Go.Proofs.YthgfhgjlilmieaaGreatW.PrintLast Go.Proofs.YthgfhgjlilmieaaGreatW.PrintMore
open Go.Proofs.YthgfhgjlilmieaaGreat.B
set_option linter.unusedVariables false
set_option linter.unusedSimpArgs false
def glisterlaw06_MaskMore.T2 : Bool × List (List Nat × List Nat) := (true, [([], []), ([], []), ([1], [1]), ([0, 2], [0, 2]), ([], []), ([4], [4]), ([3, 5, 3], [3, 5]), ([0, 1, 2, 3, 4, 5, 6], []), ([7, 6, 6, 0, 1, 2, 3, 4, 5, 6], [6, 7])])
def glisterlaw06_MaskMore.B2 : List Nat := [0, 0, 2, 7, 0, 16, 63, 127, 255]
theorem glisterlaw06_MaskMore.tab2 : rtab .any (opsOf Tryz.f9 2) = glisterlaw06_MaskMore.T2 := by kernel_rfl
theorem glisterlaw06_MaskMore.bits2 : waitsOk glisterlaw06_MaskMore.T2.2 glisterlaw06_MaskMore.B2 = true := by kernel_rfl
set_option maxRecDepth 100000 in
set_option maxHeartbeats 16000000 in
theorem maskMore_any (a : LV) (l : Lg) (m : S75) (w : World) (hL : LogAt w a l) (hrc : l.rc.length * 32 ≤ 140737488351232) (hm : m.f2.size ≤ 140737488351232) : Calls Tryz.prog 9 #[logV a l, .agg #[.int .i64 m.f0, .int .i64 m.f1, .string m.f2]] w fun e w' => e = .returned (.bool true) ∧ Below w.heap.size w w' := by
  have hu29 := Tryz.underlying29
  have hu61 := Tryz.underlying61
  have hu25 := Tryz.underlying25
  have HLB := Aside0.mk (fun W (h : Below w.heap.size w W) => hL.below h)
  have HLX := Aside0.mk (fun W Ao co (h : Below w.heap.size w W) (hc : Kd.C k75 W Ao (moreRec l m).rc.length (moreRec l m).rc) (hl : (moreRec l m).rc.length ≤ co) => (show LogAt W ⟨a.A0, a.A2, a.A3, Ao, a.c0, a.c2, a.c3, co⟩ (moreRec l m) from ⟨(hL.below h).h0, (hL.below h).h2, (hL.below h).h3, hc, hL.l0, hL.l2, hL.l3, hl, hL.z0, fun r hr => by
    rcases List.mem_append.1 hr with h | h
    · exact hL.z4 r h
    · rw [List.mem_singleton.1 h]; exact hm⟩))
  have HR0_4 := Aside0.mk hL.h4
  have HC0_4 := Aside0.mk hL.l4
  have HR0_0 := Aside0.mk hL.h0
  have HR0_2 := Aside0.mk hL.h2
  have HR0_3 := Aside0.mk hL.h3
  clear hL hm
  obtain ⟨A0_0, A0_2, A0_3, A0_4, c0_0, c0_2, c0_3, c0_4⟩ := a
  obtain ⟨l0_0, a0_1, l0_2, l0_3, l0_4⟩ := l
  obtain ⟨a1_0, a1_1, a1_2⟩ := m
  dsimp only [logV, moreRec] at *
  have HB := Aside0.mk (Below.refl w.heap.size w)
  obtain ⟨y886, hy886⟩ : ∃ y_ : List (S75), y_ = (([] : List (S75))) := ⟨_, rfl⟩
  have c3 : y886.length + l0_4.length < 4398046511104 := by rw [hy886, List.length_nil]; omega
  have Ny886 := Aside0.mk hy886
  have LMc3 := Aside0.mk c3
  obtain ⟨y889, hy889⟩ : ∃ y_ : List (S75), y_ = (y886 ++ l0_4) := ⟨_, rfl⟩
  have Ny889 := Aside0.mk hy889
  obtain ⟨y892, hy892⟩ : ∃ y_ : List (S75), y_ = (([(⟨a1_0, a1_1, a1_2⟩ : S75)] : List (S75))) := ⟨_, rfl⟩
  have Ny892 := Aside0.mk hy892
  have c4 : y889.length + y892.length < 4398046511104 := by rw [hy889, hy892, hy886, List.nil_append, List.length_singleton]; omega
  have LMc4 := Aside0.mk c4
  obtain ⟨y895, hy895⟩ : ∃ y_ : List (S75), y_ = (y889 ++ y892) := ⟨_, rfl⟩
  have Ny895 := Aside0.mk hy895
  have HYX : Aside0 (y895 = l0_4 ++ [⟨a1_0, a1_1, a1_2⟩]) := ⟨by rw [hy895, hy889, hy892, hy886, List.nil_append]⟩
  clear hy886 c3 hy889 hy892 c4 hy895 hrc
  go_enter Tryz.func9, Tryz.ntmps9
  try go_wp2_with (first | ((with_reducible refine gate_dst (N := 2) rfl ?_); (try (refine gate_guard (by rfl) ?_; dsimp only)); refine box_event ?hg (N := 2) ?hd (cs := #[.slice A0_0 l0_0.length c0_0, .int .i64 a0_1, .slice A0_2 l0_2.length c0_2, .slice A0_3 l0_3.length c0_3, .slice A0_4 l0_4.length c0_4]) (t := 29) ?hr ?_; (case hd => rfl); (case hg => rfl); (case hr => first | (go_simp; done) | (go_simp; rfl)); intro gb883 hg w6 hbox hb; have n0_ := Aside0.mk (below_step (by repeat (first | (with_reducible first | exact HB.out | apply below_alloc | apply pw_below_drewN | apply below_drew1) | exact HB.out)) hb); have n1_ := Aside0.mk (hbox); have n2_ := Aside0.mk ((by rw [hg]; exact (below_size (by repeat (first | (with_reducible first | exact HB.out | apply below_alloc | apply pw_below_drewN | apply below_drew1) | exact HB.out))) : w.heap.size ≤ gb883)); have n3_ := Aside0.mk ((by rw [hg]; exact (below_size (by repeat (first | (with_reducible first | exact HB.out | apply below_alloc | apply pw_below_drewN | apply below_drew1) | exact HB.out))) : w.heap.size ≤ gb883)); clear HB; have HB := n0_; have BK883 := n1_; have GW883 := n2_; have GE883 := n3_; clear n0_ n1_ n2_ n3_; clear hb hbox hg) | ((with_reducible refine gate_dst (N := 3) rfl ?_); (try (refine gate_guard (by rfl) ?_; dsimp only)); refine box_event ?hg (N := 3) ?hd (cs := #[.int .i64 a1_0, .int .i64 a1_1, .string a1_2]) (t := 61) ?hr ?_; (case hd => rfl); (case hg => rfl); (case hr => first | (go_simp; done) | (go_simp; rfl)); intro gb884 hg w7 hbox hb; have n0_ := Aside0.mk (blk_below (g := gb883) (o := .cells #[.slice A0_0 l0_0.length c0_0, .int .i64 a0_1, .slice A0_2 l0_2.length c0_2, .slice A0_3 l0_3.length c0_3, .slice A0_4 l0_4.length c0_4] 29 (0, 0)) (by (with_reducible repeat (first | refine blk_drewN ?_ _ | refine blk_drew ?_ | refine blk_alloc ?_ _)); exact BK883.out) hb); have n1_ := Aside0.mk (below_step (by repeat (first | (with_reducible first | exact HB.out | apply below_alloc | apply pw_below_drewN | apply below_drew1 | refine below_set ?_ GE883.out) | exact HB.out)) hb); have n2_ := Aside0.mk (hbox); have n3_ := Aside0.mk ((by rw [hg]; exact (below_size (by repeat (first | (with_reducible first | exact HB.out | apply below_alloc | apply pw_below_drewN | apply below_drew1 | refine below_set ?_ GE883.out) | exact HB.out))) : w.heap.size ≤ gb884)); have n4_ := Aside0.mk ((by rw [hg]; exact (below_size (by repeat (first | (with_reducible first | exact HB.out | apply below_alloc | apply pw_below_drewN | apply below_drew1 | refine below_set ?_ GE883.out) | exact HB.out))) : w.heap.size ≤ gb884)); have n5_ := Aside0.mk ((by rw [hg]; exact Nat.ne_of_lt (blk_lt (g := gb883) (o := .cells #[.slice A0_0 l0_0.length c0_0, .int .i64 a0_1, .slice A0_2 l0_2.length c0_2, .slice A0_3 l0_3.length c0_3, .slice A0_4 l0_4.length c0_4] 29 (0, 0)) (by (with_reducible repeat (first | refine blk_drewN ?_ _ | refine blk_drew ?_ | refine blk_alloc ?_ _)); exact BK883.out)) : gb883 ≠ gb884)); have n6_ := Aside0.mk ((by rw [hg]; exact Nat.ne_of_gt (blk_lt (g := gb883) (o := .cells #[.slice A0_0 l0_0.length c0_0, .int .i64 a0_1, .slice A0_2 l0_2.length c0_2, .slice A0_3 l0_3.length c0_3, .slice A0_4 l0_4.length c0_4] 29 (0, 0)) (by (with_reducible repeat (first | refine blk_drewN ?_ _ | refine blk_drew ?_ | refine blk_alloc ?_ _)); exact BK883.out)) : gb884 ≠ gb883)); clear BK883; clear HB; have BK883 := n0_; have HB := n1_; have BK884 := n2_; have GW884 := n3_; have GE884 := n4_; have NB883_884 := n5_; have NB884_883 := n6_; clear n0_ n1_ n2_ n3_ n4_ n5_ n6_; clear hb hbox hg; have hnb8 := NB883_884.out; have hnc8 := NB884_883.out; have hcz9_0 : w7.cell? ⟨gb883, 0, none⟩ = some (.slice A0_0 l0_0.length c0_0) := (blk_cell BK883.out 0).trans rfl; have hcz9_1 : w7.cell? ⟨gb883, 1, none⟩ = some (.int .i64 a0_1) := (blk_cell BK883.out 1).trans rfl; have hcz9_2 : w7.cell? ⟨gb883, 2, none⟩ = some (.slice A0_2 l0_2.length c0_2) := (blk_cell BK883.out 2).trans rfl; have hcz9_3 : w7.cell? ⟨gb883, 3, none⟩ = some (.slice A0_3 l0_3.length c0_3) := (blk_cell BK883.out 3).trans rfl; have hcz9_4 : w7.cell? ⟨gb883, 4, none⟩ = some (.slice A0_4 l0_4.length c0_4) := (blk_cell BK883.out 4).trans rfl; have hfz9_0 := blk_frozen BK883.out 0; have hfz9_1 := blk_frozen BK883.out 1; have hfz9_2 := blk_frozen BK883.out 2; have hfz9_3 := blk_frozen BK883.out 3; have hfz9_4 := blk_frozen BK883.out 4) | ((with_reducible refine gate_dst (N := 5) rfl ?_); (try (refine gate_guard (by rfl) ?_; dsimp only)); refine box_event ?hg (N := 5) ?hd (cs := #[.slice none 0 0, .int .i64 0, .slice none 0 0, .slice none 0 0, .slice none 0 0]) (t := 29) ?hr ?_; (case hd => rfl); (case hg => rfl); (case hr => first | (go_simp; done) | (go_simp; rfl)); intro gb885 hg w10 hbox hb; have n0_ := Aside0.mk (blk_below (g := gb883) (o := .cells #[.slice A0_0 l0_0.length c0_0, .int .i64 a0_1, .slice A0_2 l0_2.length c0_2, .slice A0_3 l0_3.length c0_3, .slice A0_4 l0_4.length c0_4] 29 (0, 0)) (by (with_reducible repeat (first | refine blk_drewN ?_ _ | refine blk_drew ?_ | refine blk_alloc ?_ _)); exact BK883.out) hb); have n1_ := Aside0.mk (blk_below (g := gb884) (o := .cells #[.int .i64 a1_0, .int .i64 a1_1, .string a1_2] 61 (0, 0)) (by (with_reducible repeat (first | refine blk_drewN ?_ _ | refine blk_drew ?_ | refine blk_alloc ?_ _)); exact BK884.out) hb); have n2_ := Aside0.mk (below_step (by repeat (first | (with_reducible first | exact HB.out | apply below_alloc | apply pw_below_drewN | apply below_drew1 | refine below_set ?_ GE883.out | refine below_set ?_ GE884.out) | exact HB.out)) hb); have n3_ := Aside0.mk (hbox); have n4_ := Aside0.mk ((by rw [hg]; exact (below_size (by repeat (first | (with_reducible first | exact HB.out | apply below_alloc | apply pw_below_drewN | apply below_drew1 | refine below_set ?_ GE883.out | refine below_set ?_ GE884.out) | exact HB.out))) : w.heap.size ≤ gb885)); have n5_ := Aside0.mk ((by rw [hg]; exact (below_size (by repeat (first | (with_reducible first | exact HB.out | apply below_alloc | apply pw_below_drewN | apply below_drew1 | refine below_set ?_ GE883.out | refine below_set ?_ GE884.out) | exact HB.out))) : w.heap.size ≤ gb885)); have n6_ := Aside0.mk ((by rw [hg]; exact Nat.ne_of_lt (blk_lt (g := gb883) (o := .cells #[.slice A0_0 l0_0.length c0_0, .int .i64 a0_1, .slice A0_2 l0_2.length c0_2, .slice A0_3 l0_3.length c0_3, .slice A0_4 l0_4.length c0_4] 29 (0, 0)) (by (with_reducible repeat (first | refine blk_drewN ?_ _ | refine blk_drew ?_ | refine blk_alloc ?_ _)); exact BK883.out)) : gb883 ≠ gb885)); have n7_ := Aside0.mk ((by rw [hg]; exact Nat.ne_of_gt (blk_lt (g := gb883) (o := .cells #[.slice A0_0 l0_0.length c0_0, .int .i64 a0_1, .slice A0_2 l0_2.length c0_2, .slice A0_3 l0_3.length c0_3, .slice A0_4 l0_4.length c0_4] 29 (0, 0)) (by (with_reducible repeat (first | refine blk_drewN ?_ _ | refine blk_drew ?_ | refine blk_alloc ?_ _)); exact BK883.out)) : gb885 ≠ gb883)); have n8_ := Aside0.mk ((by rw [hg]; exact Nat.ne_of_lt (blk_lt (g := gb884) (o := .cells #[.int .i64 a1_0, .int .i64 a1_1, .string a1_2] 61 (0, 0)) (by (with_reducible repeat (first | refine blk_drewN ?_ _ | refine blk_drew ?_ | refine blk_alloc ?_ _)); exact BK884.out)) : gb884 ≠ gb885)); have n9_ := Aside0.mk ((by rw [hg]; exact Nat.ne_of_gt (blk_lt (g := gb884) (o := .cells #[.int .i64 a1_0, .int .i64 a1_1, .string a1_2] 61 (0, 0)) (by (with_reducible repeat (first | refine blk_drewN ?_ _ | refine blk_drew ?_ | refine blk_alloc ?_ _)); exact BK884.out)) : gb885 ≠ gb884)); clear BK883; clear BK884; clear HB; have BK883 := n0_; have BK884 := n1_; have HB := n2_; have BK885 := n3_; have GW885 := n4_; have GE885 := n5_; have NB883_885 := n6_; have NB885_883 := n7_; have NB884_885 := n8_; have NB885_884 := n9_; clear n0_ n1_ n2_ n3_ n4_ n5_ n6_ n7_ n8_ n9_; clear hb hbox hg; have hnb11 := NB885_883.out; have hnc11 := NB883_885.out; have hnb12 := NB885_884.out; have hnc12 := NB884_885.out; have hcz13_0 : w10.cell? ⟨gb885, 0, none⟩ = some (.slice none 0 0) := (blk_cell BK885.out 0).trans rfl; have hcz13_1 : w10.cell? ⟨gb885, 1, none⟩ = some (.int .i64 0) := (blk_cell BK885.out 1).trans rfl; have hcz13_2 : w10.cell? ⟨gb885, 2, none⟩ = some (.slice none 0 0) := (blk_cell BK885.out 2).trans rfl; have hcz13_3 : w10.cell? ⟨gb885, 3, none⟩ = some (.slice none 0 0) := (blk_cell BK885.out 3).trans rfl; have hcz13_4 : w10.cell? ⟨gb885, 4, none⟩ = some (.slice none 0 0) := (blk_cell BK885.out 4).trans rfl; have hfz13_0 := blk_frozen BK885.out 0; have hfz13_1 := blk_frozen BK885.out 1; have hfz13_2 := blk_frozen BK885.out 2; have hfz13_3 := blk_frozen BK885.out 3; have hfz13_4 := blk_frozen BK885.out 4))
  have n0_ : Aside0 ((((((w10.setCell ⟨gb885, 0, none⟩ (.slice A0_0 l0_0.length c0_0)).setCell ⟨gb885, 1, none⟩ (.int .i64 a0_1)).setCell ⟨gb885, 2, none⟩ (.slice A0_2 l0_2.length c0_2)).setCell ⟨gb885, 3, none⟩ (.slice A0_3 l0_3.length c0_3)).setCell ⟨gb885, 4, none⟩ (.slice A0_4 l0_4.length c0_4)).heap[gb883]? = some (.cells #[.slice A0_0 l0_0.length c0_0, .int .i64 a0_1, .slice A0_2 l0_2.length c0_2, .slice A0_3 l0_3.length c0_3, .slice A0_4 l0_4.length c0_4] 29 (0, 0))) := ⟨by (with_reducible repeat (first | refine blk_drewN ?_ _ | refine blk_drew ?_ | refine blk_alloc ?_ _)); refine blk_far ?_ NB883_885.out _; (with_reducible repeat (first | refine blk_drewN ?_ _ | refine blk_drew ?_ | refine blk_alloc ?_ _)); refine blk_far ?_ NB883_885.out _; (with_reducible repeat (first | refine blk_drewN ?_ _ | refine blk_drew ?_ | refine blk_alloc ?_ _)); refine blk_far ?_ NB883_885.out _; (with_reducible repeat (first | refine blk_drewN ?_ _ | refine blk_drew ?_ | refine blk_alloc ?_ _)); refine blk_far ?_ NB883_885.out _; (with_reducible repeat (first | refine blk_drewN ?_ _ | refine blk_drew ?_ | refine blk_alloc ?_ _)); refine blk_far ?_ NB883_885.out _; (with_reducible repeat (first | refine blk_drewN ?_ _ | refine blk_drew ?_ | refine blk_alloc ?_ _)); exact BK883.out⟩
  have n1_ : Aside0 ((((((w10.setCell ⟨gb885, 0, none⟩ (.slice A0_0 l0_0.length c0_0)).setCell ⟨gb885, 1, none⟩ (.int .i64 a0_1)).setCell ⟨gb885, 2, none⟩ (.slice A0_2 l0_2.length c0_2)).setCell ⟨gb885, 3, none⟩ (.slice A0_3 l0_3.length c0_3)).setCell ⟨gb885, 4, none⟩ (.slice A0_4 l0_4.length c0_4)).heap[gb884]? = some (.cells #[.int .i64 a1_0, .int .i64 a1_1, .string a1_2] 61 (0, 0))) := ⟨by (with_reducible repeat (first | refine blk_drewN ?_ _ | refine blk_drew ?_ | refine blk_alloc ?_ _)); refine blk_far ?_ NB884_885.out _; (with_reducible repeat (first | refine blk_drewN ?_ _ | refine blk_drew ?_ | refine blk_alloc ?_ _)); refine blk_far ?_ NB884_885.out _; (with_reducible repeat (first | refine blk_drewN ?_ _ | refine blk_drew ?_ | refine blk_alloc ?_ _)); refine blk_far ?_ NB884_885.out _; (with_reducible repeat (first | refine blk_drewN ?_ _ | refine blk_drew ?_ | refine blk_alloc ?_ _)); refine blk_far ?_ NB884_885.out _; (with_reducible repeat (first | refine blk_drewN ?_ _ | refine blk_drew ?_ | refine blk_alloc ?_ _)); refine blk_far ?_ NB884_885.out _; (with_reducible repeat (first | refine blk_drewN ?_ _ | refine blk_drew ?_ | refine blk_alloc ?_ _)); exact BK884.out⟩
  have n2_ : Aside0 ((((((w10.setCell ⟨gb885, 0, none⟩ (.slice A0_0 l0_0.length c0_0)).setCell ⟨gb885, 1, none⟩ (.int .i64 a0_1)).setCell ⟨gb885, 2, none⟩ (.slice A0_2 l0_2.length c0_2)).setCell ⟨gb885, 3, none⟩ (.slice A0_3 l0_3.length c0_3)).setCell ⟨gb885, 4, none⟩ (.slice A0_4 l0_4.length c0_4)).heap[gb885]? = some (.cells #[.slice A0_0 l0_0.length c0_0, .int .i64 a0_1, .slice A0_2 l0_2.length c0_2, .slice A0_3 l0_3.length c0_3, .slice A0_4 l0_4.length c0_4] 29 (0, 0))) := ⟨by (with_reducible repeat (first | refine blk_drewN ?_ _ | refine blk_drew ?_ | refine blk_alloc ?_ _)); refine blk_put (cs := #[.slice A0_0 l0_0.length c0_0, .int .i64 a0_1, .slice A0_2 l0_2.length c0_2, .slice A0_3 l0_3.length c0_3, .slice none 0 0]) ?_ 4 _ rfl; (with_reducible repeat (first | refine blk_drewN ?_ _ | refine blk_drew ?_ | refine blk_alloc ?_ _)); refine blk_put (cs := #[.slice A0_0 l0_0.length c0_0, .int .i64 a0_1, .slice A0_2 l0_2.length c0_2, .slice none 0 0, .slice none 0 0]) ?_ 3 _ rfl; (with_reducible repeat (first | refine blk_drewN ?_ _ | refine blk_drew ?_ | refine blk_alloc ?_ _)); refine blk_put (cs := #[.slice A0_0 l0_0.length c0_0, .int .i64 a0_1, .slice none 0 0, .slice none 0 0, .slice none 0 0]) ?_ 2 _ rfl; (with_reducible repeat (first | refine blk_drewN ?_ _ | refine blk_drew ?_ | refine blk_alloc ?_ _)); refine blk_put (cs := #[.slice A0_0 l0_0.length c0_0, .int .i64 0, .slice none 0 0, .slice none 0 0, .slice none 0 0]) ?_ 1 _ rfl; (with_reducible repeat (first | refine blk_drewN ?_ _ | refine blk_drew ?_ | refine blk_alloc ?_ _)); refine blk_put (cs := #[.slice none 0 0, .int .i64 0, .slice none 0 0, .slice none 0 0, .slice none 0 0]) ?_ 0 _ rfl; (with_reducible repeat (first | refine blk_drewN ?_ _ | refine blk_drew ?_ | refine blk_alloc ?_ _)); exact BK885.out⟩
  have n3_ : Aside0 (Below w.heap.size w (((((w10.setCell ⟨gb885, 0, none⟩ (.slice A0_0 l0_0.length c0_0)).setCell ⟨gb885, 1, none⟩ (.int .i64 a0_1)).setCell ⟨gb885, 2, none⟩ (.slice A0_2 l0_2.length c0_2)).setCell ⟨gb885, 3, none⟩ (.slice A0_3 l0_3.length c0_3)).setCell ⟨gb885, 4, none⟩ (.slice A0_4 l0_4.length c0_4))) := ⟨by repeat (first | (with_reducible first | exact HB.out | apply below_alloc | apply pw_below_drewN | apply below_drew1 | refine below_set ?_ GE883.out | refine below_set ?_ GE884.out | refine below_set ?_ GE885.out) | exact HB.out)⟩
  (try clear BK883)
  (try clear BK884)
  (try clear BK885)
  (try clear HB)
  generalize (((((w10.setCell ⟨gb885, 0, none⟩ (.slice A0_0 l0_0.length c0_0)).setCell ⟨gb885, 1, none⟩ (.int .i64 a0_1)).setCell ⟨gb885, 2, none⟩ (.slice A0_2 l0_2.length c0_2)).setCell ⟨gb885, 3, none⟩ (.slice A0_3 l0_3.length c0_3)).setCell ⟨gb885, 4, none⟩ (.slice A0_4 l0_4.length c0_4)) = w14 at n0_ n1_ n2_ n3_ ⊢
  have BK883 := n0_
  have BK884 := n1_
  have BK885 := n2_
  have HB := n3_
  clear n0_ n1_ n2_ n3_
  have n0_ := Aside0.mk (blk_drew BK883.out)
  have n1_ := Aside0.mk (blk_drew BK884.out)
  have n2_ := Aside0.mk (blk_drew BK885.out)
  have n3_ := Aside0.mk (below_drew1 HB.out)
  clear BK883
  clear BK884
  clear BK885
  clear HB
  have BK883 := n0_
  have BK884 := n1_
  have BK885 := n2_
  have HB := n3_
  clear n0_ n1_ n2_ n3_
  refine start_ (n := 9) (S := fun w' => w'.cell? ⟨gb883, 0, none⟩ = some (.slice A0_0 l0_0.length c0_0) ∧ w'.cell? ⟨gb883, 1, none⟩ = some (.int .i64 a0_1) ∧ w'.cell? ⟨gb883, 2, none⟩ = some (.slice A0_2 l0_2.length c0_2) ∧ w'.cell? ⟨gb883, 3, none⟩ = some (.slice A0_3 l0_3.length c0_3) ∧ w'.cell? ⟨gb883, 4, none⟩ = some (.slice A0_4 l0_4.length c0_4) ∧ w'.cell? ⟨gb884, 0, none⟩ = some (.int .i64 a1_0) ∧ w'.cell? ⟨gb884, 1, none⟩ = some (.int .i64 a1_1) ∧ w'.cell? ⟨gb884, 2, none⟩ = some (.string a1_2)) (ds := []) #[false, false, false, false, false, false, false, false, false] (by kernel_rfl) rfl rfl ⟨(blk_cell BK883.out 0).trans rfl, (blk_cell BK883.out 1).trans rfl, (blk_cell BK883.out 2).trans rfl, (blk_cell BK883.out 3).trans rfl, (blk_cell BK883.out 4).trans rfl, (blk_cell BK884.out 0).trans rfl, (blk_cell BK884.out 1).trans rfl, (blk_cell BK884.out 2).trans rfl⟩ (fun hHeld => ?_); refine with_tabW glisterlaw06_MaskMore.tab2 glisterlaw06_MaskMore.bits2 (fun HT_ HW_ => ?_)
  generalize w14.drew = w15 at BK883 BK884 BK885 HB hHeld ⊢
  refine pure_ (i := 1) (N := some 17) (v := ?_) (a' := ?_) #[false, true, false, false, false, false, false, false, false] rfl rfl (any_of HT_.out (by kernel_rfl)) (fun _ _ _ h => h) (Or.inl ⟨by rfl, ?_⟩) ?_ ?_
  rotate_left
  · intro w'
    go_simp
    with_reducible rfl
  rotate_left
  · simp only [Act.put, List.setIfInBounds_toArray, List.set_cons_zero, List.set_cons_succ, i64_w, i32_w]
    rfl
  refine take_ (i := 2) (N := some 18) (v := ?_) (a' := ?_) #[false, true, true, false, false, false, false, false, false] rfl rfl (take_ofW HT_.out HW_.out (by kernel_rfl)) (fun _ _ _ h => h) (Or.inl ⟨by rfl, ?_⟩) hHeld ?_ ?_
  rotate_left
  · rintro w' ⟨s0, s1, s2, s3, s4, s5, s6, s7⟩
    go_simp
    with_reducible rfl
  rotate_left
  · simp only [Act.put, List.setIfInBounds_toArray, List.set_cons_zero, List.set_cons_succ, i64_w, i32_w]
    rfl
  refine take_ (i := 4) (N := some 20) (v := ?_) (a' := ?_) #[false, true, true, false, true, false, false, false, false] rfl rfl (take_ofW HT_.out HW_.out (by kernel_rfl)) (fun _ _ _ h => h) (Or.inl ⟨by rfl, ?_⟩) hHeld ?_ ?_
  rotate_left
  · rintro w' ⟨s0, s1, s2, s3, s4, s5, s6, s7⟩
    go_simp
    with_reducible rfl
  rotate_left
  · simp only [Act.put, List.setIfInBounds_toArray, List.set_cons_zero, List.set_cons_succ, i64_w, i32_w]
    rfl
  refine join_ (σ := Value × Value × Value) 3 #[true, true, true, true, true, true, false, false, false] (fun s_ => [(16, s_.1), (19, s_.2.1), (21, s_.2.2)]) (fun s_ w' => (w'.cell? ⟨gb883, 0, none⟩ = some (.slice A0_0 l0_0.length c0_0) ∧ w'.cell? ⟨gb883, 1, none⟩ = some (.int .i64 a0_1) ∧ w'.cell? ⟨gb883, 2, none⟩ = some (.slice A0_2 l0_2.length c0_2) ∧ w'.cell? ⟨gb883, 3, none⟩ = some (.slice A0_3 l0_3.length c0_3) ∧ w'.cell? ⟨gb883, 4, none⟩ = some (.slice A0_4 l0_4.length c0_4) ∧ w'.cell? ⟨gb884, 0, none⟩ = some (.int .i64 a1_0) ∧ w'.cell? ⟨gb884, 1, none⟩ = some (.int .i64 a1_1) ∧ w'.cell? ⟨gb884, 2, none⟩ = some (.string a1_2)) ∧ (Kd.R k75 61 w' w.heap.size (fun k_ => some k_ ≠ (s_.2.2 : Value).ownBlock ∧ k_ ≠ gb884) s_.2.1 y889) ∧ (Kd.R k75 61 w' w.heap.size (fun k_ => some k_ ≠ (s_.2.1 : Value).ownBlock ∧ k_ ≠ gb884) s_.2.2 y892) ∧ (w'.heap[gb883]? = some (.cells #[.slice A0_0 l0_0.length c0_0, .int .i64 a0_1, .slice A0_2 l0_2.length c0_2, .slice A0_3 l0_3.length c0_3, .slice A0_4 l0_4.length c0_4] 29 (0, 0))) ∧ (w'.heap[gb884]? = some (.cells #[.int .i64 a1_0, .int .i64 a1_1, .string a1_2] 61 (0, 0))) ∧ (w'.heap[gb885]? = some (.cells #[.slice A0_0 l0_0.length c0_0, .int .i64 a0_1, .slice A0_2 l0_2.length c0_2, .slice A0_3 l0_3.length c0_3, .slice A0_4 l0_4.length c0_4] 29 (0, 0))) ∧ (Below w.heap.size w w')) ?_ ?_
  rotate_left
  · intro hCont
    refine two_ (i := 0) (j := 5) (Ni := some 16) (Nj := some 21) #[true, true, true, false, true, false, false, false, false] #[false, true, true, false, true, true, false, false, false] rfl rfl rfl rfl (two_of HT_.out (by kernel_rfl)) (by decide) (by decide) (fun K hK => ?_) (fun K hK => ?_)
    · skip
      refine Kd.R_lit_step k75 _ 61 ?hg (N := 16) ?hd (xs := ([] : List (S75))) (inner := []) (ok := fun _ => True) (okp := fun _ => True) ?hr ?hp (fun _ hk => hk) trivial (Below.refl _ _) (Nat.le_refl _) (by simp) ?_; (case hd => rfl); (case hg => rfl); (case hr => first | (go_simp; done) | (go_simp; rfl)); (case hp => exact (Reps.none _ _))
      intro v887 w16 ho17 hb hg_ hnew_
      clear hg_ hnew_
      (first | rw [← Ny886.out] at ho17 | (simp only [Int.reduceToNat] at ho17; rw [← Ny886.out] at ho17))
      have n0_ := Aside0.mk (Kd.R_lower (Kd.R_newB ho17 (g := gb884) (o := .cells #[.int .i64 a1_0, .int .i64 a1_1, .string a1_2] 61 (0, 0)) (by (with_reducible repeat (first | refine blk_drewN ?_ _ | refine blk_drew ?_ | refine blk_alloc ?_ _)); exact BK884.out)) (below_size (by repeat (first | (with_reducible first | exact HB.out | apply below_alloc | apply pw_below_drewN | apply below_drew1 | refine below_set ?_ GE883.out | refine below_set ?_ GE884.out | refine below_set ?_ GE885.out) | exact HB.out))))
      have n1_ := Aside0.mk (blk_below (g := gb883) (o := .cells #[.slice A0_0 l0_0.length c0_0, .int .i64 a0_1, .slice A0_2 l0_2.length c0_2, .slice A0_3 l0_3.length c0_3, .slice A0_4 l0_4.length c0_4] 29 (0, 0)) (by (with_reducible repeat (first | refine blk_drewN ?_ _ | refine blk_drew ?_ | refine blk_alloc ?_ _)); exact BK883.out) hb)
      have n2_ := Aside0.mk (blk_below (g := gb884) (o := .cells #[.int .i64 a1_0, .int .i64 a1_1, .string a1_2] 61 (0, 0)) (by (with_reducible repeat (first | refine blk_drewN ?_ _ | refine blk_drew ?_ | refine blk_alloc ?_ _)); exact BK884.out) hb)
      have n3_ := Aside0.mk (blk_below (g := gb885) (o := .cells #[.slice A0_0 l0_0.length c0_0, .int .i64 a0_1, .slice A0_2 l0_2.length c0_2, .slice A0_3 l0_3.length c0_3, .slice A0_4 l0_4.length c0_4] 29 (0, 0)) (by (with_reducible repeat (first | refine blk_drewN ?_ _ | refine blk_drew ?_ | refine blk_alloc ?_ _)); exact BK885.out) hb)
      have n4_ := Aside0.mk (below_step (by repeat (first | (with_reducible first | exact HB.out | apply below_alloc | apply pw_below_drewN | apply below_drew1 | refine below_set ?_ GE883.out | refine below_set ?_ GE884.out | refine below_set ?_ GE885.out) | exact HB.out)) hb)
      clear BK883
      clear BK884
      clear BK885
      clear HB
      have HO888 := n0_
      have BK883 := n1_
      have BK884 := n2_
      have BK885 := n3_
      have HB := n4_
      clear n0_ n1_ n2_ n3_ n4_
      clear hb ho17
      refine hK.out _ _ ⟨(blk_cell BK883.out 0).trans rfl, (blk_cell BK883.out 1).trans rfl, (blk_cell BK883.out 2).trans rfl, (blk_cell BK883.out 3).trans rfl, (blk_cell BK883.out 4).trans rfl, (blk_cell BK884.out 0).trans rfl, (blk_cell BK884.out 1).trans rfl, (blk_cell BK884.out 2).trans rfl⟩ (fun hHeld => ?_)
      clear hK K
      refine norm_ (a' := ?_) ?_ ?_
      rotate_left
      · show Act.put _ (some 16) _ = _
        simp only [Act.put, List.setIfInBounds_toArray, List.set_cons_zero, List.set_cons_succ, i64_w, i32_w]
        rfl
      refine two_ (i := 3) (j := 5) (Ni := some 19) (Nj := some 21) #[true, true, true, true, true, false, false, false, false] #[true, true, true, false, true, true, false, false, false] rfl rfl rfl rfl (two_of HT_.out (by kernel_rfl)) (by decide) (by decide) (fun K hK => ?_) (fun K hK => ?_)
      · skip
        refine Kd.R_append_rows_step k75 (w0 := w) w.heap.size (by rfl) (.tmp 16) (.tmp 18) 27 61 (.agg #[(.int .i64 0), (.int .i64 0), (.string ⟨#[]⟩)]) 32 rfl Tryz.underlying27 info61 rfl (by decide) (by omega) v887 y886 l0_4 _ _ _ (fun k_ => k_ ≠ gb884) (fun _ => False) rfl rfl ?aO ?aR (fun _ _ h => h) (fun _ h => h.elim) ?aF ?aB ?aS ?aL ?_
        (case aR => repeat (first | exact (Kd.C_below HR0_4.out HB.out) | (with_reducible refine Kd.C_alloc ?_ _) | (with_reducible refine Kd.C_drewN ?_ _) | (with_reducible refine Kd.C_drew ?_)))
        (case aB => exact (by repeat (first | (with_reducible first | exact HB.out | apply below_alloc | apply pw_below_drewN | apply below_drew1 | refine below_set ?_ GE883.out | refine below_set ?_ GE884.out | refine below_set ?_ GE885.out) | exact HB.out)))
        (case aF => exact (fun k_ hk => Kd.freshB (g := gb884) (o := .cells #[.int .i64 a1_0, .int .i64 a1_1, .string a1_2] 61 (0, 0)) (by (with_reducible repeat (first | refine blk_drewN ?_ _ | refine blk_drew ?_ | refine blk_alloc ?_ _)); exact BK884.out) k_ hk))
        (case aO => exact (by (with_reducible repeat (first | apply Kd.R_alloc | apply Kd.R_drewN | apply Kd.R_drew)); exact Kd.R_mono HO888.out (fun _ hk => hk.2)))
        (case aS => exact (below_size (by repeat (first | (with_reducible first | exact HB.out | apply below_alloc | apply pw_below_drewN | apply below_drew1 | refine below_set ?_ GE883.out | refine below_set ?_ GE884.out | refine below_set ?_ GE885.out) | exact HB.out))))
        (case aL => have := LMc3.out; omega)
        intro v890 w18 ho hb hg hat
        rw [← Ny889.out] at ho
        have n0_ := Aside0.mk (blk_grown (g := gb883) (o := .cells #[.slice A0_0 l0_0.length c0_0, .int .i64 a0_1, .slice A0_2 l0_2.length c0_2, .slice A0_3 l0_3.length c0_3, .slice A0_4 l0_4.length c0_4] 29 (0, 0)) (by (with_reducible repeat (first | refine blk_drewN ?_ _ | refine blk_drew ?_ | refine blk_alloc ?_ _)); exact BK883.out) hg (Kd.R_ne HO888.out BK883.out (by decide)))
        have n1_ := Aside0.mk (blk_grown (g := gb884) (o := .cells #[.int .i64 a1_0, .int .i64 a1_1, .string a1_2] 61 (0, 0)) (by (with_reducible repeat (first | refine blk_drewN ?_ _ | refine blk_drew ?_ | refine blk_alloc ?_ _)); exact BK884.out) hg (Kd.R_away HO888.out (fun _ hk => hk.2)))
        have n2_ := Aside0.mk (blk_grown (g := gb885) (o := .cells #[.slice A0_0 l0_0.length c0_0, .int .i64 a0_1, .slice A0_2 l0_2.length c0_2, .slice A0_3 l0_3.length c0_3, .slice A0_4 l0_4.length c0_4] 29 (0, 0)) (by (with_reducible repeat (first | refine blk_drewN ?_ _ | refine blk_drew ?_ | refine blk_alloc ?_ _)); exact BK885.out) hg (Kd.R_ne HO888.out BK885.out (by decide)))
        have n3_ := Aside0.mk (hb)
        have n4_ := Aside0.mk (ho)
        clear BK883
        clear BK884
        clear BK885
        clear HB
        clear HO888
        have BK883 := n0_
        have BK884 := n1_
        have BK885 := n2_
        have HB := n3_
        have HO891 := n4_
        clear n0_ n1_ n2_ n3_ n4_
        clear ho hb hg hat
        refine hK.out _ _ ⟨(blk_cell BK883.out 0).trans rfl, (blk_cell BK883.out 1).trans rfl, (blk_cell BK883.out 2).trans rfl, (blk_cell BK883.out 3).trans rfl, (blk_cell BK883.out 4).trans rfl, (blk_cell BK884.out 0).trans rfl, (blk_cell BK884.out 1).trans rfl, (blk_cell BK884.out 2).trans rfl⟩ (fun hHeld => ?_)
        clear hK K
        refine norm_ (a' := ?_) ?_ ?_
        rotate_left
        · show Act.put _ (some 19) _ = _
          simp only [Act.put, List.setIfInBounds_toArray, List.set_cons_zero, List.set_cons_succ, i64_w, i32_w]
          rfl
        refine one_ (i := 5) (N := some 21) #[true, true, true, true, true, true, false, false, false] rfl rfl (one_of HT_.out (by kernel_rfl)) (by decide) (fun K hK => ?_)
        refine Kd.R_lit_step k75 _ 61 ?hg (N := 21) ?hd (xs := ([(⟨a1_0, a1_1, a1_2⟩ : S75)] : List (S75))) (inner := [.int .i64 a1_0, .int .i64 a1_1, .string a1_2]) (ok := fun _ => True) (okp := fun _ => True) ?hr ?hp (fun _ hk => hk) trivial (Below.refl _ _) (Nat.le_refl _) (by simp) ?_; (case hd => rfl); (case hg => rfl); (case hr => first | (go_simp; done) | (go_simp; rfl)); (case hp => exact (Reps.c3 (show Kd.M k75 _ _ _ (⟨a1_0, a1_1, a1_2⟩ : S75) [.int .i64 a1_0, .int .i64 a1_1, .string a1_2] from (k75_mkM _ _ _ (⟨a1_0, a1_1, a1_2⟩ : S75) )) (Reps.none _ _)))
        intro v893 w19 ho20 hb hg_ hnew_
        clear hg_ hnew_
        (first | rw [← Ny892.out] at ho20 | (simp only [Int.reduceToNat] at ho20; rw [← Ny892.out] at ho20))
        have n0_ := Aside0.mk (Kd.R_elder' (by (with_reducible repeat (first | apply Kd.R_alloc | apply Kd.R_drewN | apply Kd.R_drew)); exact HO891.out) (Kd.R_base ho20) hb)
        have n1_ := Aside0.mk (Kd.R_lower (Kd.R_newB (Kd.R_new' ho20 (Kd.R_lt (by (with_reducible repeat (first | apply Kd.R_alloc | apply Kd.R_drewN | apply Kd.R_drew)); exact HO891.out))) (g := gb884) (o := .cells #[.int .i64 a1_0, .int .i64 a1_1, .string a1_2] 61 (0, 0)) (by (with_reducible repeat (first | refine blk_drewN ?_ _ | refine blk_drew ?_ | refine blk_alloc ?_ _)); exact BK884.out)) (below_size (by repeat (first | (with_reducible first | exact HB.out | apply below_alloc | apply pw_below_drewN | apply below_drew1 | refine below_set ?_ GE883.out | refine below_set ?_ GE884.out | refine below_set ?_ GE885.out) | exact HB.out))))
        have n2_ := Aside0.mk (blk_below (g := gb883) (o := .cells #[.slice A0_0 l0_0.length c0_0, .int .i64 a0_1, .slice A0_2 l0_2.length c0_2, .slice A0_3 l0_3.length c0_3, .slice A0_4 l0_4.length c0_4] 29 (0, 0)) (by (with_reducible repeat (first | refine blk_drewN ?_ _ | refine blk_drew ?_ | refine blk_alloc ?_ _)); exact BK883.out) hb)
        have n3_ := Aside0.mk (blk_below (g := gb884) (o := .cells #[.int .i64 a1_0, .int .i64 a1_1, .string a1_2] 61 (0, 0)) (by (with_reducible repeat (first | refine blk_drewN ?_ _ | refine blk_drew ?_ | refine blk_alloc ?_ _)); exact BK884.out) hb)
        have n4_ := Aside0.mk (blk_below (g := gb885) (o := .cells #[.slice A0_0 l0_0.length c0_0, .int .i64 a0_1, .slice A0_2 l0_2.length c0_2, .slice A0_3 l0_3.length c0_3, .slice A0_4 l0_4.length c0_4] 29 (0, 0)) (by (with_reducible repeat (first | refine blk_drewN ?_ _ | refine blk_drew ?_ | refine blk_alloc ?_ _)); exact BK885.out) hb)
        have n5_ := Aside0.mk (below_step (by repeat (first | (with_reducible first | exact HB.out | apply below_alloc | apply pw_below_drewN | apply below_drew1 | refine below_set ?_ GE883.out | refine below_set ?_ GE884.out | refine below_set ?_ GE885.out) | exact HB.out)) hb)
        clear HO891
        clear BK883
        clear BK884
        clear BK885
        clear HB
        have HO891 := n0_
        have HO894 := n1_
        have BK883 := n2_
        have BK884 := n3_
        have BK885 := n4_
        have HB := n5_
        clear n0_ n1_ n2_ n3_ n4_ n5_
        clear hb ho20
        refine hK.out _ _ ⟨(blk_cell BK883.out 0).trans rfl, (blk_cell BK883.out 1).trans rfl, (blk_cell BK883.out 2).trans rfl, (blk_cell BK883.out 3).trans rfl, (blk_cell BK883.out 4).trans rfl, (blk_cell BK884.out 0).trans rfl, (blk_cell BK884.out 1).trans rfl, (blk_cell BK884.out 2).trans rfl⟩ (fun hHeld => ?_)
        clear hK K
        refine norm_ (a' := ?_) ?_ ?_
        rotate_left
        · show Act.put _ (some 21) _ = _
          simp only [Act.put, List.setIfInBounds_toArray, List.set_cons_zero, List.set_cons_succ, i64_w, i32_w]
          rfl
        exact norm_ (by simp only [YthgfhgjlilmieaaGreatW.PrintLast.putAll, Act.put, List.setIfInBounds_toArray, List.set_cons_zero, List.set_cons_succ]) (hCont (v887, v890, v893) _ ⟨hHeld, (by (with_reducible repeat (first | apply Kd.R_alloc | apply Kd.R_drewN | apply Kd.R_drew)); exact Kd.R_mono HO891.out (fun _ hk => ⟨hk.2, hk.1⟩)), (by (with_reducible repeat (first | apply Kd.R_alloc | apply Kd.R_drewN | apply Kd.R_drew)); exact Kd.R_mono HO894.out (fun _ hk => ⟨hk.1.2, hk.2⟩)), (by (with_reducible repeat (first | refine blk_drewN ?_ _ | refine blk_drew ?_ | refine blk_alloc ?_ _)); exact BK883.out), (by (with_reducible repeat (first | refine blk_drewN ?_ _ | refine blk_drew ?_ | refine blk_alloc ?_ _)); exact BK884.out), (by (with_reducible repeat (first | refine blk_drewN ?_ _ | refine blk_drew ?_ | refine blk_alloc ?_ _)); exact BK885.out), (by repeat (first | (with_reducible first | exact HB.out | apply below_alloc | apply pw_below_drewN | apply below_drew1 | refine below_set ?_ GE883.out | refine below_set ?_ GE884.out | refine below_set ?_ GE885.out) | exact HB.out))⟩)
      · skip
        refine Kd.R_lit_step k75 _ 61 ?hg (N := 21) ?hd (xs := ([(⟨a1_0, a1_1, a1_2⟩ : S75)] : List (S75))) (inner := [.int .i64 a1_0, .int .i64 a1_1, .string a1_2]) (ok := fun _ => True) (okp := fun _ => True) ?hr ?hp (fun _ hk => hk) trivial (Below.refl _ _) (Nat.le_refl _) (by simp) ?_; (case hd => rfl); (case hg => rfl); (case hr => first | (go_simp; done) | (go_simp; rfl)); (case hp => exact (Reps.c3 (show Kd.M k75 _ _ _ (⟨a1_0, a1_1, a1_2⟩ : S75) [.int .i64 a1_0, .int .i64 a1_1, .string a1_2] from (k75_mkM _ _ _ (⟨a1_0, a1_1, a1_2⟩ : S75) )) (Reps.none _ _)))
        intro v893 w18 ho19 hb hg_ hnew_
        clear hg_ hnew_
        (first | rw [← Ny892.out] at ho19 | (simp only [Int.reduceToNat] at ho19; rw [← Ny892.out] at ho19))
        have n0_ := Aside0.mk (Kd.R_elder' (by (with_reducible repeat (first | apply Kd.R_alloc | apply Kd.R_drewN | apply Kd.R_drew)); exact HO888.out) (Kd.R_base ho19) hb)
        have n1_ := Aside0.mk (Kd.R_lower (Kd.R_newB (Kd.R_new' ho19 (Kd.R_lt (by (with_reducible repeat (first | apply Kd.R_alloc | apply Kd.R_drewN | apply Kd.R_drew)); exact HO888.out))) (g := gb884) (o := .cells #[.int .i64 a1_0, .int .i64 a1_1, .string a1_2] 61 (0, 0)) (by (with_reducible repeat (first | refine blk_drewN ?_ _ | refine blk_drew ?_ | refine blk_alloc ?_ _)); exact BK884.out)) (below_size (by repeat (first | (with_reducible first | exact HB.out | apply below_alloc | apply pw_below_drewN | apply below_drew1 | refine below_set ?_ GE883.out | refine below_set ?_ GE884.out | refine below_set ?_ GE885.out) | exact HB.out))))
        have n2_ := Aside0.mk (blk_below (g := gb883) (o := .cells #[.slice A0_0 l0_0.length c0_0, .int .i64 a0_1, .slice A0_2 l0_2.length c0_2, .slice A0_3 l0_3.length c0_3, .slice A0_4 l0_4.length c0_4] 29 (0, 0)) (by (with_reducible repeat (first | refine blk_drewN ?_ _ | refine blk_drew ?_ | refine blk_alloc ?_ _)); exact BK883.out) hb)
        have n3_ := Aside0.mk (blk_below (g := gb884) (o := .cells #[.int .i64 a1_0, .int .i64 a1_1, .string a1_2] 61 (0, 0)) (by (with_reducible repeat (first | refine blk_drewN ?_ _ | refine blk_drew ?_ | refine blk_alloc ?_ _)); exact BK884.out) hb)
        have n4_ := Aside0.mk (blk_below (g := gb885) (o := .cells #[.slice A0_0 l0_0.length c0_0, .int .i64 a0_1, .slice A0_2 l0_2.length c0_2, .slice A0_3 l0_3.length c0_3, .slice A0_4 l0_4.length c0_4] 29 (0, 0)) (by (with_reducible repeat (first | refine blk_drewN ?_ _ | refine blk_drew ?_ | refine blk_alloc ?_ _)); exact BK885.out) hb)
        have n5_ := Aside0.mk (below_step (by repeat (first | (with_reducible first | exact HB.out | apply below_alloc | apply pw_below_drewN | apply below_drew1 | refine below_set ?_ GE883.out | refine below_set ?_ GE884.out | refine below_set ?_ GE885.out) | exact HB.out)) hb)
        clear HO888
        clear BK883
        clear BK884
        clear BK885
        clear HB
        have HO888 := n0_
        have HO894 := n1_
        have BK883 := n2_
        have BK884 := n3_
        have BK885 := n4_
        have HB := n5_
        clear n0_ n1_ n2_ n3_ n4_ n5_
        clear hb ho19
        refine hK.out _ _ ⟨(blk_cell BK883.out 0).trans rfl, (blk_cell BK883.out 1).trans rfl, (blk_cell BK883.out 2).trans rfl, (blk_cell BK883.out 3).trans rfl, (blk_cell BK883.out 4).trans rfl, (blk_cell BK884.out 0).trans rfl, (blk_cell BK884.out 1).trans rfl, (blk_cell BK884.out 2).trans rfl⟩ (fun hHeld => ?_)
        clear hK K
        refine norm_ (a' := ?_) ?_ ?_
        rotate_left
        · show Act.put _ (some 21) _ = _
          simp only [Act.put, List.setIfInBounds_toArray, List.set_cons_zero, List.set_cons_succ, i64_w, i32_w]
          rfl
        refine one_ (i := 3) (N := some 19) #[true, true, true, true, true, true, false, false, false] rfl rfl (one_of HT_.out (by kernel_rfl)) (by decide) (fun K hK => ?_)
        refine Kd.R_append_rows_step k75 (w0 := w) w.heap.size (by rfl) (.tmp 16) (.tmp 18) 27 61 (.agg #[(.int .i64 0), (.int .i64 0), (.string ⟨#[]⟩)]) 32 rfl Tryz.underlying27 info61 rfl (by decide) (by omega) v887 y886 l0_4 _ _ _ (fun k_ => some k_ ≠ (v893 : Value).ownBlock ∧ k_ ≠ gb884) (fun _ => False) rfl rfl ?aO ?aR (fun _ _ h => h) (fun _ h => h.elim) ?aF ?aB ?aS ?aL ?_
        (case aR => repeat (first | exact (Kd.C_below HR0_4.out HB.out) | (with_reducible refine Kd.C_alloc ?_ _) | (with_reducible refine Kd.C_drewN ?_ _) | (with_reducible refine Kd.C_drew ?_)))
        (case aB => exact (by repeat (first | (with_reducible first | exact HB.out | apply below_alloc | apply pw_below_drewN | apply below_drew1 | refine below_set ?_ GE883.out | refine below_set ?_ GE884.out | refine below_set ?_ GE885.out) | exact HB.out)))
        (case aF => exact (fun k_ hk => ⟨Kd.fresh' (Kd.R_lt (by (with_reducible repeat (first | apply Kd.R_alloc | apply Kd.R_drewN | apply Kd.R_drew)); exact HO894.out)) k_ hk, Kd.freshB (g := gb884) (o := .cells #[.int .i64 a1_0, .int .i64 a1_1, .string a1_2] 61 (0, 0)) (by (with_reducible repeat (first | refine blk_drewN ?_ _ | refine blk_drew ?_ | refine blk_alloc ?_ _)); exact BK884.out) k_ hk⟩))
        (case aO => exact (by (with_reducible repeat (first | apply Kd.R_alloc | apply Kd.R_drewN | apply Kd.R_drew)); exact Kd.R_mono HO888.out (fun _ hk => ⟨hk.2, hk.1.2⟩)))
        (case aS => exact (below_size (by repeat (first | (with_reducible first | exact HB.out | apply below_alloc | apply pw_below_drewN | apply below_drew1 | refine below_set ?_ GE883.out | refine below_set ?_ GE884.out | refine below_set ?_ GE885.out) | exact HB.out))))
        (case aL => have := LMc3.out; omega)
        intro v890 w20 ho hb hg hat
        rw [← Ny889.out] at ho
        have n0_ := Aside0.mk (blk_grown (g := gb883) (o := .cells #[.slice A0_0 l0_0.length c0_0, .int .i64 a0_1, .slice A0_2 l0_2.length c0_2, .slice A0_3 l0_3.length c0_3, .slice A0_4 l0_4.length c0_4] 29 (0, 0)) (by (with_reducible repeat (first | refine blk_drewN ?_ _ | refine blk_drew ?_ | refine blk_alloc ?_ _)); exact BK883.out) hg (Kd.R_ne HO888.out BK883.out (by decide)))
        have n1_ := Aside0.mk (blk_grown (g := gb884) (o := .cells #[.int .i64 a1_0, .int .i64 a1_1, .string a1_2] 61 (0, 0)) (by (with_reducible repeat (first | refine blk_drewN ?_ _ | refine blk_drew ?_ | refine blk_alloc ?_ _)); exact BK884.out) hg (Kd.R_away HO888.out (fun _ hk => hk.1.2)))
        have n2_ := Aside0.mk (blk_grown (g := gb885) (o := .cells #[.slice A0_0 l0_0.length c0_0, .int .i64 a0_1, .slice A0_2 l0_2.length c0_2, .slice A0_3 l0_3.length c0_3, .slice A0_4 l0_4.length c0_4] 29 (0, 0)) (by (with_reducible repeat (first | refine blk_drewN ?_ _ | refine blk_drew ?_ | refine blk_alloc ?_ _)); exact BK885.out) hg (Kd.R_ne HO888.out BK885.out (by decide)))
        have n3_ := Aside0.mk (Kd.R_after (ok := (fun k_ => k_ ≠ gb884)) (by (with_reducible repeat (first | apply Kd.R_alloc | apply Kd.R_drewN | apply Kd.R_drew)); exact Kd.R_mono HO894.out (fun _ hk => ⟨hk.2, hk.1.2⟩)) hg hat)
        have n4_ := Aside0.mk (hb)
        have n5_ := Aside0.mk (ho)
        clear BK883
        clear BK884
        clear BK885
        clear HO894
        clear HB
        clear HO888
        have BK883 := n0_
        have BK884 := n1_
        have BK885 := n2_
        have HO894 := n3_
        have HB := n4_
        have HO891 := n5_
        clear n0_ n1_ n2_ n3_ n4_ n5_
        clear ho hb hg hat
        refine hK.out _ _ ⟨(blk_cell BK883.out 0).trans rfl, (blk_cell BK883.out 1).trans rfl, (blk_cell BK883.out 2).trans rfl, (blk_cell BK883.out 3).trans rfl, (blk_cell BK883.out 4).trans rfl, (blk_cell BK884.out 0).trans rfl, (blk_cell BK884.out 1).trans rfl, (blk_cell BK884.out 2).trans rfl⟩ (fun hHeld => ?_)
        clear hK K
        refine norm_ (a' := ?_) ?_ ?_
        rotate_left
        · show Act.put _ (some 19) _ = _
          simp only [Act.put, List.setIfInBounds_toArray, List.set_cons_zero, List.set_cons_succ, i64_w, i32_w]
          rfl
        exact norm_ (by simp only [YthgfhgjlilmieaaGreatW.PrintLast.putAll, Act.put, List.setIfInBounds_toArray, List.set_cons_zero, List.set_cons_succ]) (hCont (v887, v890, v893) _ ⟨hHeld, (by (with_reducible repeat (first | apply Kd.R_alloc | apply Kd.R_drewN | apply Kd.R_drew)); exact HO891.out), (by (with_reducible repeat (first | apply Kd.R_alloc | apply Kd.R_drewN | apply Kd.R_drew)); exact Kd.R_mono HO894.out (fun _ hk => ⟨hk.2, hk.1⟩)), (by (with_reducible repeat (first | refine blk_drewN ?_ _ | refine blk_drew ?_ | refine blk_alloc ?_ _)); exact BK883.out), (by (with_reducible repeat (first | refine blk_drewN ?_ _ | refine blk_drew ?_ | refine blk_alloc ?_ _)); exact BK884.out), (by (with_reducible repeat (first | refine blk_drewN ?_ _ | refine blk_drew ?_ | refine blk_alloc ?_ _)); exact BK885.out), (by repeat (first | (with_reducible first | exact HB.out | apply below_alloc | apply pw_below_drewN | apply below_drew1 | refine below_set ?_ GE883.out | refine below_set ?_ GE884.out | refine below_set ?_ GE885.out) | exact HB.out))⟩)
    · skip
      refine Kd.R_lit_step k75 _ 61 ?hg (N := 21) ?hd (xs := ([(⟨a1_0, a1_1, a1_2⟩ : S75)] : List (S75))) (inner := [.int .i64 a1_0, .int .i64 a1_1, .string a1_2]) (ok := fun _ => True) (okp := fun _ => True) ?hr ?hp (fun _ hk => hk) trivial (Below.refl _ _) (Nat.le_refl _) (by simp) ?_; (case hd => rfl); (case hg => rfl); (case hr => first | (go_simp; done) | (go_simp; rfl)); (case hp => exact (Reps.c3 (show Kd.M k75 _ _ _ (⟨a1_0, a1_1, a1_2⟩ : S75) [.int .i64 a1_0, .int .i64 a1_1, .string a1_2] from (k75_mkM _ _ _ (⟨a1_0, a1_1, a1_2⟩ : S75) )) (Reps.none _ _)))
      intro v893 w16 ho17 hb hg_ hnew_
      clear hg_ hnew_
      (first | rw [← Ny892.out] at ho17 | (simp only [Int.reduceToNat] at ho17; rw [← Ny892.out] at ho17))
      have n0_ := Aside0.mk (Kd.R_lower (Kd.R_newB ho17 (g := gb884) (o := .cells #[.int .i64 a1_0, .int .i64 a1_1, .string a1_2] 61 (0, 0)) (by (with_reducible repeat (first | refine blk_drewN ?_ _ | refine blk_drew ?_ | refine blk_alloc ?_ _)); exact BK884.out)) (below_size (by repeat (first | (with_reducible first | exact HB.out | apply below_alloc | apply pw_below_drewN | apply below_drew1 | refine below_set ?_ GE883.out | refine below_set ?_ GE884.out | refine below_set ?_ GE885.out) | exact HB.out))))
      have n1_ := Aside0.mk (blk_below (g := gb883) (o := .cells #[.slice A0_0 l0_0.length c0_0, .int .i64 a0_1, .slice A0_2 l0_2.length c0_2, .slice A0_3 l0_3.length c0_3, .slice A0_4 l0_4.length c0_4] 29 (0, 0)) (by (with_reducible repeat (first | refine blk_drewN ?_ _ | refine blk_drew ?_ | refine blk_alloc ?_ _)); exact BK883.out) hb)
      have n2_ := Aside0.mk (blk_below (g := gb884) (o := .cells #[.int .i64 a1_0, .int .i64 a1_1, .string a1_2] 61 (0, 0)) (by (with_reducible repeat (first | refine blk_drewN ?_ _ | refine blk_drew ?_ | refine blk_alloc ?_ _)); exact BK884.out) hb)
      have n3_ := Aside0.mk (blk_below (g := gb885) (o := .cells #[.slice A0_0 l0_0.length c0_0, .int .i64 a0_1, .slice A0_2 l0_2.length c0_2, .slice A0_3 l0_3.length c0_3, .slice A0_4 l0_4.length c0_4] 29 (0, 0)) (by (with_reducible repeat (first | refine blk_drewN ?_ _ | refine blk_drew ?_ | refine blk_alloc ?_ _)); exact BK885.out) hb)
      have n4_ := Aside0.mk (below_step (by repeat (first | (with_reducible first | exact HB.out | apply below_alloc | apply pw_below_drewN | apply below_drew1 | refine below_set ?_ GE883.out | refine below_set ?_ GE884.out | refine below_set ?_ GE885.out) | exact HB.out)) hb)
      clear BK883
      clear BK884
      clear BK885
      clear HB
      have HO894 := n0_
      have BK883 := n1_
      have BK884 := n2_
      have BK885 := n3_
      have HB := n4_
      clear n0_ n1_ n2_ n3_ n4_
      clear hb ho17
      refine hK.out _ _ ⟨(blk_cell BK883.out 0).trans rfl, (blk_cell BK883.out 1).trans rfl, (blk_cell BK883.out 2).trans rfl, (blk_cell BK883.out 3).trans rfl, (blk_cell BK883.out 4).trans rfl, (blk_cell BK884.out 0).trans rfl, (blk_cell BK884.out 1).trans rfl, (blk_cell BK884.out 2).trans rfl⟩ (fun hHeld => ?_)
      clear hK K
      refine norm_ (a' := ?_) ?_ ?_
      rotate_left
      · show Act.put _ (some 21) _ = _
        simp only [Act.put, List.setIfInBounds_toArray, List.set_cons_zero, List.set_cons_succ, i64_w, i32_w]
        rfl
      refine one_ (i := 0) (N := some 16) #[true, true, true, false, true, true, false, false, false] rfl rfl (one_of HT_.out (by kernel_rfl)) (by decide) (fun K hK => ?_)
      refine Kd.R_lit_step k75 _ 61 ?hg (N := 16) ?hd (xs := ([] : List (S75))) (inner := []) (ok := fun _ => True) (okp := fun _ => True) ?hr ?hp (fun _ hk => hk) trivial (Below.refl _ _) (Nat.le_refl _) (by simp) ?_; (case hd => rfl); (case hg => rfl); (case hr => first | (go_simp; done) | (go_simp; rfl)); (case hp => exact (Reps.none _ _))
      intro v887 w18 ho19 hb hg_ hnew_
      clear hg_ hnew_
      (first | rw [← Ny886.out] at ho19 | (simp only [Int.reduceToNat] at ho19; rw [← Ny886.out] at ho19))
      have n0_ := Aside0.mk (Kd.R_elder' (by (with_reducible repeat (first | apply Kd.R_alloc | apply Kd.R_drewN | apply Kd.R_drew)); exact HO894.out) (Kd.R_base ho19) hb)
      have n1_ := Aside0.mk (Kd.R_lower (Kd.R_newB (Kd.R_new' ho19 (Kd.R_lt (by (with_reducible repeat (first | apply Kd.R_alloc | apply Kd.R_drewN | apply Kd.R_drew)); exact HO894.out))) (g := gb884) (o := .cells #[.int .i64 a1_0, .int .i64 a1_1, .string a1_2] 61 (0, 0)) (by (with_reducible repeat (first | refine blk_drewN ?_ _ | refine blk_drew ?_ | refine blk_alloc ?_ _)); exact BK884.out)) (below_size (by repeat (first | (with_reducible first | exact HB.out | apply below_alloc | apply pw_below_drewN | apply below_drew1 | refine below_set ?_ GE883.out | refine below_set ?_ GE884.out | refine below_set ?_ GE885.out) | exact HB.out))))
      have n2_ := Aside0.mk (blk_below (g := gb883) (o := .cells #[.slice A0_0 l0_0.length c0_0, .int .i64 a0_1, .slice A0_2 l0_2.length c0_2, .slice A0_3 l0_3.length c0_3, .slice A0_4 l0_4.length c0_4] 29 (0, 0)) (by (with_reducible repeat (first | refine blk_drewN ?_ _ | refine blk_drew ?_ | refine blk_alloc ?_ _)); exact BK883.out) hb)
      have n3_ := Aside0.mk (blk_below (g := gb884) (o := .cells #[.int .i64 a1_0, .int .i64 a1_1, .string a1_2] 61 (0, 0)) (by (with_reducible repeat (first | refine blk_drewN ?_ _ | refine blk_drew ?_ | refine blk_alloc ?_ _)); exact BK884.out) hb)
      have n4_ := Aside0.mk (blk_below (g := gb885) (o := .cells #[.slice A0_0 l0_0.length c0_0, .int .i64 a0_1, .slice A0_2 l0_2.length c0_2, .slice A0_3 l0_3.length c0_3, .slice A0_4 l0_4.length c0_4] 29 (0, 0)) (by (with_reducible repeat (first | refine blk_drewN ?_ _ | refine blk_drew ?_ | refine blk_alloc ?_ _)); exact BK885.out) hb)
      have n5_ := Aside0.mk (below_step (by repeat (first | (with_reducible first | exact HB.out | apply below_alloc | apply pw_below_drewN | apply below_drew1 | refine below_set ?_ GE883.out | refine below_set ?_ GE884.out | refine below_set ?_ GE885.out) | exact HB.out)) hb)
      clear HO894
      clear BK883
      clear BK884
      clear BK885
      clear HB
      have HO894 := n0_
      have HO888 := n1_
      have BK883 := n2_
      have BK884 := n3_
      have BK885 := n4_
      have HB := n5_
      clear n0_ n1_ n2_ n3_ n4_ n5_
      clear hb ho19
      refine hK.out _ _ ⟨(blk_cell BK883.out 0).trans rfl, (blk_cell BK883.out 1).trans rfl, (blk_cell BK883.out 2).trans rfl, (blk_cell BK883.out 3).trans rfl, (blk_cell BK883.out 4).trans rfl, (blk_cell BK884.out 0).trans rfl, (blk_cell BK884.out 1).trans rfl, (blk_cell BK884.out 2).trans rfl⟩ (fun hHeld => ?_)
      clear hK K
      refine norm_ (a' := ?_) ?_ ?_
      rotate_left
      · show Act.put _ (some 16) _ = _
        simp only [Act.put, List.setIfInBounds_toArray, List.set_cons_zero, List.set_cons_succ, i64_w, i32_w]
        rfl
      refine one_ (i := 3) (N := some 19) #[true, true, true, true, true, true, false, false, false] rfl rfl (one_of HT_.out (by kernel_rfl)) (by decide) (fun K hK => ?_)
      refine Kd.R_append_rows_step k75 (w0 := w) w.heap.size (by rfl) (.tmp 16) (.tmp 18) 27 61 (.agg #[(.int .i64 0), (.int .i64 0), (.string ⟨#[]⟩)]) 32 rfl Tryz.underlying27 info61 rfl (by decide) (by omega) v887 y886 l0_4 _ _ _ (fun k_ => some k_ ≠ (v893 : Value).ownBlock ∧ k_ ≠ gb884) (fun _ => False) rfl rfl ?aO ?aR (fun _ _ h => h) (fun _ h => h.elim) ?aF ?aB ?aS ?aL ?_
      (case aR => repeat (first | exact (Kd.C_below HR0_4.out HB.out) | (with_reducible refine Kd.C_alloc ?_ _) | (with_reducible refine Kd.C_drewN ?_ _) | (with_reducible refine Kd.C_drew ?_)))
      (case aB => exact (by repeat (first | (with_reducible first | exact HB.out | apply below_alloc | apply pw_below_drewN | apply below_drew1 | refine below_set ?_ GE883.out | refine below_set ?_ GE884.out | refine below_set ?_ GE885.out) | exact HB.out)))
      (case aF => exact (fun k_ hk => ⟨Kd.fresh' (Kd.R_lt (by (with_reducible repeat (first | apply Kd.R_alloc | apply Kd.R_drewN | apply Kd.R_drew)); exact HO894.out)) k_ hk, Kd.freshB (g := gb884) (o := .cells #[.int .i64 a1_0, .int .i64 a1_1, .string a1_2] 61 (0, 0)) (by (with_reducible repeat (first | refine blk_drewN ?_ _ | refine blk_drew ?_ | refine blk_alloc ?_ _)); exact BK884.out) k_ hk⟩))
      (case aO => exact (by (with_reducible repeat (first | apply Kd.R_alloc | apply Kd.R_drewN | apply Kd.R_drew)); exact Kd.R_mono HO888.out (fun _ hk => ⟨hk.1.2, hk.2⟩)))
      (case aS => exact (below_size (by repeat (first | (with_reducible first | exact HB.out | apply below_alloc | apply pw_below_drewN | apply below_drew1 | refine below_set ?_ GE883.out | refine below_set ?_ GE884.out | refine below_set ?_ GE885.out) | exact HB.out))))
      (case aL => have := LMc3.out; omega)
      intro v890 w20 ho hb hg hat
      rw [← Ny889.out] at ho
      have n0_ := Aside0.mk (blk_grown (g := gb883) (o := .cells #[.slice A0_0 l0_0.length c0_0, .int .i64 a0_1, .slice A0_2 l0_2.length c0_2, .slice A0_3 l0_3.length c0_3, .slice A0_4 l0_4.length c0_4] 29 (0, 0)) (by (with_reducible repeat (first | refine blk_drewN ?_ _ | refine blk_drew ?_ | refine blk_alloc ?_ _)); exact BK883.out) hg (Kd.R_ne HO888.out BK883.out (by decide)))
      have n1_ := Aside0.mk (blk_grown (g := gb884) (o := .cells #[.int .i64 a1_0, .int .i64 a1_1, .string a1_2] 61 (0, 0)) (by (with_reducible repeat (first | refine blk_drewN ?_ _ | refine blk_drew ?_ | refine blk_alloc ?_ _)); exact BK884.out) hg (Kd.R_away HO888.out (fun _ hk => hk.2)))
      have n2_ := Aside0.mk (blk_grown (g := gb885) (o := .cells #[.slice A0_0 l0_0.length c0_0, .int .i64 a0_1, .slice A0_2 l0_2.length c0_2, .slice A0_3 l0_3.length c0_3, .slice A0_4 l0_4.length c0_4] 29 (0, 0)) (by (with_reducible repeat (first | refine blk_drewN ?_ _ | refine blk_drew ?_ | refine blk_alloc ?_ _)); exact BK885.out) hg (Kd.R_ne HO888.out BK885.out (by decide)))
      have n3_ := Aside0.mk (Kd.R_after (ok := (fun k_ => k_ ≠ gb884)) (by (with_reducible repeat (first | apply Kd.R_alloc | apply Kd.R_drewN | apply Kd.R_drew)); exact Kd.R_mono HO894.out (fun _ hk => ⟨hk.1.2, hk.2⟩)) hg hat)
      have n4_ := Aside0.mk (hb)
      have n5_ := Aside0.mk (ho)
      clear BK883
      clear BK884
      clear BK885
      clear HO894
      clear HB
      clear HO888
      have BK883 := n0_
      have BK884 := n1_
      have BK885 := n2_
      have HO894 := n3_
      have HB := n4_
      have HO891 := n5_
      clear n0_ n1_ n2_ n3_ n4_ n5_
      clear ho hb hg hat
      refine hK.out _ _ ⟨(blk_cell BK883.out 0).trans rfl, (blk_cell BK883.out 1).trans rfl, (blk_cell BK883.out 2).trans rfl, (blk_cell BK883.out 3).trans rfl, (blk_cell BK883.out 4).trans rfl, (blk_cell BK884.out 0).trans rfl, (blk_cell BK884.out 1).trans rfl, (blk_cell BK884.out 2).trans rfl⟩ (fun hHeld => ?_)
      clear hK K
      refine norm_ (a' := ?_) ?_ ?_
      rotate_left
      · show Act.put _ (some 19) _ = _
        simp only [Act.put, List.setIfInBounds_toArray, List.set_cons_zero, List.set_cons_succ, i64_w, i32_w]
        rfl
      exact norm_ (by simp only [YthgfhgjlilmieaaGreatW.PrintLast.putAll, Act.put, List.setIfInBounds_toArray, List.set_cons_zero, List.set_cons_succ]) (hCont (v887, v890, v893) _ ⟨hHeld, (by (with_reducible repeat (first | apply Kd.R_alloc | apply Kd.R_drewN | apply Kd.R_drew)); exact HO891.out), (by (with_reducible repeat (first | apply Kd.R_alloc | apply Kd.R_drewN | apply Kd.R_drew)); exact Kd.R_mono HO894.out (fun _ hk => ⟨hk.2, hk.1⟩)), (by (with_reducible repeat (first | refine blk_drewN ?_ _ | refine blk_drew ?_ | refine blk_alloc ?_ _)); exact BK883.out), (by (with_reducible repeat (first | refine blk_drewN ?_ _ | refine blk_drew ?_ | refine blk_alloc ?_ _)); exact BK884.out), (by (with_reducible repeat (first | refine blk_drewN ?_ _ | refine blk_drew ?_ | refine blk_alloc ?_ _)); exact BK885.out), (by repeat (first | (with_reducible first | exact HB.out | apply below_alloc | apply pw_below_drewN | apply below_drew1 | refine below_set ?_ GE883.out | refine below_set ?_ GE884.out | refine below_set ?_ GE885.out) | exact HB.out))⟩)
  rintro ⟨v887, v890, v893⟩ w21 ⟨hS_, h0_, h1_, h2_, h3_, h4_, h5_⟩
  have n0_ : Aside0 (Kd.R k75 61 w21 w.heap.size (fun k_ => some k_ ≠ (v893 : Value).ownBlock ∧ k_ ≠ gb884) v890 y889) := ⟨h0_⟩
  have n1_ : Aside0 (Kd.R k75 61 w21 w.heap.size (fun k_ => some k_ ≠ (v890 : Value).ownBlock ∧ k_ ≠ gb884) v893 y892) := ⟨h1_⟩
  have n2_ : Aside0 (w21.heap[gb883]? = some (.cells #[.slice A0_0 l0_0.length c0_0, .int .i64 a0_1, .slice A0_2 l0_2.length c0_2, .slice A0_3 l0_3.length c0_3, .slice A0_4 l0_4.length c0_4] 29 (0, 0))) := ⟨h2_⟩
  have n3_ : Aside0 (w21.heap[gb884]? = some (.cells #[.int .i64 a1_0, .int .i64 a1_1, .string a1_2] 61 (0, 0))) := ⟨h3_⟩
  have n4_ : Aside0 (w21.heap[gb885]? = some (.cells #[.slice A0_0 l0_0.length c0_0, .int .i64 a0_1, .slice A0_2 l0_2.length c0_2, .slice A0_3 l0_3.length c0_3, .slice A0_4 l0_4.length c0_4] 29 (0, 0))) := ⟨h4_⟩
  have n5_ : Aside0 (Below w.heap.size w w21) := ⟨h5_⟩
  clear BK883
  clear BK884
  clear BK885
  clear HB
  clear h0_ h1_ h2_ h3_ h4_ h5_
  have HO891 := n0_
  have HO894 := n1_
  have BK883 := n2_
  have BK884 := n3_
  have BK885 := n4_
  have HB := n5_
  clear n0_ n1_ n2_ n3_ n4_ n5_
  have hHeld : w21.cell? ⟨gb883, 0, none⟩ = some (.slice A0_0 l0_0.length c0_0) ∧ w21.cell? ⟨gb883, 1, none⟩ = some (.int .i64 a0_1) ∧ w21.cell? ⟨gb883, 2, none⟩ = some (.slice A0_2 l0_2.length c0_2) ∧ w21.cell? ⟨gb883, 3, none⟩ = some (.slice A0_3 l0_3.length c0_3) ∧ w21.cell? ⟨gb883, 4, none⟩ = some (.slice A0_4 l0_4.length c0_4) ∧ w21.cell? ⟨gb884, 0, none⟩ = some (.int .i64 a1_0) ∧ w21.cell? ⟨gb884, 1, none⟩ = some (.int .i64 a1_1) ∧ w21.cell? ⟨gb884, 2, none⟩ = some (.string a1_2) := hS_
  obtain ⟨Ao23, co23, eo23⟩ := Kd.R_slice HO894.out
  (first | subst eo23 | (injection eo23 with f1_ f2_ f3_; have f4_ := f1_.symm; have f5_ := f3_.symm; clear f1_ f2_ f3_; subst f4_; subst f5_))
  refine norm_ (a' := ?_) ?_ ?_
  rotate_left
  · simp only [YthgfhgjlilmieaaGreatW.PrintLast.putAll, Act.put, List.setIfInBounds_toArray, List.set_cons_zero, List.set_cons_succ]
    rfl
  refine one_ (i := 6) (N := some 22) #[true, true, true, true, true, true, true, false, false] rfl rfl (one_of HT_.out (by kernel_rfl)) (by decide) (fun K hK => ?_)
  refine Kd.R_append_rows_step k75 (w0 := w) w.heap.size (by rfl) (.tmp 19) (.tmp 21) 27 61 (.agg #[(.int .i64 0), (.int .i64 0), (.string ⟨#[]⟩)]) 32 rfl Tryz.underlying27 info61 rfl (by decide) (by omega) v890 y889 y892 _ _ _ (fun k_ => some k_ ≠ (.slice Ao23 y892.length co23 : Value).ownBlock ∧ k_ ≠ gb884) (fun _ => False) rfl rfl ?aO ?aR (fun _ _ h => h) (fun _ h => h.elim) ?aF ?aB ?aS ?aL ?_
  (case aR => repeat (first | exact (Kd.R_reads' HO894.out).2.2 | (with_reducible refine Kd.C_alloc ?_ _) | (with_reducible refine Kd.C_drewN ?_ _) | (with_reducible refine Kd.C_drew ?_)))
  (case aB => exact (by repeat (first | (with_reducible first | exact HB.out | apply below_alloc | apply pw_below_drewN | apply below_drew1 | refine below_set ?_ GE883.out | refine below_set ?_ GE884.out | refine below_set ?_ GE885.out) | exact HB.out)))
  (case aF => exact (fun k_ hk => ⟨Kd.fresh' (Kd.R_lt (by (with_reducible repeat (first | apply Kd.R_alloc | apply Kd.R_drewN | apply Kd.R_drew)); exact HO894.out)) k_ hk, Kd.freshB (g := gb884) (o := .cells #[.int .i64 a1_0, .int .i64 a1_1, .string a1_2] 61 (0, 0)) (by (with_reducible repeat (first | refine blk_drewN ?_ _ | refine blk_drew ?_ | refine blk_alloc ?_ _)); exact BK884.out) k_ hk⟩))
  (case aO => exact (by (with_reducible repeat (first | apply Kd.R_alloc | apply Kd.R_drewN | apply Kd.R_drew)); exact HO891.out))
  (case aS => exact (below_size (by repeat (first | (with_reducible first | exact HB.out | apply below_alloc | apply pw_below_drewN | apply below_drew1 | refine below_set ?_ GE883.out | refine below_set ?_ GE884.out | refine below_set ?_ GE885.out) | exact HB.out))))
  (case aL => have := LMc4.out; omega)
  intro v896 w22 ho hb hg hat
  rw [← Ny895.out] at ho
  have n0_ := Aside0.mk (blk_grown (g := gb883) (o := .cells #[.slice A0_0 l0_0.length c0_0, .int .i64 a0_1, .slice A0_2 l0_2.length c0_2, .slice A0_3 l0_3.length c0_3, .slice A0_4 l0_4.length c0_4] 29 (0, 0)) (by (with_reducible repeat (first | refine blk_drewN ?_ _ | refine blk_drew ?_ | refine blk_alloc ?_ _)); exact BK883.out) hg (Kd.R_ne HO891.out BK883.out (by decide)))
  have n1_ := Aside0.mk (blk_grown (g := gb884) (o := .cells #[.int .i64 a1_0, .int .i64 a1_1, .string a1_2] 61 (0, 0)) (by (with_reducible repeat (first | refine blk_drewN ?_ _ | refine blk_drew ?_ | refine blk_alloc ?_ _)); exact BK884.out) hg (Kd.R_away HO891.out (fun _ hk => hk.2)))
  have n2_ := Aside0.mk (blk_grown (g := gb885) (o := .cells #[.slice A0_0 l0_0.length c0_0, .int .i64 a0_1, .slice A0_2 l0_2.length c0_2, .slice A0_3 l0_3.length c0_3, .slice A0_4 l0_4.length c0_4] 29 (0, 0)) (by (with_reducible repeat (first | refine blk_drewN ?_ _ | refine blk_drew ?_ | refine blk_alloc ?_ _)); exact BK885.out) hg (Kd.R_ne HO891.out BK885.out (by decide)))
  have n3_ := Aside0.mk (Kd.R_after (ok := (fun k_ => k_ ≠ gb884)) (by (with_reducible repeat (first | apply Kd.R_alloc | apply Kd.R_drewN | apply Kd.R_drew)); exact Kd.R_mono HO894.out (fun _ hk => ⟨hk.2, hk.1⟩)) hg hat)
  have n4_ := Aside0.mk (hb)
  have n5_ := Aside0.mk (ho)
  clear BK883
  clear BK884
  clear BK885
  clear HO894
  clear HB
  clear HO891
  have BK883 := n0_
  have BK884 := n1_
  have BK885 := n2_
  have HO894 := n3_
  have HB := n4_
  have HO897 := n5_
  clear n0_ n1_ n2_ n3_ n4_ n5_
  clear ho hb hg hat
  obtain ⟨Ao24, co24, eo24⟩ := Kd.R_slice HO897.out
  (first | subst eo24 | (injection eo24 with f1_ f2_ f3_; have f4_ := f1_.symm; have f5_ := f3_.symm; clear f1_ f2_ f3_; subst f4_; subst f5_))
  refine hK.out _ _ ⟨(blk_cell BK883.out 0).trans rfl, (blk_cell BK883.out 1).trans rfl, (blk_cell BK883.out 2).trans rfl, (blk_cell BK883.out 3).trans rfl, (blk_cell BK883.out 4).trans rfl, (blk_cell BK884.out 0).trans rfl, (blk_cell BK884.out 1).trans rfl, (blk_cell BK884.out 2).trans rfl⟩ (fun hHeld => ?_)
  clear hK K
  refine norm_ (a' := ?_) ?_ ?_
  rotate_left
  · show Act.put _ (some 22) _ = _
    simp only [Act.put, List.setIfInBounds_toArray, List.set_cons_zero, List.set_cons_succ, i64_w, i32_w]
    rfl
  refine pure_ (i := 7) (N := some 23) (v := ?_) (a' := ?_) #[true, true, true, true, true, true, true, true, false] rfl rfl (any_of HT_.out (by kernel_rfl)) (fun _ _ _ h => h) (Or.inl ⟨by rfl, ?_⟩) ?_ ?_
  rotate_left
  · intro w'
    go_simp
    with_reducible rfl
  rotate_left
  · simp only [Act.put, List.setIfInBounds_toArray, List.set_cons_zero, List.set_cons_succ, i64_w, i32_w]
    rfl
  refine one_ (i := 8) (N := none) #[true, true, true, true, true, true, true, true, true] rfl rfl (one_of HT_.out (by kernel_rfl)) (by decide) (fun K hK => ?_)
  have hs25 : w22.cell? ⟨gb885, 4, none⟩ = some (.slice A0_4 l0_4.length c0_4) := (blk_cell BK885.out 4).trans rfl
  have hfs25 := blk_frozen BK885.out 4
  have hns25_0 := NB883_885.out
  have hns25_1 := NB884_885.out
  have hms25_0 := NB885_883.out
  have hms25_1 := NB885_884.out
  refine skip_ (w1 := ?_) (by rfl) rfl ?_ ?_
  rotate_left
  · go_simp
    rfl
  refine hK.out _ _ ⟨((cell_far (p := ⟨gb885, _, none⟩) NB883_885.out _).trans (hHeld.1)), ((cell_far (p := ⟨gb885, _, none⟩) NB883_885.out _).trans (hHeld.2.1)), ((cell_far (p := ⟨gb885, _, none⟩) NB883_885.out _).trans (hHeld.2.2.1)), ((cell_far (p := ⟨gb885, _, none⟩) NB883_885.out _).trans (hHeld.2.2.2.1)), ((cell_far (p := ⟨gb885, _, none⟩) NB883_885.out _).trans (hHeld.2.2.2.2.1)), ((cell_far (p := ⟨gb885, _, none⟩) NB884_885.out _).trans (hHeld.2.2.2.2.2.1)), ((cell_far (p := ⟨gb885, _, none⟩) NB884_885.out _).trans (hHeld.2.2.2.2.2.2.1)), ((cell_far (p := ⟨gb885, _, none⟩) NB884_885.out _).trans (hHeld.2.2.2.2.2.2.2))⟩ (fun hHeld => ?_)
  clear hK K
  refine done_ (done_of HT_.out (by kernel_rfl)) ?_
  have q0 := Kd.R_far (p := ⟨gb885, 4, none⟩) (Kd.R_types HO897.out BK885.out (by decide)) (fun _ hk => hk.2) (.slice Ao24 y895.length co24)
  have hB0 : Below w.heap.size w (w22.setCell ⟨gb885, 4, none⟩ (.slice Ao24 y895.length co24)) := below_set HB.out GE885.out
  have r1 := blk_far (p := ⟨gb885, 4, none⟩) BK883.out NB883_885.out (.slice Ao24 y895.length co24)
  have r2 : (w22.setCell ⟨gb885, 4, none⟩ (.slice Ao24 y895.length co24)).heap[gb885]? = some (.cells #[.slice A0_0 l0_0.length c0_0, .int .i64 a0_1, .slice A0_2 l0_2.length c0_2, .slice A0_3 l0_3.length c0_3, .slice Ao24 y895.length co24] 29 (0, 0)) := blk_put BK885.out 4 _ rfl
  obtain ⟨W0, hW0⟩ : ∃ W0, W0 = w22.setCell ⟨gb885, 4, none⟩ (.slice Ao24 y895.length co24) := ⟨_, rfl⟩
  rw [← hW0] at q0 hB0 r1 r2 ⊢
  obtain ⟨Aq, cq, eq, lq, qq⟩ := Kd.R_reads q0
  cases eq
  have hLX := HLX.out
  have hYX := HYX.out
  rw [← hYX] at hLX
  have hx : ∃ x : Lg, x = ⟨l0_0, a0_1, l0_2, l0_3, y895⟩ ∧ (∀ W, Below w.heap.size w W → Kd.C k75 W Ao24 y895.length y895 → LogAt W ⟨A0_0, A0_2, A0_3, Ao24, c0_0, c0_2, c0_3, co24⟩ x) ∧ (x = moreRec ⟨l0_0, a0_1, l0_2, l0_3, l0_4⟩ ⟨a1_0, a1_1, a1_2⟩) := ⟨⟨l0_0, a0_1, l0_2, l0_3, y895⟩, rfl, fun W h hc => hLX W Ao24 co24 h hc lq, by rw [hYX]; rfl⟩
  have hz : ∀ W, Below W0.heap.size W0 W → LogAt W ⟨A0_0, A0_2, A0_3, A0_4, c0_0, c0_2, c0_3, c0_4⟩ ⟨l0_0, a0_1, l0_2, l0_3, l0_4⟩ := fun W h => (HLB.out W0 hB0).below h
  have hzx : ∀ W, Below W0.heap.size W0 W → LogAt W ⟨A0_0, A0_2, A0_3, Ao24, c0_0, c0_2, c0_3, co24⟩ ⟨l0_0, a0_1, l0_2, l0_3, y895⟩ := fun W h => (hLX W0 Ao24 co24 hB0 qq lq).below h
  have HMF : Aside0 (logE ⟨l0_0, a0_1, l0_2, l0_3, l0_4⟩ = 0 → logE ⟨l0_0, a0_1, l0_2, l0_3, y895⟩ = 0 → MF ⟨l0_0, a0_1, l0_2, l0_3, l0_4⟩ ⟨l0_0, a0_1, l0_2, l0_3, y895⟩) := ⟨fun h1 h2 => by rw [hYX] at h2 ⊢; exact mf_of h1 h2⟩
  have HYL : Aside0 (y895.length = l0_4.length + 1) := ⟨by rw [hYX]; simp⟩
  have HRD := Aside0.mk (fun W h => ready34_any ⟨A0_0, A0_2, A0_3, A0_4, c0_0, c0_2, c0_3, c0_4⟩ ⟨l0_0, a0_1, l0_2, l0_3, l0_4⟩ W (hz W h))
  have HRX := Aside0.mk (fun W h => ready34_any ⟨A0_0, A0_2, A0_3, Ao24, c0_0, c0_2, c0_3, co24⟩ ⟨l0_0, a0_1, l0_2, l0_3, y895⟩ W (hzx W h))
  have HLG := Aside0.mk (fun W h (hf : Fits ⟨l0_0, a0_1, l0_2, l0_3, l0_4⟩) => log20_any ⟨A0_0, A0_2, A0_3, A0_4, c0_0, c0_2, c0_3, c0_4⟩ ⟨l0_0, a0_1, l0_2, l0_3, l0_4⟩ W (hz W h) hf)
  have HLGX := Aside0.mk (fun W h (hf : Fits ⟨l0_0, a0_1, l0_2, l0_3, y895⟩) => log20_any ⟨A0_0, A0_2, A0_3, Ao24, c0_0, c0_2, c0_3, co24⟩ ⟨l0_0, a0_1, l0_2, l0_3, y895⟩ W (hzx W h) hf)
  have HAW := Aside0.mk awake_any
  have HCE := Aside0.mk (logCellsAt ⟨A0_0, A0_2, A0_3, A0_4, c0_0, c0_2, c0_3, c0_4⟩ ⟨l0_0, a0_1, l0_2, l0_3, l0_4⟩ (b := gb883) (N := W0.heap.size) (W0 := W0) r1 (blk_lt r1))
  have HCX := Aside0.mk (logCellsAt ⟨A0_0, A0_2, A0_3, Ao24, c0_0, c0_2, c0_3, co24⟩ ⟨l0_0, a0_1, l0_2, l0_3, y895⟩ (b := gb885) (N := W0.heap.size) (W0 := W0) r2 (blk_lt r2))
  have HTW := Aside0.mk (fun W (h : Below W0.heap.size W0 W) => hB0.trans (h.mono hB0.size))
  have BW := Aside0.mk (Below.refl W0.heap.size W0)
  have HN : Aside0 (W0.heap.size ≤ W0.heap.size) := ⟨Nat.le_refl _⟩
  clear q0 hB0 r1 r2 hW0 lq qq hLX hYX hx hz hzx HLX HLB HYX BK883 BK884 BK885 HO894 HO897 HB HR0_0 HR0_2 HR0_3 HR0_4 HC0_4 Ny886 Ny889 Ny892 Ny895 LMc3 LMc4
  dsimp only [logV] at HRD HRX HLG HLGX HCE HCX
  obtain ⟨b0, b1, b2, b3, b4⟩ := HCE.out _ BW.out
  obtain ⟨d0, d1, d2, d3, d4⟩ := HCX.out _ BW.out
  go_wp2_with (fail)
  refine (HRD.out _ BW.out).mono ?_
  rintro e w1_ ⟨b, rfl, hq, hb⟩
  have BW := Aside0.mk (step_b BW.out HN.out hb)
  clear b0 b1 b2 b3 b4 d0 d1 d2 d3 d4
  obtain ⟨b0, b1, b2, b3, b4⟩ := HCE.out _ BW.out
  obtain ⟨d0, d1, d2, d3, d4⟩ := HCX.out _ BW.out
  clear hb
  cases b with
  | false =>
    go_wp2_with (fail)
    refine (HAW.out _).mono ?_
    rintro e w2_ ⟨rfl, hb⟩
    have BW := Aside0.mk (step_b BW.out HN.out hb)
    clear b0 b1 b2 b3 b4 d0 d1 d2 d3 d4
    obtain ⟨b0, b1, b2, b3, b4⟩ := HCE.out _ BW.out
    obtain ⟨d0, d1, d2, d3, d4⟩ := HCX.out _ BW.out
    clear hb
    go_wp2
    go_ret
    exact ⟨rfl, HTW.out _ BW.out⟩
  | true =>
    have hE := (hq rfl).2
    have hf := (hq rfl).1.fits
    clear hq
    go_wp2_with (fail)
    refine (HRX.out _ BW.out).mono ?_
    rintro e w2_ ⟨b, rfl, hq, hb⟩
    have BW := Aside0.mk (step_b BW.out HN.out hb)
    clear b0 b1 b2 b3 b4 d0 d1 d2 d3 d4
    obtain ⟨b0, b1, b2, b3, b4⟩ := HCE.out _ BW.out
    obtain ⟨d0, d1, d2, d3, d4⟩ := HCX.out _ BW.out
    clear hb
    cases b with
    | false =>
      go_wp2_with (fail)
      refine (HAW.out _).mono ?_
      rintro e w3_ ⟨rfl, hb⟩
      have BW := Aside0.mk (step_b BW.out HN.out hb)
      clear b0 b1 b2 b3 b4 d0 d1 d2 d3 d4
      obtain ⟨b0, b1, b2, b3, b4⟩ := HCE.out _ BW.out
      obtain ⟨d0, d1, d2, d3, d4⟩ := HCX.out _ BW.out
      clear hb
      go_wp2
      go_ret
      exact ⟨rfl, HTW.out _ BW.out⟩
    | true =>
      have hEx := (hq rfl).2
      have hfx := (hq rfl).1.fits
      clear hq
      obtain ⟨m1, m2, m3, m4, m5⟩ := HMF.out hE hEx
      have h6 : l0_4.length ≤ 6 := (sound_of hE).rlen
      have HLV := Aside0.mk (fun a' W (h : LogAt W a' ⟨l0_0, a0_1, l0_2, l0_3, l0_4⟩) => (leave32_at a' ⟨l0_0, a0_1, l0_2, l0_3, l0_4⟩ W h).mono fun e w' h => lisP_of rfl (show leaveE ⟨l0_0, a0_1, l0_2, l0_3, l0_4⟩ = 0 from hE) h)
      have HLVX := Aside0.mk (fun a' W (h : LogAt W a' ⟨l0_0, a0_1, l0_2, l0_3, y895⟩) => (leave32_at a' ⟨l0_0, a0_1, l0_2, l0_3, y895⟩ W h).mono fun e w' h => lisP_of rfl (show leaveE ⟨l0_0, a0_1, l0_2, l0_3, y895⟩ = 0 from hEx) h)
      have HVD := Aside0.mk (fun a' W (h : LogAt W a' ⟨l0_0, a0_1, l0_2, l0_3, l0_4⟩) => verdicts35_at a' ⟨l0_0, a0_1, l0_2, l0_3, l0_4⟩ W h)
      have HVX := Aside0.mk (fun a' W (h : LogAt W a' ⟨l0_0, a0_1, l0_2, l0_3, y895⟩) => verdicts35_at a' ⟨l0_0, a0_1, l0_2, l0_3, y895⟩ W h)
      have m5 : verdE ⟨l0_0, a0_1, l0_2, l0_3, y895⟩ = 0 → ∀ r, r < l0_4.length → rd (verdL ⟨l0_0, a0_1, l0_2, l0_3, l0_4⟩) r = 3 ∨ ((rd (verdL ⟨l0_0, a0_1, l0_2, l0_3, l0_4⟩) r = 1 ∨ rd (verdL ⟨l0_0, a0_1, l0_2, l0_3, l0_4⟩) r = 2) ∧ rd (verdL ⟨l0_0, a0_1, l0_2, l0_3, y895⟩) r = rd (verdL ⟨l0_0, a0_1, l0_2, l0_3, l0_4⟩) r) := m5
      have m4 : verdE ⟨l0_0, a0_1, l0_2, l0_3, y895⟩ = 0 → (verdL ⟨l0_0, a0_1, l0_2, l0_3, y895⟩).length = y895.length ∧ (verdL ⟨l0_0, a0_1, l0_2, l0_3, l0_4⟩).length = l0_4.length := m4
      generalize leaveL ⟨l0_0, a0_1, l0_2, l0_3, l0_4⟩ = P at *
      generalize leaveL ⟨l0_0, a0_1, l0_2, l0_3, y895⟩ = Q at *
      generalize verdL ⟨l0_0, a0_1, l0_2, l0_3, l0_4⟩ = V at *
      generalize verdL ⟨l0_0, a0_1, l0_2, l0_3, y895⟩ = U at *
      generalize verdE ⟨l0_0, a0_1, l0_2, l0_3, l0_4⟩ = g at *
      generalize verdE ⟨l0_0, a0_1, l0_2, l0_3, y895⟩ = k at *
      have y1 : decide ((Q.length : Int) < P.length) = false := decide_eq_false (by omega)
      have y2 := eq_false (show ¬ (Q.length : Int) < P.length by omega)
      clear HMF hE hEx
      rcases m3 with ⟨rfl, m3⟩ | ⟨rfl, m3⟩
      · skip
        rcases m2 with ⟨rfl, m2⟩ | ⟨rfl, m2⟩
        · skip
          obtain ⟨n1, n2⟩ := m4 rfl
          have M5 := Aside0.mk (m5 rfl)
          have HVD2 := Aside0.mk (fun a' W h => (HVD.out a' W h).mono fun e w' h => lisP_of n2 rfl h)
          have HVX2 := Aside0.mk (fun a' W h => (HVX.out a' W h).mono fun e w' h => lisP_of n1 rfl h)
          have z1 : ((P.length : Int) == 0) = true := by rw [m2]; rfl
          have z2 : ((Q.length : Int) == 0) = true := by rw [m3]; rfl
          clear n1 n2 m2 m3 m4 m5 m1
          go_wp2_with (fail)
          refine (HLG.out _ BW.out hf).mono ?_
          rintro e w3_ ⟨a1, rfl, hl, hb⟩
          have HL1 := Aside0.mk hl
          clear hl
          have BW := Aside0.mk (step_b BW.out HN.out hb)
          clear b0 b1 b2 b3 b4 d0 d1 d2 d3 d4
          obtain ⟨b0, b1, b2, b3, b4⟩ := HCE.out _ BW.out
          obtain ⟨d0, d1, d2, d3, d4⟩ := HCX.out _ BW.out
          clear hb
          go_wp2_with (fail)
          refine (HLV.out a1 _ HL1.out).mono ?_
          rintro e w4_ ⟨P0, p0, rfl, hlc, hC, hb⟩
          clear hlc hC
          have BW := Aside0.mk (step_b BW.out HN.out hb)
          clear b0 b1 b2 b3 b4 d0 d1 d2 d3 d4
          obtain ⟨b0, b1, b2, b3, b4⟩ := HCE.out _ BW.out
          obtain ⟨d0, d1, d2, d3, d4⟩ := HCX.out _ BW.out
          clear hb
          go_wp2_with (fail)
          refine (HLGX.out _ BW.out hfx).mono ?_
          rintro e w5_ ⟨a2, rfl, hl, hb⟩
          have HL2 := Aside0.mk hl
          clear hl
          have BW := Aside0.mk (step_b BW.out HN.out hb)
          clear b0 b1 b2 b3 b4 d0 d1 d2 d3 d4
          obtain ⟨b0, b1, b2, b3, b4⟩ := HCE.out _ BW.out
          obtain ⟨d0, d1, d2, d3, d4⟩ := HCX.out _ BW.out
          clear hb
          go_wp2_with (fail)
          refine (HLVX.out a2 _ HL2.out).mono ?_
          rintro e w6_ ⟨Q0, q0, rfl, hlc, hC, hb⟩
          clear hlc hC
          have BW := Aside0.mk (step_b BW.out HN.out hb)
          clear b0 b1 b2 b3 b4 d0 d1 d2 d3 d4
          obtain ⟨b0, b1, b2, b3, b4⟩ := HCE.out _ BW.out
          obtain ⟨d0, d1, d2, d3, d4⟩ := HCX.out _ BW.out
          clear hb
          go_wp2_with (fail)
          refine (HLG.out _ BW.out hf).mono ?_
          rintro e w7_ ⟨a3, rfl, hl, hb⟩
          have HL3 := Aside0.mk hl
          clear hl
          have BW := Aside0.mk (step_b BW.out HN.out hb)
          clear b0 b1 b2 b3 b4 d0 d1 d2 d3 d4
          obtain ⟨b0, b1, b2, b3, b4⟩ := HCE.out _ BW.out
          obtain ⟨d0, d1, d2, d3, d4⟩ := HCX.out _ BW.out
          clear hb
          go_wp2_with (fail)
          refine (HVD2.out a3 _ HL3.out).mono ?_
          rintro e w8_ ⟨V0, v0, rfl, hlc, hC, hb⟩
          have HLCV0 := Aside0.mk hlc
          have HCV0 := Aside0.mk hC
          clear hlc hC
          have BW := Aside0.mk (step_b BW.out HN.out hb)
          clear b0 b1 b2 b3 b4 d0 d1 d2 d3 d4
          obtain ⟨b0, b1, b2, b3, b4⟩ := HCE.out _ BW.out
          obtain ⟨d0, d1, d2, d3, d4⟩ := HCX.out _ BW.out
          clear hb
          go_wp2_with (fail)
          refine (HLGX.out _ BW.out hfx).mono ?_
          rintro e w9_ ⟨a4, rfl, hl, hb⟩
          have HL4 := Aside0.mk hl
          clear hl
          have BW := Aside0.mk (step_b BW.out HN.out hb)
          have HCV0 := Aside0.mk (Kd.C_below HCV0.out hb)
          clear b0 b1 b2 b3 b4 d0 d1 d2 d3 d4
          obtain ⟨b0, b1, b2, b3, b4⟩ := HCE.out _ BW.out
          obtain ⟨d0, d1, d2, d3, d4⟩ := HCX.out _ BW.out
          clear hb
          go_wp2_with (fail)
          refine (HVX2.out a4 _ HL4.out).mono ?_
          rintro e w10_ ⟨U0, u0_, rfl, hlc, hC, hb⟩
          have HLCU0 := Aside0.mk hlc
          have HCU0 := Aside0.mk hC
          clear hlc hC
          have BW := Aside0.mk (step_b BW.out HN.out hb)
          have HCV0 := Aside0.mk (Kd.C_below HCV0.out hb)
          clear b0 b1 b2 b3 b4 d0 d1 d2 d3 d4
          obtain ⟨b0, b1, b2, b3, b4⟩ := HCE.out _ BW.out
          obtain ⟨d0, d1, d2, d3, d4⟩ := HCX.out _ BW.out
          clear hb
          go_wp2
          clear y1 y2 z1 z2 b0 b1 b2 b3 b4 d0 d1 d2 d3 d4
          go_loopg [14] l0_4.length (fun gg v14 wr => ∃ i : Nat, i ≤ l0_4.length ∧ l0_4.length - i ≤ gg ∧ v14 = .int .i64 i ∧ Aside0 (Below W0.heap.size W0 wr) ∧ Aside0 (Kd.C (Kd.int .i64) wr V0 l0_4.length V) ∧ Aside0 (Kd.C (Kd.int .i64) wr U0 y895.length U))
          case atStart => exact ⟨0, by omega, by omega, by go_num, BW, HCV0, HCU0⟩
          case round =>
            clear BW HCV0 HCU0 HL1 HL2 HL3 HL4
            obtain ⟨i, hi, hg, rfl, BW, HCV0, HCU0⟩ := hrel
            obtain ⟨b0, b1, b2, b3, b4⟩ := HCE.out _ BW.out
            obtain ⟨d0, d1, d2, d3, d4⟩ := HCX.out _ BW.out
            by_cases hlt : i < l0_4.length
            · have hltz : (i : Int) < (l0_4.length : Int) := by omega
              have hltu : (i : Int) < (y895.length : Int) := by have := HYL.out; omega
              have hc := M5.out i hlt
              obtain ⟨ax, e1, cx⟩ := Kd.at_int HCV0.out (i : Int) (by omega) hltz
              cases e1
              obtain ⟨ay, e1, cy⟩ := Kd.at_int HCU0.out (i : Int) (by omega) hltu
              cases e1
              rw [Int.toNat_natCast] at cx cy
              generalize rd V (i : Int) = v at *
              generalize rd U (i : Int) = u at *
              rcases hc with rfl | ⟨rfl | rfl, rfl⟩
              · skip
                go_wp2_with (fail)
                go_region
                go_wp2
                go_roundg (l0_4.length - (i + 1))
                case measure => omega
                case rel => exact ⟨i + 1, by omega, by omega, by go_num, ⟨below_drew BW.out⟩, ⟨Kd.C_drew HCV0.out⟩, ⟨Kd.C_drew HCU0.out⟩⟩
              · skip
                go_wp2_with (fail)
                go_region
                go_wp2
                go_roundg (l0_4.length - (i + 1))
                case measure => omega
                case rel => exact ⟨i + 1, by omega, by omega, by go_num, ⟨below_drew BW.out⟩, ⟨Kd.C_drew HCV0.out⟩, ⟨Kd.C_drew HCU0.out⟩⟩
              · skip
                go_wp2_with (fail)
                go_region
                go_wp2
                go_roundg (l0_4.length - (i + 1))
                case measure => omega
                case rel => exact ⟨i + 1, by omega, by omega, by go_num, ⟨below_drew BW.out⟩, ⟨Kd.C_drew HCV0.out⟩, ⟨Kd.C_drew HCU0.out⟩⟩
            · have hi2 : i = l0_4.length := by omega
              subst hi2
              have hltz : ¬ (l0_4.length : Int) < (l0_4.length : Int) := by omega
              go_wp2_with (fail)
              refine (HAW.out _).mono ?_
              rintro e w11_ ⟨rfl, hb⟩
              have BW := Aside0.mk (step_b BW.out HN.out hb)
              have HCV0 := Aside0.mk (Kd.C_below HCV0.out hb)
              have HCU0 := Aside0.mk (Kd.C_below HCU0.out hb)
              clear b0 b1 b2 b3 b4 d0 d1 d2 d3 d4
              obtain ⟨b0, b1, b2, b3, b4⟩ := HCE.out _ BW.out
              obtain ⟨d0, d1, d2, d3, d4⟩ := HCX.out _ BW.out
              clear hb
              go_wp2
              go_ret
              exact ⟨rfl, HTW.out _ BW.out⟩
        · exfalso; omega
      · skip
        have HVX2 := Aside0.mk (fun a' W h => (HVX.out a' W h).mono fun e w' h => lisP_of (n := U.length) rfl rfl h)
        have HVD2 := Aside0.mk (fun a' W h => (HVD.out a' W h).mono fun e w' h => lisP_of (n := V.length) rfl rfl h)
        have z2 : ((Q.length : Int) == 0) = false := by rw [beq_eq_false_iff_ne]; omega
        rcases m2 with ⟨rfl, m2⟩ | ⟨rfl, m2⟩
        · skip
          have z1 : ((P.length : Int) == 0) = true := by rw [m2]; rfl
          clear m1 m2 m3 m4 m5
          go_wp2_with (fail)
          refine (HLG.out _ BW.out hf).mono ?_
          rintro e w3_ ⟨a1, rfl, hl, hb⟩
          have HL1 := Aside0.mk hl
          clear hl
          have BW := Aside0.mk (step_b BW.out HN.out hb)
          clear b0 b1 b2 b3 b4 d0 d1 d2 d3 d4
          obtain ⟨b0, b1, b2, b3, b4⟩ := HCE.out _ BW.out
          obtain ⟨d0, d1, d2, d3, d4⟩ := HCX.out _ BW.out
          clear hb
          go_wp2_with (fail)
          refine (HLV.out a1 _ HL1.out).mono ?_
          rintro e w4_ ⟨P0, p0, rfl, hlc, hC, hb⟩
          clear hlc hC
          have BW := Aside0.mk (step_b BW.out HN.out hb)
          clear b0 b1 b2 b3 b4 d0 d1 d2 d3 d4
          obtain ⟨b0, b1, b2, b3, b4⟩ := HCE.out _ BW.out
          obtain ⟨d0, d1, d2, d3, d4⟩ := HCX.out _ BW.out
          clear hb
          go_wp2_with (fail)
          refine (HLGX.out _ BW.out hfx).mono ?_
          rintro e w5_ ⟨a2, rfl, hl, hb⟩
          have HL2 := Aside0.mk hl
          clear hl
          have BW := Aside0.mk (step_b BW.out HN.out hb)
          clear b0 b1 b2 b3 b4 d0 d1 d2 d3 d4
          obtain ⟨b0, b1, b2, b3, b4⟩ := HCE.out _ BW.out
          obtain ⟨d0, d1, d2, d3, d4⟩ := HCX.out _ BW.out
          clear hb
          go_wp2_with (fail)
          refine (HLVX.out a2 _ HL2.out).mono ?_
          rintro e w6_ ⟨Q0, q0, rfl, hlc, hC, hb⟩
          clear hlc hC
          have BW := Aside0.mk (step_b BW.out HN.out hb)
          clear b0 b1 b2 b3 b4 d0 d1 d2 d3 d4
          obtain ⟨b0, b1, b2, b3, b4⟩ := HCE.out _ BW.out
          obtain ⟨d0, d1, d2, d3, d4⟩ := HCX.out _ BW.out
          clear hb
          go_wp2_with (fail)
          refine (HLG.out _ BW.out hf).mono ?_
          rintro e w7_ ⟨a3, rfl, hl, hb⟩
          have HL3 := Aside0.mk hl
          clear hl
          have BW := Aside0.mk (step_b BW.out HN.out hb)
          clear b0 b1 b2 b3 b4 d0 d1 d2 d3 d4
          obtain ⟨b0, b1, b2, b3, b4⟩ := HCE.out _ BW.out
          obtain ⟨d0, d1, d2, d3, d4⟩ := HCX.out _ BW.out
          clear hb
          go_wp2_with (fail)
          refine (HVD2.out a3 _ HL3.out).mono ?_
          rintro e w8_ ⟨V0, v0, rfl, hlc, hC, hb⟩
          have HLCV0 := Aside0.mk hlc
          have HCV0 := Aside0.mk hC
          clear hlc hC
          have BW := Aside0.mk (step_b BW.out HN.out hb)
          clear b0 b1 b2 b3 b4 d0 d1 d2 d3 d4
          obtain ⟨b0, b1, b2, b3, b4⟩ := HCE.out _ BW.out
          obtain ⟨d0, d1, d2, d3, d4⟩ := HCX.out _ BW.out
          clear hb
          go_wp2_with (fail)
          refine (HLGX.out _ BW.out hfx).mono ?_
          rintro e w9_ ⟨a4, rfl, hl, hb⟩
          have HL4 := Aside0.mk hl
          clear hl
          have BW := Aside0.mk (step_b BW.out HN.out hb)
          have HCV0 := Aside0.mk (Kd.C_below HCV0.out hb)
          clear b0 b1 b2 b3 b4 d0 d1 d2 d3 d4
          obtain ⟨b0, b1, b2, b3, b4⟩ := HCE.out _ BW.out
          obtain ⟨d0, d1, d2, d3, d4⟩ := HCX.out _ BW.out
          clear hb
          go_wp2_with (fail)
          refine (HVX2.out a4 _ HL4.out).mono ?_
          rintro e w10_ ⟨U0, u0_, rfl, hlc, hC, hb⟩
          have HLCU0 := Aside0.mk hlc
          have HCU0 := Aside0.mk hC
          clear hlc hC
          have BW := Aside0.mk (step_b BW.out HN.out hb)
          have HCV0 := Aside0.mk (Kd.C_below HCV0.out hb)
          clear b0 b1 b2 b3 b4 d0 d1 d2 d3 d4
          obtain ⟨b0, b1, b2, b3, b4⟩ := HCE.out _ BW.out
          obtain ⟨d0, d1, d2, d3, d4⟩ := HCX.out _ BW.out
          clear hb
          go_wp2_with (fail)
          refine (HAW.out _).mono ?_
          rintro e w11_ ⟨rfl, hb⟩
          have BW := Aside0.mk (step_b BW.out HN.out hb)
          have HCV0 := Aside0.mk (Kd.C_below HCV0.out hb)
          have HCU0 := Aside0.mk (Kd.C_below HCU0.out hb)
          clear b0 b1 b2 b3 b4 d0 d1 d2 d3 d4
          obtain ⟨b0, b1, b2, b3, b4⟩ := HCE.out _ BW.out
          obtain ⟨d0, d1, d2, d3, d4⟩ := HCX.out _ BW.out
          clear hb
          go_wp2
          go_ret
          exact ⟨rfl, HTW.out _ BW.out⟩
        · skip
          have z1 : ((P.length : Int) == 0) = false := by rw [beq_eq_false_iff_ne]; omega
          clear m1 m2 m3 m4 m5
          go_wp2_with (fail)
          refine (HLG.out _ BW.out hf).mono ?_
          rintro e w3_ ⟨a1, rfl, hl, hb⟩
          have HL1 := Aside0.mk hl
          clear hl
          have BW := Aside0.mk (step_b BW.out HN.out hb)
          clear b0 b1 b2 b3 b4 d0 d1 d2 d3 d4
          obtain ⟨b0, b1, b2, b3, b4⟩ := HCE.out _ BW.out
          obtain ⟨d0, d1, d2, d3, d4⟩ := HCX.out _ BW.out
          clear hb
          go_wp2_with (fail)
          refine (HLV.out a1 _ HL1.out).mono ?_
          rintro e w4_ ⟨P0, p0, rfl, hlc, hC, hb⟩
          clear hlc hC
          have BW := Aside0.mk (step_b BW.out HN.out hb)
          clear b0 b1 b2 b3 b4 d0 d1 d2 d3 d4
          obtain ⟨b0, b1, b2, b3, b4⟩ := HCE.out _ BW.out
          obtain ⟨d0, d1, d2, d3, d4⟩ := HCX.out _ BW.out
          clear hb
          go_wp2_with (fail)
          refine (HLGX.out _ BW.out hfx).mono ?_
          rintro e w5_ ⟨a2, rfl, hl, hb⟩
          have HL2 := Aside0.mk hl
          clear hl
          have BW := Aside0.mk (step_b BW.out HN.out hb)
          clear b0 b1 b2 b3 b4 d0 d1 d2 d3 d4
          obtain ⟨b0, b1, b2, b3, b4⟩ := HCE.out _ BW.out
          obtain ⟨d0, d1, d2, d3, d4⟩ := HCX.out _ BW.out
          clear hb
          go_wp2_with (fail)
          refine (HLVX.out a2 _ HL2.out).mono ?_
          rintro e w6_ ⟨Q0, q0, rfl, hlc, hC, hb⟩
          clear hlc hC
          have BW := Aside0.mk (step_b BW.out HN.out hb)
          clear b0 b1 b2 b3 b4 d0 d1 d2 d3 d4
          obtain ⟨b0, b1, b2, b3, b4⟩ := HCE.out _ BW.out
          obtain ⟨d0, d1, d2, d3, d4⟩ := HCX.out _ BW.out
          clear hb
          go_wp2_with (fail)
          refine (HLG.out _ BW.out hf).mono ?_
          rintro e w7_ ⟨a3, rfl, hl, hb⟩
          have HL3 := Aside0.mk hl
          clear hl
          have BW := Aside0.mk (step_b BW.out HN.out hb)
          clear b0 b1 b2 b3 b4 d0 d1 d2 d3 d4
          obtain ⟨b0, b1, b2, b3, b4⟩ := HCE.out _ BW.out
          obtain ⟨d0, d1, d2, d3, d4⟩ := HCX.out _ BW.out
          clear hb
          go_wp2_with (fail)
          refine (HVD2.out a3 _ HL3.out).mono ?_
          rintro e w8_ ⟨V0, v0, rfl, hlc, hC, hb⟩
          have HLCV0 := Aside0.mk hlc
          have HCV0 := Aside0.mk hC
          clear hlc hC
          have BW := Aside0.mk (step_b BW.out HN.out hb)
          clear b0 b1 b2 b3 b4 d0 d1 d2 d3 d4
          obtain ⟨b0, b1, b2, b3, b4⟩ := HCE.out _ BW.out
          obtain ⟨d0, d1, d2, d3, d4⟩ := HCX.out _ BW.out
          clear hb
          go_wp2_with (fail)
          refine (HLGX.out _ BW.out hfx).mono ?_
          rintro e w9_ ⟨a4, rfl, hl, hb⟩
          have HL4 := Aside0.mk hl
          clear hl
          have BW := Aside0.mk (step_b BW.out HN.out hb)
          have HCV0 := Aside0.mk (Kd.C_below HCV0.out hb)
          clear b0 b1 b2 b3 b4 d0 d1 d2 d3 d4
          obtain ⟨b0, b1, b2, b3, b4⟩ := HCE.out _ BW.out
          obtain ⟨d0, d1, d2, d3, d4⟩ := HCX.out _ BW.out
          clear hb
          go_wp2_with (fail)
          refine (HVX2.out a4 _ HL4.out).mono ?_
          rintro e w10_ ⟨U0, u0_, rfl, hlc, hC, hb⟩
          have HLCU0 := Aside0.mk hlc
          have HCU0 := Aside0.mk hC
          clear hlc hC
          have BW := Aside0.mk (step_b BW.out HN.out hb)
          have HCV0 := Aside0.mk (Kd.C_below HCV0.out hb)
          clear b0 b1 b2 b3 b4 d0 d1 d2 d3 d4
          obtain ⟨b0, b1, b2, b3, b4⟩ := HCE.out _ BW.out
          obtain ⟨d0, d1, d2, d3, d4⟩ := HCX.out _ BW.out
          clear hb
          go_wp2_with (fail)
          refine (HAW.out _).mono ?_
          rintro e w11_ ⟨rfl, hb⟩
          have BW := Aside0.mk (step_b BW.out HN.out hb)
          have HCV0 := Aside0.mk (Kd.C_below HCV0.out hb)
          have HCU0 := Aside0.mk (Kd.C_below HCU0.out hb)
          clear b0 b1 b2 b3 b4 d0 d1 d2 d3 d4
          obtain ⟨b0, b1, b2, b3, b4⟩ := HCE.out _ BW.out
          obtain ⟨d0, d1, d2, d3, d4⟩ := HCX.out _ BW.out
          clear hb
          go_wp2
          go_ret
          exact ⟨rfl, HTW.out _ BW.out⟩
end Go.Proofs.YthgfhgjlilmieaaGreat.G
namespace Go.Proofs.YthgfhgjlilmieaaGreat.G
open Go.RowKit Go.Shelf Go.ChangeShapes Go.WideShapes Go.Deep Go.Proofs.YthgfhgjlilmieaaGreatW.PrintWords Go.Proofs.YthgfhgjlilmieaaGreatW.PrintLast Go.Proofs.YthgfhgjlilmieaaGreatW.PrintMore
open Go.Proofs.YthgfhgjlilmieaaGreat.B
set_option linter.unusedVariables false
section
variable {H : Type} {enc : TypeId × Value → H} {w : World} {base : Nat} {spare : Nat → Bool} {held : Bool}
theorem row_weight {P : Program} {t e : TypeId} {fs : Array Field} {fuel : Nat} {v : Value} {x : DataW H × List MemPlace} (ht : P.underlying t = some (.slice e)) (he : P.underlying e = some (.struct fs)) (hone : oneCellFields P fs = true) (hC : P.cellsOf e = fs.size) (h : DataW.trod enc P w base spare held fuel t [v] = some x) (hw : ∀ n, n ∈ x.1.weights P t → n ≤ reachBytes) {A : Option Addr} {n c : Nat} (hv : v = .slice A n c) : n * P.bytesOf e ≤ reachBytes := by
  rcases O.open_slice_fields ht he hone hC h with ⟨hcs, _⟩ | ⟨a, len, cap, m, D, Pl, hcs, _, hl, hm, hmm, hx, hf⟩
  · rw [hv] at hcs
    simp only [List.cons.injEq, Value.slice.injEq, and_true] at hcs
    rw [hcs.2.1]; simp
  · rw [hv] at hcs
    simp only [List.cons.injEq, Value.slice.injEq, and_true] at hcs
    have h1 := hw _ (show (((List.range len).map D).length + ((List.range (m - len)).map fun j => D (len + j)).length) * P.bytesOf e ∈ x.1.weights P t by
      rw [hx]; simp only [DataW.weights, ht]; exact List.mem_cons_self ..)
    rw [hcs.2.1]
    refine Nat.le_trans (Nat.mul_le_mul_right _ ?_) h1
    simp
set_option maxRecDepth 100000 in
theorem open_log2 {r : Reach} {b0 : Nat} {v : Value} {d : DataW H} {p : List MemPlace} (hv : Value.okWide Tryz.prog w r b0 29 v) (h : DataW.Trod enc Tryz.prog w base spare held 29 v d p) (hw : ∀ n, n ∈ d.weights Tryz.prog 29 → n ≤ reachBytes) :
    ∃ a l, v = logV a l ∧ LogAt w a l ∧ l.jn.length * 40 ≤ 140737488351232 ∧ l.rc.length * 32 ≤ 140737488351232 := by
  obtain ⟨a, l, e, hL⟩ := open_log hv h hw
  refine ⟨a, l, e, hL, ?_⟩
  obtain ⟨v0, v1, v2, v3, v4, y0, y1, y2, y3, y4, n, rfl, hd, _, t0, t1, t2, t3, t4⟩ := O.open_agg5 Tryz.underlying29 (by kernel_rfl) (by kernel_rfl) hv h
  have hw3 : ∀ n, n ∈ y3.1.weights Tryz.prog 26 → n ≤ reachBytes := fun n hn => hw n (by
    rw [hd]
    simp only [DataW.weights, Tryz.underlying29]
    exact DataW.weights_mem_each (j := 3) (t := 26) rfl rfl _ hn)
  have hw4 : ∀ n, n ∈ y4.1.weights Tryz.prog 27 → n ≤ reachBytes := fun n hn => hw n (by
    rw [hd]
    simp only [DataW.weights, Tryz.underlying29]
    exact DataW.weights_mem_each (j := 4) (t := 27) rfl rfl _ hn)
  unfold logV at e
  simp only [Value.agg.injEq, Array.mk.injEq, List.cons.injEq, and_true] at e
  have b3 : Tryz.prog.bytesOf 69 = 40 := by kernel_rfl
  have b4 : Tryz.prog.bytesOf 61 = 32 := by kernel_rfl
  have r3 := row_weight Tryz.underlying26 Tryz.underlying69 (by kernel_rfl) (by kernel_rfl) t3 hw3 e.2.2.2.1
  have r4 := row_weight Tryz.underlying27 Tryz.underlying61 (by kernel_rfl) (by kernel_rfl) t4 hw4 e.2.2.2.2
  rw [b3] at r3
  rw [b4] at r4
  exact ⟨r3, r4⟩
end
end Go.Proofs.YthgfhgjlilmieaaGreat.G
namespace Go.Proofs.YthgfhgjlilmieaaGreat.G
open Go.RowKit Go.Shelf Go.ChangeShapes Go.WideShapes Go.Deep Go.Proofs.YthgfhgjlilmieaaGreatW.PrintWords Go.Proofs.YthgfhgjlilmieaaGreatW.PrintLast Go.Proofs.YthgfhgjlilmieaaGreatW.PrintMore
open Go.Proofs.YthgfhgjlilmieaaGreat.B
set_option linter.unusedVariables false
section
variable {H : Type} {enc : TypeId × Value → H} {w : World} {base : Nat} {spare : Nat → Bool} {held : Bool}
set_option maxRecDepth 100000 in
theorem open_rec {r : Reach} {b0 : Nat} {v : Value} {d : DataW H} {p : List MemPlace} (hv : Value.okWide Tryz.prog w r b0 61 v) (h : DataW.Trod enc Tryz.prog w base spare held 61 v d p) (hw : ∀ n, n ∈ d.weights Tryz.prog 61 → n ≤ reachBytes) :
    ∃ m : S75, v = .agg #[.int .i64 m.f0, .int .i64 m.f1, .string m.f2] ∧ m.f2.size ≤ 140737488351232 := by
  have hC : Tryz.prog.cellsOf 61 = 3 := by kernel_rfl
  have k3 : Tryz.prog.cellsOf 3 = 1 := by kernel_rfl
  have k9 : Tryz.prog.cellsOf 9 = 1 := by kernel_rfl
  obtain ⟨cs, rfl, hsz⟩ := okWide_struct Tryz.underlying61 hv
  obtain ⟨l⟩ := cs
  match l, hsz.trans hC with
  | [c0, c1, c2], _ =>
    obtain ⟨fuel, hf⟩ := h
    obtain ⟨xs, n, _, hx, _, hlen, hg⟩ := DataW.trod_struct Tryz.underlying61 hf
    match xs, hlen with
    | [y0, y1, y2], _ =>
      simp only [Prod.mk.injEq] at hx
      have t0 : DataW.trod enc Tryz.prog w base spare held n 3 [c0] = some y0 := by simpa [Value.cells, k3] using hg 0 _ rfl
      have t1 : DataW.trod enc Tryz.prog w base spare held n 3 [c1] = some y1 := by simpa [Value.cells, k3] using hg 1 _ rfl
      have t2 : DataW.trod enc Tryz.prog w base spare held n 9 [c2] = some y2 := by simpa [Value.cells, k9] using hg 2 _ rfl
      obtain ⟨n0, e0, _, _⟩ := DataW.trod_int Tryz.underlying3 t0
      obtain ⟨n1, e1, _, _⟩ := DataW.trod_int Tryz.underlying3 t1
      obtain ⟨s, e2, ey, _⟩ := DataW.trod_string Tryz.underlying9 t2
      cases e0
      cases e1
      cases e2
      refine ⟨⟨n0, n1, s⟩, rfl, ?_⟩
      have := hw s.size (by
        rw [hx.1]
        simp only [DataW.weights, Tryz.underlying61]
        refine DataW.weights_mem_each (j := 2) (t := 9) (d := y2.1) rfl rfl _ ?_
        rw [ey]; simp [DataW.weights])
      simpa [reachBytes] using this
end
end Go.Proofs.YthgfhgjlilmieaaGreat.G
