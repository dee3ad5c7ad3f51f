/- texts of this claim, merged by a program of this session out of its own texts and the print's words -/
import Derived.ArgAppend
import Derived.Below
import Derived.BigQuiet
import Derived.Deep.AppendLies
import Derived.Deep.CutBlock
import Derived.Deep.DeepCutAuto
import Derived.Deep.Draws
import Derived.Deep.LoopGhost
import Derived.Deep.OwnRows
import Derived.Deep.QuietTactic
import Derived.Deep.RegionHeld3
import Derived.IntWalk
import Derived.KernelRfl
import Derived.Laws.BitsLemmas
import Derived.Laws.BytesArg
import Derived.Laws.IdiomCopy
import Derived.Laws.MakeOwn
import Derived.Laws.OwnMore
import Derived.Laws.Rows
import Derived.Laws.Slices
import Derived.Lib.AppendStr
import Derived.Lib.ConvBytes
import Derived.Maps.AppendAt
import Derived.OrdersHeld
import Derived.OwnWalk
import Derived.RowKit
import Derived.RowKit3
import Derived.Tactics
import Derived.Test.YthgfhgjlilmieaaGreatProg
import Derived.WalkKit
import Derived.WideLaws
import Derived.Test.YthgfhgjlilmieaaGreatKA0
import Derived.Test.YthgfhgjlilmieaaGreatKA1
import Derived.Test.YthgfhgjlilmieaaGreatKA2
import Derived.Test.YthgfhgjlilmieaaGreatKA3
import Derived.Test.YthgfhgjlilmieaaGreatKA4
set_option linter.unusedVariables false
set_option linter.unusedSimpArgs false
namespace Go.Proofs.YthgfhgjlilmieaaGreatW.PrintWords
open Go.RowKit
section
variable {P : Program} {ops : Array Oper} {rest : List Oper} {o : Oper} {a : Act} {Q : Exit → Act → World → Prop}
end
section
variable {P : Program}
end
section
variable {P : Program} {ops : Array Oper} {rest : List Oper} {o : Oper} {a : Act} {Q : Exit → Act → World → Prop}
end
section
variable {P : Program} {ops : Array Oper} {rest : List Oper} {o : Oper} {a : Act} {Q : Exit → Act → World → Prop}
end
section
variable {P : Program} {ops : Array Oper} {o : Oper} {a : Act} {Q : Exit → Act → World → Prop} {K : Act → World → Prop}
end
section
variable {α : Type} {enc : α → Value} {d : α}
end
section
variable {α : Type} {P : Program} {ops : Array Oper} {rest : List Oper} {o : Oper} {a : Act} {Q : Exit → Act → World → Prop}
end
section
variable {P : Program}
end
section
variable {α : Type} {R R' : α → List Value → Prop} {e : TypeId} {size : Nat} {w w1 : World} {base : Nat} {v : Value} {ps : List α}
end
section
variable {P : Program} {ops : Array Oper} {rest : List Oper} {o : Oper} {a : Act} {Q : Exit → Act → World → Prop} {α : Type} {R : α → List Value → Prop}
end
section
variable {P : Program} {ops : Array Oper} {o : Oper} {a : Act} {Q : Exit → Act → World → Prop} {K : Act → World → Prop} {α : Type} {R : α → List Value → Prop}
end
section
variable {α : Type} {P : Program}
end
section
variable {P : Program} {ops : Array Oper} {rest : List Oper} {o : Oper} {a : Act} {Q : Exit → Act → World → Prop}
end
namespace Kd
section
variable {α : Type} {d : Kd α} {e : Nat} {w w1 : World} {base : Nat} {ok ok' : Nat → Prop} {v : Value} {xs : List α}
end
section
variable {P : Program} {ops : Array Oper} {rest : List Oper} {o : Oper} {a : Act} {Q : Exit → Act → World → Prop} {α : Type}
end
section
variable {P : Program} {ops : Array Oper} {o : Oper} {a : Act} {Q : Exit → Act → World → Prop} {Kc : Act → World → Prop} {α : Type}
end
end Kd
namespace Kd
section
variable {α : Type} {F : Kd α → Kd α} {sz : Nat} {E : List Nat} {hs : ∀ n, (upto F sz E n).sz = sz} {hE : ∀ n q, q ∈ (upto F sz E n).E → q ∈ E}
end
end Kd
namespace Kd
end Kd
namespace Kd
section
variable {α β : Type} {d : Kd α} {d' : Kd β} {e e' : Nat} {w w1 W : World} {base b b' : Nat} {ok ok' okv oku : Nat → Prop} {v u : Value} {xs : List α} {ys : List β}
theorem R_form (h : d.R e w base ok v xs) (hp : 0 < xs.length) : ∃ g cap, v = .slice (some ⟨g, 0, none⟩) xs.length cap ∧ base ≤ g ∧ g < w.heap.size ∧ ∃ cells, w.heap[g]? = some (.cells cells e (0, 0)) := by
  obtain ⟨inner, ho⟩ := R_own h
  obtain ⟨g, cap, he, hb, hl⟩ := ho.form hp
  obtain ⟨cells, hc⟩ := own_typed ho g (by rw [he]; simp [Value.ownBlock])
  exact ⟨g, cap, he, hb, hl, cells, hc⟩
end
section
variable {w W : World} {A : Option Addr} {n : Nat}
variable {α : Type} {enc : α → Value} {h1 : ∀ x, (enc x).oneCell' = true} {e base g cap : Nat} {ok : Nat → Prop} {xs : List α}
end
section
variable {P : Program} {ops : Array Oper} {rest : List Oper} {o : Oper} {a : Act} {Q : Exit → Act → World → Prop}
variable {α : Type}
end
end Kd
section
variable {P : Program}
end
section
variable {w w1 : World} {base n size : Nat} {e : TypeId} {v : Value} {xs : List Value}
theorem add_at (g o j : Nat) : (⟨g, o, none⟩ : Addr).add j = ⟨g, o + j, none⟩ := by unfold Addr.add; split <;> simp_all
end
section
variable {P : Program}
end
namespace Kd
section
variable {α : Type} {d : Kd α} {e : Nat} {w w1 W : World} {base : Nat} {ok ok' : Nat → Prop} {v : Value} {xs : List α}
end
section
variable {P : Program} {ops : Array Oper} {rest : List Oper} {o : Oper} {a : Act} {Q' : Exit → Act → World → Prop} {Kc : Act → World → Prop} {α : Type}
end
end Kd
namespace Kd
section
variable {α : Type} {d : Kd α} {e e' : Nat} {w w1 W : World} {base : Nat} {ok : Nat → Prop} {u v : Value} {xs : List α}
end
end Kd
namespace Kd
section
variable {α : Type} {d : Kd α} {e base g n cap : Nat} {ok okp : Nat → Prop} {W : World} {xs : List α}
theorem R_elem (h : d.R e W base ok (.slice (some ⟨g, 0, none⟩) n cap) xs) (z : α) (i : Int) (h0 : 0 ≤ i) (h1 : i < n) :
    ∃ c, c.length = d.sz ∧ d.M W base (fun k => ok k ∧ k ≠ g) (xs.getD i.toNat z) c ∧ (∀ j u, c[j]? = some u → W.cell? ⟨g, i.toNat * d.sz + j, none⟩ = some u) ∧ ∀ j, W.frozen? ⟨g, i.toNat * d.sz + j, none⟩ = false := by
  obtain ⟨hn, hnc, hC⟩ := R_reads' h
  obtain ⟨_, inner, ho, hr⟩ := h
  have hil : i.toNat < xs.length := by omega
  have hseg : i.toNat * d.sz + d.sz ≤ inner.length := by rw [hr.1, ← Nat.succ_mul]; exact Nat.mul_le_mul_right _ hil
  have hM := hr.2 i.toNat _ (List.getElem?_eq_getElem hil)
  refine ⟨(inner.drop (i.toNat * d.sz)).take d.sz, by rw [List.length_take, List.length_drop]; omega, ?_, fun j u hu => ?_, fun j => ?_⟩
  · rw [List.getD_eq_getElem?_getD, List.getElem?_eq_getElem hil]
    exact d.M_mono (fun k hk => ⟨hk.1, fun he => hk.2 (by rw [he]; simp [Value.ownBlock])⟩) hM
  · rw [List.getElem?_take] at hu
    split at hu
    · rw [List.getElem?_drop] at hu
      have := ho.cells (g := g) (by simp [Value.ownBlock]) _ u hu
      rwa [add_plain] at this
    · cases hu
  · obtain ⟨cells, hc⟩ := own_typed ho g (by simp [Value.ownBlock])
    exact blk_frozen hc _
end
end Kd
namespace Kd
section
variable {α : Type} {F : Kd α → Kd α} {sz : Nat} {E : List Nat} {hs : ∀ n, (upto F sz E n).sz = sz} {hE : ∀ n q, q ∈ (upto F sz E n).E → q ∈ E}
end
end Kd
namespace Kd
section
variable {P : Program} {ops : Array Oper} {rest : List Oper} {o : Oper} {a : Act} {Q : Exit → Act → World → Prop} {α : Type}
end
end Kd
namespace Kd
section
variable {P : Program} {ops : Array Oper} {rest : List Oper} {o : Oper} {a : Act} {Q : Exit → Act → World → Prop} {α : Type}
end
end Kd
namespace Kd
section
variable {α : Type} {k : Kd α} {w : World} {A : Option Addr} {xs : List α} {m c : Nat}
end
end Kd
section
variable {P : Program}
end
namespace Kd
section
variable {α β : Type} {d : Kd α} {d' : Kd β} {e e' base base' n : Nat} {ok ok' : Nat → Prop} {w W w1 W1 : World} {v u : Value} {xs : List α} {ys : List β} {A : Option Addr} {c : Nat}
end
section
variable {α : Type} {enc : α → Value} {h1 : ∀ x, (enc x).oneCell' = true} {w W : World} {A : Option Addr} {n g : Nat} {xs : List α}
end
end Kd
namespace Kd
section
variable {α : Type} {d : Kd α} {e base g : Nat} {ok : Nat → Prop} {w w1 : World} {v : Value} {xs : List α} {o : Obj}
end
end Kd
section
variable {P : Program} {ops : Array Oper} {rest : List Oper} {o : Oper} {a : Act} {Q : Exit → Act → World → Prop}
end
namespace Kd
section
variable {α : Type} {enc : α → Value} {h1 : ∀ x, (enc x).oneCell' = true} {e base g n cap : Nat} {ok : Nat → Prop} {W : World} {xs : List α}
end
end Kd
section
variable {P : Program} {ops : Array Oper} {rest : List Oper} {o : Oper} {a : Act} {Q : Exit → Act → World → Prop}
end
namespace Kd
section
variable {α : Type} {enc : α → Value} {h1 : ∀ x, (enc x).oneCell' = true} {e base g n cap : Nat} {ok : Nat → Prop} {W : World} {xs : List α}
end
end Kd
section
variable {P : Program} {ops : Array Oper} {rest : List Oper} {o : Oper} {a : Act} {Q : Exit → Act → World → Prop} {W : World}
end
section
variable {P : Program} {ops : Array Oper} {o : Oper} {a : Act} {Q : Exit → Act → World → Prop} {Kc : Act → World → Prop}
namespace Kd
variable {α : Type}
end Kd
end
section
variable {P : Program} {tmps : Array Value} {w : World}
end
namespace Kd
section
variable {P : Program} {α : Type}
end
section
variable {P : Program} {ops : Array Oper} {rest : List Oper} {o : Oper} {a : Act} {Q : Exit → Act → World → Prop} {Kc : Act → World → Prop} {α : Type}
end
end Kd
end Go.Proofs.YthgfhgjlilmieaaGreatW.PrintWords
namespace Go.Proofs.YthgfhgjlilmieaaGreatW.PrintLast
section
variable {P : Program} {ops : Array Oper} {Q : Exit → Act → World → Prop} {md : Region.Mode} {S : World → Prop} {ds : List Nat} {T : Bool × List (List Nat × List Nat)}
theorem four_of {i j k m : Nat} {l li lj lk lm : Array Bool} (hT : rtab md ops = T) (h : (readyT T.2 l.toList == [i, j, k, m] && l.toList.set i true == li.toList && l.toList.set j true == lj.toList && l.toList.set k true == lk.toList && l.toList.set m true == lm.toList) = true) : (Region.ready md ops l == [i, j, k, m] && l.setIfInBounds i true == li && l.setIfInBounds j true == lj && l.setIfInBounds k true == lk && l.setIfInBounds m true == lm) = true := by
  simp only [Bool.and_eq_true] at h ⊢
  obtain ⟨⟨⟨⟨hr, hsi⟩, hsj⟩, hsk⟩, hsm⟩ := h
  subst hT
  exact ⟨⟨⟨⟨by rw [ready_eq]; exact hr, set_of hsi⟩, set_of hsj⟩, set_of hsk⟩, set_of hsm⟩
end
end Go.Proofs.YthgfhgjlilmieaaGreatW.PrintLast
namespace Go.Proofs.YthgfhgjlilmieaaGreatW.PrintWords
open Go.RowKit
namespace Kd
section
variable {α β : Type} {d : Kd α} {d' : Kd β} {e e' : Nat} {w w1 W : World} {base b : Nat} {ok ok' okv oku : Nat → Prop} {u v : Value} {xs : List α} {ys : List β}
theorem R_head {ad : Addr} {n cap : Nat} (h : d.R e w base ok (.slice (some ad) n cap) xs) : ∃ g, ad = ⟨g, 0, none⟩ := by
  obtain ⟨_, inner, ho, hr⟩ := h
  rcases ho.2 with ⟨hv, _⟩ | ⟨g, cap', cur, hv, _⟩
  · cases hv
  · injection hv with ha _ _
    injection ha with ha
    exact ⟨g, ha⟩
end
section
variable {α β : Type} {d : Kd α} {d' : Kd β} {e e' g : Nat} {w w1 W : World} {base b : Nat} {ok ok' okv oku : Nat → Prop} {u v : Value} {xs : List α} {ys : List β}
end
section
variable {P : Program} {ops : Array Oper} {rest : List Oper} {o : Oper} {a : Act} {Q : Exit → Act → World → Prop} {Kc : Act → World → Prop} {α : Type}
end
section
variable {α β : Type} {d : Kd α} {e e' g n cap : Nat} {w w1 W : World} {base : Nat} {ok ok' oki okp : Nat → Prop} {u v : Value} {xs : List α} {i : Int} {c : List Value}
end
section
variable {P : Program} {ops : Array Oper} {rest : List Oper} {o : Oper} {a : Act} {Q : Exit → Act → World → Prop} {α : Type}
end
end Kd
end Go.Proofs.YthgfhgjlilmieaaGreatW.PrintWords
namespace Go.Proofs.YthgfhgjlilmieaaGreatW.PrintWords
open Go.RowKit
namespace Foot
variable {P Q : World → Prop} {W W1 : World} {ok ok' : Nat → Prop}
end Foot
namespace Kd
section
variable {α β : Type} {d : Kd α} {e base n n' cc g N : Nat} {ok ok' okp S : Nat → Prop} {w w0 w1 W W1 : World} {A A' : Option Addr} {u v v1 : Value} {xs : List α} {xs' : List β} {d' : Kd β} {x : α} {c : List Value}
theorem F_now (h : F d W ok A n xs) : d.C W A n xs := Foot.now h
theorem F_step (h : F d W ok A n xs) (hm : ∀ k, ok k → k < W.heap.size → W1.heap[k]? = W.heap[k]?) : F d W1 ok A n xs := Foot.step h hm
end
end Kd
end Go.Proofs.YthgfhgjlilmieaaGreatW.PrintWords
namespace Go.Proofs.YthgfhgjlilmieaaGreatW.PrintWords
open Go.RowKit
namespace Kd
section
variable {α : Type} {d : Kd α} {e base n cc g : Nat} {ok ok' okp S : Nat → Prop} {w w1 W W1 : World} {A : Option Addr} {u v v1 : Value} {xs : List α} {x : α} {c : List Value}
theorem N_form (h : N d e w base ok v xs) (hp : 0 < xs.length) : ∃ g cap, v = .slice (some ⟨g, 0, none⟩) xs.length cap ∧ base ≤ g ∧ g < w.heap.size ∧ ∃ cells, w.heap[g]? = some (.cells cells e (0, 0)) := by
  obtain ⟨_, rows, hl, hR, _⟩ := h
  rw [← hl] at hp ⊢
  exact R_form hR hp
theorem N_elem {n cap : Nat} (h : N d e W base ok (.slice (some ⟨g, 0, none⟩) n cap) xs) (z : α) (i : Int) (h0 : 0 ≤ i) (h1 : i < n) :
    ∃ c, c.length = d.sz ∧ FK d W (fun k => ok k ∧ k ≠ g) (xs.getD i.toNat z) c ∧ (∀ j u, c[j]? = some u → W.cell? ⟨g, i.toNat * d.sz + j, none⟩ = some u) ∧ ∀ j, W.frozen? ⟨g, i.toNat * d.sz + j, none⟩ = false := by
  obtain ⟨_, rows, hl, hR, hf⟩ := h
  have hn := (R_reads' hR).1
  obtain ⟨c, hcl, hM, hcc, hfr⟩ := R_elem hR [] i h0 h1
  have hil : i.toNat < rows.length := by omega
  have hil' : i.toNat < xs.length := by omega
  have hc : c = rows[i.toNat] := by
    have h2 := hM.1
    rwa [List.getD_eq_getElem?_getD, List.getElem?_eq_getElem hil] at h2
  refine ⟨c, hcl, ?_, hcc, hfr⟩
  rw [List.getD_eq_getElem?_getD, List.getElem?_eq_getElem hil']
  exact FK_mono (hf _ _ _ (List.getElem?_eq_getElem hil') (by rw [hc]; exact List.getElem?_eq_getElem hil)) (fun k hk => ⟨hk.1, fun he => hk.2 (by rw [he]; simp [Value.ownBlock])⟩)
theorem N_get {ad : Addr} {n cap : Nat} (h : N d e W base ok (.slice (some ad) n cap) xs) (z : α) (i : Int) (h0 : 0 ≤ i) (h1 : i < n) :
    ∃ c, c.length = d.sz ∧ FK d W (fun k => ok k ∧ some k ≠ (Value.slice (some ad) n cap).ownBlock) (xs.getD i.toNat z) c ∧ ∀ j u, c[j]? = some u → W.cell? (ad.add (i.toNat * d.sz + j)) = some u := by
  obtain ⟨g, rfl⟩ : ∃ g, ad = ⟨g, 0, none⟩ := by
    obtain ⟨_, rows, _, hR, _⟩ := h
    exact R_head hR
  obtain ⟨c, hcl, hM, hcc, _⟩ := N_elem h z i h0 h1
  refine ⟨c, hcl, FK_mono hM (fun k hk => ⟨hk.1, fun he => hk.2 (by simpa [Value.ownBlock] using he)⟩), fun j u hu => ?_⟩
  rw [add_at, Nat.zero_add]
  exact hcc j u hu
end
end Kd
end Go.Proofs.YthgfhgjlilmieaaGreatW.PrintWords
namespace Go.Proofs.YthgfhgjlilmieaaGreat.B
open Go.RowKit Go.Proofs.YthgfhgjlilmieaaGreatW.PrintWords Go.Proofs.YthgfhgjlilmieaaGreatW.PrintLast Go.Proofs.YthgfhgjlilmieaaGreatW.PrintMore
attribute [local go_sem] max2_int min2_int max_two min_two max_three min_three max_four min_four
set_option linter.unusedVariables false
set_option linter.unusedSimpArgs false
theorem k76_openF {W : World} {ok : Nat → Prop} {x : S76} {cs : List Value} (h : Kd.FK k76 W ok x cs) : ∃ A2 c2, cs = [.int .i64 x.f0, .int .i64 x.f1, .slice A2 x.f2.length c2] ∧ x.f2.length ≤ c2 ∧ Kd.F (Kd.int .i64) W ok A2 x.f2.length x.f2 := by
  obtain ⟨A2, c2, rfl, l2, _⟩ := k76_open (Kd.FK_now h)
  exact ⟨A2, c2, rfl, l2, (fun W' hW => by obtain ⟨A2_, c2_, he, l2_, g2_⟩ := k76_open (h W' hW); injection (Option.some.inj (show some (Value.slice A2 x.f2.length c2) = some (Value.slice A2_ x.f2.length c2_) from congrArg (fun l => l[2]?) he)) with ha_ _ _; rw [ha_]; exact g2_)⟩
theorem k75_mk (w : World) (x : S75)  : k75.K w x [.int .i64 x.f0, .int .i64 x.f1, .string x.f2] := ⟨[.int .i64 x.f0], [.int .i64 x.f1, .string x.f2], rfl, rfl, ⟨[.int .i64 x.f1], [.string x.f2], rfl, rfl, rfl⟩⟩
end Go.Proofs.YthgfhgjlilmieaaGreat.B
namespace Go.Proofs.YthgfhgjlilmieaaGreat.G
open Go.RowKit Go.Shelf Go.Proofs.YthgfhgjlilmieaaGreatW.PrintWords Go.Proofs.YthgfhgjlilmieaaGreatW.PrintLast Go.Proofs.YthgfhgjlilmieaaGreatW.PrintMore
open Go.Proofs.YthgfhgjlilmieaaGreat.B
set_option linter.unusedVariables false
set_option linter.unusedSimpArgs false
theorem uC_set (u : List Bool) (k : Nat) (hk : k < 8) (hu : u.length = 8) (i : Nat) : (u.set k true).getD i false = if k = i then true else u.getD i false := by
  simp only [List.getD_eq_getElem?_getD, List.getElem?_set]
  by_cases e : k = i
  · subst e
    rw [if_pos rfl, if_pos (by omega), if_pos rfl]; rfl
  · rw [if_neg e, if_neg e]
end Go.Proofs.YthgfhgjlilmieaaGreat.G
namespace Go.Proofs.YthgfhgjlilmieaaGreat.G
open Go.RowKit Go.Shelf Go.Proofs.YthgfhgjlilmieaaGreatW.PrintWords Go.Proofs.YthgfhgjlilmieaaGreatW.PrintLast Go.Proofs.YthgfhgjlilmieaaGreatW.PrintMore
open Go.Proofs.YthgfhgjlilmieaaGreat.B
set_option linter.unusedVariables false
set_option linter.unusedSimpArgs false
theorem mem_esK (l : Lg) (n : Nat) (r b : Int) : (r, b) ∈ esK l n ↔ ∃ k : Nat, k < n ∧ r = k ∧ (b ∈ statL l (rd_T75 l.rc k) ∨ b ∈ falL l (rd_T75 l.rc k)) := by
  simp only [esK, List.mem_flatMap, List.mem_range]
  constructor
  · rintro ⟨k, hk, hm⟩
    have e : esR l k 2 = (statL l (rd_T75 l.rc k)).map (fun y => ((k : Int), y)) ++ (falL l (rd_T75 l.rc k)).map (fun y => ((k : Int), y)) := by
      simp [esR, List.range_succ, srcL]
    rw [e, List.mem_append] at hm
    rcases hm with hm | hm
    · obtain ⟨y, hy, e⟩ := List.mem_map.1 hm
      cases e
      exact ⟨k, hk, rfl, .inl hy⟩
    · obtain ⟨y, hy, e⟩ := List.mem_map.1 hm
      cases e
      exact ⟨k, hk, rfl, .inr hy⟩
  · rintro ⟨k, hk, rfl, hb⟩
    refine ⟨k, hk, ?_⟩
    have e : esR l k 2 = (statL l (rd_T75 l.rc k)).map (fun y => ((k : Int), y)) ++ (falL l (rd_T75 l.rc k)).map (fun y => ((k : Int), y)) := by
      simp [esR, List.range_succ, srcL]
    rw [e, List.mem_append]
    rcases hb with hb | hb
    · exact .inl (List.mem_map.2 ⟨b, hb, rfl⟩)
    · exact .inr (List.mem_map.2 ⟨b, hb, rfl⟩)
end Go.Proofs.YthgfhgjlilmieaaGreat.G
namespace Go.Proofs.YthgfhgjlilmieaaGreat.G
open Go.RowKit Go.Shelf
set_option linter.unusedVariables false
set_option linter.unusedSimpArgs false
def outB (out : List Int) (r : Int) : Bool := out.any fun x => r == x
def IsW (ES : List (Int × Int)) (J R : Nat) (out : List Int) : Nat → List Bool → List Int → Prop
  | 0, _, bs => bs = []
  | n + 1, u, [] => False
  | n + 1, u, b :: bs => if outB out ((R : Int) - (n + 1)) = true then b = -2 ∧ IsW ES J R out n u bs
      else b ∈ bys J ∧ freeB ES u ((R : Int) - (n + 1)) b = true ∧ IsW ES J R out n (freeU ES u ((R : Int) - (n + 1)) b) bs
def fals (bs : List Int) : Int := (bs.countP (· == -1) : Nat)
theorem fals_cons (b : Int) (bs : List Int) : fals (b :: bs) = fals bs + if b = -1 then 1 else 0 := by
  by_cases h : b = -1 <;> simp [fals, List.countP_cons, h]
theorem fals_le (bs : List Int) : fals bs ≤ bs.length := by
  have := List.countP_le_length (p := (· == (-1 : Int))) (l := bs)
  simp only [fals]; omega
theorem fold_min (p : Int → Bool) (g : Int → Int) : ∀ (xs : List Int) (m : Int), (xs.foldl (fun m b => if p b = true then min m (g b) else m) m ≤ m) ∧ (∀ b, b ∈ xs → p b = true → xs.foldl (fun m b => if p b = true then min m (g b) else m) m ≤ g b) ∧ (xs.foldl (fun m b => if p b = true then min m (g b) else m) m = m ∨ ∃ b, b ∈ xs ∧ p b = true ∧ xs.foldl (fun m b => if p b = true then min m (g b) else m) m = g b)
  | [], m => ⟨by simp, by simp, .inl rfl⟩
  | x :: xs, m => by
    simp only [List.foldl_cons]
    obtain ⟨h1, h2, h3⟩ := fold_min p g xs (if p x = true then min m (g x) else m)
    refine ⟨?_, ?_, ?_⟩
    · by_cases hp : p x = true
      · rw [if_pos hp] at h1 ⊢; omega
      · rw [if_neg hp] at h1 ⊢; exact h1
    · intro b hb hp
      rcases List.mem_cons.1 hb with e | hb
      · subst e; rw [if_pos hp] at h1 ⊢; omega
      · exact h2 b hb hp
    · rcases h3 with h3 | ⟨b, hb, hp, h3⟩
      · by_cases hp : p x = true
        · rw [if_pos hp] at h3 ⊢
          rcases Int.le_total m (g x) with hm | hm
          · exact .inl (by rw [h3]; omega)
          · exact .inr ⟨x, by simp, hp, by rw [h3]; omega⟩
        · rw [if_neg hp] at h3 ⊢; exact .inl h3
      · exact .inr ⟨b, List.mem_cons_of_mem _ hb, hp, h3⟩
theorem least_succ (ES : List (Int × Int)) (J R : Nat) (out : List Int) (n : Nat) (u : List Bool) : leastN ES J R out (n + 1) u = if outB out ((R : Int) - (n + 1)) = true then leastN ES J R out n u else (bys J).foldl (fun m b => if freeB ES u ((R : Int) - (n + 1)) b = true then min m (leastN ES J R out n (freeU ES u ((R : Int) - (n + 1)) b) + if b = -1 then 1 else 0) else m) 1024 := rfl
theorem least_le (ES : List (Int × Int)) (J R : Nat) (out : List Int) : ∀ n u bs, IsW ES J R out n u bs → leastN ES J R out n u ≤ fals bs
  | 0, u, bs, h => by simp only [IsW] at h; subst h; simp [leastN, fals]
  | n + 1, u, [], h => by simp only [IsW] at h
  | n + 1, u, b :: bs, h => by
    simp only [IsW] at h
    rw [least_succ, fals_cons]
    by_cases ho : outB out ((R : Int) - (n + 1)) = true
    · rw [if_pos ho] at h
      rw [if_pos ho]
      have := least_le ES J R out n u bs h.2
      split <;> omega
    · rw [if_neg ho] at h
      rw [if_neg ho]
      have h1 := least_le ES J R out n _ bs h.2.2
      have h2 := (fold_min (freeB ES u ((R : Int) - (n + 1))) (fun b => leastN ES J R out n (freeU ES u ((R : Int) - (n + 1)) b) + if b = -1 then 1 else 0) (bys J) 1024).2.1 b h.1 h.2.1
      omega
theorem least_get (ES : List (Int × Int)) (J R : Nat) (out : List Int) : ∀ n u, leastN ES J R out n u < 1024 → ∃ bs, IsW ES J R out n u bs ∧ fals bs = leastN ES J R out n u
  | 0, u, h => ⟨[], rfl, rfl⟩
  | n + 1, u, h => by
    rw [least_succ] at h
    by_cases ho : outB out ((R : Int) - (n + 1)) = true
    · rw [if_pos ho] at h
      obtain ⟨bs, h1, h2⟩ := least_get ES J R out n u h
      refine ⟨-2 :: bs, ?_, ?_⟩
      · simp only [IsW, if_pos ho]; exact ⟨trivial, h1⟩
      · rw [fals_cons, least_succ, if_pos ho, h2]; simp
    · rw [if_neg ho] at h
      obtain ⟨h1, h2, h3⟩ := fold_min (freeB ES u ((R : Int) - (n + 1))) (fun b => leastN ES J R out n (freeU ES u ((R : Int) - (n + 1)) b) + if b = -1 then 1 else 0) (bys J) 1024
      rcases h3 with h3 | ⟨b, hb, hp, h3⟩
      · omega
      · obtain ⟨bs, h4, h5⟩ := least_get ES J R out n (freeU ES u ((R : Int) - (n + 1)) b) (by split at h3 <;> omega)
        refine ⟨b :: bs, ?_, ?_⟩
        · simp only [IsW, if_neg ho]; exact ⟨hb, hp, h4⟩
        · rw [fals_cons, h5, least_succ, if_neg ho, h3]
theorem isW_len (ES : List (Int × Int)) (J R : Nat) (out : List Int) : ∀ n u bs, IsW ES J R out n u bs → bs.length = n
  | 0, u, bs, h => by simp only [IsW] at h; subst h; rfl
  | n + 1, u, [], h => by simp only [IsW] at h
  | n + 1, u, b :: bs, h => by
    simp only [IsW] at h
    split at h
    · simp [isW_len ES J R out n u bs h.2]
    · simp [isW_len ES J R out n _ bs h.2.2]
theorem least_ex (ES : List (Int × Int)) (J R : Nat) (out : List Int) (n : Nat) (u : List Bool) (hn : n < 1024) : leastN ES J R out n u < 1024 ↔ ∃ bs, IsW ES J R out n u bs := by
  constructor
  · intro h; obtain ⟨bs, h1, _⟩ := least_get ES J R out n u h; exact ⟨bs, h1⟩
  · rintro ⟨bs, h⟩
    have h1 := least_le ES J R out n u bs h
    have h2 := fals_le bs
    rw [isW_len _ _ _ _ _ _ _ h] at h2
    omega
end Go.Proofs.YthgfhgjlilmieaaGreat.G
namespace Go.Proofs.YthgfhgjlilmieaaGreat.B
open Go.RowKit Go.Proofs.YthgfhgjlilmieaaGreatW.PrintWords Go.Proofs.YthgfhgjlilmieaaGreatW.PrintLast Go.Proofs.YthgfhgjlilmieaaGreatW.PrintMore
attribute [local go_sem] max2_int min2_int max_two min_two max_three min_three max_four min_four
set_option linter.unusedVariables false
set_option linter.unusedSimpArgs false
mutual
def glisterlaw06_inside.l0 : Nat → List (List Int) → List (List Int) → Int → Option (Bool)
 | 0, _, _, _ => none
 | k + 1, x0, x1, x5 => if x5 < (x0.length : Int) then (glisterlaw06_inside.l1 k x0 x1 x5 false 0) else (some true)
def glisterlaw06_inside.l1 : Nat → List (List Int) → List (List Int) → Int → Bool → Int → Option (Bool)
 | 0, _, _, _, _, _ => none
 | k + 1, x0, x1, x5, x6, x7 => if x7 < (x1.length : Int) then (if x6 = true then (glisterlaw06_inside.l1 k x0 x1 x5 true (wrap64 (x7 + 1))) else (if 0 ≤ x5 then (if x5 < (x0.length : Int) then (if 0 ≤ x7 then ((glisterref02_Same.f k (rd_L2 x0 x5) (rd_L2 x1 x7)).bind fun t744 => (glisterlaw06_inside.l1 k x0 x1 x5 t744 (wrap64 (x7 + 1)))) else (none)) else (none)) else (none))) else (if x6 = true then (glisterlaw06_inside.l0 k x0 x1 (wrap64 (x5 + 1))) else (some false))
end
def glisterlaw06_inside.f (k : Nat) (l0 : List (List Int)) (l1 : List (List Int)) : Option (Bool) := glisterlaw06_inside.l0 k l0 l1 0
set_option maxHeartbeats 8000000 in
set_option maxRecDepth 100000 in
theorem glisterlaw06_inside.calls (k : Nat) (A0 : Option Addr) (c0 : Nat) (l0 : List (List Int)) (A1 : Option Addr) (c1 : Nat) (l1 : List (List Int)) (r : Bool) (w : World) (hr0 : Kd.C (Kd.slice 3 (Kd.int .i64)) w A0 l0.length l0) (hc0 : l0.length ≤ c0) (hr1 : Kd.C (Kd.slice 3 (Kd.int .i64)) w A1 l1.length l1) (hc1 : l1.length ≤ c1) (h : glisterlaw06_inside.f k l0 l1 = some r) :
  Calls Tryz.prog 40 #[.slice A0 l0.length c0, .slice A1 l1.length c1] w fun e w' => e = .returned (.bool r) ∧ Drawn0 w w' := by
 have HR0 := Aside0.mk hr0
 have HC0 := Aside0.mk hc0
 clear hr0 hc0
 have HR1 := Aside0.mk hr1
 have HC1 := Aside0.mk hc1
 clear hr1 hc1
 have H : (glisterlaw06_inside.l0 k l0 l1 0) = some r := h
 clear h
 have H' := Aside0.mk H
 clear H
 go_enter Tryz.func40, Tryz.ntmps40
 go_wp2
 repeat (go_quiet (fail); try go_wp2)
 go_loopg [5] k (fun kq v5 w' => ∃ (x5_1 : Int), v5 = .int .i64 x5_1 ∧ Aside0 (glisterlaw06_inside.l0 kq l0 l1 x5_1 = some r) ∧ Aside0 (kq ≤ k) ∧ Drawn0 w w')
 case atStart => exact ⟨(0), (by first | rfl | (simp; done) | (simp [*]; done)), H', ⟨Nat.le_refl _⟩, by repeat (first | exact Drawn0.refl _ | apply Drawn0.step)⟩
 case round =>
  clear H'
  try clear c1
  try clear p2
  obtain ⟨x5_1, rfl, HA, HK1, ⟨m1, rfl⟩⟩ := hrel
  cases gk with
  | zero => exact absurd HA.out (by simp [glisterlaw06_inside.l0])
  | succ k1 =>
   have H := HA.out
   clear HA
   simp only [glisterlaw06_inside.l0] at H
   by_cases c3 : x5_1 < (l0.length : Int)
   ·rw [if_pos c3] at H
    have c3b0 : decide (x5_1 < (l0.length : Int)) = true := decide_eq_true c3
    clear c3
    have H' := Aside0.mk H
    clear H
    go_wp2
    repeat (go_quiet (fail); try go_wp2)
    go_loopg [6, 7] k1 (fun kq v6 v7 w' => ∃ (x6_2 : Bool) (x7_2 : Int), v6 = .bool x6_2 ∧ v7 = .int .i64 x7_2 ∧ Aside0 (glisterlaw06_inside.l1 kq l0 l1 x5_1 x6_2 x7_2 = some r) ∧ Aside0 (kq ≤ k1) ∧ Drawn0 w w')
    case atStart => exact ⟨(false), (0), (by first | rfl | (simp; done) | (simp [*]; done)), (by first | rfl | (simp; done) | (simp [*]; done)), H', ⟨Nat.le_refl _⟩, by repeat (first | exact Drawn0.refl _ | apply Drawn0.step)⟩
    case round =>
     clear H'
     try clear c1
     try clear p2
     try clear c3
     try clear c3b0
     try clear p2
     obtain ⟨x6_2, x7_2, rfl, rfl, HA, HK2, ⟨m2, rfl⟩⟩ := hrel
     cases gk with
     | zero => exact absurd HA.out (by simp [glisterlaw06_inside.l1])
     | succ k2 =>
      have H := HA.out
      clear HA
      simp only [glisterlaw06_inside.l1] at H
      by_cases c4 : x7_2 < (l1.length : Int)
      ·rw [if_pos c4] at H
       have c4b0 : decide (x7_2 < (l1.length : Int)) = true := decide_eq_true c4
       clear c4
       by_cases c5 : x6_2 = true
       ·subst c5
        have H1 : (glisterlaw06_inside.l1 k2 l0 l1 x5_1 true (wrap64 (x7_2 + 1))) = some r := by rw [if_pos rfl] at H; exact H
        clear H
        have H := H1
        clear H1
        have H' := Aside0.mk H
        clear H
        go_wp2
        repeat (go_quiet (fail); try go_wp2)
        go_roundg k2
        case measure => have := HK1.out; have := HK2.out; omega
        case rel => exact ⟨(true), (wrap64 (x7_2 + 1)), (by first | rfl | (simp; done) | (simp [*]; done)), (by first | rfl | (simp; done) | (simp [*]; done)), H', ⟨by have := HK1.out; have := HK2.out; omega⟩, by repeat (first | exact Drawn0.refl _ | apply Drawn0.step)⟩
       ·replace c5 := Bool.eq_false_iff.mpr c5
        subst c5
        have H1 : (if 0 ≤ x5_1 then (if x5_1 < (l0.length : Int) then (if 0 ≤ x7_2 then ((glisterref02_Same.f k2 (rd_L2 l0 x5_1) (rd_L2 l1 x7_2)).bind fun t744 => (glisterlaw06_inside.l1 k2 l0 l1 x5_1 t744 (wrap64 (x7_2 + 1)))) else (none)) else (none)) else (none)) = some r := by rw [if_neg (show ¬ (false = true) by decide)] at H; exact H
        clear H
        have H := H1
        clear H1
        by_cases c6 : 0 ≤ x5_1
        ·rw [if_pos c6] at H
         have c6b0 : decide (0 ≤ x5_1) = true := decide_eq_true c6
         clear c6
         by_cases c7 : x5_1 < (l0.length : Int)
         ·rw [if_pos c7] at H
          have c7b0 : decide (x5_1 < (l0.length : Int)) = true := decide_eq_true c7
          clear c7
          by_cases c8 : 0 ≤ x7_2
          ·rw [if_pos c8] at H
           have c8b0 : decide (0 ≤ x7_2) = true := decide_eq_true c8
           clear c8
           replace H := Option.bind_eq_some_iff.mp H
           obtain ⟨t744, A90, H⟩ := H
           replace H : (glisterlaw06_inside.l1 k2 l0 l1 x5_1 t744 (wrap64 (x7_2 + 1))) = some r := H
           have A9 := Aside0.mk A90
           clear A90
           have H' := Aside0.mk H
           clear H
           have p742 : 0 ≤ (x5_1 : Int) := of_decide_eq_true (by first | (with_reducible assumption) | assumption)
           have q742 : x5_1 < (l0.length : Int) := of_decide_eq_true (by first | (with_reducible assumption) | assumption)
           obtain ⟨ad742, A742_0, c742_0, e742, hx742_0, hl742_0, hi742_0⟩ := at_L2 HR0.out x5_1 p742 q742
           cases e742
           have HR742_0 := Aside0.mk hi742_0
           have HC742_0 := Aside0.mk hl742_0
           clear hi742_0 hl742_0
           replace p742 := eq_true p742
           replace q742 := eq_true q742
           have p743 : 0 ≤ (x7_2 : Int) := of_decide_eq_true (by first | (with_reducible assumption) | assumption)
           have q743 : x7_2 < (l1.length : Int) := of_decide_eq_true (by first | (with_reducible assumption) | assumption)
           obtain ⟨ad743, A743_0, c743_0, e743, hx743_0, hl743_0, hi743_0⟩ := at_L2 HR1.out x7_2 p743 q743
           cases e743
           have HR743_0 := Aside0.mk hi743_0
           have HC743_0 := Aside0.mk hl743_0
           clear hi743_0 hl743_0
           replace p743 := eq_true p743
           replace q743 := eq_true q743
           go_wp2_with (first | (go_at_call 24; (with_reducible refine (glisterref02_Same.calls k2 _ _ (rd_L2 l0 x5_1) _ _ (rd_L2 l1 x7_2) t744 _ ?side1 ?side2 ?side3 ?side4 A9.out).mono ?_); (case side1 => repeat (first | exact HR742_0.out | (with_reducible refine Kd.C_alloc ?_ _) | (with_reducible refine Kd.C_drewN ?_ _) | (with_reducible refine Kd.C_drew ?_))); (case side2 => exact HC742_0.out); (case side3 => repeat (first | exact HR743_0.out | (with_reducible refine Kd.C_alloc ?_ _) | (with_reducible refine Kd.C_drewN ?_ _) | (with_reducible refine Kd.C_drew ?_))); (case side4 => exact HC743_0.out); rintro e w' ⟨rfl, ⟨nd, rfl⟩⟩; (try first | exact ⟨rfl, _, World.drewN_drewN _ _ _⟩ | exact ⟨rfl, _, Eq.trans (World.drewN_drewN _ _ _) (congrArg (World.drewN _) (Nat.add_assoc _ _ _))⟩)))
           repeat (go_quiet (first | (go_at_call 24; (with_reducible refine (glisterref02_Same.calls k2 _ _ (rd_L2 l0 x5_1) _ _ (rd_L2 l1 x7_2) t744 _ ?side1 ?side2 ?side3 ?side4 A9.out).mono ?_); (case side1 => repeat (first | exact HR742_0.out | (with_reducible refine Kd.C_alloc ?_ _) | (with_reducible refine Kd.C_drewN ?_ _) | (with_reducible refine Kd.C_drew ?_))); (case side2 => exact HC742_0.out); (case side3 => repeat (first | exact HR743_0.out | (with_reducible refine Kd.C_alloc ?_ _) | (with_reducible refine Kd.C_drewN ?_ _) | (with_reducible refine Kd.C_drew ?_))); (case side4 => exact HC743_0.out); rintro e w' ⟨rfl, ⟨nd, rfl⟩⟩; (try first | exact ⟨rfl, _, World.drewN_drewN _ _ _⟩ | exact ⟨rfl, _, Eq.trans (World.drewN_drewN _ _ _) (congrArg (World.drewN _) (Nat.add_assoc _ _ _))⟩))); try go_wp2_with (first | (go_at_call 24; (with_reducible refine (glisterref02_Same.calls k2 _ _ (rd_L2 l0 x5_1) _ _ (rd_L2 l1 x7_2) t744 _ ?side1 ?side2 ?side3 ?side4 A9.out).mono ?_); (case side1 => repeat (first | exact HR742_0.out | (with_reducible refine Kd.C_alloc ?_ _) | (with_reducible refine Kd.C_drewN ?_ _) | (with_reducible refine Kd.C_drew ?_))); (case side2 => exact HC742_0.out); (case side3 => repeat (first | exact HR743_0.out | (with_reducible refine Kd.C_alloc ?_ _) | (with_reducible refine Kd.C_drewN ?_ _) | (with_reducible refine Kd.C_drew ?_))); (case side4 => exact HC743_0.out); rintro e w' ⟨rfl, ⟨nd, rfl⟩⟩; (try first | exact ⟨rfl, _, World.drewN_drewN _ _ _⟩ | exact ⟨rfl, _, Eq.trans (World.drewN_drewN _ _ _) (congrArg (World.drewN _) (Nat.add_assoc _ _ _))⟩))))
           go_roundg k2
           case measure => have := HK1.out; have := HK2.out; omega
           case rel => exact ⟨(t744), (wrap64 (x7_2 + 1)), (by first | rfl | (simp; done) | (simp [*]; done)), (by first | rfl | (simp; done) | (simp [*]; done)), H', ⟨by have := HK1.out; have := HK2.out; omega⟩, by repeat (first | exact Drawn0.refl _ | apply Drawn0.step)⟩
          ·rw [if_neg c8] at H
           exact absurd H (by simp)
         ·rw [if_neg c7] at H
          exact absurd H (by simp)
        ·rw [if_neg c6] at H
         exact absurd H (by simp)
      ·rw [if_neg c4] at H
       have c4b0 : decide (x7_2 < (l1.length : Int)) = false := decide_eq_false c4
       clear c4
       by_cases c10 : x6_2 = true
       ·subst c10
        have H1 : (glisterlaw06_inside.l0 k2 l0 l1 (wrap64 (x5_1 + 1))) = some r := by rw [if_pos rfl] at H; exact H
        clear H
        have H := H1
        clear H1
        have H' := Aside0.mk H
        clear H
        go_wp2
        repeat (go_quiet (fail); try go_wp2)
        go_roundg k2
        case measure => have := HK1.out; have := HK2.out; omega
        case rel => exact ⟨(wrap64 (x5_1 + 1)), (by first | rfl | (simp; done) | (simp [*]; done)), H', ⟨by have := HK1.out; have := HK2.out; omega⟩, by repeat (first | exact Drawn0.refl _ | apply Drawn0.step)⟩
       ·replace c10 := Bool.eq_false_iff.mpr c10
        subst c10
        have H1 : (some false) = some r := by rw [if_neg (show ¬ (false = true) by decide)] at H; exact H
        clear H
        have H := H1
        clear H1
        obtain rfl := Option.some.inj H
        go_wp2
        repeat (go_quiet (fail); try go_wp2)
        go_ret
        exact ⟨by first | rfl | (simp; done) | (simp [*]; done), by repeat (first | exact Drawn0.refl _ | apply Drawn0.step)⟩
   ·rw [if_neg c3] at H
    have c3b0 : decide (x5_1 < (l0.length : Int)) = false := decide_eq_false c3
    clear c3
    obtain rfl := Option.some.inj H
    go_wp2
    repeat (go_quiet (fail); try go_wp2)
    go_ret
    exact ⟨by first | rfl | (simp; done) | (simp [*]; done), by repeat (first | exact Drawn0.refl _ | apply Drawn0.step)⟩
end Go.Proofs.YthgfhgjlilmieaaGreat.B
namespace Go.Proofs.YthgfhgjlilmieaaGreat.G
open Go.RowKit Go.Shelf Go.Proofs.YthgfhgjlilmieaaGreatW.PrintWords Go.Proofs.YthgfhgjlilmieaaGreatW.PrintLast Go.Proofs.YthgfhgjlilmieaaGreatW.PrintMore
open Go.Proofs.YthgfhgjlilmieaaGreat.B
set_option linter.unusedVariables false
set_option linter.unusedSimpArgs false
theorem masked27_at (a : LV) (l : Lg) (n : Int) (w : World) (hL : LogAt w a l) : Calls Tryz.prog 27 #[logV a l, .int .i64 n] w (OwnP (mskL l n) (mskE l n) w) := (masked_any a l n w hL).mono fun e w' ⟨v, he, hR, hb⟩ => by
  obtain ⟨A, c, rfl, hl, hC⟩ := Kd.R_reads hR
  exact ⟨A, c, he, hl, hC, hb⟩
theorem leave32_at (a : LV) (l : Lg) (w : World) (hL : LogAt w a l) : Calls Tryz.prog 32 #[logV a l] w (OwnP (leaveL l) (leaveE l) w) := (leave32_any a l w hL).mono fun e w' ⟨v, he, hR, hb⟩ => by
  obtain ⟨A, c, rfl, hl, hC⟩ := Kd.R_reads hR
  exact ⟨A, c, he, hl, hC, hb⟩
def Q34 (l : Lg) (b : Bool) : Prop := b = true → ThinOk l ∧ logE l = 0
set_option maxRecDepth 100000 in
set_option maxHeartbeats 4000000 in
theorem ready34_any (a : LV) (l : Lg) (w : World) (hL : LogAt w a l) : Calls Tryz.prog 34 #[logV a l] w (SomeB (Q34 l) w) := by
  have hu := Tryz.underlying29
  have hz : ∀ W, Below (w.heap.size + 1) (w.alloc (logD a l)) W → LogAt W a l := fun W h => hL.below (toW h)
  have HTH := Aside0.mk (fun W h => thin17_any a l W (hz W h))
  have HFL := Aside0.mk (fun W h => fault22_any a l W (hz W h))
  have HCE := Aside0.mk (logCells a l w)
  have HTW := Aside0.mk (fun W h => toW (a := a) (l := l) (w := w) (W := W) h)
  have BW := Aside0.mk (Below.refl (w.heap.size + 1) (w.alloc (logD a l)))
  have HN : Aside0 (w.heap.size + 1 ≤ (w.alloc (logD a l)).heap.size) := ⟨by simp⟩
  obtain ⟨A0, A2, A3, A4, c0, c2, c3, c4⟩ := a
  dsimp only [logV] at HTH HFL HCE ⊢
  clear hz hL
  have HQ : Aside0 (∀ b, (b = true → ThinOk l) → Q34 l (b && logE l == 0)) := ⟨fun b h e => by
    simp only [Bool.and_eq_true, beq_iff_eq] at e
    exact ⟨h e.1, e.2⟩⟩
  generalize hE : logE l = E at HFL HQ
  clear hE
  generalize Q34 l = Q at *
  go_enter Tryz.func34, Tryz.ntmps34
  go_wp2_with (fail)
  refine (HTH.out _ BW.out).mono ?_
  rintro e w1_ ⟨b, rfl, hq, hb⟩
  have HQ1 := Aside0.mk hq
  clear hq
  have BW := Aside0.mk (step_b BW.out HN.out hb)
  obtain ⟨b0, b1, b2, b3, b4⟩ := HCE.out _ BW.out
  clear hb
  cases b with
  | false =>
    go_wp2
    go_ret
    exact ⟨_, rfl, by simpa using HQ.out false HQ1.out, HTW.out _ BW.out⟩
  | true =>
    go_wp2_with (fail)
    refine (HFL.out _ BW.out).mono ?_
    rintro e w2_ ⟨rfl, hb⟩
    have BW := Aside0.mk (step_b BW.out HN.out hb)
    clear b0 b1 b2 b3 b4 hb
    go_wp2
    go_ret
    exact ⟨_, rfl, by simpa using HQ.out true HQ1.out, HTW.out _ BW.out⟩
end Go.Proofs.YthgfhgjlilmieaaGreat.G
namespace Go.Proofs.YthgfhgjlilmieaaGreat.G
open Go.RowKit Go.Shelf Go.Proofs.YthgfhgjlilmieaaGreatW.PrintWords Go.Proofs.YthgfhgjlilmieaaGreatW.PrintLast Go.Proofs.YthgfhgjlilmieaaGreatW.PrintMore
open Go.Proofs.YthgfhgjlilmieaaGreat.B
set_option linter.unusedVariables false
set_option linter.unusedSimpArgs false
theorem mem_compT (t : List Int) (tss : List (List Int)) : t ∈ compT tss ↔ t ∈ tss := by
  unfold compT idxT
  rw [List.mem_map]
  constructor
  · rintro ⟨j, hj, rfl⟩
    have := List.mem_range.1 (List.mem_filter.1 hj).1
    rw [List.getD_eq_getElem?_getD, List.getElem?_eq_getElem this]
    exact List.getElem_mem this
  · intro h
    obtain ⟨j, hj, rfl⟩ := List.getElem_of_mem h
    induction j with
    | zero => exact ⟨0, List.mem_filter.2 ⟨List.mem_range.2 hj, rfl⟩, by simp [List.getD_eq_getElem?_getD, hj]⟩
    | succ j ih =>
      cases hk : (tss.getD (j + 1) [] == tss.getD j []) with
      | true =>
        obtain ⟨m, h1, h2⟩ := ih (by omega) (List.getElem_mem (by omega))
        refine ⟨m, h1, h2.trans ?_⟩
        have : tss.getD (j + 1) [] = tss.getD j [] := by simpa using hk
        rw [List.getD_eq_getElem?_getD, List.getD_eq_getElem?_getD, List.getElem?_eq_getElem hj, List.getElem?_eq_getElem (by omega)] at this
        simpa using this.symm
      | false => exact ⟨j + 1, List.mem_filter.2 ⟨List.mem_range.2 hj, keepT_pos (by simpa using hk)⟩, by simp [List.getD_eq_getElem?_getD, hj]⟩
theorem mem_heardL (l : Lg) (h : Int) (t : List Int) : t ∈ heardL l h ↔ t ∈ partsL l h := by
  unfold heardL
  rw [mem_compT]
  unfold sortT
  exact List.mem_mergeSort
theorem mskO_some (l : Lg) (n : Int) : (mskO l n).isSome = anyB l (rd_T75 l.rc n) := by
  unfold mskO anyB
  rw [Bool.eq_iff_iff, List.find?_isSome, List.any_eq_true]
  exact ⟨fun ⟨t, h, hp⟩ => ⟨t, (mem_heardL l _ t).1 h, hp⟩, fun ⟨t, h, hp⟩ => ⟨t, (mem_heardL l _ t).2 h, hp⟩⟩
theorem inR_rec {l : Lg} {r : Nat} (h : r < l.rc.length) : inR (r : Int) 0 ((l.rc.length : Int) - 1) = true := by
  simp only [inR, Bool.and_eq_true, decide_eq_true_eq]; omega
theorem mskE_eq {l : Lg} {r : Nat} (h : logE l = 0) (hr : r < l.rc.length) : mskE l r = if anyB l (rd_T75 l.rc r) = true then 0 else 7 := by
  unfold mskE
  rw [if_pos (ask_in h (inR_rec hr)), oneE, mskO_some]
structure VF (l : Lg) (r : Nat) (v a : Int) : Prop where
  ask : askE l r = 0
  val : v = 1 ∨ v = 2 ∨ v = 3
  m : mskE l r = 0 ∨ mskE l r = 7
  o : ownL l r = [] → v = 2
  n : mskE l r = 7 → v = 1
  f : a < 0 → v ≠ 1 ∧ mskE l r = 0
  t : 0 ≤ a → v ≠ 2 ∧ (ownL l r).contains a = true
end Go.Proofs.YthgfhgjlilmieaaGreat.G
namespace Go.Proofs.YthgfhgjlilmieaaGreat.G
open Go.RowKit Go.Shelf Go.Proofs.YthgfhgjlilmieaaGreatW.PrintWords Go.Proofs.YthgfhgjlilmieaaGreatW.PrintLast Go.Proofs.YthgfhgjlilmieaaGreatW.PrintMore
open Go.Proofs.YthgfhgjlilmieaaGreat.B
set_option linter.unusedVariables false
set_option linter.unusedSimpArgs false
theorem mem_lows (t : List Int) (x : List Int) : x ∈ lows t 0 ↔ ∃ lo hi, lo < hi ∧ hi ≤ t.length ∧ x = partOf t lo hi := by
  unfold lows highs
  simp only [List.mem_flatMap, List.mem_map, List.mem_range'_1]
  constructor
  · rintro ⟨lo, h1, hi, h2, rfl⟩
    exact ⟨lo, hi, by omega, by omega, rfl⟩
  · rintro ⟨lo, hi, h1, h2, rfl⟩
    exact ⟨lo, by omega, hi, by omega, rfl⟩
theorem mem_partsL (l : Lg) (b : Int) (x : List Int) : x ∈ partsL l b ↔ ∃ s, s ∈ l.jn ∧ heardB l s b = true ∧ ∃ lo hi, lo < hi ∧ hi ≤ s.f2.length ∧ x = partOf s.f2 lo hi := by
  unfold partsL jns
  simp only [List.drop_zero, List.mem_flatMap]
  constructor
  · rintro ⟨s, h1, h2⟩
    split at h2
    · rename_i hs
      exact ⟨s, h1, hs, (mem_lows _ _).1 h2⟩
    · cases h2
  · rintro ⟨s, h1, h2, h3⟩
    exact ⟨s, h1, by rw [if_pos h2]; exact (mem_lows _ _).2 h3⟩
theorem partOf_len (t : List Int) {lo hi : Nat} (h : hi ≤ t.length) : (partOf t lo hi).length = hi - lo := by
  unfold partOf
  rw [List.length_drop, List.length_take]
  omega
theorem partOf_tail (t : List Int) (lo hi : Nat) : (partOf t lo hi).drop 1 = partOf t (lo + 1) hi := by
  unfold partOf
  rw [List.drop_drop]
theorem partOf_init (t : List Int) {lo hi : Nat} (h1 : lo < hi) (h : hi ≤ t.length) : (partOf t lo hi).take ((partOf t lo hi).length - 1) = partOf t lo (hi - 1) := by
  rw [partOf_len t h]
  unfold partOf
  rw [List.take_drop, List.take_take]
  congr 2
  omega
def partB (t s : List Int) : Bool := decide (0 < t.length) && (List.range (s.length + 1 - t.length)).any fun (k : Nat) => t == (s.take (k + t.length)).drop k
theorem partB_of (s : List Int) {lo hi : Nat} (h1 : lo < hi) (h : hi ≤ s.length) : partB (partOf s lo hi) s = true := by
  unfold partB
  rw [partOf_len s h, Bool.and_eq_true, decide_eq_true_eq, List.any_eq_true]
  refine ⟨by omega, lo, List.mem_range.2 (by omega), ?_⟩
  rw [show lo + (hi - lo) = hi by omega]
  simp [partOf]
structure PF (l : Lg) (b : Int) (t : List Int) : Prop where
  found : (l.jn.any fun s => decide (s.f0 < b) && partB t s.f2) = true
  tail : 1 < t.length → t.drop 1 ∈ heardL l b
  init : 1 < t.length → t.take (t.length - 1) ∈ heardL l b
theorem pf_of (l : Lg) (b : Int) (t : List Int) (h : t ∈ heardL l b) : PF l b t := by
  rw [mem_heardL, mem_partsL] at h
  obtain ⟨s, h1, h2, lo, hi, h3, h4, rfl⟩ := h
  refine ⟨?_, fun hl => ?_, fun hl => ?_⟩
  · rw [List.any_eq_true]
    refine ⟨s, h1, ?_⟩
    rw [partB_of s.f2 h3 h4, Bool.and_true]
    simp only [heardB, Bool.and_eq_true] at h2
    exact h2.2
  · rw [partOf_len _ h4] at hl
    rw [mem_heardL, mem_partsL, partOf_tail]
    exact ⟨s, h1, h2, lo + 1, hi, by omega, h4, rfl⟩
  · rw [partOf_init _ h3 h4, mem_heardL, mem_partsL]
    rw [partOf_len _ h4] at hl
    exact ⟨s, h1, h2, lo, hi - 1, by omega, by omega, rfl⟩
end Go.Proofs.YthgfhgjlilmieaaGreat.G
namespace Go.Proofs.YthgfhgjlilmieaaGreat.G
open Go.RowKit Go.Shelf Go.Proofs.YthgfhgjlilmieaaGreatW.PrintWords Go.Proofs.YthgfhgjlilmieaaGreatW.PrintLast Go.Proofs.YthgfhgjlilmieaaGreatW.PrintMore
open Go.Proofs.YthgfhgjlilmieaaGreat.B
set_option linter.unusedVariables false
set_option linter.unusedSimpArgs false
def insideB (xs ys : List (List Int)) : Bool := xs.all fun x => ys.any fun y => x == y
theorem inside_l1 (xs ys : List (List Int)) (M : Nat) (hM : ∀ t, t ∈ xs → t.length ≤ M) (hM2 : M ≤ 9223372036854775807) (hb : ys.length ≤ 9223372036854775807) (i : Nat) (hi : i < xs.length) : ∀ (d j k : Nat) (b : Bool) (r : Option Bool) (K : Nat), d = ys.length - j → j ≤ ys.length → K + d + M + 2 ≤ k →
    (∀ k', K ≤ k' → (if (b || (ys.drop j).any fun y => xs[i] == y) = true then glisterlaw06_inside.l0 k' xs ys (wrap64 ((i : Int) + 1)) else some false) = r) → glisterlaw06_inside.l1 k xs ys i b j = r := by
  intro d
  induction d with
  | zero =>
    intro j k b r K hd hj hk hr
    obtain ⟨k, rfl⟩ : ∃ m, k = m + 1 := ⟨k - 1, by omega⟩
    simp only [glisterlaw06_inside.l1]
    rw [if_neg (by omega)]
    have := hr k (by omega)
    rw [List.drop_eq_nil_of_le (by omega)] at this
    simpa using this
  | succ d ih =>
    intro j k b r K hd hj hk hr
    obtain ⟨k, rfl⟩ : ∃ m, k = m + 1 := ⟨k - 1, by omega⟩
    have h1 : j < ys.length := by omega
    have r1 : rd_L2 xs (i : Int) = xs[i] := by simp [rd_L2, hi]
    have r2 : rd_L2 ys (j : Int) = ys[j] := by simp [rd_L2, h1]
    have hm := hM xs[i] (List.getElem_mem hi)
    simp only [glisterlaw06_inside.l1]
    rw [if_pos (by omega), wrap_nat j ys.length h1 hb]
    rw [List.drop_eq_getElem_cons h1] at hr
    simp only [List.any_cons] at hr
    cases b with
    | true =>
      rw [if_pos rfl]
      exact ih (j + 1) k true r K (by omega) (by omega) (by omega) (fun k' hk' => by simpa using hr k' hk')
    | false =>
      rw [if_neg (by simp), if_pos (by omega), if_pos (by omega), if_pos (by omega), r1, r2, same_f xs[i] ys[j] (by omega) k (by omega), Option.bind_some]
      exact ih (j + 1) k _ r K (by omega) (by omega) (by omega) (fun k' hk' => by simpa using hr k' hk')
theorem inside_l0 (xs ys : List (List Int)) (M : Nat) (hM : ∀ t, t ∈ xs → t.length ≤ M) (hM2 : M ≤ 9223372036854775807) (hx : xs.length ≤ 9223372036854775807) (hb : ys.length ≤ 9223372036854775807) : ∀ (d i k : Nat), d = xs.length - i → i ≤ xs.length → (d + 1) * (ys.length + M + 4) ≤ k → glisterlaw06_inside.l0 k xs ys i = some (insideB (xs.drop i) ys) := by
  intro d
  induction d with
  | zero =>
    intro i k hd hi hk
    obtain ⟨k, rfl⟩ : ∃ m, k = m + 1 := ⟨k - 1, by omega⟩
    simp only [glisterlaw06_inside.l0]
    rw [if_neg (by omega), List.drop_eq_nil_of_le (by omega)]
    rfl
  | succ d ih =>
    intro i k hd hi hk
    have hk2 : (d + 1) * (ys.length + M + 4) + (ys.length + M + 4) ≤ k := by rw [← Nat.succ_mul]; exact hk
    obtain ⟨k, rfl⟩ : ∃ m, k = m + 1 := ⟨k - 1, by omega⟩
    have h1 : i < xs.length := by omega
    simp only [glisterlaw06_inside.l0]
    rw [if_pos (by omega)]
    refine inside_l1 xs ys M hM hM2 hb i h1 ys.length 0 k false _ ((d + 1) * (ys.length + M + 4)) (by omega) (by omega) (by omega) (fun k' hk' => ?_)
    rw [wrap_nat i xs.length h1 hx, ih (i + 1) k' (by omega) (by omega) hk', List.drop_zero, Bool.false_or, List.drop_eq_getElem_cons h1]
    unfold insideB
    rw [List.all_cons]
    cases (ys.any fun y => xs[i] == y) <;> rfl
theorem inside40_any (A B : Option Addr) (c d : Nat) (xs ys : List (List Int)) (M : Nat) (w : World) (hM : ∀ t, t ∈ xs → t.length ≤ M) (hM2 : M ≤ 9223372036854775807) (hx : Kd.C (Kd.slice 3 (Kd.int .i64)) w A xs.length xs) (hc : xs.length ≤ c) (hy : Kd.C (Kd.slice 3 (Kd.int .i64)) w B ys.length ys) (hd : ys.length ≤ d) :
    Calls Tryz.prog 40 #[.slice A xs.length c, .slice B ys.length d] w fun e w' => e = .returned (.bool (insideB xs ys)) ∧ Below w.heap.size w w' := by
  have hb1 : xs.length ≤ 9223372036854775807 := by have := hx.2.1; omega
  have hb2 : ys.length ≤ 9223372036854775807 := by have := hy.2.1; omega
  have hf : glisterlaw06_inside.f ((xs.length + 1) * (ys.length + M + 4)) xs ys = some (insideB xs ys) := by
    unfold glisterlaw06_inside.f
    have := inside_l0 xs ys M hM hM2 hb1 hb2 xs.length 0 _ (by omega) (by omega) (Nat.le_refl _)
    simpa using this
  refine (glisterlaw06_inside.calls _ A c xs B d ys _ w hx hc hy hd hf).mono ?_
  rintro e w' ⟨he, m, rfl⟩
  exact ⟨he, belowN w m⟩
end Go.Proofs.YthgfhgjlilmieaaGreat.G
namespace Go.Proofs.YthgfhgjlilmieaaGreat.G
open Go.RowKit Go.Shelf Go.Proofs.YthgfhgjlilmieaaGreatW.PrintWords Go.Proofs.YthgfhgjlilmieaaGreatW.PrintLast Go.Proofs.YthgfhgjlilmieaaGreatW.PrintMore
open Go.Proofs.YthgfhgjlilmieaaGreat.B
set_option linter.unusedVariables false
set_option linter.unusedSimpArgs false
def LlsP (xs : List (List Int)) (q : Int) (w : World) (e : Ending) (w' : World) : Prop := ∃ A c, e = .returned (.tuple #[.slice A xs.length c, .int .i64 q]) ∧ xs.length ≤ c ∧ Kd.C (Kd.slice 3 (Kd.int .i64)) w' A xs.length xs ∧ Below w.heap.size w w'
theorem heard26_at (a : LV) (l : Lg) (h : Int) (w : World) (hL : LogAt w a l) : Calls Tryz.prog 26 #[logV a l, .int .i64 h] w (LlsP (heaL l h) (heaE l h) w) := (hears_any a l h w hL).mono fun e w' ⟨v, he, hR, hb⟩ => by
  obtain ⟨A, c, rfl, hl, hC⟩ := Kd.R_reads hR
  exact ⟨A, c, he, hl, hC, hb⟩
theorem partB_len {t s : List Int} (h : partB t s = true) : t.length ≤ s.length := by
  unfold partB at h
  rw [Bool.and_eq_true, List.any_eq_true] at h
  obtain ⟨_, k, hk, _⟩ := h
  have := List.mem_range.1 hk
  omega
theorem pf_len {l : Lg} {b : Int} {t : List Int} (h : PF l b t) (hf : Fits l) : t.length ≤ 1000 := by
  obtain ⟨s, hs, hp⟩ := List.any_eq_true.1 h.found
  obtain ⟨j, hj, rfl⟩ := List.getElem_of_mem hs
  rw [Bool.and_eq_true] at hp
  exact Nat.le_trans (partB_len hp.2) (hf.tx j hj)
end Go.Proofs.YthgfhgjlilmieaaGreat.G
namespace Go.Proofs.YthgfhgjlilmieaaGreat.G
open Go.RowKit Go.Shelf Go.Proofs.YthgfhgjlilmieaaGreatW.PrintWords Go.Proofs.YthgfhgjlilmieaaGreatW.PrintLast Go.Proofs.YthgfhgjlilmieaaGreatW.PrintMore
open Go.Proofs.YthgfhgjlilmieaaGreat.B
set_option linter.unusedVariables false
set_option linter.unusedSimpArgs false
theorem mem_bys (J : Nat) (b : Int) : b ∈ bys J ↔ -1 ≤ b ∧ b < J := by
  simp only [bys, List.mem_map, List.mem_range]
  exact ⟨fun ⟨i, h, e⟩ => by omega, fun ⟨h1, h2⟩ => ⟨(b + 1).toNat, by omega, by omega⟩⟩
structure Wy (ES : List (Int × Int)) (J R : Nat) (out : List Int) (n : Nat) (u : List Bool) (bs : List Int) : Prop where
  len : bs.length = n
  no : ∀ (i : Nat) (b : Int), bs[i]? = some b → outB out ((R : Int) - n + i) = true → b = -2
  yes : ∀ (i : Nat) (b : Int), bs[i]? = some b → outB out ((R : Int) - n + i) = false → -1 ≤ b ∧ b < J ∧ ((R : Int) - n + i, b) ∈ ES ∧ (b ≠ -1 → u.getD b.toNat false = false)
  two : ∀ (i j : Nat) (b : Int), i < j → bs[i]? = some b → bs[j]? = some b → b < 0
theorem getD_free (ES : List (Int × Int)) (u : List Bool) (r b : Int) (hf : freeB ES u r b = true) (hu : u.length = 8) (hb : -1 ≤ b ∧ b < 8) (c : Int) (hc : 0 ≤ c) : (freeU ES u r b).getD c.toNat false = if c = b then true else u.getD c.toNat false := by
  unfold freeU
  by_cases h : b = -1
  · rw [if_neg (by simp [h]), if_neg (by omega)]
  · rw [if_pos ⟨hf, h⟩, uC_set u b.toNat (by omega) hu]
    by_cases e : b.toNat = c.toNat
    · rw [if_pos e, if_pos (by omega)]
    · rw [if_neg e, if_neg (by omega)]
theorem isW_iff (ES : List (Int × Int)) (J R : Nat) (out : List Int) (hJ : J ≤ 8) : ∀ n u bs, u.length = 8 → (IsW ES J R out n u bs ↔ Wy ES J R out n u bs)
  | 0, u, bs, hu => by
    simp only [IsW]
    constructor
    · rintro rfl
      exact ⟨rfl, by simp, by simp, by simp⟩
    · intro h; exact List.length_eq_zero_iff.1 h.len
  | n + 1, u, [], hu => by
    simp only [IsW, false_iff]
    intro h; have := h.len; simp at this
  | n + 1, u, b :: bs, hu => by
    have e0 : (R : Int) - (n + 1 : Nat) + (0 : Nat) = (R : Int) - (n + 1) := by push_cast; omega
    have e1 : ∀ i : Nat, (R : Int) - (n + 1 : Nat) + (i + 1 : Nat) = (R : Int) - n + i := fun i => by push_cast; omega
    simp only [IsW]
    by_cases ho : outB out ((R : Int) - (n + 1)) = true
    · rw [if_pos ho, isW_iff ES J R out hJ n u bs hu]
      constructor
      · rintro ⟨rfl, h⟩
        refine ⟨by simp [h.len], ?_, ?_, ?_⟩
        · intro i c hi hq
          cases i with
          | zero => simpa using hi.symm
          | succ i => rw [e1] at hq; exact h.no i c (by simpa using hi) hq
        · intro i c hi hq
          cases i with
          | zero => rw [e0, ho] at hq; cases hq
          | succ i => rw [e1] at hq ⊢; exact h.yes i c (by simpa using hi) hq
        · intro i j c hij hi hj
          cases i with
          | zero => simp at hi; omega
          | succ i =>
            cases j with
            | zero => omega
            | succ j => exact h.two i j c (by omega) (by simpa using hi) (by simpa using hj)
      · intro h
        refine ⟨h.no 0 b (by simp) (by rw [e0]; exact ho), ⟨by have := h.len; simpa using this, ?_, ?_, ?_⟩⟩
        · intro i c hi hq
          exact h.no (i + 1) c (by simpa using hi) (by rw [e1]; exact hq)
        · intro i c hi hq
          have := h.yes (i + 1) c (by simpa using hi) (by rw [e1]; exact hq)
          rwa [e1] at this
        · intro i j c hij hi hj
          exact h.two (i + 1) (j + 1) c (by omega) (by simpa using hi) (by simpa using hj)
    · have ho' : outB out ((R : Int) - (n + 1)) = false := by simpa using ho
      rw [if_neg ho, isW_iff ES J R out hJ n (freeU ES u ((R : Int) - (n + 1)) b) bs (by rw [freeU_len, hu]), mem_bys]
      constructor
      · rintro ⟨hb, hf, h⟩
        have hf2 := hf
        simp only [freeB, Bool.and_eq_true, decide_eq_true_eq, Bool.not_eq_true', Bool.and_eq_false_iff, bne_eq_false_iff_eq] at hf2
        have hget := getD_free ES u _ b hf hu ⟨hb.1, by omega⟩
        refine ⟨by simp [h.len], ?_, ?_, ?_⟩
        · intro i c hi hq
          cases i with
          | zero => rw [e0, ho'] at hq; cases hq
          | succ i => rw [e1] at hq; exact h.no i c (by simpa using hi) hq
        · intro i c hi hq
          cases i with
          | zero =>
            simp at hi; subst hi; rw [e0]
            exact ⟨hb.1, hb.2, hf2.1, fun hne => hf2.2.resolve_left hne⟩
          | succ i =>
            rw [e1] at hq ⊢
            obtain ⟨h1, h2, h3, h4⟩ := h.yes i c (by simpa using hi) hq
            refine ⟨h1, h2, h3, fun hne => ?_⟩
            have := h4 hne
            rw [hget c (by omega)] at this
            split at this
            · cases this
            · exact this
        · intro i j c hij hi hj
          cases j with
          | zero => omega
          | succ j =>
            cases i with
            | zero =>
              simp at hi; subst hi
              have hj2 : bs[j]? = some b := by simpa using hj
              by_cases hn : b < 0
              · exact hn
              · exfalso
                cases hq : outB out ((R : Int) - n + j) with
                | true => have := h.no j b hj2 hq; omega
                | false =>
                  have := (h.yes j b hj2 hq).2.2.2 (by omega)
                  rw [hget b (by omega), if_pos rfl] at this
                  cases this
            | succ i => exact h.two i j c (by omega) (by simpa using hi) (by simpa using hj)
      · intro h
        obtain ⟨h1, h2, h3, h4⟩ := h.yes 0 b (by simp) (by rw [e0]; exact ho')
        rw [e0] at h3
        have hf : freeB ES u ((R : Int) - (n + 1)) b = true := by
          simp only [freeB, Bool.and_eq_true, decide_eq_true_eq, Bool.not_eq_true', Bool.and_eq_false_iff, bne_eq_false_iff_eq]
          refine ⟨h3, ?_⟩
          by_cases e : b = -1
          · exact .inl e
          · exact .inr (h4 e)
        have hget := getD_free ES u _ b hf hu ⟨h1, by omega⟩
        refine ⟨⟨h1, h2⟩, hf, ⟨by have := h.len; simpa using this, ?_, ?_, ?_⟩⟩
        · intro i c hi hq
          exact h.no (i + 1) c (by simpa using hi) (by rw [e1]; exact hq)
        · intro i c hi hq
          obtain ⟨k1, k2, k3, k4⟩ := h.yes (i + 1) c (by simpa using hi) (by rw [e1]; exact hq)
          rw [e1] at k3
          refine ⟨k1, k2, k3, fun hne => ?_⟩
          rw [hget c (by omega)]
          by_cases e : c = b
          · subst e
            have := h.two 0 (i + 1) c (by omega) (by simp) (by simpa using hi)
            omega
          · rw [if_neg e]; exact k4 hne
        · intro i j c hij hi hj
          exact h.two (i + 1) (j + 1) c (by omega) (by simpa using hi) (by simpa using hj)
def Feas (ES : List (Int × Int)) (J R : Nat) (out : List Int) : Prop := ∃ bs, Wy ES J R out R u0 bs
theorem feas_iff (ES : List (Int × Int)) (J R : Nat) (out : List Int) (hJ : J ≤ 8) (hR : R < 1024) : leastN ES J R out R u0 < 1024 ↔ Feas ES J R out := by
  rw [least_ex _ _ _ _ _ _ hR]
  exact ⟨fun ⟨bs, h⟩ => ⟨bs, (isW_iff _ _ _ _ hJ _ _ _ rfl).1 h⟩, fun ⟨bs, h⟩ => ⟨bs, (isW_iff _ _ _ _ hJ _ _ _ rfl).2 h⟩⟩
theorem feas_mono {ES ES' : List (Int × Int)} {J R : Nat} {out : List Int} (h : ∀ x, x ∈ ES → x ∈ ES') (hf : Feas ES J R out) : Feas ES' J R out := by
  obtain ⟨bs, hb⟩ := hf
  refine ⟨bs, hb.len, hb.no, fun i b hi hq => ?_, hb.two⟩
  obtain ⟨h1, h2, h3, h4⟩ := hb.yes i b hi hq
  exact ⟨h1, h2, h _ h3, h4⟩
structure Picks (R m from_ : Nat) (ps : List Int) : Prop where
  len : ps.length = m
  lt : ps.Pairwise (· < ·)
  rng : ∀ p, p ∈ ps → (from_ : Int) ≤ p ∧ p < R
theorem picks_cons {R m from_ : Nat} {p : Int} {ps : List Int} (h : Picks R (m + 1) from_ (p :: ps)) : ∃ r : Nat, p = r ∧ from_ ≤ r ∧ r < R ∧ Picks R m (r + 1) ps := by
  have h1 := h.rng p (by simp)
  refine ⟨p.toNat, by omega, by omega, by omega, by have := h.len; simpa using this, (List.pairwise_cons.1 h.lt).2, fun q hq => ?_⟩
  have h2 := (List.pairwise_cons.1 h.lt).1 q hq
  have h3 := h.rng q (List.mem_cons_of_mem _ hq)
  omega
inductive LexLe : List Int → List Int → Prop
  | refl (xs : List Int) : LexLe xs xs
  | lt (x y : Int) (xs ys : List Int) : x < y → LexLe (x :: xs) (y :: ys)
  | cons (x : Int) (xs ys : List Int) : LexLe xs ys → LexLe (x :: xs) (x :: ys)
theorem leave_spec (ES : List (Int × Int)) (J R : Nat) (hJ : J ≤ 8) (hR : R < 1024) : ∀ m out from_, (leaveP ES J R m out from_ = none ∧ ∀ ps, Picks R m from_ ps → ¬ Feas ES J R (out ++ ps)) ∨ ∃ ps, leaveP ES J R m out from_ = some (out ++ ps) ∧ Picks R m from_ ps ∧ Feas ES J R (out ++ ps) ∧ ∀ qs, Picks R m from_ qs → Feas ES J R (out ++ qs) → LexLe ps qs
  | 0, out, from_ => by
    unfold leaveP
    by_cases h : leastN ES J R out R u0 < 1024
    · rw [if_pos h]
      refine .inr ⟨[], by simp, ⟨rfl, List.Pairwise.nil, by simp⟩, by rw [List.append_nil]; exact (feas_iff _ _ _ _ hJ hR).1 h, fun qs hq _ => ?_⟩
      rw [List.length_eq_zero_iff.1 hq.len]
      exact .refl _
    · rw [if_neg h]
      refine .inl ⟨rfl, fun ps hp hf => h ?_⟩
      rw [List.length_eq_zero_iff.1 hp.len, List.append_nil] at hf
      exact (feas_iff _ _ _ _ hJ hR).2 hf
  | m + 1, out, from_ => by
    unfold leaveP
    have key : ∀ d from_, (((List.range' from_ d).findSome? fun (r : Nat) => leaveP ES J R m (out ++ [(r : Int)]) (r + 1)) = none ∧ ∀ r : Nat, from_ ≤ r → r < from_ + d → ∀ ps, Picks R m (r + 1) ps → ¬ Feas ES J R (out ++ (r : Int) :: ps)) ∨ ∃ (r : Nat) (ps : List Int), ((List.range' from_ d).findSome? fun (r : Nat) => leaveP ES J R m (out ++ [(r : Int)]) (r + 1)) = some (out ++ (r : Int) :: ps) ∧ from_ ≤ r ∧ r < from_ + d ∧ Picks R m (r + 1) ps ∧ Feas ES J R (out ++ (r : Int) :: ps) ∧ (∀ q : Nat, from_ ≤ q → q < r → ∀ qs, Picks R m (q + 1) qs → ¬ Feas ES J R (out ++ (q : Int) :: qs)) ∧ ∀ qs, Picks R m (r + 1) qs → Feas ES J R (out ++ (r : Int) :: qs) → LexLe ps qs := by
      intro d
      induction d with
      | zero => intro from_; exact .inl ⟨rfl, fun r h1 h2 => by omega⟩
      | succ d ih =>
        intro from_
        rw [List.range'_succ, List.findSome?_cons]
        rcases leave_spec ES J R hJ hR m (out ++ [(from_ : Int)]) (from_ + 1) with ⟨h1, h2⟩ | ⟨ps, h1, h2, h3, h4⟩
        · rw [h1]
          simp only [List.append_assoc, List.singleton_append] at h2
          dsimp only
          rcases ih (from_ + 1) with ⟨k1, k2⟩ | ⟨r, ps, k1, k2, k3, k4, k5, k6, k7⟩
          · refine .inl ⟨k1, fun r hr1 hr2 => ?_⟩
            by_cases e : r = from_
            · subst e; exact h2
            · exact k2 r (by omega) (by omega)
          · refine .inr ⟨r, ps, k1, by omega, by omega, k4, k5, fun q hq1 hq2 => ?_, k7⟩
            by_cases e : q = from_
            · subst e; exact h2
            · exact k6 q (by omega) hq2
        · rw [h1]
          simp only [List.append_assoc, List.singleton_append] at h3 h4 ⊢
          exact .inr ⟨from_, ps, rfl, Nat.le_refl _, by omega, h2, h3, fun q h5 h6 => by omega, h4⟩
    rcases key (R - from_) from_ with ⟨h1, h2⟩ | ⟨r, ps, h1, h2, h3, h4, h5, h6, h7⟩
    · refine .inl ⟨h1, fun ps hp => ?_⟩
      cases ps with
      | nil => have := hp.len; simp at this
      | cons p ps =>
        obtain ⟨r, rfl, hr1, hr2, hq⟩ := picks_cons hp
        exact h2 r hr1 (by omega) ps hq
    · refine .inr ⟨(r : Int) :: ps, h1, ⟨by simp [h4.len], List.pairwise_cons.2 ⟨fun q hq => by have := h4.rng q hq; omega, h4.lt⟩, fun p hp => ?_⟩, h5, fun qs hq hf => ?_⟩
      · rcases List.mem_cons.1 hp with rfl | hp
        · omega
        · have := h4.rng p hp; omega
      · cases qs with
        | nil => have := hq.len; simp at this
        | cons q qs =>
          obtain ⟨q, rfl, hq1, hq2, hq3⟩ := picks_cons hq
          by_cases e1 : q < r
          · exact absurd hf (h6 q hq1 e1 qs hq3)
          · by_cases e2 : q = r
            · subst e2; exact .cons _ _ _ (h7 qs hq3 hf)
            · exact .lt _ _ _ _ (by omega)
theorem size_spec (ES : List (Int × Int)) (J R : Nat) (hJ : J ≤ 8) (hR : R < 1024) : ∀ n, (sizeFind ES J R n = none ∧ ∀ m, m < n → ∀ ps, Picks R m 0 ps → ¬ Feas ES J R ps) ∨ ∃ ps m, m < n ∧ sizeFind ES J R n = some ps ∧ Picks R m 0 ps ∧ Feas ES J R ps ∧ (∀ k, k < m → ∀ qs, Picks R k 0 qs → ¬ Feas ES J R qs) ∧ ∀ qs, Picks R m 0 qs → Feas ES J R qs → LexLe ps qs
  | 0 => .inl ⟨rfl, fun m h => by omega⟩
  | n + 1 => by
    rcases size_spec ES J R hJ hR n with ⟨h1, h2⟩ | ⟨ps, m, h0, h1, h2⟩
    · rw [sizeFind_succ _ _ _ _ h1]
      rcases leave_spec ES J R hJ hR n [] 0 with ⟨k1, k2⟩ | ⟨ps, k1, k2, k3, k4⟩
      · simp only [List.nil_append] at k2
        refine .inl ⟨k1, fun m hm => ?_⟩
        by_cases e : m = n
        · subst e; exact k2
        · exact h2 m (by omega)
      · simp only [List.nil_append] at k1 k3 k4
        exact .inr ⟨ps, n, by omega, k1, k2, k3, h2, k4⟩
    · exact .inr ⟨ps, m, by omega, sizeFind_some _ _ _ _ _ _ (by omega) h1, h2⟩
structure LvOk (l : Lg) (ps : List Int) : Prop where
  picks : Picks l.rc.length ps.length 0 ps
  feas : Feas (esK l l.rc.length) l.jn.length l.rc.length ps
  short : ∀ k, k < ps.length → ∀ qs, Picks l.rc.length k 0 qs → ¬ Feas (esK l l.rc.length) l.jn.length l.rc.length qs
  first : ∀ qs, Picks l.rc.length ps.length 0 qs → Feas (esK l l.rc.length) l.jn.length l.rc.length qs → LexLe ps qs
theorem leaveL_ok {l : Lg} (hE : logE l = 0) (hJ : l.jn.length ≤ 8) (hR : l.rc.length ≤ 6) : LvOk l (leaveL l) := by
  unfold leaveL
  rw [if_neg (by simp [hE])]
  rcases size_spec (esK l l.rc.length) l.jn.length l.rc.length hJ (by omega) (l.rc.length + 1) with ⟨h1, h2⟩ | ⟨ps, m, h0, h1, h2, h3, h4, h5⟩
  · exact (sizeFind_end _ _ _ h1).elim
  · rw [h1]
    obtain rfl := h2.len
    exact ⟨h2, h3, h4, h5⟩
theorem leave_le {l l' : Lg} (ho : LvOk l (leaveL l)) (ho' : LvOk l' (leaveL l')) (hr : l'.rc.length = l.rc.length) (hf : ∀ out, Feas (esK l l.rc.length) l.jn.length l.rc.length out → Feas (esK l' l'.rc.length) l'.jn.length l'.rc.length out) : (leaveL l').length ≤ (leaveL l).length := by
  by_cases h : (leaveL l).length < (leaveL l').length
  · exact absurd (hf _ ho.feas) (ho'.short _ h _ (by rw [hr]; exact ho.picks))
  · omega
end Go.Proofs.YthgfhgjlilmieaaGreat.G
namespace Go.Proofs.YthgfhgjlilmieaaGreat.G
open Go.RowKit Go.Shelf Go.Proofs.YthgfhgjlilmieaaGreatW.PrintWords Go.Proofs.YthgfhgjlilmieaaGreatW.PrintLast Go.Proofs.YthgfhgjlilmieaaGreatW.PrintMore
open Go.Proofs.YthgfhgjlilmieaaGreat.B
set_option linter.unusedVariables false
set_option linter.unusedSimpArgs false
structure LeLog (l l' : Lg) : Prop where
  ls : l'.ls = l.ls
  jn : l'.jn = l.jn
  rc : l'.rc = l.rc
  errs : l.errs ≤ l'.errs
  sees : ∀ s b, heardB l s b = true → heardB l' s b = true
theorem reads_le {l l' : Lg} (h : LeLog l l') {t : List Int} {r : ByteArray} (hr : readsB l t r = true) : readsB l' t r = true := by
  unfold readsB at *
  rw [h.ls]
  simp only [Bool.and_eq_true, decide_eq_true_eq] at *
  exact ⟨hr.1, by have := h.errs; omega⟩
theorem stat_le {l l' : Lg} (h : LeLog l l') {r : S75} {b : Int} (hb : b ∈ statL l r) : b ∈ statL l' r := by
  simp only [statL, statK, List.mem_map, List.mem_filter, hitB, Bool.and_eq_true] at *
  obtain ⟨i, ⟨h1, h2, h3⟩, rfl⟩ := hb
  rw [h.jn]
  exact ⟨i, ⟨h1, h2, reads_le h h3⟩, rfl⟩
theorem parts_le {l l' : Lg} (h : LeLog l l') {b : Int} {t : List Int} (ht : t ∈ partsL l b) : t ∈ partsL l' b := by
  simp only [partsL, jns, List.mem_flatMap] at *
  obtain ⟨s, h1, h2⟩ := ht
  rw [h.jn]
  refine ⟨s, h1, ?_⟩
  split at h2
  · rename_i hs
    rw [if_pos (h.sees s b hs)]; exact h2
  · cases h2
theorem any_le {l l' : Lg} (h : LeLog l l') {r : S75} (ha : anyB l r = true) : anyB l' r = true := by
  unfold anyB at *
  rw [List.any_eq_true] at *
  obtain ⟨t, h1, h2⟩ := ha
  exact ⟨t, parts_le h h1, reads_le h h2⟩
theorem can_le {l l' : Lg} (h : LeLog l l') {x : Int × Int} (hx : x ∈ esK l l.rc.length) : x ∈ esK l' l'.rc.length := by
  obtain ⟨r, b⟩ := x
  rw [mem_esK] at hx
  obtain ⟨k, h1, rfl, h2⟩ := hx
  rw [h.rc, mem_esK]
  refine ⟨k, h1, rfl, ?_⟩
  rw [h.rc]
  rcases h2 with h2 | h2
  · exact .inl (stat_le h h2)
  · refine .inr ?_
    unfold falL at *
    split at h2
    · rename_i ha
      rw [if_pos (any_le h ha)]; exact h2
    · cases h2
theorem leave_log_le {l l' : Lg} (h : LeLog l l') (h1 : logE l = 0) (h2 : logE l' = 0) : (leaveL l').length ≤ (leaveL l).length := by
  have s1 := sound_of h1
  have s2 := sound_of h2
  refine leave_le (leaveL_ok h1 s1.jlen s1.rlen) (leaveL_ok h2 s2.jlen s2.rlen) (by rw [h.rc]) fun out hf => ?_
  have := feas_mono (fun x hx => can_le h hx) hf
  rw [h.rc] at this ⊢
  rwa [h.jn]
theorem own_le {l l' : Lg} (h : LeLog l l') (h1 : logE l = 0) (h2 : logE l' = 0) {r : Nat} (hr : r < l.rc.length) : (ownL l r).all ((ownL l' r).contains ·) = true := by
  rw [own_in (ask_in h1 (inR_rec hr)), own_in (ask_in h2 (inR_rec (by rw [h.rc]; exact hr))), List.all_eq_true]
  intro b hb
  rw [List.contains_iff_mem, h.rc]
  exact stat_le h hb
end Go.Proofs.YthgfhgjlilmieaaGreat.G
namespace Go.Proofs.YthgfhgjlilmieaaGreat.G
open Go.RowKit Go.Shelf Go.Proofs.YthgfhgjlilmieaaGreatW.PrintWords Go.Proofs.YthgfhgjlilmieaaGreatW.PrintLast Go.Proofs.YthgfhgjlilmieaaGreatW.PrintMore
open Go.Proofs.YthgfhgjlilmieaaGreat.B
set_option linter.unusedVariables false
set_option linter.unusedSimpArgs false
def seenBy (s by_ : Int) : Int := max 0 ((if s < 0 then by_ % 24 else s) - by_ % 5)
def earlier (l : Lg) (k : Nat) (by_ : Int) : Lg := { l with sees := l.sees.set k (seenBy (rd l.sees k) by_) }
def blindL (l : Lg) : Lg := { l with sees := List.replicate l.sees.length (-1) }
theorem logE_sees {l l' : Lg} (h : logE l = 0) (h1 : l'.ls = l.ls) (h2 : l'.errs = l.errs) (h3 : l'.sees.length = l.sees.length) (h4 : l'.jn = l.jn) (h5 : l'.rc = l.rc) (h6 : ∀ x, x ∈ l'.sees → seeB x = true) : logE l' = 0 := by
  have hs := sound_of h
  refine logE_good ?_ (by rw [h1]; exact hs.code) (good_all ?_ ?_ ?_ ?_ ?_)
  · simp only [overB, h3, h4, h5]
    have := hs.sees.2; have := hs.jlen; have := hs.rlen
    simp; omega
  · rw [h2]; simp only [inR, Bool.and_eq_true, decide_eq_true_eq]; exact hs.errs
  · rw [h3]; have := hs.sees.1; omega
  · intro j hj
    exact h6 _ (List.getElem_mem hj)
  · intro j hj
    have hm : l'.jn[j] ∈ l.jn := by rw [← h4]; exact List.getElem_mem hj
    have := hs.jn _ hm
    unfold sentB at *
    unfold atB at *
    rw [h3, h1]
    exact this
  · intro j hj
    have hm : l'.rc[j] ∈ l.rc := by rw [← h5]; exact List.getElem_mem hj
    have := hs.rc _ hm
    unfold recordB at *
    unfold atB at *
    rw [h3]
    exact this
theorem see_rng {x : Int} : seeB x = true ↔ -1 ≤ x ∧ x ≤ 23 := by
  rw [← see_in]
  simp [inR]
theorem seenBy_rng {s by_ : Int} (h : -1 ≤ s ∧ s ≤ 23) (hb : 0 ≤ by_) : 0 ≤ seenBy s by_ ∧ seenBy s by_ ≤ 23 ∧ (0 ≤ s → seenBy s by_ ≤ s) := by
  unfold seenBy
  split <;> omega
theorem rd_set (xs : List Int) (k : Nat) (v : Int) (i : Int) : rd (xs.set k v) i = if k = i.toNat ∧ k < xs.length then v else rd xs i := by
  unfold rd
  simp only [List.getD_eq_getElem?_getD, List.getElem?_set]
  by_cases h : k = i.toNat
  · subst h
    by_cases h2 : i.toNat < xs.length
    · simp [h2]
    · simp [h2]
  · simp [h]
theorem earlier_le {l : Lg} (hE : logE l = 0) {k : Nat} (hk : k < l.sees.length) {by_ : Int} (hb : 0 ≤ by_) : LeLog l (earlier l k by_) := by
  refine ⟨rfl, rfl, rfl, Int.le_refl _, fun s b h => ?_⟩
  have hs := sound_of hE
  have hk2 := see_rng.1 (hs.see _ (List.getElem_mem hk))
  rw [← rd_nat l.sees k hk] at hk2
  have hr := seenBy_rng hk2 hb
  simp only [heardB, Bool.and_eq_true, decide_eq_true_eq, bne_iff_ne, ne_eq] at h ⊢
  show (rd (l.sees.set k (seenBy (rd l.sees k) by_)) s.f1 ≠ -1 ∧ rd (l.sees.set k (seenBy (rd l.sees k) by_)) s.f1 ≤ s.f0) ∧ s.f0 < b
  rw [rd_set]
  by_cases hc : k = s.f1.toNat ∧ k < l.sees.length
  · rw [if_pos hc]
    have e : rd l.sees s.f1 = rd l.sees (k : Int) := by unfold rd; rw [Int.toNat_natCast, ← hc.1]
    rw [e] at h
    have := hr.2.2 (by omega)
    omega
  · rw [if_neg hc]; exact h
theorem earlier_ok {l : Lg} (hE : logE l = 0) {k : Nat} (hk : k < l.sees.length) {by_ : Int} (hb : 0 ≤ by_) : logE (earlier l k by_) = 0 := by
  have hs := sound_of hE
  have hk2 := see_rng.1 (hs.see _ (List.getElem_mem hk))
  rw [← rd_nat l.sees k hk] at hk2
  have hr := seenBy_rng hk2 hb
  refine logE_sees hE rfl rfl (by simp [earlier]) rfl rfl (fun x hx => ?_)
  rcases List.mem_or_eq_of_mem_set hx with h | h
  · exact hs.see x h
  · rw [h]; exact see_rng.2 (by omega)
theorem blind_ok {l : Lg} (hE : logE l = 0) : logE (blindL l) = 0 :=
  logE_sees hE rfl rfl (by simp [blindL]) rfl rfl (fun x hx => by rw [(List.mem_replicate.1 hx).2]; decide)
theorem blind_heard {l : Lg} (s : S76) (b : Int) (h0 : 0 ≤ s.f1) (h1 : s.f1 < l.sees.length) : heardB (blindL l) s b = false := by
  have : rd (blindL l).sees s.f1 = -1 := by
    unfold rd blindL
    simp only [List.getD_eq_getElem?_getD, List.getElem?_replicate]
    rw [if_pos (by omega)]; rfl
  simp [heardB, this]
theorem sent_at {l : Lg} (hE : logE l = 0) {s : S76} (h : s ∈ l.jn) : 0 ≤ s.f1 ∧ s.f1 < l.sees.length := by
  have := (sound_of hE).jn s h
  unfold sentB at this
  simp only [Bool.and_eq_true, atB, inB, decide_eq_true_eq] at this
  omega
theorem blind_parts {l : Lg} (hE : logE l = 0) (b : Int) : partsL (blindL l) b = [] := by
  rw [List.eq_nil_iff_forall_not_mem]
  intro t h
  obtain ⟨s, h1, h2, _⟩ := (mem_partsL _ _ _).1 h
  have hs := sent_at hE (s := s) h1
  rw [blind_heard s b hs.1 hs.2] at h2
  cases h2
theorem blind_hears {l : Lg} (hE : logE l = 0) (b : Int) : heardL (blindL l) b = [] := by
  rw [List.eq_nil_iff_forall_not_mem]
  intro t h
  rw [mem_heardL, blind_parts hE] at h
  cases h
theorem blind_msk {l : Lg} (hE : logE l = 0) {r : Nat} (hr : r < l.rc.length) : mskE (blindL l) r = 7 := by
  rw [mskE_eq (blind_ok hE) (show r < (blindL l).rc.length from hr), if_neg]
  unfold anyB
  rw [blind_parts hE]
  simp
theorem inside_of {xs ys : List (List Int)} (h : ∀ t, t ∈ xs → t ∈ ys) : insideB xs ys = true := by
  unfold insideB
  rw [List.all_eq_true]
  intro x hx
  rw [List.any_eq_true]
  exact ⟨x, h x hx, by simp⟩
theorem hears_le {l l' : Lg} (h : LeLog l l') (b : Int) : insideB (heardL l b) (heardL l' b) = true :=
  inside_of fun t ht => (mem_heardL _ _ _).2 (parts_le h ((mem_heardL _ _ _).1 ht))
theorem hears_later {l : Lg} {b c : Int} (h : b ≤ c) : insideB (heardL l b) (heardL l c) = true :=
  inside_of fun t ht => (mem_heardL _ _ _).2 (by
    obtain ⟨s, h1, h2, h3⟩ := (mem_partsL _ _ _).1 ((mem_heardL _ _ _).1 ht)
    refine (mem_partsL _ _ _).2 ⟨s, h1, ?_, h3⟩
    simp only [heardB, Bool.and_eq_true, decide_eq_true_eq] at h2 ⊢
    exact ⟨h2.1, by omega⟩)
end Go.Proofs.YthgfhgjlilmieaaGreat.G
namespace Go.Proofs.YthgfhgjlilmieaaGreat.G
open Go.RowKit Go.Shelf Go.Proofs.YthgfhgjlilmieaaGreatW.PrintWords Go.Proofs.YthgfhgjlilmieaaGreatW.PrintLast Go.Proofs.YthgfhgjlilmieaaGreatW.PrintMore
open Go.Proofs.YthgfhgjlilmieaaGreat.B
set_option linter.unusedVariables false
set_option linter.unusedSimpArgs false
abbrev L0 : Lg := lineG []
abbrev jn0 : List S76 := [⟨6, 0, [1, 0]⟩, ⟨8, 1, [2]⟩]
abbrev rc0 : List S75 := [⟨6, 0, bsD⟩, ⟨8, 1, bsB⟩, ⟨9, 0, bsA⟩]
structure LineP (w w' : World) (a : LV) : Prop where
  r0 : Kd.R Kd.string 9 w' w.heap.size (fun k => w.heap.size ≤ k) (.slice a.A0 3 a.c0) [bsA, bsB, bsC]
  r2 : Kd.R (Kd.int .i64) 3 w' w.heap.size (fun k => w.heap.size ≤ k) (.slice a.A2 2 a.c2) [5, -1]
  r3 : Kd.N k76 76 w' w.heap.size (fun k => w.heap.size ≤ k ∧ some k ≠ (Value.slice a.A0 3 a.c0).ownBlock ∧ some k ≠ (Value.slice a.A2 2 a.c2).ownBlock ∧ some k ≠ (Value.slice a.A4 3 a.c4).ownBlock) (.slice a.A3 2 a.c3) jn0
  r4 : Kd.R k75 75 w' w.heap.size (fun k => w.heap.size ≤ k) (.slice a.A4 3 a.c4) rc0
def SameOn (n x : Nat) (w' W : World) : Prop := ∀ k, n ≤ k → k < w'.heap.size → k ≠ x → W.heap[k]? = w'.heap[k]?
section
variable {w w' W : World} {a : LV} {x : Nat}
theorem LineP.c0 (h : LineP w w' a) (hs : SameOn w.heap.size x w' W) (hx : some x ≠ (Value.slice a.A0 3 a.c0).ownBlock) : Kd.C Kd.string W a.A0 3 [bsA, bsB, bsC] :=
  (Kd.R_reads' (Kd.R_step (Kd.R_tight rfl h.r0) (w1 := W) (fun k hk hlt => hs k (h.r0.1 k hk.symm) hlt (fun e => hx (by rw [← e]; exact hk))))).2.2
theorem LineP.c2_ (h : LineP w w' a) (hs : SameOn w.heap.size x w' W) (hx : some x ≠ (Value.slice a.A2 2 a.c2).ownBlock) : Kd.C (Kd.int .i64) W a.A2 2 [5, -1] :=
  (Kd.R_reads' (Kd.R_step (Kd.R_tight rfl h.r2) (w1 := W) (fun k hk hlt => hs k (h.r2.1 k hk.symm) hlt (fun e => hx (by rw [← e]; exact hk))))).2.2
theorem LineP.c4_ (h : LineP w w' a) (hs : SameOn w.heap.size x w' W) (hx : some x ≠ (Value.slice a.A4 3 a.c4).ownBlock) : Kd.C k75 W a.A4 3 rc0 :=
  (Kd.R_reads' (Kd.R_step (Kd.R_tight rfl h.r4) (w1 := W) (fun k hk hlt => hs k (h.r4.1 k hk.symm) hlt (fun e => hx (by rw [← e]; exact hk))))).2.2
theorem LineP.c3_ (h : LineP w w' a) (hs : SameOn w.heap.size x w' W) (hx : some x = (Value.slice a.A0 3 a.c0).ownBlock ∨ some x = (Value.slice a.A2 2 a.c2).ownBlock ∨ some x = (Value.slice a.A4 3 a.c4).ownBlock ∨ w'.heap.size ≤ x) : Kd.C k76 W a.A3 2 jn0 :=
  (Kd.N_reads' (Kd.N_step h.r3 (w1 := W) (fun k hk hlt => hs k hk.1 hlt (fun e => by
    subst e
    rcases hx with q | q | q | q
    · exact hk.2.1 q
    · exact hk.2.2.1 q
    · exact hk.2.2.2 q
    · omega)))).2.2
structure Own5 (w w' : World) (a : LV) (b0 b2 b3 b4 : Nat) (s0 s2 s3 s4 : Array Value) : Prop where
  e0 : a.A0 = some ⟨b0, 0, none⟩
  e2 : a.A2 = some ⟨b2, 0, none⟩
  e3 : a.A3 = some ⟨b3, 0, none⟩
  e4 : a.A4 = some ⟨b4, 0, none⟩
  k0 : w'.heap[b0]? = some (.cells s0 9 (0, 0))
  k2 : w'.heap[b2]? = some (.cells s2 3 (0, 0))
  k3 : w'.heap[b3]? = some (.cells s3 76 (0, 0))
  k4 : w'.heap[b4]? = some (.cells s4 75 (0, 0))
  n2 : w.heap.size ≤ b2 ∧ b2 < w'.heap.size
  n3 : w.heap.size ≤ b3 ∧ b3 < w'.heap.size
  n4 : w.heap.size ≤ b4 ∧ b4 < w'.heap.size
theorem LineP.own (h : LineP w w' a) : ∃ b0 b2 b3 b4 s0 s2 s3 s4, Own5 w w' a b0 b2 b3 b4 s0 s2 s3 s4 := by
  obtain ⟨b0, c0, e0, _, _, s0, k0⟩ := Kd.R_form h.r0 (by simp)
  obtain ⟨b2, c2, e2, n2, m2, s2, k2⟩ := Kd.R_form h.r2 (by simp)
  obtain ⟨b3, c3, e3, n3, m3, s3, k3⟩ := Kd.N_form h.r3 (by simp)
  obtain ⟨b4, c4, e4, n4, m4, s4, k4⟩ := Kd.R_form h.r4 (by simp)
  injection e0 with e0
  injection e2 with e2
  injection e3 with e3
  injection e4 with e4
  exact ⟨b0, b2, b3, b4, s0, s2, s3, s4, e0, e2, e3, e4, k0, k2, k3, k4, ⟨n2, m2⟩, ⟨n3, m3⟩, ⟨n4, m4⟩⟩
variable {b0 b2 b3 b4 : Nat} {s0 s2 s3 s4 : Array Value}
theorem ty_ne {b c : Nat} {s t : Array Value} {p q : TypeId} (h1 : w'.heap[b]? = some (.cells s p (0, 0))) (h2 : w'.heap[c]? = some (.cells t q (0, 0))) (h : p ≠ q) : b ≠ c := fun e => by
  subst e
  rw [h1] at h2
  injection h2 with h2
  injection h2 with _ h3
  exact h h3
theorem own_of {A : Option Addr} {b n c : Nat} (h : A = some ⟨b, 0, none⟩) : (Value.slice A n c).ownBlock = some b := by subst h; rfl
theorem zz0 : ∀ s, s ∈ L0.ls → s.size ≤ 140737488351232 := by decide
theorem zz4 : ∀ r, r ∈ L0.rc → r.f2.size ≤ 140737488351232 := by decide
theorem LineP.len (h : LineP w w' a) : 3 ≤ a.c0 ∧ 2 ≤ a.c2 ∧ 2 ≤ a.c3 ∧ 3 ≤ a.c4 := ⟨(Kd.R_reads' h.r0).2.1, (Kd.R_reads' h.r2).2.1, (Kd.N_reads' h.r3).2.1, (Kd.R_reads' h.r4).2.1⟩
theorem LineP.plain (h : LineP w w' a) (hs : SameOn w.heap.size w'.heap.size w' W) : LogAt W a L0 := by
  obtain ⟨b0, b2, b3, b4, s0, s2, s3, s4, ho⟩ := h.own
  obtain ⟨l0, l2, l3, l4⟩ := h.len
  have m0 := (Array.getElem?_eq_some_iff.1 ho.k0).1
  have := ho.n2; have := ho.n3; have := ho.n4
  refine ⟨h.c0 hs ?_, h.c2_ hs ?_, h.c3_ hs (.inr (.inr (.inr (Nat.le_refl _)))), h.c4_ hs ?_, l0, l2, l3, l4, zz0, zz4⟩
  · rw [own_of ho.e0]; intro e; cases e; omega
  · rw [own_of ho.e2]; intro e; cases e; omega
  · rw [own_of ho.e4]; intro e; cases e; omega
theorem LineP.many (h : LineP w w' a) (hs : SameOn w.heap.size w'.heap.size w' W) {g : Nat} (hg : W.heap[g]? = some (.cells #[.int .i64 0, .int .i64 0, .int .i64 0, .int .i64 0, .int .i64 0] 3 (0, 0))) : LogAt W { a with A2 := some ⟨g, 0, none⟩, c2 := 5 } { L0 with sees := [0, 0, 0, 0, 0] } := by
  have hp := h.plain hs
  exact ⟨hp.h0, C_lit W g [0, 0, 0, 0, 0] (by simp [maxLen]) hg, hp.h3, hp.h4, hp.l0, Nat.le_refl _, hp.l3, hp.l4, zz0, zz4⟩
theorem LineP.code (h : LineP w w' a) (hs : SameOn w.heap.size w'.heap.size w' W) {g : Nat} (hg : W.heap[g]? = some (.cells #[.string bsA, .string bsA] 9 (0, 0))) : LogAt W { a with A0 := some ⟨g, 0, none⟩, c0 := 2 } { L0 with ls := [bsA, bsA] } := by
  have hp := h.plain hs
  refine ⟨?_, hp.h2, hp.h3, hp.h4, Nat.le_refl _, hp.l2, hp.l3, hp.l4, (by decide), zz4⟩
  refine Kd.C_of_reads (d := ByteArray.empty) (h1 := fun _ => rfl) ⟨rfl, by simp, fun _ => ⟨_, rfl, fun j hj => ?_⟩⟩
  match j, hj with
  | 0, _ => rw [add_plain, cell_of_row W g 0 _ _ _ hg]; simp
  | 1, _ => rw [add_plain, cell_of_row W g 1 _ _ _ hg]; simp
theorem LineP.sees (h : LineP w w' a) (ho : Own5 w w' a b0 b2 b3 b4 s0 s2 s3 s4) (hs : SameOn w.heap.size b2 w' W) (hg : W.heap[b2]? = some (.cells (s2.setIfInBounds 0 (.int .i64 24)) 3 (0, 0))) : LogAt W a { L0 with sees := [24, -1] } := by
  obtain ⟨l0, l2, l3, l4⟩ := h.len
  have hC := (Kd.R_reads' h.r2).2.2
  obtain ⟨ad, e1, c0⟩ := Kd.at_int hC 0 (by omega) (by simp)
  obtain ⟨ad', e1', c1⟩ := Kd.at_int hC 1 (by omega) (by simp)
  rw [ho.e2] at e1 e1'
  cases e1
  cases e1'
  rw [add_plain, cell_of_row _ _ _ _ _ _ ho.k2] at c0 c1
  have z0 : 0 < s2.size := (Array.getElem?_eq_some_iff.1 c0).1
  refine ⟨h.c0 hs ?_, ?_, h.c3_ hs (.inr (.inl (own_of ho.e2).symm)), h.c4_ hs ?_, l0, l2, l3, l4, zz0, zz4⟩
  · rw [own_of ho.e0]; intro e; cases e; exact ty_ne ho.k0 ho.k2 (by decide) rfl
  · show Kd.C (Kd.int .i64) W a.A2 2 [24, -1]
    rw [ho.e2]
    refine Kd.C_of_reads (d := (0 : Int)) (h1 := fun _ => rfl) ⟨rfl, by simp, fun _ => ⟨_, rfl, fun j hj => ?_⟩⟩
    match j, hj with
    | 0, _ => rw [add_plain, cell_of_row _ _ _ _ _ _ hg, Array.getElem?_setIfInBounds, if_pos rfl, if_pos z0]; rfl
    | 1, _ => rw [add_plain, cell_of_row _ _ _ _ _ _ hg, Array.getElem?_setIfInBounds, if_neg (by omega)]; exact c1
  · rw [own_of ho.e4]; intro e; cases e; exact ty_ne ho.k4 ho.k2 (by decide) rfl
theorem LineP.read (h : LineP w w' a) (ho : Own5 w w' a b0 b2 b3 b4 s0 s2 s3 s4) (hs : SameOn w.heap.size b4 w' W) (hg : W.heap[b4]? = some (.cells (s4.setIfInBounds 2 (.string ⟨#[120]⟩)) 75 (0, 0))) : LogAt W a { L0 with rc := [⟨6, 0, ⟨#[120]⟩⟩, ⟨8, 1, bsB⟩, ⟨9, 0, bsA⟩] } := by
  obtain ⟨l0, l2, l3, l4⟩ := h.len
  have hC := (Kd.R_reads' h.r4).2.2
  have hold : ∀ (j i : Nat) (u : Value), j * 3 + i ≠ 2 → s4[j * 3 + i]? = some u → W.cell? ((⟨b4, 0, none⟩ : Addr).add (j * 3 + i)) = some u := fun j i u hne hu => by
    rw [add_plain, cell_of_row _ _ _ _ _ _ hg, Array.getElem?_setIfInBounds, if_neg (by omega)]; exact hu
  have hcs : ∀ (j : Nat) (hj : j < 3), ∃ u0 u1 u2, s4[j * 3 + 0]? = some u0 ∧ s4[j * 3 + 1]? = some u1 ∧ s4[j * 3 + 2]? = some u2 ∧ u0 = .int .i64 (rc0[j]'hj).f0 ∧ u1 = .int .i64 (rc0[j]'hj).f1 ∧ u2 = .string (rc0[j]'hj).f2 := fun j hj => by
    obtain ⟨ad, e, hc⟩ := hC.2.2 (by simp)
    rw [ho.e4] at e
    cases e
    obtain ⟨c, q1, q2, q3⟩ := hc j _ (List.getElem?_eq_getElem hj)
    have q4 := k75_open q2
    subst q4
    have a0 := q3 0 _ rfl
    have a1 := q3 1 _ rfl
    have a2 := q3 2 _ rfl
    rw [show k75.sz = 3 from rfl, add_plain, cell_of_row _ _ _ _ _ _ ho.k4] at a0 a1 a2
    exact ⟨_, _, _, a0, a1, a2, rfl, rfl, rfl⟩
  refine ⟨h.c0 hs ?_, h.c2_ hs ?_, h.c3_ hs (.inr (.inr (.inl (own_of ho.e4).symm))), ?_, l0, l2, l3, l4, zz0, (by decide)⟩
  · rw [own_of ho.e0]; intro e; cases e; exact ty_ne ho.k0 ho.k4 (by decide) rfl
  · rw [own_of ho.e2]; intro e; cases e; exact ty_ne ho.k2 ho.k4 (by decide) rfl
  · show Kd.C k75 W a.A4 3 [⟨6, 0, ⟨#[120]⟩⟩, ⟨8, 1, bsB⟩, ⟨9, 0, bsA⟩]
    rw [ho.e4]
    refine ⟨rfl, by omega, fun _ => ⟨_, rfl, fun j p hj => ?_⟩⟩
    match j, hj with
    | 0, hj =>
      cases hj
      obtain ⟨_, _, _, g0, g1, g2, rfl, rfl, rfl⟩ := hcs 0 (by omega)
      refine ⟨[.int .i64 6, .int .i64 0, .string ⟨#[120]⟩], rfl, k75_mk _ _, three (hold 0 0 _ (by omega) g0) (hold 0 1 _ (by omega) g1) ?_⟩
      rw [add_plain, cell_of_row _ _ _ _ _ _ hg, Array.getElem?_setIfInBounds, if_pos rfl, if_pos (Array.getElem?_eq_some_iff.1 g2).1]
    | 1, hj =>
      cases hj
      obtain ⟨_, _, _, g0, g1, g2, rfl, rfl, rfl⟩ := hcs 1 (by omega)
      exact ⟨[.int .i64 8, .int .i64 1, .string bsB], rfl, k75_mk _ _, three (hold 1 0 _ (by omega) g0) (hold 1 1 _ (by omega) g1) (hold 1 2 _ (by omega) g2)⟩
    | 2, hj =>
      cases hj
      obtain ⟨_, _, _, g0, g1, g2, rfl, rfl, rfl⟩ := hcs 2 (by omega)
      exact ⟨[.int .i64 9, .int .i64 0, .string bsA], rfl, k75_mk _ _, three (hold 2 0 _ (by omega) g0) (hold 2 1 _ (by omega) g1) (hold 2 2 _ (by omega) g2)⟩
theorem LineP.text (h : LineP w w' a) (ho : Own5 w w' a b0 b2 b3 b4 s0 s2 s3 s4) (hs : SameOn w.heap.size b3 w' W) (hg : W.heap[b3]? = some (.cells (s3.setIfInBounds 2 (.slice none 0 0)) 76 (0, 0))) : LogAt W a { L0 with jn := [⟨6, 0, []⟩, ⟨8, 1, [2]⟩] } := by
  obtain ⟨l0, l2, l3, l4⟩ := h.len
  have h3 := h.r3
  rw [ho.e3] at h3
  have hold : ∀ (j i : Nat) (u : Value), j * 3 + i ≠ 2 → w'.cell? ((⟨b3, 0, none⟩ : Addr).add (j * 3 + i)) = some u → W.cell? ((⟨b3, 0, none⟩ : Addr).add (j * 3 + i)) = some u := fun j i u hne hu => by
    rw [add_plain, cell_of_row _ _ _ _ _ _ ho.k3] at hu
    rw [add_plain, cell_of_row _ _ _ _ _ _ hg, Array.getElem?_setIfInBounds, if_neg (by omega)]; exact hu
  obtain ⟨c, q1, q2, q3⟩ := Kd.N_get h3 (⟨0, 0, []⟩ : S76) 0 (by omega) (by simp)
  obtain ⟨A5, c5, rfl, _, _⟩ := k76_openF q2
  have a0 := q3 0 _ rfl
  have a1 := q3 1 _ rfl
  have a2 := q3 2 _ rfl
  obtain ⟨d, t1, t2, t3⟩ := Kd.N_get h3 (⟨0, 0, []⟩ : S76) 1 (by omega) (by simp)
  obtain ⟨A6, c6, rfl, l6, f6⟩ := k76_openF t2
  have d0 := t3 0 _ rfl
  have d1 := t3 1 _ rfl
  have d2 := t3 2 _ rfl
  rw [show k76.sz = 3 from rfl] at a0 a1 a2 d0 d1 d2
  refine ⟨h.c0 hs ?_, h.c2_ hs ?_, ?_, h.c4_ hs ?_, l0, l2, l3, l4, zz0, zz4⟩
  · rw [own_of ho.e0]; intro e; cases e; exact ty_ne ho.k0 ho.k3 (by decide) rfl
  · rw [own_of ho.e2]; intro e; cases e; exact ty_ne ho.k2 ho.k3 (by decide) rfl
  · show Kd.C k76 W a.A3 2 [⟨6, 0, []⟩, ⟨8, 1, [2]⟩]
    rw [ho.e3]
    refine ⟨rfl, by omega, fun _ => ⟨_, rfl, fun j p hj => ?_⟩⟩
    match j, hj with
    | 0, hj =>
      cases hj
      refine ⟨[.int .i64 6, .int .i64 0, .slice none 0 0], rfl, k76_mk W ⟨6, 0, []⟩ (A2 := none) (c2 := 0) (Nat.le_refl _) (Kd.C_nil _ _), three (hold 0 0 _ (by omega) a0) (hold 0 1 _ (by omega) a1) ?_⟩
      rw [add_plain, cell_of_row _ _ _ _ _ _ ho.k3] at a2
      have z2 : 2 < s3.size := (Array.getElem?_eq_some_iff.1 a2).1
      rw [add_plain, cell_of_row _ _ _ _ _ _ hg, Array.getElem?_setIfInBounds, if_pos rfl, if_pos z2]
    | 1, hj =>
      cases hj
      exact ⟨[.int .i64 8, .int .i64 1, .slice A6 1 c6], rfl, k76_mk W ⟨8, 1, [2]⟩ l6 (Kd.F_now (Kd.F_step f6 (fun k hk hlt => hs k hk.1.1 hlt (fun e => hk.2 (by rw [e]; rfl))))), three (hold 1 0 _ (by omega) d0) (hold 1 1 _ (by omega) d1) (hold 1 2 _ (by omega) d2)⟩
  · rw [own_of ho.e4]; intro e; cases e; exact ty_ne ho.k4 ho.k3 (by decide) rfl
end
end Go.Proofs.YthgfhgjlilmieaaGreat.G
namespace Go.Proofs.YthgfhgjlilmieaaGreat.G
open Go.RowKit Go.Shelf Go.Proofs.YthgfhgjlilmieaaGreatW.PrintWords Go.Proofs.YthgfhgjlilmieaaGreatW.PrintLast Go.Proofs.YthgfhgjlilmieaaGreatW.PrintMore
open Go.Proofs.YthgfhgjlilmieaaGreat.B
set_option linter.unusedVariables false
set_option linter.unusedSimpArgs false
abbrev L1 : Lg := lineG [⟨6, 0, bsD⟩]
end Go.Proofs.YthgfhgjlilmieaaGreat.G
namespace Go.Proofs.YthgfhgjlilmieaaGreat.G
open Go.RowKit Go.Shelf Go.Proofs.YthgfhgjlilmieaaGreatW.PrintWords Go.Proofs.YthgfhgjlilmieaaGreatW.PrintLast Go.Proofs.YthgfhgjlilmieaaGreatW.PrintMore
open Go.Proofs.YthgfhgjlilmieaaGreat.B
set_option linter.unusedVariables false
set_option linter.unusedSimpArgs false
structure Two (w W : World) (g1 g2 : Nat) (cs : Array Value) : Prop where
  ne : g1 ≠ g2
  n1 : w.heap.size ≤ g1
  n2 : w.heap.size ≤ g2
  k1 : W.heap[g1]? = some (.cells cs 29 (0, 0))
  k2 : W.heap[g2]? = some (.cells cs 29 (0, 0))
  bel : Below w.heap.size w W
theorem two_a (w : World) (cs : Array Value) : Two w ((w.alloc (.cells cs 29)).alloc (.cells cs 29)).drew w.heap.size (w.heap.size + 1) cs :=
  ⟨by omega, Nat.le_refl _, by omega, heap_old (alloc_new _ _) _, alloc_at _ _ (by simp), below_drew (((Below.refl _ w).alloc (Nat.le_refl _) _).alloc (by simp) _)⟩
theorem two_b (w : World) (cs : Array Value) : Two w ((w.alloc (.cells cs 29)).alloc (.cells cs 29)).drew (w.heap.size + 1) w.heap.size cs :=
  ⟨by omega, by omega, Nat.le_refl _, alloc_at _ _ (by simp), heap_old (alloc_new _ _) _, below_drew (((Below.refl _ w).alloc (Nat.le_refl _) _).alloc (by simp) _)⟩
theorem srow_frozen {W : World} {b i : Nat} {cs : Array Value} {t : TypeId} (h : W.heap[b]? = some (.cells cs t (0, 0))) : W.frozen? ⟨b, i, none⟩ = false := by simp [World.frozen?, h]
theorem srow_cell {W : World} {b i : Nat} {cs : Array Value} {t : TypeId} (h : W.heap[b]? = some (.cells cs t (0, 0))) : W.cell? ⟨b, i, none⟩ = cs[i]? := cell_of_row W b i cs t _ h
theorem sset_ne {W : World} {b i k : Nat} {v : Value} {o : Obj} (h : W.heap[k]? = some o) (hk : k ≠ b) : (W.setCell ⟨b, i, none⟩ v).heap[k]? = some o := (Below.heap_setCell W ⟨b, i, none⟩ v k hk).trans h
structure Irow (w W : World) (b cp : Nat) (xs : List Int) (s : Array Value) : Prop where
  blk : W.heap[b]? = some (.cells s 3 (0, 0))
  n : w.heap.size ≤ b
  lt : b < W.heap.size
  cp : xs.length ≤ cp
  max : xs.length ≤ 9223372036854775807
  get : ∀ j, j < xs.length → s[j]? = some (.int .i64 (rd xs (j : Int)))
theorem Irow.reads {w W : World} {b cp : Nat} {xs : List Int} {s : Array Value} (h : Irow w W b cp xs s) : Kd.C (Kd.int .i64) W (some ⟨b, 0, none⟩) xs.length xs := by
  refine Kd.C_of_reads (d := (0 : Int)) (h1 := fun _ => rfl) ⟨rfl, h.max, fun _ => ⟨_, rfl, fun j hj => ?_⟩⟩
  rw [add_plain, srow_cell h.blk, h.get j hj]
  rfl
theorem list_own (A : Option Addr) (c : Nat) (xs : List Int) (w : World) (hC : Kd.C (Kd.int .i64) w A xs.length xs) (hc : xs.length ≤ c) (hp : 0 < xs.length) (hx : xs.length ≤ 1000) :
    Calls Tryz.prog 39 #[.slice A xs.length c] w fun e w' => ∃ b cp, e = .returned (.slice (some ⟨b, 0, none⟩) xs.length cp) ∧ Aside0 (∃ s, Irow w w' b cp xs s) ∧ Below w.heap.size w w' := by
  refine (glisterlaw06_list.calls A c xs xs w hC hc (list_f xs hx)).mono ?_
  rintro e w' ⟨v, rfl, hR, hb⟩
  obtain ⟨b, cp, rfl, n, lt, s, blk⟩ := Kd.R_form hR hp
  obtain ⟨_, hcp, hC2⟩ := Kd.R_reads' hR
  refine ⟨b, cp, rfl, ⟨s, blk, n, lt, hcp, by omega, fun j hj => ?_⟩, hb⟩
  obtain ⟨ad, e1, cx⟩ := Kd.at_int hC2 (j : Int) (by omega) (by omega)
  cases e1
  rw [Int.toNat_natCast, add_plain, srow_cell blk] at cx
  exact cx
structure Four (w W : World) (g1 g2 bx cx bb cb : Nat) (xs : List Int) (f : Nat → Nat → Array Value) : Prop where
  k1 : W.heap[g1]? = some (.cells (f bx cx) 29 (0, 0))
  k2 : W.heap[g2]? = some (.cells (f bb cb) 29 (0, 0))
  rx : ∃ s, Irow w W bx cx xs s
  rb : ∃ s, Irow w W bb cb xs s
  ne : bx ≠ bb
  sz : w.heap.size ≤ W.heap.size
  bel : ∀ N, N ≤ w.heap.size → N ≤ g1 → N ≤ g2 → Below N w W
theorem Irow.move {w w0 W V : World} {b cp : Nat} {xs : List Int} {s : Array Value} (h : Irow w W b cp xs s) (hb : V.heap[b]? = W.heap[b]?) (hn : w0.heap.size ≤ b) : Irow w0 V b cp xs s :=
  ⟨hb.trans h.blk, hn, (Array.getElem?_eq_some_iff.1 (hb.trans h.blk)).1, h.cp, h.max, h.get⟩
theorem four_of {w wc w0 w7 w8 : World} {g1 g2 b7 cp7 b8 cp8 : Nat} {xs : List Int} {a0 a1 a2 a3 a4 : Value} (hT : Two w wc g1 g2 #[a0, a1, a2, a3, a4]) (h0 : w0.heap.size = wc.heap.size) (h7 : ∃ s, Irow w0 w7 b7 cp7 xs s) (h8 : ∃ s, Irow w7 w8 b8 cp8 xs s) (hb7 : Below wc.heap.size wc w7) (hb8 : Below w7.heap.size w7 w8) :
    Four wc ((w8.setCell ⟨g1, 2, none⟩ (.slice (some ⟨b7, 0, none⟩) xs.length cp7)).setCell ⟨g2, 2, none⟩ (.slice (some ⟨b8, 0, none⟩) xs.length cp8)) g1 g2 b7 cp7 b8 cp8 xs (fun b c => #[a0, a1, .slice (some ⟨b, 0, none⟩) xs.length c, a3, a4]) := by
  obtain ⟨s7, h7⟩ := h7
  obtain ⟨s8, h8⟩ := h8
  have l1 := (Array.getElem?_eq_some_iff.1 hT.k1).1
  have l2 := (Array.getElem?_eq_some_iff.1 hT.k2).1
  have hs7 := hb7.size
  have hs8 := hb8.size
  have m7 := h7.n
  have m7b := h7.lt
  have m8 := h8.n
  have hne := hT.ne
  have e1 : w8.heap[g1]? = some (.cells #[a0, a1, a2, a3, a4] 29 (0, 0)) := (hb8.block g1 (by omega)).trans ((hb7.block g1 l1).trans hT.k1)
  have e2 : w8.heap[g2]? = some (.cells #[a0, a1, a2, a3, a4] 29 (0, 0)) := (hb8.block g2 (by omega)).trans ((hb7.block g2 l2).trans hT.k2)
  have ot : ∀ k, k ≠ g1 → k ≠ g2 → ((w8.setCell ⟨g1, 2, none⟩ (.slice (some ⟨b7, 0, none⟩) xs.length cp7)).setCell ⟨g2, 2, none⟩ (.slice (some ⟨b8, 0, none⟩) xs.length cp8)).heap[k]? = w8.heap[k]? := fun k q1 q2 => (Below.heap_setCell _ ⟨g2, 2, none⟩ _ k q2).trans (Below.heap_setCell _ ⟨g1, 2, none⟩ _ k q1)
  have z : ((w8.setCell ⟨g1, 2, none⟩ (.slice (some ⟨b7, 0, none⟩) xs.length cp7)).setCell ⟨g2, 2, none⟩ (.slice (some ⟨b8, 0, none⟩) xs.length cp8)).heap.size = w8.heap.size := by simp [World.setCell]
  refine ⟨(sset_ne (heap_setCell_at e1) hne).trans rfl, (heap_setCell_at (sset_ne e2 (fun e => hne e.symm))).trans rfl, ⟨s7, h7.move (ot b7 (by omega) (by omega) |>.trans (hb8.block b7 m7b)) (by omega)⟩, ⟨s8, h8.move (ot b8 (by omega) (by omega)) (by omega)⟩, by omega, by omega, fun N q0 q1 q2 => ?_⟩
  have g0 := (below_next hb7 hb8).mono q0
  have g1_ := g0.grown (grownBy_setC w8 g1 2 (.slice (some ⟨b7, 0, none⟩) xs.length cp7)) (by omega) (fun q e => by cases e; exact q1)
  exact g1_.grown (grownBy_setC _ g2 2 (.slice (some ⟨b8, 0, none⟩) xs.length cp8)) (by have := g1_.size; omega) (fun q e => by cases e; exact q2)
structure Fx (n : Nat) (W : World) (g1 g2 bx cx bb cb : Nat) (f : Nat → Nat → Array Value) (ys zs : List Int) : Prop where
  k1 : W.heap[g1]? = some (.cells (f bx cx) 29 (0, 0))
  k2 : W.heap[g2]? = some (.cells (f bb cb) 29 (0, 0))
  rx : ∃ s, W.heap[bx]? = some (.cells s 3 (0, 0)) ∧ ∀ j, j < ys.length → s[j]? = some (.int .i64 (rd ys (j : Int)))
  rb : ∃ s, W.heap[bb]? = some (.cells s 3 (0, 0)) ∧ ∀ j, j < zs.length → s[j]? = some (.int .i64 (rd zs (j : Int)))
  ne : bx ≠ bb
  lo : (n ≤ g1 ∧ n ≤ g2) ∧ n ≤ bx ∧ n ≤ bb
  lx : ys.length ≤ cx ∧ ys.length ≤ 1000
  lb : zs.length ≤ cb ∧ zs.length ≤ 1000
theorem sty_ne {W : World} {b c : Nat} {s t : Array Value} {p q : TypeId} (h1 : W.heap[b]? = some (.cells s p (0, 0))) (h2 : W.heap[c]? = some (.cells t q (0, 0))) (h : p ≠ q) : b ≠ c := fun e => by
  subst e
  rw [h1] at h2
  injection h2 with h2
  injection h2 with _ h3
  exact h h3
section
variable {n : Nat} {W V : World} {g1 g2 bx cx bb cb : Nat} {f : Nat → Nat → Array Value} {ys zs : List Int}
theorem Four.fx {w w0 : World} {xs : List Int} (h : Four w W g1 g2 bx cx bb cb xs f) (h1 : n ≤ g1 ∧ n ≤ g2) (h2 : n ≤ w.heap.size) (hl : xs.length ≤ 1000) : Fx n W g1 g2 bx cx bb cb f xs xs := by
  obtain ⟨s, hs⟩ := h.rx
  obtain ⟨t, ht⟩ := h.rb
  exact ⟨h.k1, h.k2, ⟨s, hs.blk, hs.get⟩, ⟨t, ht.blk, ht.get⟩, h.ne, ⟨h1, by have := hs.n; omega, by have := ht.n; omega⟩, ⟨hs.cp, hl⟩, ⟨ht.cp, hl⟩⟩
theorem Fx.below (h : Fx n W g1 g2 bx cx bb cb f ys zs) (hb : Below W.heap.size W V) : Fx n V g1 g2 bx cx bb cb f ys zs := by
  have m : ∀ {k : Nat} {o : Obj}, W.heap[k]? = some o → V.heap[k]? = some o := fun {k o} q => (hb.block k (Array.getElem?_eq_some_iff.1 q).1).trans q
  obtain ⟨s, s1, s2⟩ := h.rx
  obtain ⟨t, t1, t2⟩ := h.rb
  exact ⟨m h.k1, m h.k2, ⟨s, m s1, s2⟩, ⟨t, m t1, t2⟩, h.ne, h.lo, h.lx, h.lb⟩
theorem set_get {xs : List Int} {s : Array Value} {k : Nat} (hk : k < xs.length) (v : Int) (h : ∀ j, j < xs.length → s[j]? = some (.int .i64 (rd xs (j : Int)))) : ∀ j, j < (xs.set k v).length → (s.setIfInBounds k (.int .i64 v))[j]? = some (.int .i64 (rd (xs.set k v) (j : Int))) := fun j hj => by
  rw [List.length_set] at hj
  rw [Array.getElem?_setIfInBounds, rd_set, Int.toNat_natCast]
  have hs := (Array.getElem?_eq_some_iff.1 (h k hk)).1
  by_cases e : k = j
  · rw [if_pos e, if_pos hs, if_pos ⟨e, hk⟩]
  · rw [if_neg e, if_neg (fun q => e q.1)]; exact h j hj
theorem Fx.setx (h : Fx n W g1 g2 bx cx bb cb f ys zs) {k : Nat} (hk : k < ys.length) (v : Int) : Fx n (W.setCell ⟨bx, k, none⟩ (.int .i64 v)) g1 g2 bx cx bb cb f (ys.set k v) zs := by
  obtain ⟨s, s1, s2⟩ := h.rx
  obtain ⟨t, t1, t2⟩ := h.rb
  exact ⟨sset_ne h.k1 (sty_ne h.k1 s1 (by decide)), sset_ne h.k2 (sty_ne h.k2 s1 (by decide)), ⟨_, heap_setCell_at s1, set_get hk v s2⟩, ⟨t, sset_ne t1 h.ne.symm, t2⟩, h.ne, h.lo, by rw [List.length_set]; exact h.lx, h.lb⟩
theorem Fx.setb (h : Fx n W g1 g2 bx cx bb cb f ys zs) {k : Nat} (hk : k < zs.length) (v : Int) : Fx n (W.setCell ⟨bb, k, none⟩ (.int .i64 v)) g1 g2 bx cx bb cb f ys (zs.set k v) := by
  obtain ⟨s, s1, s2⟩ := h.rx
  obtain ⟨t, t1, t2⟩ := h.rb
  exact ⟨sset_ne h.k1 (sty_ne h.k1 t1 (by decide)), sset_ne h.k2 (sty_ne h.k2 t1 (by decide)), ⟨s, sset_ne s1 h.ne, s2⟩, ⟨_, heap_setCell_at t1, set_get hk v t2⟩, h.ne, h.lo, h.lx, by rw [List.length_set]; exact h.lb⟩
theorem Fx.cellx (h : Fx n W g1 g2 bx cx bb cb f ys zs) {k : Nat} (hk : k < ys.length) : W.cell? ⟨bx, k, none⟩ = some (.int .i64 (rd ys (k : Int))) ∧ W.frozen? ⟨bx, k, none⟩ = false := by
  obtain ⟨s, s1, s2⟩ := h.rx
  exact ⟨(srow_cell s1).trans (s2 k hk), srow_frozen s1⟩
theorem Fx.cellb (h : Fx n W g1 g2 bx cx bb cb f ys zs) {k : Nat} (hk : k < zs.length) : W.cell? ⟨bb, k, none⟩ = some (.int .i64 (rd zs (k : Int))) ∧ W.frozen? ⟨bb, k, none⟩ = false := by
  obtain ⟨s, s1, s2⟩ := h.rb
  exact ⟨(srow_cell s1).trans (s2 k hk), srow_frozen s1⟩
theorem Fx.readx (h : Fx n W g1 g2 bx cx bb cb f ys zs) : Kd.C (Kd.int .i64) W (some ⟨bx, 0, none⟩) ys.length ys := by
  refine Kd.C_of_reads (d := (0 : Int)) (h1 := fun _ => rfl) ⟨rfl, by have := h.lx; omega, fun _ => ⟨_, rfl, fun j hj => ?_⟩⟩
  rw [add_plain, (h.cellx hj).1]
  rfl
theorem Fx.readb (h : Fx n W g1 g2 bx cx bb cb f ys zs) : Kd.C (Kd.int .i64) W (some ⟨bb, 0, none⟩) zs.length zs := by
  refine Kd.C_of_reads (d := (0 : Int)) (h1 := fun _ => rfl) ⟨rfl, by have := h.lb; omega, fun _ => ⟨_, rfl, fun j hj => ?_⟩⟩
  rw [add_plain, (h.cellb hj).1]
  rfl
end
theorem set_same (xs : List Int) (k : Nat) (hk : k < xs.length) : xs.set k (rd xs (k : Int)) = xs := by
  rw [rd_nat xs k hk]; exact List.set_getElem_self hk
def negs (xs : List Int) (i : Nat) : List Int := List.replicate i (-1) ++ xs.drop i
theorem negs_len (xs : List Int) {i : Nat} (h : i ≤ xs.length) : (negs xs i).length = xs.length := by
  unfold negs; simp; omega
theorem negs_set (xs : List Int) {i : Nat} (h : i < xs.length) : (negs xs i).set i (-1) = negs xs (i + 1) := by
  unfold negs
  rw [List.set_append, List.length_replicate, if_neg (by omega), Nat.sub_self, List.drop_eq_getElem_cons h, List.set_cons_zero, List.replicate_succ']
  simp
theorem negs_all (xs : List Int) : negs xs xs.length = List.replicate xs.length (-1) := by unfold negs; simp
theorem bel_setC {n : Nat} {W0 W : World} (h : Below n W0 W) (hn : n ≤ W.heap.size) (b i : Nat) (v : Value) (hb : n ≤ b) : Below n W0 (W.setCell ⟨b, i, none⟩ v) := h.grown (grownBy_setC W b i v) hn (fun q e => by cases e; exact hb)
theorem hea_rng {l : Lg} {h : Int} (hE : logE l = 0) (h0 : 0 ≤ h ∧ h ≤ 23) : heaE l h = 0 ∧ heaL l h = heardL l h := by
  have e : heaE l h = 0 := by
    unfold heaE
    rw [if_pos hE, if_pos]
    unfold hourB
    simp only [Bool.and_eq_true, decide_eq_true_eq]
    omega
  exact ⟨e, by unfold heaL; rw [if_pos e]⟩
theorem heard_call {l : Lg} {h : Int} (hE : logE l = 0) (h0 : 0 ≤ h ∧ h ≤ 23) (a : LV) (W : World) (hl : LogAt W a l) : Calls Tryz.prog 26 #[logV a l, .int .i64 h] W (LlsP (heardL l h) 0 W) := by
  have hq := heard26_at a l h W hl
  rw [(hea_rng hE h0).1, (hea_rng hE h0).2] at hq
  exact hq
theorem ear_fits {l : Lg} (k : Nat) (v : Int) (h : Fits l) : Fits (earlier l k v) := ⟨h.ls, by simpa [earlier] using h.sees, h.jn, h.rc, h.tx⟩
theorem bli_fits {l : Lg} (h : Fits l) : Fits (blindL l) := ⟨h.ls, by simpa [blindL] using h.sees, h.jn, h.rc, h.tx⟩
theorem ear_log {W : World} {A0 A2 A3 A4 : Option Addr} {c0 c2 c3 c4 : Nat} {l : Lg} {k : Nat} {v : Int} (hb : LogAt W ⟨A0, A2, A3, A4, c0, c2, c3, c4⟩ l) {b c : Nat} (hc : l.sees.length ≤ c) (hC : Kd.C (Kd.int .i64) W (some ⟨b, 0, none⟩) (earlier l k v).sees.length (earlier l k v).sees) (hf : Fits l) :
    Calls Tryz.prog 20 #[.agg #[.slice A0 l.ls.length c0, .int .i64 l.errs, .slice (some ⟨b, 0, none⟩) l.sees.length c, .slice A3 l.jn.length c3, .slice A4 l.rc.length c4]] W fun e w' => ∃ a', e = .returned (logV a' (earlier l k v)) ∧ LogAt w' a' (earlier l k v) ∧ Below W.heap.size W w' := by
  have e : (earlier l k v).sees.length = l.sees.length := by simp [earlier]
  have hq := log20_any ⟨A0, some ⟨b, 0, none⟩, A3, A4, c0, c, c3, c4⟩ (earlier l k v) W ⟨hb.h0, hC, hb.h3, hb.h4, hb.l0, by rw [e]; exact hc, hb.l3, hb.l4, hb.z0, hb.z4⟩ (ear_fits k v hf)
  have ea : logV ⟨A0, some ⟨b, 0, none⟩, A3, A4, c0, c, c3, c4⟩ (earlier l k v) = .agg #[.slice A0 l.ls.length c0, .int .i64 l.errs, .slice (some ⟨b, 0, none⟩) l.sees.length c, .slice A3 l.jn.length c3, .slice A4 l.rc.length c4] := by
    show Value.agg #[.slice A0 l.ls.length c0, .int .i64 l.errs, .slice (some ⟨b, 0, none⟩) (earlier l k v).sees.length c, .slice A3 l.jn.length c3, .slice A4 l.rc.length c4] = _
    rw [e]
  rw [ea] at hq
  exact hq
theorem bli_log {W : World} {A0 A2 A3 A4 : Option Addr} {c0 c2 c3 c4 : Nat} {l : Lg} (hb : LogAt W ⟨A0, A2, A3, A4, c0, c2, c3, c4⟩ l) {b c : Nat} (hc : l.sees.length ≤ c) (hC : Kd.C (Kd.int .i64) W (some ⟨b, 0, none⟩) (blindL l).sees.length (blindL l).sees) (hf : Fits l) :
    Calls Tryz.prog 20 #[.agg #[.slice A0 l.ls.length c0, .int .i64 l.errs, .slice (some ⟨b, 0, none⟩) l.sees.length c, .slice A3 l.jn.length c3, .slice A4 l.rc.length c4]] W fun e w' => ∃ a', e = .returned (logV a' (blindL l)) ∧ LogAt w' a' (blindL l) ∧ Below W.heap.size W w' := by
  have e : (blindL l).sees.length = l.sees.length := by simp [blindL]
  have hq := log20_any ⟨A0, some ⟨b, 0, none⟩, A3, A4, c0, c, c3, c4⟩ (blindL l) W ⟨hb.h0, hC, hb.h3, hb.h4, hb.l0, by rw [e]; exact hc, hb.l3, hb.l4, hb.z0, hb.z4⟩ (bli_fits hf)
  have ea : logV ⟨A0, some ⟨b, 0, none⟩, A3, A4, c0, c, c3, c4⟩ (blindL l) = .agg #[.slice A0 l.ls.length c0, .int .i64 l.errs, .slice (some ⟨b, 0, none⟩) l.sees.length c, .slice A3 l.jn.length c3, .slice A4 l.rc.length c4] := by
    show Value.agg #[.slice A0 l.ls.length c0, .int .i64 l.errs, .slice (some ⟨b, 0, none⟩) (blindL l).sees.length c, .slice A3 l.jn.length c3, .slice A4 l.rc.length c4] = _
    rw [e]
  rw [ea] at hq
  exact hq
theorem ins_all (A B : Option Addr) (c d : Nat) (xs ys : List (List Int)) (w : World) (hM : ∀ t, t ∈ xs → t.length ≤ 1000) (hi : insideB xs ys = true) (hx : Kd.C (Kd.slice 3 (Kd.int .i64)) w A xs.length xs) (hc : xs.length ≤ c) (hy : Kd.C (Kd.slice 3 (Kd.int .i64)) w B ys.length ys) (hd : ys.length ≤ d) :
    Calls Tryz.prog 40 #[.slice A xs.length c, .slice B ys.length d] w fun e w' => e = .returned (.bool true) ∧ Below w.heap.size w w' := by
  have hq := inside40_any A B c d xs ys 1000 w hM (by omega) hx hc hy hd
  rw [hi] at hq
  exact hq
set_option maxRecDepth 100000 in
set_option maxHeartbeats 16000000 in
theorem maskSees_any (a : LV) (l : Lg) (n1 n2 n3 n4 : Nat) (w : World) (hL : LogAt w a l) (h1 : n1 < 256) (h2 : n2 < 256) (h3 : n3 < 256) (h4 : n4 < 256) : Calls Tryz.prog 8 #[logV a l, .int .u8 n1, .int .u8 n2, .int .u8 n3, .int .u8 n4] w fun e w' => e = .returned (.bool true) ∧ Below w.heap.size w w' := by
  have hu := Tryz.underlying29
  have hu1 := Tryz.underlying25
  have hu3 := Tryz.underlying3
  have hu5 := Tryz.underlying5
  have hz : ∀ W, Below (w.heap.size + 1) (w.alloc (logD a l)) W → LogAt W a l := fun W h => hL.below (toW h)
  have HZ := Aside0.mk hz
  have HRD := Aside0.mk (fun W h => ready34_any a l W (hz W h))
  have HAW := Aside0.mk awake_any
  have HCE := Aside0.mk (logCells a l w)
  have HTW := Aside0.mk (fun W h => toW (a := a) (l := l) (w := w) (W := W) h)
  have BW := Aside0.mk (Below.refl (w.heap.size + 1) (w.alloc (logD a l)))
  have HN : Aside0 (w.heap.size + 1 ≤ (w.alloc (logD a l)).heap.size) := ⟨by simp⟩
  obtain ⟨A0, A2, A3, A4, c0, c2, c3, c4⟩ := a
  dsimp only [logV] at HRD HCE ⊢
  clear hz hL
  go_enter Tryz.func8, Tryz.ntmps8
  go_wp2_with (fail)
  refine (HRD.out _ BW.out).mono ?_
  rintro e w1_ ⟨b, rfl, hq, hb⟩
  have BW := Aside0.mk (step_b BW.out HN.out hb)
  obtain ⟨b0, b1, b2, b3, b4⟩ := HCE.out _ BW.out
  clear hb
  cases b with
  | false =>
    go_wp2_with (fail)
    refine (HAW.out _).mono ?_
    rintro e w2_ ⟨rfl, hb⟩
    have BW := Aside0.mk (step_b BW.out HN.out hb)
    clear b0 b1 b2 b3 b4
    obtain ⟨b0, b1, b2, b3, b4⟩ := HCE.out _ BW.out
    clear hb
    go_wp2
    go_ret
    exact ⟨rfl, HTW.out _ BW.out⟩
  | true =>
    have hE := (hq rfl).2
    have hf := (hq rfl).1.fits
    clear hq
    have HE := Aside0.mk hE
    clear hE
    have BV := BW
    go_upto_region 3 with (fail)
    go_cut [11, 12] (fun v11 v12 wc => ∃ g1 g2, v11 = .pointer (some ⟨g1, 0, none⟩) ∧ v12 = .pointer (some ⟨g2, 0, none⟩) ∧ Aside0 (Two w1_ wc g1 g2 #[.slice A0 l.ls.length c0, .int .i64 l.errs, .slice A2 l.sees.length c2, .slice A3 l.jn.length c3, .slice A4 l.rc.length c4]))
    case first =>
      have b0a := fun o => pw_cell_below ((Below.refl w1_.heap.size w1_).alloc (Nat.le_refl _) o) b0
      have b0b := fun o o2 => pw_cell_below (((Below.refl w1_.heap.size w1_).alloc (Nat.le_refl _) o).alloc (by simp) o2) b0
      have b1a := fun o => pw_cell_below ((Below.refl w1_.heap.size w1_).alloc (Nat.le_refl _) o) b1
      have b1b := fun o o2 => pw_cell_below (((Below.refl w1_.heap.size w1_).alloc (Nat.le_refl _) o).alloc (by simp) o2) b1
      have b2a := fun o => pw_cell_below ((Below.refl w1_.heap.size w1_).alloc (Nat.le_refl _) o) b2
      have b2b := fun o o2 => pw_cell_below (((Below.refl w1_.heap.size w1_).alloc (Nat.le_refl _) o).alloc (by simp) o2) b2
      have b3a := fun o => pw_cell_below ((Below.refl w1_.heap.size w1_).alloc (Nat.le_refl _) o) b3
      have b3b := fun o o2 => pw_cell_below (((Below.refl w1_.heap.size w1_).alloc (Nat.le_refl _) o).alloc (by simp) o2) b3
      have b4a := fun o => pw_cell_below ((Below.refl w1_.heap.size w1_).alloc (Nat.le_refl _) o) b4
      have b4b := fun o o2 => pw_cell_below (((Below.refl w1_.heap.size w1_).alloc (Nat.le_refl _) o).alloc (by simp) o2) b4
      go_region
      all_goals
        go_wp2_with (fail)
        go_meet
        case rel => first | exact ⟨_, _, rfl, rfl, ⟨two_a _ _⟩⟩ | exact ⟨_, _, rfl, rfl, ⟨two_b _ _⟩⟩
    case rest =>
      obtain ⟨g1, g2, rfl, rfl, HT⟩ := hcut
      have hb := HT.out.bel
      have BW := Aside0.mk (step_b BW.out HN.out hb)
      clear b0 b1 b2 b3 b4
      obtain ⟨b0, b1, b2, b3, b4⟩ := HCE.out _ BW.out
      clear hb
      have hsl : 0 < l.sees.length ∧ l.sees.length ≤ 4 := (sound_of HE.out).sees
      have HLS := Aside0.mk (fun W (hb : Below wc.heap.size wc W) => list_own A2 c2 l.sees W (HZ.out _ (step_b BW.out HN.out hb)).h2 (HZ.out _ BW.out).l2 hsl.1 (by omega))
      have HX : Aside0 (∀ W, Below wc.heap.size wc W → W.heap[w.heap.size]? = some (.cells #[.slice A0 l.ls.length c0, .int .i64 l.errs, .slice A2 l.sees.length c2, .slice A3 l.jn.length c3, .slice A4 l.rc.length c4] 29 (0, 0)) ∧ W.heap[g1]? = some (.cells #[.slice A0 l.ls.length c0, .int .i64 l.errs, .slice A2 l.sees.length c2, .slice A3 l.jn.length c3, .slice A4 l.rc.length c4] 29 (0, 0)) ∧ W.heap[g2]? = some (.cells #[.slice A0 l.ls.length c0, .int .i64 l.errs, .slice A2 l.sees.length c2, .slice A3 l.jn.length c3, .slice A4 l.rc.length c4] 29 (0, 0))) := ⟨fun W hb => ⟨((step_b BW.out HN.out hb).block w.heap.size (by omega)).trans (alloc_new _ _), (hb.block g1 (Array.getElem?_eq_some_iff.1 HT.out.k1).1).trans HT.out.k1, (hb.block g2 (Array.getElem?_eq_some_iff.1 HT.out.k2).1).trans HT.out.k2⟩⟩
      have hne := HT.out.ne
      have hne2 : g2 ≠ g1 := fun e => hne e.symm
      go_upto_region 4 with (fail)
      go_cut [] (fun wd => ∃ bx cx bb cb, Aside0 (Four wc wd g1 g2 bx cx bb cb l.sees (fun b c => #[.slice A0 l.ls.length c0, .int .i64 l.errs, .slice (some ⟨b, 0, none⟩) l.sees.length c, .slice A3 l.jn.length c3, .slice A4 l.rc.length c4])))
      case first =>
        obtain ⟨r0, r1, r2⟩ := HX.out _ (Below.refl _ _)
        have x0 := (srow_cell (i := 2) r0).trans (show _ = some (.slice A2 l.sees.length c2) from rfl)
        have x1 := (srow_cell (i := 2) r1).trans (show _ = some (.slice A2 l.sees.length c2) from rfl)
        have x2 := (srow_cell (i := 2) r2).trans (show _ = some (.slice A2 l.sees.length c2) from rfl)
        have z1 := srow_frozen (i := 2) r1
        have z2 := srow_frozen (i := 2) r2
        have y1 := fun v => (srow_cell (i := 2) (sset_ne (b := g2) (i := 2) (v := v) r1 hne)).trans (show _ = some (.slice A2 l.sees.length c2) from rfl)
        have y2 := fun v => (srow_cell (i := 2) (sset_ne (b := g1) (i := 2) (v := v) r2 hne2)).trans (show _ = some (.slice A2 l.sees.length c2) from rfl)
        have u1 := fun v => srow_frozen (i := 2) (sset_ne (b := g2) (i := 2) (v := v) r1 hne)
        have u2 := fun v => srow_frozen (i := 2) (sset_ne (b := g1) (i := 2) (v := v) r2 hne2)
        clear r0 r1 r2
        go_region_with (first
          | (go_at_call 39; (with_reducible refine Calls.mono (HLS.out _ (below_drew (Below.refl _ _))) ?_); rintro e w7 ⟨b7_, cp7, rfl, HI7, hb⟩; have HS7 := Aside0.mk hb; have HB7 := Aside0.mk (below_next (below_drew (Below.refl _ _)) hb); clear hb; obtain ⟨r0, r1, r2⟩ := HX.out _ HB7.out; have x0 := (srow_cell (i := 2) r0).trans (show _ = some (.slice A2 l.sees.length c2) from rfl); have x1 := (srow_cell (i := 2) r1).trans (show _ = some (.slice A2 l.sees.length c2) from rfl); have x2 := (srow_cell (i := 2) r2).trans (show _ = some (.slice A2 l.sees.length c2) from rfl); have z1 := srow_frozen (i := 2) r1; have z2 := srow_frozen (i := 2) r2; have y1 := fun v => (srow_cell (i := 2) (sset_ne (b := g2) (i := 2) (v := v) r1 hne)).trans (show _ = some (.slice A2 l.sees.length c2) from rfl); have y2 := fun v => (srow_cell (i := 2) (sset_ne (b := g1) (i := 2) (v := v) r2 hne2)).trans (show _ = some (.slice A2 l.sees.length c2) from rfl); have u1 := fun v => srow_frozen (i := 2) (sset_ne (b := g2) (i := 2) (v := v) r1 hne); have u2 := fun v => srow_frozen (i := 2) (sset_ne (b := g1) (i := 2) (v := v) r2 hne2); clear r0 r1 r2)
          | (go_at_call 39; (with_reducible refine Calls.mono (HLS.out _ HB7.out) ?_); rintro e w8 ⟨b8_, cp8, rfl, HI8, hb⟩; have HS8 := Aside0.mk hb; have HB8 := Aside0.mk (below_next HB7.out hb); clear hb; obtain ⟨r0, r1, r2⟩ := HX.out _ HB8.out; have x0 := (srow_cell (i := 2) r0).trans (show _ = some (.slice A2 l.sees.length c2) from rfl); have x1 := (srow_cell (i := 2) r1).trans (show _ = some (.slice A2 l.sees.length c2) from rfl); have x2 := (srow_cell (i := 2) r2).trans (show _ = some (.slice A2 l.sees.length c2) from rfl); have z1 := srow_frozen (i := 2) r1; have z2 := srow_frozen (i := 2) r2; have y1 := fun v => (srow_cell (i := 2) (sset_ne (b := g2) (i := 2) (v := v) r1 hne)).trans (show _ = some (.slice A2 l.sees.length c2) from rfl); have y2 := fun v => (srow_cell (i := 2) (sset_ne (b := g1) (i := 2) (v := v) r2 hne2)).trans (show _ = some (.slice A2 l.sees.length c2) from rfl); have u1 := fun v => srow_frozen (i := 2) (sset_ne (b := g2) (i := 2) (v := v) r1 hne); have u2 := fun v => srow_frozen (i := 2) (sset_ne (b := g1) (i := 2) (v := v) r2 hne2); clear r0 r1 r2))
        all_goals
          go_wp2_with (fail)
          go_meet
          case rel => exact ⟨b7_, cp7, b8_, cp8, ⟨four_of (w0 := wc.drew) HT.out rfl HI7.out HI8.out HB7.out HS8.out⟩⟩
      case rest =>
        obtain ⟨bx, cx, bb, cb, HF4⟩ := hcut
        clear HLS HX b0 b1 b2 b3 b4
        have hgg := HT.out.n1
        have hgg2 := HT.out.n2
        have hbs := BW.out.size
        have hsz := HN.out
        have BW : Aside0 (Below (w.heap.size + 1) (w.alloc (logD ⟨A0, A2, A3, A4, c0, c2, c3, c4⟩ l)) wc) := ⟨BW.out.trans (HF4.out.bel _ (by omega) (by have := BV.out.size; omega) (by have := BV.out.size; omega))⟩
        clear hgg hgg2 hbs hsz
        obtain ⟨b0, b1, b2, b3, b4⟩ := HCE.out _ BW.out
        have hgg := HT.out.n1
        have hgg2 := HT.out.n2
        have hbs := BV.out.size
        have hsz := HN.out
        have hw3 := HT.out.bel.size
        have HFX := Aside0.mk (HF4.out.fx (w0 := w) (n := w.heap.size + 1) ⟨by omega, by omega⟩ (by omega) (by omega))
        clear hgg hgg2 hbs hsz hw3 HF4 HT BV
        obtain ⟨k, hk, hkl⟩ : ∃ k : Nat, ((n1 : Int) % (l.sees.length : Int)) = (k : Int) ∧ k < l.sees.length := ⟨n1 % l.sees.length, by omega, Nat.mod_lt _ (by omega)⟩
        go_upto_region 6 with (fail)
        rw [hk]
        have HK := Aside0.mk hk
        clear hk
        have d0 := (srow_cell (i := 2) HFX.out.k1).trans (show _ = some (.slice (some ⟨bx, 0, none⟩) l.sees.length cx) from rfl)
        obtain ⟨d1, d2⟩ := HFX.out.cellx (k := k) (by simpa using hkl)
        have d3 := (congrArg (World.cell? wc) (add_plain bx k)).trans d1
        have d4 := (congrArg (World.frozen? wc) (add_plain bx k)).trans d2
        have hkz : (k : Int) < (l.sees.length : Int) := by omega
        have hkz0 : (0 : Int) ≤ (k : Int) := by omega
        obtain ⟨v, hv⟩ : ∃ v, v = rd l.sees (k : Int) := ⟨_, rfl⟩
        rw [← hv] at d1 d3
        have HV := Aside0.mk hv
        clear hv
        have hvv : v < 0 ∨ ¬ v < 0 := by omega
        go_upto_if 56 with (fail)
        go_cut [] (fun wd => Aside0 (Fx (w.heap.size + 1) wd g1 g2 bx cx bb cb (fun b c => #[.slice A0 l.ls.length c0, .int .i64 l.errs, .slice (some ⟨b, 0, none⟩) l.sees.length c, .slice A3 l.jn.length c3, .slice A4 l.rc.length c4]) (l.sees.set k (if v < 0 then (n2 : Int) % 24 else v)) (l.sees)) ∧ Aside0 (Below (w.heap.size + 1) (w.alloc (logD ⟨A0, A2, A3, A4, c0, c2, c3, c4⟩ l)) wd))
        case first =>
          have hsb := BW.out.size
          have hsn := HN.out
          rcases hvv with hv0 | hv0
          · have q1 := decide_eq_true hv0
            have q2 := eq_true hv0
            go_wp2_with (fail)
            go_meet
            case rel => exact ⟨⟨by rw [if_pos (by omega)]; exact HFX.out.setx hkl _⟩, ⟨bel_setC BW.out (by omega) _ _ _ HFX.out.lo.2.1⟩⟩
          · have q1 := decide_eq_false hv0
            have q2 := eq_false hv0
            go_wp2_with (fail)
            go_meet
            case rel => exact ⟨⟨by rw [if_neg (by omega), HV.out, set_same l.sees k hkl]; exact HFX.out⟩, BW⟩
        case rest =>
          obtain ⟨HFX, BW⟩ := hcut
          clear d0 d1 d2 d3 d4 b0 b1 b2 b3 b4
          generalize hu_ : (if v < 0 then (n2 : Int) % 24 else v) = u at *
          have HU := Aside0.mk hu_
          clear hu_ hvv
          have hur : -1 ≤ u ∧ u ≤ 23 := by
            have hrr := see_rng.1 ((sound_of HE.out).see _ (List.getElem_mem hkl))
            rw [← rd_nat l.sees k hkl, ← HV.out] at hrr
            rw [← HU.out]
            split <;> omega
          go_upto_region 8 with (fail)
          go_cut [] (fun wd => Aside0 (Fx (w.heap.size + 1) wd g1 g2 bx cx bb cb (fun b c => #[.slice A0 l.ls.length c0, .int .i64 l.errs, .slice (some ⟨b, 0, none⟩) l.sees.length c, .slice A3 l.jn.length c3, .slice A4 l.rc.length c4]) (l.sees.set k (max 0 (u - (n2 : Int) % 5))) (l.sees)) ∧ Aside0 (Below (w.heap.size + 1) (w.alloc (logD ⟨A0, A2, A3, A4, c0, c2, c3, c4⟩ l)) wd))
          case first =>
            have hsb := BW.out.size
            have hsn := HN.out
            have d0 := (srow_cell (i := 2) HFX.out.k1).trans (show _ = some (.slice (some ⟨bx, 0, none⟩) l.sees.length cx) from rfl)
            obtain ⟨d1, d2⟩ := HFX.out.cellx (k := k) (by simpa using hkl)
            rw [rd_set, Int.toNat_natCast, if_pos ⟨rfl, hkl⟩] at d1
            have d3 := (congrArg (World.cell? wc) (add_plain bx k)).trans d1
            have d4 := (congrArg (World.frozen? wc) (add_plain bx k)).trans d2
            have hw1 : IntKind.i64.wrap (u - (n2 : Int) % 5) = u - (n2 : Int) % 5 := IntWalk.i64_in _ (by omega)
            go_region
            all_goals
              go_wp2_with (fail)
              go_meet
              case rel => exact ⟨⟨by rw [← List.set_set (a := u)]; exact (HFX.out.setx (by simpa using hkl) _).below (below_drew (Below.refl _ _))⟩, ⟨below_drew (bel_setC BW.out (by omega) _ _ _ HFX.out.lo.2.1)⟩⟩
          case rest =>
            obtain ⟨HFX, BW⟩ := hcut
            clear hur
            obtain ⟨b0, b1, b2, b3, b4⟩ := HCE.out _ BW.out
            have hys : l.sees.set k (max 0 (u - (n2 : Int) % 5)) = (earlier l k (n2 : Int)).sees := by rw [← HU.out, HV.out]; rfl
            rw [hys] at HFX
            have HYL : Aside0 ((earlier l k (n2 : Int)).sees.length = l.sees.length) := ⟨by simp [earlier]⟩
            clear hys HU HV HK
            have hfl : negs l.sees 0 = l.sees := rfl
            have HFX0 := HFX
            clear hfl
            go_wp2
            clear b0 b1 b2 b3 b4
            go_loopg [14] l.sees.length (fun gg v14 wr => ∃ i : Nat, i ≤ l.sees.length ∧ l.sees.length - i ≤ gg ∧ v14 = .int .i64 i ∧ Aside0 (Fx (w.heap.size + 1) wr g1 g2 bx cx bb cb (fun b c => #[.slice A0 l.ls.length c0, .int .i64 l.errs, .slice (some ⟨b, 0, none⟩) l.sees.length c, .slice A3 l.jn.length c3, .slice A4 l.rc.length c4]) ((earlier l k (n2 : Int)).sees) (negs l.sees i)) ∧ Aside0 (Below (w.heap.size + 1) (w.alloc (logD ⟨A0, A2, A3, A4, c0, c2, c3, c4⟩ l)) wr))
            case atStart => exact ⟨0, by omega, by omega, by go_num, HFX, BW⟩
            case round =>
              clear BW HFX HFX0
              obtain ⟨i, hi, hg, rfl, HFX, BW⟩ := hrel
              have d5 := (srow_cell (i := 2) HFX.out.k2).trans (show _ = some (.slice (some ⟨bb, 0, none⟩) l.sees.length cb) from rfl)
              by_cases hlt : i < l.sees.length
              · have hltz : (i : Int) < (l.sees.length : Int) := by omega
                have hsb := BW.out.size
                have hsn := HN.out
                obtain ⟨d1, d2⟩ := HFX.out.cellb (k := i) (by rw [negs_len _ hi]; exact hlt)
                have d3 := (congrArg (World.cell? wr) (add_plain bb i)).trans d1
                have d4 := (congrArg (World.frozen? wr) (add_plain bb i)).trans d2
                generalize rd (negs l.sees i) (i : Int) = z at *
                go_wp2
                go_roundg (l.sees.length - (i + 1))
                case measure => omega
                case rel => exact ⟨i + 1, by omega, by omega, by go_num, ⟨by rw [← negs_set l.sees hlt]; exact HFX.out.setb (by rw [negs_len _ hi]; exact hlt) _⟩, ⟨bel_setC BW.out (by omega) _ _ _ HFX.out.lo.2.2⟩⟩
              · have hi2 : i = l.sees.length := by omega
                subst hi2
                have hltz : ¬ (l.sees.length : Int) < (l.sees.length : Int) := by omega
                have HFZ : Aside0 (Fx (w.heap.size + 1) wr g1 g2 bx cx bb cb (fun b c => #[.slice A0 l.ls.length c0, .int .i64 l.errs, .slice (some ⟨b, 0, none⟩) l.sees.length c, .slice A3 l.jn.length c3, .slice A4 l.rc.length c4]) ((earlier l k (n2 : Int)).sees) ((blindL l).sees)) := ⟨by have hq := HFX.out; rw [negs_all] at hq; exact hq⟩
                clear HFX
                obtain ⟨b0, b1, b2, b3, b4⟩ := HCE.out _ BW.out
                have hE := HE.out
                have hXE := earlier_ok hE hkl (by_ := (n2 : Int)) (by omega)
                have hBE := blind_ok hE
                have hle := earlier_le hE hkl (by_ := (n2 : Int)) (by omega)
                have hho : 0 ≤ (n3 : Int) % 24 ∧ (n3 : Int) % 24 ≤ 23 := by omega
                have hhc : 0 ≤ min 23 ((n3 : Int) % 24 + (n4 : Int) % 6) ∧ min 23 ((n3 : Int) % 24 + (n4 : Int) % 6) ≤ 23 := by omega
                have HLL := Aside0.mk (fun W (hb : Below wr.heap.size wr W) => log20_any ⟨A0, A2, A3, A4, c0, c2, c3, c4⟩ l W (HZ.out _ (step_b BW.out HN.out hb)) hf)
                have HLX := Aside0.mk (fun W (hb : Below wr.heap.size wr W) => ear_log (k := k) (v := (n2 : Int)) (HZ.out _ (step_b BW.out HN.out hb)) (by have := HFZ.out.lx; rw [HYL.out] at this; exact this.1) (HFZ.out.below hb).readx hf)
                have HLB := Aside0.mk (fun W (hb : Below wr.heap.size wr W) => bli_log (HZ.out _ (step_b BW.out HN.out hb)) (by have := HFZ.out.lb; simpa [blindL] using this.1) (HFZ.out.below hb).readb hf)
                have HC1 := Aside0.mk (fun W (hb : Below wr.heap.size wr W) => (HFZ.out.below hb).k1)
                have HC2 := Aside0.mk (fun W (hb : Below wr.heap.size wr W) => (HFZ.out.below hb).k2)
                have HHA := Aside0.mk (fun a W h => heard_call (l := l) hE hho a W h)
                have HHB := Aside0.mk (fun a W h => heard_call (l := earlier l k (n2 : Int)) hXE hho a W h)
                have HHC := Aside0.mk (fun a W h => heard_call (l := l) hE hhc a W h)
                have HHD := Aside0.mk (fun a W h => heard_call (l := blindL l) (h := 23) hBE (by omega) a W h)
                have HVA := Aside0.mk (fun a W h => leave32_at a l W h)
                have HVB := Aside0.mk (fun a W h => leave32_at a (earlier l k (n2 : Int)) W h)
                rw [show leaveE l = 0 from hE] at HVA
                rw [show leaveE (earlier l k (n2 : Int)) = 0 from hXE] at HVB
                rw [blind_hears hE] at HHD
                have HMB := Aside0.mk (fun (r : Nat) (hr : r < l.rc.length) a W h => masked27_at a (blindL l) (r : Int) W h)
                have HME := Aside0.mk (fun (r : Nat) (hr : r < l.rc.length) => blind_msk hE hr)
                have hlen := leave_log_le hle hE hXE
                have HI1 := Aside0.mk (hears_le hle ((n3 : Int) % 24))
                have HI2 := Aside0.mk (hears_later (l := l) (show (n3 : Int) % 24 ≤ min 23 ((n3 : Int) % 24 + (n4 : Int) % 6) by omega))
                have HM1 := Aside0.mk (fun t (ht : t ∈ heardL l ((n3 : Int) % 24)) => pf_len (pf_of l _ t ht) hf)
                clear hE hXE hBE hle hho hhc
                generalize heardL l ((n3 : Int) % 24) = XA at *
                generalize heardL (earlier l k (n2 : Int)) ((n3 : Int) % 24) = XB at *
                generalize heardL l (min 23 ((n3 : Int) % 24 + (n4 : Int) % 6)) = XC at *
                generalize leaveL l = OA at *
                generalize leaveL (earlier l k (n2 : Int)) = OB at *
                generalize earlier l k (n2 : Int) = X at *
                have hlz : ¬ (OA.length : Int) < (OB.length : Int) := by omega
                have hlz2 : decide ((OB.length : Int) > (OA.length : Int)) = false := decide_eq_false (by omega)
                have hlz3 : ¬ ((OB.length : Int) > (OA.length : Int)) := by omega
                have hw4 : IntKind.i64.wrap ((n3 : Int) % 24 + (n4 : Int) % 6) = (n3 : Int) % 24 + (n4 : Int) % 6 := IntWalk.i64_in _ (by omega)
                have BL := Aside0.mk (Below.refl wr.heap.size wr)
                clear hlen
                go_wp2_with (fail)
                refine (HLL.out _ BL.out).mono ?_
                rintro e w2_ ⟨a1, rfl, hl, hb⟩
                have HL1 := Aside0.mk hl
                clear hl
                have BW := Aside0.mk (step_b BW.out HN.out hb)
                have BL := Aside0.mk (below_next BL.out hb)
                clear b0 b1 b2 b3 b4
                obtain ⟨b0, b1, b2, b3, b4⟩ := HCE.out _ BW.out
                clear hb
                go_wp2_with (fail)
                refine (HHA.out a1 _ HL1.out).mono ?_
                rintro e w3_ ⟨XA0, XA0_, rfl, hlc, hC, hb⟩
                have HLCXA := Aside0.mk hlc
                have HCXA := Aside0.mk hC
                clear hlc hC HL1
                have BW := Aside0.mk (step_b BW.out HN.out hb)
                have BL := Aside0.mk (below_next BL.out hb)
                clear b0 b1 b2 b3 b4
                obtain ⟨b0, b1, b2, b3, b4⟩ := HCE.out _ BW.out
                clear hb
                have hrow := HC1.out _ BL.out
                have e0 := (srow_cell (i := 0) hrow).trans (show _ = some (.slice A0 l.ls.length c0) from rfl)
                have e1 := (srow_cell (i := 1) hrow).trans (show _ = some (.int .i64 l.errs) from rfl)
                have e2 := (srow_cell (i := 2) hrow).trans (show _ = some (.slice (some ⟨bx, 0, none⟩) l.sees.length cx) from rfl)
                have e3 := (srow_cell (i := 3) hrow).trans (show _ = some (.slice A3 l.jn.length c3) from rfl)
                have e4 := (srow_cell (i := 4) hrow).trans (show _ = some (.slice A4 l.rc.length c4) from rfl)
                clear hrow
                go_wp2_with (fail)
                refine (HLX.out _ BL.out).mono ?_
                rintro e w4_ ⟨a2, rfl, hl, hb⟩
                have HL2 := Aside0.mk hl
                clear hl e0 e1 e2 e3 e4
                have BW := Aside0.mk (step_b BW.out HN.out hb)
                have BL := Aside0.mk (below_next BL.out hb)
                have HCXA := Aside0.mk (Kd.C_below HCXA.out hb)
                clear b0 b1 b2 b3 b4
                obtain ⟨b0, b1, b2, b3, b4⟩ := HCE.out _ BW.out
                clear hb
                go_wp2_with (fail)
                refine (HHB.out a2 _ HL2.out).mono ?_
                rintro e w5_ ⟨XB0, XB0_, rfl, hlc, hC, hb⟩
                have HLCXB := Aside0.mk hlc
                have HCXB := Aside0.mk hC
                clear hlc hC HL2
                have BW := Aside0.mk (step_b BW.out HN.out hb)
                have BL := Aside0.mk (below_next BL.out hb)
                have HCXA := Aside0.mk (Kd.C_below HCXA.out hb)
                clear b0 b1 b2 b3 b4
                obtain ⟨b0, b1, b2, b3, b4⟩ := HCE.out _ BW.out
                clear hb
                go_wp2_with (fail)
                refine (HLL.out _ BL.out).mono ?_
                rintro e w6_ ⟨a3, rfl, hl, hb⟩
                have HL3 := Aside0.mk hl
                clear hl
                have BW := Aside0.mk (step_b BW.out HN.out hb)
                have BL := Aside0.mk (below_next BL.out hb)
                have HCXA := Aside0.mk (Kd.C_below HCXA.out hb)
                have HCXB := Aside0.mk (Kd.C_below HCXB.out hb)
                clear b0 b1 b2 b3 b4
                obtain ⟨b0, b1, b2, b3, b4⟩ := HCE.out _ BW.out
                clear hb
                go_wp2_with (fail)
                refine (HHC.out a3 _ HL3.out).mono ?_
                rintro e w7_ ⟨XC0, XC0_, rfl, hlc, hC, hb⟩
                have HLCXC := Aside0.mk hlc
                have HCXC := Aside0.mk hC
                clear hlc hC HL3
                have BW := Aside0.mk (step_b BW.out HN.out hb)
                have BL := Aside0.mk (below_next BL.out hb)
                have HCXA := Aside0.mk (Kd.C_below HCXA.out hb)
                have HCXB := Aside0.mk (Kd.C_below HCXB.out hb)
                clear b0 b1 b2 b3 b4
                obtain ⟨b0, b1, b2, b3, b4⟩ := HCE.out _ BW.out
                clear hb
                go_wp2_with (fail)
                refine (HLL.out _ BL.out).mono ?_
                rintro e w8_ ⟨a4, rfl, hl, hb⟩
                have HL4 := Aside0.mk hl
                clear hl
                have BW := Aside0.mk (step_b BW.out HN.out hb)
                have BL := Aside0.mk (below_next BL.out hb)
                have HCXA := Aside0.mk (Kd.C_below HCXA.out hb)
                have HCXB := Aside0.mk (Kd.C_below HCXB.out hb)
                have HCXC := Aside0.mk (Kd.C_below HCXC.out hb)
                clear b0 b1 b2 b3 b4
                obtain ⟨b0, b1, b2, b3, b4⟩ := HCE.out _ BW.out
                clear hb
                go_wp2_with (fail)
                refine (HVA.out a4 _ HL4.out).mono ?_
                rintro e w9_ ⟨OA0, OA0_, rfl, hlc, hC, hb⟩
                clear hlc hC HL4
                have BW := Aside0.mk (step_b BW.out HN.out hb)
                have BL := Aside0.mk (below_next BL.out hb)
                have HCXA := Aside0.mk (Kd.C_below HCXA.out hb)
                have HCXB := Aside0.mk (Kd.C_below HCXB.out hb)
                have HCXC := Aside0.mk (Kd.C_below HCXC.out hb)
                clear b0 b1 b2 b3 b4
                obtain ⟨b0, b1, b2, b3, b4⟩ := HCE.out _ BW.out
                clear hb
                have hrow := HC1.out _ BL.out
                have e0 := (srow_cell (i := 0) hrow).trans (show _ = some (.slice A0 l.ls.length c0) from rfl)
                have e1 := (srow_cell (i := 1) hrow).trans (show _ = some (.int .i64 l.errs) from rfl)
                have e2 := (srow_cell (i := 2) hrow).trans (show _ = some (.slice (some ⟨bx, 0, none⟩) l.sees.length cx) from rfl)
                have e3 := (srow_cell (i := 3) hrow).trans (show _ = some (.slice A3 l.jn.length c3) from rfl)
                have e4 := (srow_cell (i := 4) hrow).trans (show _ = some (.slice A4 l.rc.length c4) from rfl)
                clear hrow
                go_wp2_with (fail)
                refine (HLX.out _ BL.out).mono ?_
                rintro e w10_ ⟨a5, rfl, hl, hb⟩
                have HL5 := Aside0.mk hl
                clear hl e0 e1 e2 e3 e4
                have BW := Aside0.mk (step_b BW.out HN.out hb)
                have BL := Aside0.mk (below_next BL.out hb)
                have HCXA := Aside0.mk (Kd.C_below HCXA.out hb)
                have HCXB := Aside0.mk (Kd.C_below HCXB.out hb)
                have HCXC := Aside0.mk (Kd.C_below HCXC.out hb)
                clear b0 b1 b2 b3 b4
                obtain ⟨b0, b1, b2, b3, b4⟩ := HCE.out _ BW.out
                clear hb
                go_wp2_with (fail)
                refine (HVB.out a5 _ HL5.out).mono ?_
                rintro e w11_ ⟨OB0, OB0_, rfl, hlc, hC, hb⟩
                clear hlc hC HL5
                have BW := Aside0.mk (step_b BW.out HN.out hb)
                have BL := Aside0.mk (below_next BL.out hb)
                have HCXA := Aside0.mk (Kd.C_below HCXA.out hb)
                have HCXB := Aside0.mk (Kd.C_below HCXB.out hb)
                have HCXC := Aside0.mk (Kd.C_below HCXC.out hb)
                clear b0 b1 b2 b3 b4
                obtain ⟨b0, b1, b2, b3, b4⟩ := HCE.out _ BW.out
                clear hb
                go_wp2_with (fail)
                refine (ins_all XA0 XB0 XA0_ XB0_ XA XB _ HM1.out HI1.out HCXA.out HLCXA.out HCXB.out HLCXB.out).mono ?_
                rintro e w12_ ⟨rfl, hb⟩
                have BW := Aside0.mk (step_b BW.out HN.out hb)
                have BL := Aside0.mk (below_next BL.out hb)
                have HCXA := Aside0.mk (Kd.C_below HCXA.out hb)
                have HCXB := Aside0.mk (Kd.C_below HCXB.out hb)
                have HCXC := Aside0.mk (Kd.C_below HCXC.out hb)
                clear b0 b1 b2 b3 b4
                obtain ⟨b0, b1, b2, b3, b4⟩ := HCE.out _ BW.out
                clear hb
                go_wp2_with (fail)
                refine (ins_all XA0 XC0 XA0_ XC0_ XA XC _ HM1.out HI2.out HCXA.out HLCXA.out HCXC.out HLCXC.out).mono ?_
                rintro e w13_ ⟨rfl, hb⟩
                have BW := Aside0.mk (step_b BW.out HN.out hb)
                have BL := Aside0.mk (below_next BL.out hb)
                have HCXA := Aside0.mk (Kd.C_below HCXA.out hb)
                have HCXB := Aside0.mk (Kd.C_below HCXB.out hb)
                have HCXC := Aside0.mk (Kd.C_below HCXC.out hb)
                clear b0 b1 b2 b3 b4
                obtain ⟨b0, b1, b2, b3, b4⟩ := HCE.out _ BW.out
                clear hb
                clear HCXA HCXB HCXC
                have hrow := HC2.out _ BL.out
                have e0 := (srow_cell (i := 0) hrow).trans (show _ = some (.slice A0 l.ls.length c0) from rfl)
                have e1 := (srow_cell (i := 1) hrow).trans (show _ = some (.int .i64 l.errs) from rfl)
                have e2 := (srow_cell (i := 2) hrow).trans (show _ = some (.slice (some ⟨bb, 0, none⟩) l.sees.length cb) from rfl)
                have e3 := (srow_cell (i := 3) hrow).trans (show _ = some (.slice A3 l.jn.length c3) from rfl)
                have e4 := (srow_cell (i := 4) hrow).trans (show _ = some (.slice A4 l.rc.length c4) from rfl)
                clear hrow
                go_wp2_with (fail)
                refine (HLB.out _ BL.out).mono ?_
                rintro e w14_ ⟨a6, rfl, hl, hb⟩
                have HL6 := Aside0.mk hl
                clear hl e0 e1 e2 e3 e4
                have BW := Aside0.mk (step_b BW.out HN.out hb)
                have BL := Aside0.mk (below_next BL.out hb)
                clear b0 b1 b2 b3 b4
                obtain ⟨b0, b1, b2, b3, b4⟩ := HCE.out _ BW.out
                clear hb
                go_wp2_with (fail)
                refine (HHD.out a6 _ HL6.out).mono ?_
                rintro e w15_ ⟨XD0, XD0_, rfl, hlc, hC, hb⟩
                clear hlc hC HL6
                have BW := Aside0.mk (step_b BW.out HN.out hb)
                have BL := Aside0.mk (below_next BL.out hb)
                clear b0 b1 b2 b3 b4
                obtain ⟨b0, b1, b2, b3, b4⟩ := HCE.out _ BW.out
                clear hb
                go_wp2
                clear b0 b1 b2 b3 b4
                have BLW := BL
                go_loopg [28] l.rc.length (fun gg v28 wt => ∃ r : Nat, r ≤ l.rc.length ∧ l.rc.length - r ≤ gg ∧ v28 = .int .i64 r ∧ Aside0 (Below wr.heap.size wr wt) ∧ Aside0 (Below (w.heap.size + 1) (w.alloc (logD ⟨A0, A2, A3, A4, c0, c2, c3, c4⟩ l)) wt))
                case atStart => exact ⟨0, by omega, by omega, by go_num, BL, BW⟩
                case round =>
                  have BWR := BW
                  clear BW BL BLW
                  obtain ⟨r, hr, hg2, rfl, BL, BW⟩ := hrel
                  obtain ⟨b0, b1, b2, b3, b4⟩ := HCE.out _ BW.out
                  by_cases hlr : r < l.rc.length
                  · have hlrz : (r : Int) < (l.rc.length : Int) := by omega
                    have h6 : l.rc.length ≤ 6 := (sound_of HE.out).rlen
                    have HMC := Aside0.mk (HMB.out r hlr)
                    have hme := HME.out r hlr
                    rw [hme] at HMC
                    clear hme
                    have hrow := HC2.out _ BL.out
                    have e0 := (srow_cell (i := 0) hrow).trans (show _ = some (.slice A0 l.ls.length c0) from rfl)
                    have e1 := (srow_cell (i := 1) hrow).trans (show _ = some (.int .i64 l.errs) from rfl)
                    have e2 := (srow_cell (i := 2) hrow).trans (show _ = some (.slice (some ⟨bb, 0, none⟩) l.sees.length cb) from rfl)
                    have e3 := (srow_cell (i := 3) hrow).trans (show _ = some (.slice A3 l.jn.length c3) from rfl)
                    have e4 := (srow_cell (i := 4) hrow).trans (show _ = some (.slice A4 l.rc.length c4) from rfl)
                    clear hrow
                    go_wp2_with (fail)
                    refine (HLB.out _ BL.out).mono ?_
                    rintro e w16_ ⟨a7, rfl, hl, hb⟩
                    have HL7 := Aside0.mk hl
                    clear hl e0 e1 e2 e3 e4
                    have BW := Aside0.mk (step_b BW.out HN.out hb)
                    have BL := Aside0.mk (below_next BL.out hb)
                    clear b0 b1 b2 b3 b4
                    obtain ⟨b0, b1, b2, b3, b4⟩ := HCE.out _ BW.out
                    clear hb
                    go_wp2_with (fail)
                    refine (HMC.out a7 _ HL7.out).mono ?_
                    rintro e w17_ ⟨Z0, z0, rfl, hlc, hC, hb⟩
                    clear hlc hC HL7
                    have BW := Aside0.mk (step_b BW.out HN.out hb)
                    have BL := Aside0.mk (below_next BL.out hb)
                    clear b0 b1 b2 b3 b4
                    obtain ⟨b0, b1, b2, b3, b4⟩ := HCE.out _ BW.out
                    clear hb
                    go_wp2
                    go_roundg (l.rc.length - (r + 1))
                    case measure => omega
                    case rel => exact ⟨r + 1, by omega, by omega, by go_num, BL, BW⟩
                  · have hr2 : r = l.rc.length := by omega
                    subst hr2
                    have hlrz : ¬ (l.rc.length : Int) < (l.rc.length : Int) := by omega
                    go_wp2_with (fail)
                    refine (HAW.out _).mono ?_
                    rintro e w18_ ⟨rfl, hb⟩
                    have BW := Aside0.mk (step_b BW.out HN.out hb)
                    have BL := Aside0.mk (below_next BL.out hb)
                    clear b0 b1 b2 b3 b4
                    obtain ⟨b0, b1, b2, b3, b4⟩ := HCE.out _ BW.out
                    clear hb
                    go_wp2
                    go_ret
                    exact ⟨rfl, HTW.out _ BW.out⟩
end Go.Proofs.YthgfhgjlilmieaaGreat.G
